/- The parts of the proof that this law needs, in the order of their texts: the logic of walks, the plain laws, the walks. -/
import Derived.Test.YtdncjmehhahidaaGreatDoorQE05
namespace Go.Proofs.YtdncjmehhahidaaGreatDoor
set_option maxHeartbeats 400000
open Go.RowKit (Below)
set_option linter.unusedVariables false
set_option linter.unusedSimpArgs false
set_option linter.unusedSectionVars false
section flats
variable {X:Pt}{k:List Item}{E:Env}{ds:List Deferred}{H H' : List Seg}{ops:Array Oper}{os:List Oper}
theorem AtL.eqH (h:H=H') (hk:AtL X ops os k E ds H'):AtL X ops os k E ds H:=by subst h; exact hk
end flats
theorem Does.pick {X:Pt}{E:Env}{H H' : List Seg}{op:Op}{R:Value→List Seg→Prop}(is:List Nat) (m:Nat) (hok:pickOk is m=true) (hH:pickSegs H is m=H') (h:Does X E H' op R):Does X E H op R:=by
 intro dst ty pos after g ops i is' k ds a w ho hw ha S
 exact h dst ty pos after g ops i is' k ds a w ho hw ha (hH ▸ S.pick is m hok)
section views
variable {α:Type}{T:Ty α}{w0:World}{base:Nat}{H H' : List Seg}{A:Option Addr}{C:Nat}{l:List α}{e:TypeId}{s:Seg}
theorem Rd.pick (is:List Nat) (m:Nat) (hok:pickOk is m=true) (hH:pickSegs H is m=H') (h:Rd T w0 base H' A C l):Rd T w0 base H A C l :=
 ⟨h.le,h.cap,h.nil,fun hl => let ⟨b,off,hA,hc⟩:=h.cells hl; ⟨b,off,hA,fun w S => hc w (hH ▸ S.pick is m hok)⟩⟩
end views
theorem Does.quiet {X:Pt}{E:Env}{H H' : List Seg}{op:Op}{v:Value}(is:List Nat) (m:Nat) (hok:pickOk is m=true) (hH:pickSegs H is m=H') (is2:List Nat) (hok2:pickOk is2 m=true) (hH2:pickSegs H' is2 m=H) (h:Does X E H' op (Is v H')):Does X E H op (Is v H):=by
 intro dst ty pos after g ops i is' k ds a w ho hw ha S
 obtain ⟨v',H1,w',⟨h1,h2⟩,S',hs⟩:=h dst ty pos after g ops i is' k ds a w ho hw ha (hH ▸ S.pick is m hok)
 subst h2
 exact ⟨v',H,w',⟨h1,rfl⟩,hH2 ▸ S'.pick is2 m hok2,hs⟩
def Sl.v {α:Type}{T:Ty α}{e:TypeId}(y:Sl T e):Vs α:=⟨y.A,y.C,y.l⟩
section bundles
variable {α:Type}{T:Ty α}{w0:World}{base:Nat}{H:List Seg}{e:TypeId}
theorem Sl.rd (y:Sl T e) {i:Nat}(hi:H[i]? = some y.s):Rd T w0 base H y.A y.C y.l:=y.own.rd hi
end bundles
theorem zbj {α:Type}{l:List α}{i:Nat}{d:α}(h:i < l.length):l.getD i d ∈ l:=by
 have:l.getD i d=l[i]:=by simp [List.getD,h]
 rw [this]; exact List.getElem_mem h
section windows
variable {α:Type}{T:Ty α}{e:TypeId}{A:Option Addr}{C:Nat}{l:List α}{s:Seg}
theorem Own.grow (h:Own T e A C l s) {j:Nat}(hj:l.length≤j) (hm:j≤C):∃ r',r'.length=j - l.length∧Own T e (if C=0 then A else A.map (·.add (0 * T.sz))) C (l++r') s:=by
 obtain ⟨r,rfl,hR⟩:=h
 have h1:=hR.cut (i:=0) (j:=j) (m:=l.length + r.length) (Nat.zero_le _) hm (Nat.le_refl _)
 have e1:subl (l++r) 0 j=l++r.take (j - l.length):=by
  rw [zdG,List.take_append,List.take_of_length_le hj]
 refine ⟨r.take (j - l.length),by simp; omega,subl (l++r) j (l.length + r.length),?_,?_⟩
 ·rw [zaA (by simp)]; simp; omega
 ·rw [← e1]; exact h1
end windows
section loops
variable {X:Pt}{k:List Item}{E:Env}{ds:List Deferred}{H:List Seg}
theorem At.loop7 {b:Code}{α β γ δ ε ζ η:Type}(Ei:α→β→γ→δ→ε→ζ→η→Env) (Hi:α→β→γ→δ→ε→ζ→η→List Seg) (I:α→β→γ→δ→ε→ζ→η→Prop) (μ:α→β→γ→δ→ε→ζ→η→Nat) (x:α) (y:β) (z:γ) (u:δ) (v:ε) (p:ζ) (q:η) (h0:I x y z u v p q) (hE:Sub (Ei x y z u v p q) E) (hH:Hi x y z u v p q=H)
  (h:∀ x y z u v p q,I x y z u v p q→(∀ x' y' z' u' v' p' q',I x' y' z' u' v' p' q'→μ x' y' z' u' v' p' q' < μ x y z u v p q→∀ E',Sub (Ei x' y' z' u' v' p' q') E'→At X (.inLoop b::k) E' ds (Hi x' y' z' u' v' p' q'))→At X (.code b::.inLoop b::k) (Ei x y z u v p q) ds (Hi x y z u v p q)):At X (.code (.loop b)::k) E ds H :=
 At.loop (ι:=α×β×γ×δ×ε×ζ×η) (fun t => Ei t.1 t.2.1 t.2.2.1 t.2.2.2.1 t.2.2.2.2.1 t.2.2.2.2.2.1 t.2.2.2.2.2.2) (fun t => Hi t.1 t.2.1 t.2.2.1 t.2.2.2.1 t.2.2.2.2.1 t.2.2.2.2.2.1 t.2.2.2.2.2.2) (fun t => I t.1 t.2.1 t.2.2.1 t.2.2.2.1 t.2.2.2.2.1 t.2.2.2.2.2.1 t.2.2.2.2.2.2) (fun t => μ t.1 t.2.1 t.2.2.1 t.2.2.2.1 t.2.2.2.2.1 t.2.2.2.2.2.1 t.2.2.2.2.2.2) (x,y,z,u,v,p,q) h0 hE hH
  fun t ht ih => h _ _ _ _ _ _ _ ht fun x' y' z' u' v' p' q' hi hm => ih (x',y',z',u',v',p',q') hi hm
end loops
def tyRec:Ty (List UInt8×Int×Int×Int×List UInt8):={ val:=fun x => .agg #[str x.1,int x.2.1,int x.2.2.1,int x.2.2.2.1,str x.2.2.2.2],sz:=5,ok:=fun _ => rfl,plain:=fun x c hc => by simp [int,str,Value.cells] at hc; rcases hc with rfl | rfl | rfl | rfl | rfl <;> rfl }
def tyQn:Ty (List UInt8×Int×Int):={ val:=fun x => .agg #[str x.1,int x.2.1,int x.2.2],sz:=3,ok:=fun _ => rfl,plain:=fun x c hc => by simp [int,str,Value.cells] at hc; rcases hc with rfl | rfl | rfl <;> rfl }
section
variable {X:Pt}{k:List Item}{E:Env}{ds:List Deferred}{H:List Seg}{ops:Array Oper}{os:List Oper}
  {d:Nat}{ty:TypeId}{pos:String}{after:Array Edge}{g:Option (Nat×Bool)}{α:Type}{T:Ty α}
theorem Do.indexArr {t e n sz:Nat}{x ix:Operand}{a:Addr}{kk:IntKind}{i:Int}(j:Nat) (hu:X.P.underlying t=some (.array n e)) (hs:sizeN X.P e sz=true) (hx:ev E x=some (.pointer (some a))) (hi:ev E ix=some (.int kk i)) (hij:i=(j:Int)) (hj:j < n) :
  Does X E H (.indexAddr t x ix) (Is (.pointer (some (eaddr (some a) (j * sz)))) H) :=
 Does.pureOp rfl (fun dst ty pos after g ρ w hρ => by
  subst hij
  simp [execOp,hρ _ _ hx,hρ _ _ hi,Instr.indexAt,Instr.sureAddr,asIntOf,run_underlying hu,hj,zbx hs,eaddr])
theorem AtL.indexArr {t e n sz:Nat}{x ix:Operand}{a:Addr}{kk:IntKind}{i:Int}(j:Nat) (hu:X.P.underlying t=some (.array n e)) (hs:sizeN X.P e sz=true) (hg:Wd X ops E g) (hd:Nat.blt d X.n=true) (hx:ev E x=some (.pointer (some a))) (hi:ev E ix=some (.int kk i))
  (hij:i=(j:Int)) (hj:j < n) (hk:AtL X ops os k ((d,.pointer (some (eaddr (some a) (j * sz))))::E) ds H) :
  AtL X ops (⟨some d,.indexAddr t x ix,ty,pos,after,g⟩::os) k E ds H :=
 AtL.ofIs (Do.indexArr j hu hs hx hi hij hj) hg hd hk
theorem AtL.indexArrB {t e n sz b o r:Nat}{x ix:Operand}{kk:IntKind}{i:Int}(j:Nat) (hu:X.P.underlying t=some (.array n e)) (hs:sizeN X.P e sz=true) (hg:Wd X ops E g) (hd:Nat.blt d X.n=true) (hx:ev E x=some (.pointer (some ⟨b,o,none⟩))) (hi:ev E ix=some (.int kk i))
  (hij:i=(j:Int)) (hj:Nat.blt j n=true) (hr:o + j * sz=r) (hk:AtL X ops os k ((d,.pointer (some ⟨b,r,none⟩))::E) ds H) :
  AtL X ops (⟨some d,.indexAddr t x ix,ty,pos,after,g⟩::os) k E ds H:=by
 subst hr
 refine AtL.indexArr j hu hs hg hd hx hi hij (zbS hj) ?_
 simpa [eaddr,zai] using hk
end
set_option maxRecDepth 100000
theorem zab:flatB Tryz.prog 3=true:=by kernel_rfl
theorem zan:sizeN Tryz.prog 3 1=true:=by kernel_rfl
theorem zdZ:zeroV Tryz.prog 3=some (.int .i64 0):=by kernel_rfl
theorem tf_flat4:flatB Tryz.prog 4=true:=by kernel_rfl
theorem zbV:flatB Tryz.prog 5=true:=by kernel_rfl
theorem zaR:sizeN Tryz.prog 5 1=true:=by kernel_rfl
theorem zaQ:zeroV Tryz.prog 5=some (.int .u8 0):=by kernel_rfl
theorem zad:flatB Tryz.prog 9=true:=by kernel_rfl
theorem zaE:sizeN Tryz.prog 9 1=true:=by kernel_rfl
theorem za0:zeroV Tryz.prog 9=some (str []):=by kernel_rfl
theorem zbv:flatB Tryz.prog 20=true:=by kernel_rfl
theorem zb1:sizeN Tryz.prog 20 1=true:=by kernel_rfl
theorem tf_zero20:zeroV Tryz.prog 20=some (.nilIface):=by kernel_rfl
theorem zah:flatB Tryz.prog 22=true:=by kernel_rfl
theorem zba:sizeN Tryz.prog 22 1=true:=by kernel_rfl
theorem tf_zero22:zeroV Tryz.prog 22=some (.slice none 0 0):=by kernel_rfl
theorem zas:ElemOk Tryz.prog 22 5 tyB (0:UInt8) 1:=ElemOk.of Tryz.underlying22 (by kernel_rfl) (by kernel_rfl) rfl
theorem tf_flat28:flatB Tryz.prog 28=true:=by kernel_rfl
theorem zak:flatB Tryz.prog 54=true:=by kernel_rfl
theorem zch:sizeN Tryz.prog 54 1=true:=by kernel_rfl
theorem zef:zeroV Tryz.prog 54=some (.int .i64 0):=by kernel_rfl
theorem tf_lay65:layOf Tryz.prog 65=some ([(0,1),(1,1),(2,1)],[.bool false,.slice none 0 0,.pointer none]):=by kernel_rfl
theorem tf_fo65_0:fieldOff Tryz.prog 65 0=some 0:=by kernel_rfl
theorem tf_fo65_2:fieldOff Tryz.prog 65 2=some 2:=by kernel_rfl
theorem zbu:flatB Tryz.prog 67=true:=by kernel_rfl
theorem zeg:sizeN Tryz.prog 67 1=true:=by kernel_rfl
theorem tf_zero67:zeroV Tryz.prog 67=some (.slice none 0 0):=by kernel_rfl
theorem zbN:ElemOk Tryz.prog 67 9 tyS ([]:List UInt8) 16:=ElemOk.of Tryz.underlying67 (by kernel_rfl) (by kernel_rfl) rfl
theorem zb5:flatB Tryz.prog 73=true:=by kernel_rfl
theorem tf_sz73:sizeN Tryz.prog 73 1=true:=by kernel_rfl
theorem zaq:flatB Tryz.prog 76=true:=by kernel_rfl
theorem zfq:sizeN Tryz.prog 76 1=true:=by kernel_rfl
theorem tf_zero76:zeroV Tryz.prog 76=some (.slice none 0 0):=by kernel_rfl
theorem tf_sz78:sizeN Tryz.prog 78 6=true:=by kernel_rfl
theorem zfs:aggN Tryz.prog 78=some 6:=by kernel_rfl
theorem tf_zero78:zeroV Tryz.prog 78=some (.agg #[.int .i64 0,.int .i64 0,.slice none 0 0,.slice none 0 0,.slice none 0 0,.slice none 0 0]):=by kernel_rfl
theorem tf_lay78:layOf Tryz.prog 78=some ([(0,1),(1,1),(2,1),(3,1),(4,1),(5,1)],[.int .i64 0,.int .i64 0,.slice none 0 0,.slice none 0 0,.slice none 0 0,.slice none 0 0]):=by kernel_rfl
theorem zdk:fieldOff Tryz.prog 78 0=some 0:=by kernel_rfl
theorem zdj:fieldOff Tryz.prog 78 1=some 1:=by kernel_rfl
theorem zbM:fieldOff Tryz.prog 78 2=some 2:=by kernel_rfl
theorem zdi:fieldOff Tryz.prog 78 3=some 3:=by kernel_rfl
theorem zdh:fieldOff Tryz.prog 78 4=some 4:=by kernel_rfl
theorem zdg:fieldOff Tryz.prog 78 5=some 5:=by kernel_rfl
theorem zaF:sizeN Tryz.prog 82 2=true:=by kernel_rfl
theorem zaK:aggN Tryz.prog 82=some 2:=by kernel_rfl
theorem zaw:zeroV Tryz.prog 82=some (.agg #[.int .i64 0,.int .i64 0]):=by kernel_rfl
theorem za8:layOf Tryz.prog 82=some ([(0,1),(1,1)],[.int .i64 0,.int .i64 0]):=by kernel_rfl
theorem zaS:fieldOff Tryz.prog 82 0=some 0:=by kernel_rfl
theorem zb0:sizeN Tryz.prog 86 3=true:=by kernel_rfl
theorem zci:aggN Tryz.prog 86=some 3:=by kernel_rfl
theorem zbL:zeroV Tryz.prog 86=some (.agg #[str [],.int .i64 0,.int .i64 0]):=by kernel_rfl
theorem zb4:fieldOff Tryz.prog 86 0=some 0:=by kernel_rfl
theorem zcu:fieldOff Tryz.prog 86 1=some 1:=by kernel_rfl
theorem zct:fieldOff Tryz.prog 86 2=some 2:=by kernel_rfl
theorem za7:sizeN Tryz.prog 101 5=true:=by kernel_rfl
theorem zb7:aggN Tryz.prog 101=some 5:=by kernel_rfl
theorem zbF:zeroV Tryz.prog 101=some (.agg #[str [],.int .i64 0,.int .i64 0,.int .i64 0,str []]):=by kernel_rfl
theorem tf_zero118:zeroV Tryz.prog 118=some (.nilFunc):=by kernel_rfl
theorem tf_sz131:sizeN Tryz.prog 131 3=true:=by kernel_rfl
theorem tf_agg131:aggN Tryz.prog 131=some 3:=by kernel_rfl
theorem tf_zero131:zeroV Tryz.prog 131=some (.agg #[.pointer none,.pointer none,.pointer none]):=by kernel_rfl
theorem tf_sz137:sizeN Tryz.prog 137 2=true:=by kernel_rfl
theorem tf_zero137:zeroV Tryz.prog 137=some (.agg #[.int .i64 0,.int .i64 0]):=by kernel_rfl
theorem tf_lay141:layOf Tryz.prog 141=some ([(0,1),(1,1)],[str [],.int .i64 0]):=by kernel_rfl
theorem zar:fieldOff Tryz.prog 141 0=some 0:=by kernel_rfl
theorem zag:fieldOff Tryz.prog 141 1=some 1:=by kernel_rfl
theorem tf_lay143:layOf Tryz.prog 143=some ([(0,2),(2,1)],[str [],.int .i64 0,.slice none 0 0]):=by kernel_rfl
theorem zac:fieldOff Tryz.prog 143 0=some 0:=by kernel_rfl
theorem zcO:fieldOff Tryz.prog 143 1=some 2:=by kernel_rfl
theorem tf_zero163:zeroV Tryz.prog 163=some (.agg #[.int .i64 0,.int .i64 0,.int .i64 0,.int .i64 0,.int .i64 0,.int .i64 0]):=by kernel_rfl
theorem zdm:aggN Tryz.prog 241=some 2:=by kernel_rfl
theorem tf_zero241:zeroV Tryz.prog 241=some (.agg #[.int .u8 0,.int .u8 0]):=by kernel_rfl
theorem zbn:flatB Tryz.prog 242=true:=by kernel_rfl
theorem tf_lay244:layOf Tryz.prog 244=some ([(0,1),(1,1)],[.map none,.int .i64 0]):=by kernel_rfl
theorem zbm:fieldOff Tryz.prog 244 0=some 0:=by kernel_rfl
theorem zdC:fieldOff Tryz.prog 244 1=some 1:=by kernel_rfl
theorem zdD:flatB Tryz.prog 254=true:=by kernel_rfl
theorem tf_sz254:sizeN Tryz.prog 254 1=true:=by kernel_rfl
theorem zfr:sizeN Tryz.prog 256 2=true:=by kernel_rfl
theorem zeO:zeroV Tryz.prog 256=some (.agg #[.pointer none,.slice none 0 0]):=by kernel_rfl
theorem zcN:fieldOff Tryz.prog 256 0=some 0:=by kernel_rfl
theorem zbl:fieldOff Tryz.prog 256 1=some 1:=by kernel_rfl
theorem tf_lay305:layOf Tryz.prog 305=some ([(0,1),(1,1),(2,2)],[.slice none 0 0,.int .i64 0,.int .i64 0,.int .i64 0]):=by kernel_rfl
theorem zbG:fieldOff Tryz.prog 305 0=some 0:=by kernel_rfl
theorem za1:fieldOff Tryz.prog 305 1=some 1:=by kernel_rfl
theorem zcM:fieldOff Tryz.prog 305 2=some 2:=by kernel_rfl
theorem zaj:Tryz.prog.follows .mixedOrders=true:=by kernel_rfl
theorem tf_body15:Body Tryz.prog 15:=Body.of (by kernel_rfl)
theorem tf_body16:Body Tryz.prog 16:=Body.of (by kernel_rfl)
theorem tf_body20:Body Tryz.prog 20:=Body.of (by kernel_rfl)
theorem tf_body21:Body Tryz.prog 21:=Body.of (by kernel_rfl)
theorem tf_body22:Body Tryz.prog 22:=Body.of (by kernel_rfl)
theorem tf_body23:Body Tryz.prog 23:=Body.of (by kernel_rfl)
theorem tf_body24:Body Tryz.prog 24:=Body.of (by kernel_rfl)
theorem tf_body32:Body Tryz.prog 32:=Body.of (by kernel_rfl)
theorem tf_body48:Body Tryz.prog 48:=Body.of (by kernel_rfl)
theorem tf_body49:Body Tryz.prog 49:=Body.of (by kernel_rfl)
theorem zdl:Body Tryz.prog 52:=Body.of (by kernel_rfl)
theorem tf_body53:Body Tryz.prog 53:=Body.of (by kernel_rfl)
theorem zbw:Body Tryz.prog 54:=Body.of (by kernel_rfl)
theorem tf_body55:Body Tryz.prog 55:=Body.of (by kernel_rfl)
theorem tf_body56:Body Tryz.prog 56:=Body.of (by kernel_rfl)
theorem zeh:Body Tryz.prog 57:=Body.of (by kernel_rfl)
theorem tf_body60:Body Tryz.prog 60:=Body.of (by kernel_rfl)
theorem tf_body62:Body Tryz.prog 62:=Body.of (by kernel_rfl)
theorem tf_body63:Body Tryz.prog 63:=Body.of (by kernel_rfl)
theorem tf_body80:Body Tryz.prog 80:=Body.of (by kernel_rfl)
theorem zaT:Body Tryz.prog 81:=Body.of (by kernel_rfl)
theorem tf_body82:Body Tryz.prog 82:=Body.of (by kernel_rfl)
theorem tf_body112:Body Tryz.prog 112:=Body.of (by kernel_rfl)
theorem zaO:Body Tryz.prog 113:=Body.of (by kernel_rfl)
theorem zbc:Body Tryz.prog 114:=Body.of (by kernel_rfl)
theorem zb6:Body Tryz.prog 115:=Body.of (by kernel_rfl)
theorem tf_body117:Body Tryz.prog 117:=Body.of (by kernel_rfl)
theorem tf_body118:Body Tryz.prog 118:=Body.of (by kernel_rfl)
theorem ze2:Body Tryz.prog 119:=Body.of (by kernel_rfl)
theorem ze1:Body Tryz.prog 120:=Body.of (by kernel_rfl)
theorem tf_body121:Body Tryz.prog 121:=Body.of (by kernel_rfl)
theorem ze0:Body Tryz.prog 127:=Body.of (by kernel_rfl)
theorem zaG:Body Tryz.prog 128:=Body.of (by kernel_rfl)
theorem zeZ:Body Tryz.prog 129:=Body.of (by kernel_rfl)
theorem tf_body130:Body Tryz.prog 130:=Body.of (by kernel_rfl)
theorem zeY:Body Tryz.prog 131:=Body.of (by kernel_rfl)
theorem tf_body150:Body Tryz.prog 150:=Body.of (by kernel_rfl)
theorem tf_body151:Body Tryz.prog 151:=Body.of (by kernel_rfl)
theorem zeX:Body Tryz.prog 152:=Body.of (by kernel_rfl)
theorem tf_body185:Body Tryz.prog 185:=Body.of (by kernel_rfl)
theorem zeW:Body Tryz.prog 188:=Body.of (by kernel_rfl)
theorem tf_body193:Body Tryz.prog 193:=Body.of (by kernel_rfl)
theorem tf_body194:Body Tryz.prog 194:=Body.of (by kernel_rfl)
theorem zeV:Body Tryz.prog 197:=Body.of (by kernel_rfl)
theorem zcQ:Body Tryz.prog 205:=Body.of (by kernel_rfl)
theorem zeU:Body Tryz.prog 206:=Body.of (by kernel_rfl)
theorem zeT:Body Tryz.prog 232:=Body.of (by kernel_rfl)
theorem zeS:Body Tryz.prog 233:=Body.of (by kernel_rfl)
theorem zdE:Body Tryz.prog 234:=Body.of (by kernel_rfl)
theorem zeR:Body Tryz.prog 263:=Body.of (by kernel_rfl)
theorem zcP:Body Tryz.prog 264:=Body.of (by kernel_rfl)
theorem zeQ:Body Tryz.prog 267:=Body.of (by kernel_rfl)
theorem tf_body268:Body Tryz.prog 268:=Body.of (by kernel_rfl)
theorem tf_body269:Body Tryz.prog 269:=Body.of (by kernel_rfl)
theorem zeP:Body Tryz.prog 340:=Body.of (by kernel_rfl)
theorem tf_body341:Body Tryz.prog 341:=Body.of (by kernel_rfl)
theorem tf_body367:Body Tryz.prog 367:=Body.of (by kernel_rfl)
theorem Sep.drewN {w0:World}{base:Nat}{w:World}{H:List Seg}(S:Sep w0 base w H) (n:Nat):Sep w0 base (w.drewN n) H:=S.same rfl rfl rfl rfl
theorem Sep.kept {w0:World}{base:Nat}{w w' : World}{H:List Seg}(S:Sep w0 base w H) (h:Below w.heap.size w w'):Sep w0 base w' H:=by
 refine ⟨⟨h.os.trans S.below.os,h.tape.trans S.below.tape,h.output.trans S.below.output,Nat.le_trans S.below.size h.size,fun k hk => (h.block k (Nat.lt_of_lt_of_le hk S.base_le)).trans (S.below.block k hk)⟩,S.le,fun p hp => ⟨(S.mem p hp).1,(h.block p.1 (S.lt hp)).trans (S.mem p hp).2⟩,S.nodup⟩
section calls
variable {P:Program}{f:FuncId}{args:List Value}{w0:World}{base:Nat}{H:List Seg}
theorem SCalls.of_below {v:Value}(h:∀ w,Sep w0 base w H→Calls P f args.toArray w fun e w' => e = .returned v∧Below w.heap.size w w'):SCalls P f args w0 base H (fun u H' => u=v∧H' = H) :=
 fun w S => (h w S).mono fun e w' ⟨he,hw⟩ => ⟨v,H,he,⟨rfl,rfl⟩,S.kept hw⟩
theorem SCalls.of_alloc {v:Nat→Value}{o:Obj}(h:∀ w,Sep w0 base w H→Calls P f args.toArray w fun e w' => e = .returned (v w.heap.size)∧∃ n,w' = (w.alloc o).drewN n):SCalls P f args w0 base H (fun u H' => ∃ b,u=v b∧H' = [(b,o)]::H) :=
 fun w S => (h w S).mono fun e w' ⟨he,n,hw⟩ => ⟨_,_,he,⟨w.heap.size,rfl,rfl⟩,hw ▸ (S.alloc o).drewN n⟩
theorem Sep.cellBelow {w:World}(S:Sep w0 base w H) {b o:Nat}{v:Value}(hb:b < base) (h:w0.cell? ⟨b,o,none⟩=some v):w.cell? ⟨b,o,none⟩=some v:=by
 have h2:=S.below.block b hb
 rw [← h]
 simp only [World.cell?,h2]
end calls
section
variable {X:Pt}{k:List Item}{E:Env}{ds:List Deferred}{H:List Seg}{ops:Array Oper}{os:List Oper}
  {d:Nat}{ty:TypeId}{pos:String}{after:Array Edge}{g:Option (Nat×Bool)}
theorem zbi {P:Program}{w:World}{b:Nat}{o:Obj}(h:w.heap[b]? = some o) (hc:isCellsO o=false):(getObj b).run P w = .ok o w:=by
 cases o <;> first | (cases hc; done) | simp [getObj,Sem.run,h]
theorem Do.callX {f:FuncId}{xs:Array Operand}{ts:Array TypeId}{args:List Value}{v:Value}(hx:evs E xs.toList=some args) (hr:∀ w,Sep X.w0 X.base w H→(callFunc f args.toArray).run X.P w = .ok (.value v) w):Does X E H (.call ⟨.value (.func f),xs,ts⟩) (Is v H) :=
 Does.core rfl fun dst ty pos after g ρ w hρ S => ⟨v,w,H,by
  have hf:ρ (.func f) = .func (.func f) #[] #[]:=hρ _ _ rfl
  simp only [execOp,resolve,hf,Deferred.ofValue,zbb hρ hx,invoke,Sem.run_bind,Sem.run_pure,Result.andThen_ok]
  simpa using hr w S,S,rfl,rfl⟩
theorem AtL.callX {f:FuncId}{xs:Array Operand}{ts:Array TypeId}{args:List Value}{v:Value}(hr:∀ w,Sep X.w0 X.base w H→(callFunc f args.toArray).run X.P w = .ok (.value v) w) (hg:Wd X ops E g) (hd:Nat.blt d X.n=true) (hx:evs E xs.toList=some args) 
  (hk:AtL X ops os k ((d,v)::E) ds H):AtL X ops (⟨some d,.call ⟨.value (.func f),xs,ts⟩,ty,pos,after,g⟩::os) k E ds H:=AtL.ofIs (Do.callX hx hr) hg hd hk
theorem Cell.below {w0:World}{base b o:Nat}{v:Value}(hb:b < base) (h:w0.cell? ⟨b,o,none⟩=some v):Cell w0 base H ⟨b,o,none⟩ v:=fun w S => S.cellBelow hb h
end
section
variable {X:Pt}{k:List Item}{E:Env}{ds:List Deferred}{H:List Seg}
end
theorem Do.own1 {X:Pt}{E:Env}{H:List Seg}{op:Op}{α:Type}(T:Ty α) {e n:Nat}{l:List α}{cs:Array Value}(hd:Does X E H op (fun v H' => ∃ b,v = .slice (some ⟨b,0,none⟩) n n∧H' = [(b,.cells cs e (0,0))]::H)) (hcs:cs=(T.cells l).toArray) (hn:n=l.length) (hle:l.length≤9223372036854775807) :
  Does X E H op (fun v H' => ∃ b s,Own T e (some ⟨b,0,none⟩) n l s∧v = .slice (some ⟨b,0,none⟩) n n∧H' = s::H):=by
 refine hd.mono ?_
 rintro v H' ⟨b,rfl,rfl⟩
 obtain ⟨s,hs,ho⟩:=own_new T e b l n _ rfl hn hle
 exact ⟨b,s,ho,rfl,by rw [hs,hcs]⟩
section fields
variable {X:Pt}{k:List Item}{E:Env}{ds:List Deferred}{H:List Seg}{ops:Array Oper}{os:List Oper}
  {d:Nat}{ty:TypeId}{pos:String}{after:Array Edge}{g:Option (Nat×Bool)}
end fields
section
variable {X:Pt}{k:List Item}{E:Env}{ds:List Deferred}{H:List Seg}{ops:Array Oper}{os:List Oper}
  {d:Nat}{ty:TypeId}{pos:String}{after:Array Edge}{g:Option (Nat×Bool)}
theorem zej {w:World}{b:Nat}{cs:Array Value}{e:TypeId}{fr:Nat×Nat}(h:w.heap[b]? = some (.cells cs e fr)):w.shape? b=some (e,cs.size):=by simp [World.shape?,h]
theorem Do.toUnsafe {src dst t e n:TypeId}{x:Operand}{b o:Nat}{cs:Array Value}{fr:Nat×Nat}{s:Seg}(i j:Nat) (hs:X.P.underlying src=some (.pointer t)) (hd:X.P.underlying dst=some .unsafePointer) (hn:sizeN X.P t n=true) (h0:n≠0) (hi:H[i]? = some s) (hj:s[j]? = some (b,.cells cs e fr)) (ho:o < cs.size) (hx:ev E x=some (.pointer (some ⟨b,o,none⟩))):Does X E H (.convert src dst x) (Is (.pointer (some ⟨b,o,none⟩)) H) :=
 Does.core rfl fun dst ty pos after g ρ w hρ S => ⟨_,w,H,by
  obtain ⟨jt,hj1,hj2⟩:∃ jt,X.P.info? t=some jt∧jt.size=n:=by
   unfold sizeN at hn
   cases hq:X.P.info? t with
   | none => rw [hq] at hn; cases hn
   | some jt => rw [hq] at hn; exact ⟨jt,rfl,Nat.eq_of_beq_eq_true hn⟩
  have:=Lib.run_to_unsafe (P:=X.P) w ⟨b,o,none⟩ hs hd hj1 (by rw [hj2]; exact h0) (zej (S.at_ hi hj).1) ho
  simp [execOp,hρ _ _ hx,this],S,rfl,rfl⟩
theorem AtL.toUnsafe {src dst t e n:TypeId}{x:Operand}{b o:Nat}{cs:Array Value}{fr:Nat×Nat}{s:Seg}(i j:Nat) (hs:X.P.underlying src=some (.pointer t)) (hd:X.P.underlying dst=some .unsafePointer) (hn:sizeN X.P t n=true) (h0:n≠0) (hg:Wd X ops E g) (hd2:Nat.blt d X.n=true) (hi:H[i]? = some s) (hj:s[j]? = some (b,.cells cs e fr)) (ho:o < cs.size) (hx:ev E x=some (.pointer (some ⟨b,o,none⟩)))
  (hk:AtL X ops os k ((d,.pointer (some ⟨b,o,none⟩))::E) ds H):AtL X ops (⟨some d,.convert src dst x,ty,pos,after,g⟩::os) k E ds H:=AtL.ofIs (Do.toUnsafe i j hs hd hn h0 hi hj ho hx) hg hd2 hk
theorem AtL.fromUnsafe {src dst u e n:TypeId}{x:Operand}{b o:Nat}{cs:Array Value}{fr:Nat×Nat}{s:Seg}(i j:Nat) (hs:X.P.underlying src=some .unsafePointer) (hd:X.P.underlying dst=some (.pointer u)) (hn:sizeN X.P u n=true) (hg:Wd X ops E g) (hd2:Nat.blt d X.n=true) (hi:H[i]? = some s) (hj:s[j]? = some (b,.cells cs e fr)) (hl:liesAt X.P X.P.depth e (cs.size / X.P.cellsOf e) o u 1=true) (hx:ev E x=some (.pointer (some ⟨b,o,none⟩)))
  (hk:AtL X ops os k ((d,.pointer (some ⟨b,o,none⟩))::E) ds H):AtL X ops (⟨some d,.convert src dst x,ty,pos,after,g⟩::os) k E ds H :=
 AtL.ofIs (Does.core rfl fun dst ty pos after g ρ w hρ S => ⟨_,w,H,by
  obtain ⟨jt,hj1,hj2⟩:∃ jt,X.P.info? u=some jt∧jt.size=n:=by
   unfold sizeN at hn
   cases hq:X.P.info? u with
   | none => rw [hq] at hn; cases hn
   | some jt => rw [hq] at hn; exact ⟨jt,rfl,Nat.eq_of_beq_eq_true hn⟩
  have:=Lib.run_from_unsafe (P:=X.P) w ⟨b,o,none⟩ hs hd hj1 (zej (S.at_ hi hj).1) hl
  simp [execOp,hρ _ _ hx,this],S,rfl,rfl⟩) hg hd2 hk
theorem eqIn_same {P:Program}{w:World}{q t e n:Nat}{p:Addr}(hu:P.underlying t=some (.pointer e)) (hn:sizeN P e n=true) (h0:n≠0):(Op.equalIn (q + 1) t (.pointer (some p)) (.pointer (some p))).run P w = .ok true w:=by
 simp [Op.equalIn,run_underlying hu,zbx hn,h0,sameAddr]
theorem Do.nePtrSame {tx tz e n:TypeId}{x y:Operand}{p:Addr}(hu:X.P.underlying tx=some (.pointer e)) (hn:sizeN X.P e n=true) (h0:n≠0) (hx:ev E x=some (.pointer (some p))) (hy:ev E y=some (.pointer (some p))):Does X E H (.binOp .neq tx x y tz) (Is (.bool false) H) :=
 Do.neBy rfl rfl hx hy (fun w => eqIn_same hu hn h0)
theorem AtL.nePtrSame {tx tz e n:TypeId}{x y:Operand}{p:Addr}(hu:X.P.underlying tx=some (.pointer e)) (hn:sizeN X.P e n=true) (h0:n≠0) (hg:Wd X ops E g) (hd:Nat.blt d X.n=true) (hx:ev E x=some (.pointer (some p))) (hy:ev E y=some (.pointer (some p))) (hk:AtL X ops os k ((d,.bool false)::E) ds H) :
  AtL X ops (⟨some d,.binOp .neq tx x y tz,ty,pos,after,g⟩::os) k E ds H:=AtL.ofIs (Do.nePtrSame hu hn h0 hx hy) hg hd hk
theorem Do.sliceData {x:Operand}{t:TypeId}{a:Addr}{n C:Nat}(hC:C≠0) (hx:ev E x=some (.slice (some a) n C)):Does X E H (.call ⟨.builtin .unsafeSliceData,#[x],#[t]⟩) (Is (.pointer (some a)) H) :=
 Does.core rfl fun dst ty pos after g ρ w hρ S => ⟨_,w,H,by
  have:=Lib.run_unsafeSliceData_row (P:=X.P) w #[t] ty a n C hC
  simp [execOp,resolve,invoke,builtin,hρ _ _ hx,this],S,rfl,rfl⟩
theorem liesAt_bytes {P:Program}{e:TypeId}(hc:P.cellsOf e=1) (count off n:Nat) (hn:off + n≤count):liesAt P P.depth e count off e n=true:=by
 have hd:P.depth=(2 * (P.types.size + Made.depth) + 1) + 1:=rfl
 rw [hd]
 simp only [liesAt,Bool.or_eq_true]
 left
 rw [hd]
 simp [rowAt,hc,hn,sameLayout,Nat.mod_one]
theorem zfx {P:Program}{w:World}(pt it ty e:TypeId) (hp:P.underlying pt=some (.pointer e)) (hc:P.cellsOf e=1) (g o cells:Nat) (hsh:w.shape? g=some (e,cells)) (l:List UInt8) (h0:l≠[]) (hn:o + l.length≤cells) (h63:l.length≤9223372036854775807)
  (hcell:∀ j x,l[j]? = some x→w.cell? ((⟨g,o,none⟩:Addr).add j)=some (.int .u8 x.toNat)) :
  (Builtin.unsafeString_ #[pt,it] ty #[.pointer (some ⟨g,o,none⟩),.int .i64 l.length]).run P w = .ok (str l) (w.freeze ⟨g,o,none⟩ l.length):=by
 have hl:l.length≠0:=by simpa using h0
 have hlb:=Lib.run_loadBytes (P:=P) w l ⟨g,o,none⟩ .empty hcell
 have hlies:=liesAt_bytes (P:=P) hc (cells / P.cellsOf e) o l.length (by rw [hc]; simpa using hn)
 have h63' : ¬ (9223372036854775807:Int) < (l.length:Int):=by omega
 have hdef:Builtin.unsafeString_ #[pt,it] ty #[.pointer (some ⟨g,o,none⟩),.int .i64 l.length] =
   (do
    let n ← asInt (.int .i64 l.length)
    if n < 0 then runtimePanic (.error "unsafe.String: len out of range")
    if n > IntKind.i64.max then unsupported (.unsafePointer "String: a length above the largest int")
    if n=0 then pure (.string .empty)
    else if ← variablesAt ⟨g,o,none⟩ (← elemOf pt) n.toNat then do
     let s ← loadBytes ⟨g,o,none⟩ .empty n.toNat
     freeze ⟨g,o,none⟩ n.toNat
     pure (.string s)
    else unsupported (.unsafePointer "String: not so many bytes at ptr")):=rfl
 rw [hdef]
 have hmax:IntKind.i64.max=9223372036854775807:=rfl
 have hneg:¬ (l.length:Int) < 0:=by omega
 simp [asInt,asIntOf,hmax,h63',hneg,hl,variablesAt,hsh,elemOf,run_underlying hp,hlies,hlb,str]
theorem Do.unsafeStr {pt it e:TypeId}{x y:Operand}{a:Addr}{C:Nat}{l:List UInt8}{s:Seg}(i:Nat) (hp:X.P.underlying pt=some (.pointer e)) (hc:X.P.cellsOf e=1) (hi:H[i]? = some s) (ho:Own tyB e (some a) C l s) (h0:l≠[]) (hx:ev E x=some (.pointer (some a))) (hy:ev E y=some (.int .i64 (l.length:Int))) :
  Does X E H (.call ⟨.builtin .unsafeString,#[x,y],#[pt,it]⟩) (fun v H' => ∃ s',v=str l∧H' = H.set i s') :=
 Does.core rfl fun dst ty pos after g ρ w hρ S => by
  have hle:=ho.le_cap
  have hcap:=ho.cap_le
  have hrd:Rd tyB X.w0 X.base H (some a) C l:=ho.rd hi
  obtain ⟨r,rfl,h⟩:=ho
  rcases h with ⟨h,_⟩ | ⟨gb,pre,post,fr,h,rfl,hfo,hcc⟩
  ·cases h
  ·cases h
   have hblk:=(S.at_ hi (j:=0) rfl).1
   have hlen:pre.length * tyB.sz + l.length≤(tyB.cells (pre++l++r++post)).toArray.size:=by
    rw [List.size_toArray,Ty.cells_len]
    simp only [List.length_append]
    show pre.length * 1 + l.length≤(pre.length + l.length + r.length + post.length) * 1
    omega
   have hrun:=zfx (P:=X.P) (w:=w) pt it ty e hp hc gb (pre.length * tyB.sz) _ (zej hblk) l h0 hlen (by omega) (fun j x hx => by
    obtain ⟨b',off',hA,hcell⟩:=hrd.cells h0
    cases hA
    rw [zai]
    exact hcell w S j _ (by rw [zde]; simp [hx,byt]))
   have hl0:l.length≠0:=by simpa using h0
   refine ⟨_,w.freeze ⟨gb,pre.length * tyB.sz,none⟩ l.length,H.set i [(gb,.cells (tyB.cells (pre++l++r++post)).toArray e (if fr.1 == fr.2 then (pre.length * tyB.sz,pre.length * tyB.sz + l.length) else (min fr.1 (pre.length * tyB.sz),max fr.2 (pre.length * tyB.sz + l.length))))],?_,?_,[(gb,.cells (tyB.cells (pre++l++r++post)).toArray e (if fr.1 == fr.2 then (pre.length * tyB.sz,pre.length * tyB.sz + l.length) else (min fr.1 (pre.length * tyB.sz),max fr.2 (pre.length * tyB.sz + l.length))))],rfl,rfl⟩
   ·simp [execOp,resolve,invoke,builtin,hρ _ _ hx,hρ _ _ hy,hrun]
   ·have hlt:=(Array.getElem?_eq_some_iff.1 hblk).1
    refine S.write (j:=0) hi rfl _ ?_ ?_ ?_ ?_ ?_ ?_
    ·simp [World.freeze,hl0]
    ·simp [World.freeze,hl0]
    ·simp [World.freeze,hl0]
    ·simp [World.freeze,hl0]
    ·simp only [World.freeze,hl0,if_false,Array.getElem?_modify,if_true]
     rw [hblk]
     obtain ⟨f1,f2⟩:=fr
     rfl
    ·intro q hq
     simp only [World.freeze,hl0,if_false,Array.getElem?_modify]
     rw [if_neg (fun h => hq h.symm)]
end
def waitsM (os:List Oper) (val:Env) (fs:List Nat):Bool:=os.zipIdx.all fun (o,i) => isKnown val i || (fs.any fun e => Nat.beq i e) || (depsL o).any fun j => !isKnown val j
def AllM:List Nat→(Nat→Prop)→Prop
 | [],_ => True
 | e::es,p => p e∧AllM es p
theorem AllM.get {p:Nat→Prop}:∀ {fs:List Nat},AllM fs p→∀ e ∈ fs,p e
 | _::_,h,e,he => by
  rcases List.mem_cons.1 he with rfl | he
  ·exact h.1
  ·exact AllM.get h.2 e he
section
variable {X:Pt}{k:List Item}{E0:Env}{ds:List Deferred}{ops:Array Oper}
end
section
variable {X:Pt}{k:List Item}{E:Env}{ds:List Deferred}{H:List Seg}{id:Nat}{rops:Array Oper}
end
set_option maxRecDepth 100000
theorem noesc (x:Value) (w:World):(callFunc 278 #[x]).run Tryz.prog w = .ok (.value x) w:=by
 rw [run_callFunc_extern Tryz.func278 (by kernel_rfl) (by kernel_rfl) (by kernel_rfl) (e:=Extern.AbiNoEscape.same) (by kernel_rfl)]
 rfl
theorem bchk_new {w0:World}{base:Nat}{H:List Seg}{b:Nat}{v:Value} :
  SCalls Tryz.prog 206 [.pointer (some ⟨b,0,none⟩)] w0 base ([(b,.cells #[.pointer none,v] 256 (0,0))]::H) (fun u H' => u = .tuple #[]∧H' = [(b,.cells #[.pointer (some ⟨b,0,none⟩),v] 256 (0,0))]::H):=by
 refine SCalls.of_walk (n:=20) Tryz.func206 rfl rfl rfl fun cs => ?_
 refine At.seq<|At.region<|AtL.move zg0 rfl rfl<|AtL.nilCheck zg0 rfl rfl<|AtL.fieldAddrB zcN zg0 rfl rfl rfl<|AtL.load zdD zg0 rfl rfl (Cell.own 0 0 rfl rfl rfl) ?_
 refine AtL.eqPtrNil Tryz.underlying254 zg0 rfl rfl rfl<|AtL.done<|At.condT rfl<|At.region<|AtL.move zg0 rfl rfl<|AtL.move zg0 rfl rfl ?_
 refine AtL.toUnsafe (n:=2) 0 0 Tryz.underlying254 Tryz.underlying470 zfr (by decide) zg0 rfl rfl rfl (by simp) rfl<|AtL.callX (v:=.pointer (some ⟨b,0,none⟩)) (fun w S => noesc _ w) zg0 rfl rfl ?_
 refine AtL.fromUnsafe 0 0 Tryz.underlying470 Tryz.underlying254 zfr zg0 rfl rfl rfl (by kernel_rfl) rfl<|AtL.nilCheck zg0 rfl rfl<|AtL.fieldAddrB zcN zg0 rfl rfl rfl<|AtL.store (H':=[(b,.cells #[.pointer (some ⟨b,0,none⟩),v] 256 (0,0))]::H) 0 0 tf_sz254 zg0 rfl rfl rfl rfl rfl rfl rfl rfl rfl<|AtL.done ?_
 exact At.end_ Tryz.func206 rfl rfl (⟨rfl,rfl⟩)
theorem bchk_old {w0:World}{base:Nat}{H:List Seg}{b:Nat}{v:Value} :
  SCalls Tryz.prog 206 [.pointer (some ⟨b,0,none⟩)] w0 base ([(b,.cells #[.pointer (some ⟨b,0,none⟩),v] 256 (0,0))]::H) (fun u H' => u = .tuple #[]∧H' = [(b,.cells #[.pointer (some ⟨b,0,none⟩),v] 256 (0,0))]::H):=by
 refine SCalls.of_walk (n:=20) Tryz.func206 rfl rfl rfl fun cs => ?_
 refine At.seq<|At.region<|AtL.move zg0 rfl rfl<|AtL.nilCheck zg0 rfl rfl<|AtL.fieldAddrB zcN zg0 rfl rfl rfl<|AtL.load zdD zg0 rfl rfl (Cell.own 0 0 rfl rfl rfl) ?_
 refine AtL.eqPtrNil Tryz.underlying254 zg0 rfl rfl rfl<|AtL.done<|At.condF rfl<|At.seq<|At.region<|AtL.move zg0 rfl rfl ?_
 refine AtL.nilCheck zg0 rfl rfl<|AtL.fieldAddrB zcN zg0 rfl rfl rfl<|AtL.load zdD zg0 rfl rfl (Cell.own 0 0 rfl rfl rfl)<|AtL.move zg0 rfl rfl ?_
 refine AtL.nePtrSame (n:=2) Tryz.underlying254 zfr (by decide) zg0 rfl rfl rfl<|AtL.done<|At.condF rfl<|At.skip ?_
 exact At.end_ Tryz.func206 rfl rfl (⟨rfl,rfl⟩)
def bown (b:Nat) (p:Value):Prop:=p = .pointer none∨p = .pointer (some ⟨b,0,none⟩)
theorem bchk_ok {w0:World}{base:Nat}{H:List Seg}{b:Nat}{p v:Value}(h:bown b p):SCalls Tryz.prog 206 [.pointer (some ⟨b,0,none⟩)] w0 base ([(b,.cells #[p,v] 256 (0,0))]::H) (fun u H' => u = .tuple #[]∧H' = [(b,.cells #[.pointer (some ⟨b,0,none⟩),v] 256 (0,0))]::H):=by
 rcases h with rfl | rfl
 ·exact bchk_new
 ·exact bchk_old
theorem bwrite_ok {w0:World}{base:Nat}{H:List Seg}{b:Nat}{p:Value}(hp:bown b p) {x:Sl tyB 5}{v:List UInt8}(hl:x.l.length + v.length≤140737488355328) :
  SCalls Tryz.prog 129 [.pointer (some ⟨b,0,none⟩),str v] w0 base (x.s::[(b,.cells #[p,.slice x.A x.l.length x.C] 256 (0,0))]::H) (fun u H' => ∃ y:Sl tyB 5,y.l=x.l++v∧u = .tuple #[int (v.length:Int),.nilIface]∧H' = y.s::[(b,.cells #[.pointer (some ⟨b,0,none⟩),.slice y.A y.l.length y.C] 256 (0,0))]::H):=by
 refine SCalls.of_walk (n:=19) Tryz.func129 rfl rfl rfl fun cs => ?_
 refine At.seq<|At.region<|AtL.assign zg0 rfl rfl<|AtL.assign zg0 rfl rfl<|AtL.done<|At.seq ?_
 refine At.region<|AtL.move zg0 rfl rfl<|AtL.pick (H':=[(b,.cells #[p,.slice x.A x.l.length x.C] 256 (0,0))]::x.s::H) [1,0] 2 rfl rfl<|AtL.call zeU zg0 rfl rfl (bchk_ok hp) ?_
 rintro _ _ ⟨rfl,rfl⟩
 refine AtL.done<|At.seq<|At.region<|AtL.move zg0 rfl rfl<|AtL.move zg0 rfl rfl<|AtL.nilCheck zg0 rfl rfl ?_
 refine AtL.fieldAddrB zbl zg0 rfl rfl rfl<|AtL.load zah zg0 rfl rfl (Cell.own 0 0 rfl rfl rfl)<|AtL.move zg0 rfl rfl ?_
 refine AtL.appendS (l:=x.l) (news:=v) 1 zas Tryz.underlying9 rfl x.own (by omega) zg0 rfl rfl rfl ?_
 intro A1 C2 s3 o4
 refine AtL.nilCheck zg0 rfl rfl<|AtL.fieldAddrB zbl zg0 rfl rfl rfl<|AtL.store (H':=[(b,.cells #[.pointer (some ⟨b,0,none⟩),.slice A1 (x.l++v).length C2] 256 (0,0))]::s3::H) 0 0 zba zg0 rfl rfl rfl rfl rfl rfl rfl rfl rfl<|AtL.done<|At.seq<|At.region ?_
 refine AtL.move zg0 rfl rfl<|AtL.lenS (l:=v) Tryz.underlying9 zg0 rfl rfl<|AtL.assign zg0 rfl rfl<|AtL.assign zg0 rfl rfl<|AtL.done<|At.pick [1,0] 2 rfl rfl ?_
 exact At.ret Tryz.func129 rfl rfl (⟨⟨A1,C2,x.l++v,s3,o4⟩,rfl,rfl,rfl⟩)
theorem bstring_ok {w0:World}{base:Nat}{H:List Seg}{b:Nat}{p:Value}{a:Addr}{C:Nat}{l:List UInt8}{s:Seg}(o:Own tyB 5 (some a) C l s) (h0:l≠[]) (hl0:l.length≠0) (hC:C≠0) :
  SCalls Tryz.prog 131 [.pointer (some ⟨b,0,none⟩)] w0 base (s::[(b,.cells #[p,.slice (some a) l.length C] 256 (0,0))]::H) (fun u H' => ∃ s',u=str l∧H' = s'::H):=by
 refine SCalls.of_walk (n:=14) Tryz.func131 rfl rfl rfl fun cs => ?_
 refine At.seq<|At.region<|AtL.assign zg0 rfl rfl<|AtL.done<|At.seq ?_
 refine At.draw (es:=[10]) (pv:=[(0,.pointer (some ⟨b,0,none⟩)),(1,.pointer (some ⟨b,0,none⟩)),(2,.pointer (some ⟨b,1,none⟩)),(3,.slice (some a) l.length C),(4,.pointer (some a)),(5,.pointer (some ⟨b,0,none⟩)),(6,.pointer (some ⟨b,0,none⟩)),(7,.pointer (some ⟨b,1,none⟩)),(8,.slice (some a) l.length C),(9,.int .i64 (l.length:Int))]) zaj (by kernel_rfl) (by kernel_rfl) (by kernel_rfl) ?_
 refine ⟨⟨zpr rfl rfl rfl (Do.move rfl),zpr rfl rfl rfl (Do.nilCheck rfl),zpr rfl rfl rfl (Do.fieldAddrB zbl rfl rfl),zpr rfl rfl rfl (Do.load zah rfl (Cell.own 1 0 rfl rfl rfl)),zpr rfl rfl rfl (Do.sliceData hC rfl),zpr rfl rfl rfl (Do.move rfl),zpr rfl rfl rfl (Do.nilCheck rfl),zpr rfl rfl rfl (Do.fieldAddrB zbl rfl rfl),zpr rfl rfl rfl (Do.load zah rfl (Cell.own 1 0 rfl rfl rfl)),zpr rfl rfl rfl (Do.lenL Tryz.underlying22 rfl),trivial⟩,rfl,rfl,by kernel_rfl,_,rfl,rfl,rfl,_,Do.unsafeStr (l:=l) 0 Tryz.underlying373 (by kernel_rfl) rfl o h0 rfl rfl,?_⟩
 rintro _ _ ⟨s1,rfl,rfl⟩
 refine ⟨[(11,str l)],rfl,?_⟩
 refine ⟨⟨zpr rfl rfl rfl (Do.assign rfl),.inl (by kernel_rfl),.inl (by kernel_rfl),.inl (by kernel_rfl),.inl (by kernel_rfl),.inl (by kernel_rfl),.inl (by kernel_rfl),.inl (by kernel_rfl),.inl (by kernel_rfl),.inl (by kernel_rfl),.inl (by kernel_rfl),trivial⟩,by kernel_rfl,?_⟩
 refine At.mono (E':=[(2,str l)]) ⟨rfl,trivial⟩<|At.pick [0] 2 rfl rfl ?_
 exact At.ret Tryz.func131 rfl rfl (⟨_,rfl,rfl⟩)
theorem bstr_ok {w0:World}{base:Nat}{H:List Seg}{b:Nat}{p:Value}{x:Sl tyB 5}(h0:x.l≠[]):SCalls Tryz.prog 131 [.pointer (some ⟨b,0,none⟩)] w0 base (x.s::[(b,.cells #[p,.slice x.A x.l.length x.C] 256 (0,0))]::H) (fun u H' => ∃ s',u=str x.l∧H' = s'::H):=by
 obtain ⟨A,C,l,s,o⟩:=x
 have hl0:l.length≠0:=fun h => h0 (List.eq_nil_of_length_eq_zero h)
 have hle:=o.le_cap
 cases A with
 | none =>
  obtain ⟨r,_,h⟩:=o
  rcases h with ⟨_,h,_⟩ | ⟨_,_,_,_,h,_⟩
  ·exact absurd h h0
  ·cases h
 | some a =>
  have hC:C≠0:=by have:=hle; omega
  exact bstring_ok o h0 hl0 hC
theorem zaV {w0:World}{base:Nat}{H:List Seg}{b:Nat}{p:Value}(hp:bown b p) {x:Sl tyB 5}{c:UInt8}(hl:x.l.length + 1≤140737488355328) :
  SCalls Tryz.prog 128 [.pointer (some ⟨b,0,none⟩),.int .u8 (c.toNat:Int)] w0 base (x.s::[(b,.cells #[p,.slice x.A x.l.length x.C] 256 (0,0))]::H) (fun u H' => ∃ y:Sl tyB 5,y.l=x.l++[c]∧u = .nilIface∧H' = y.s::[(b,.cells #[.pointer (some ⟨b,0,none⟩),.slice y.A y.l.length y.C] 256 (0,0))]::H):=by
 refine SCalls.of_walk (n:=17) Tryz.func128 rfl rfl rfl fun cs => ?_
 refine At.seq<|At.region<|AtL.assign zg0 rfl rfl<|AtL.done<|At.seq<|At.region ?_
 refine AtL.move zg0 rfl rfl<|AtL.pick (H':=[(b,.cells #[p,.slice x.A x.l.length x.C] 256 (0,0))]::x.s::H) [1,0] 2 rfl rfl<|AtL.call zeU zg0 rfl rfl (bchk_ok hp) ?_
 rintro _ _ ⟨rfl,rfl⟩
 refine AtL.done<|At.seq<|At.region<|AtL.move zg0 rfl rfl<|AtL.move zg0 rfl rfl<|AtL.nilCheck zg0 rfl rfl ?_
 refine AtL.fieldAddrB zbl zg0 rfl rfl rfl<|AtL.load zah zg0 rfl rfl (Cell.own 0 0 rfl rfl rfl)<|AtL.move zg0 rfl rfl<|AtL.buildSlice (cs:=[.int .u8 (c.toNat:Int)]) Tryz.underlying22 zaQ zaR rfl rfl zg0 rfl rfl rfl ?_
 intro b1
 refine AtL.own1 tyB (l:=([c]:List UInt8)) rfl rfl (by first | decide | simp) ?_
 intro s2 o3
 refine AtL.append (l:=x.l) (news:=[c]) 2 zas rfl x.own (o3.rd (i:=0) rfl) (by simp only [List.length_cons,List.length_nil]; omega) zg0 rfl rfl rfl ?_
 intro A4 C5 s6 o7
 refine AtL.nilCheck zg0 rfl rfl<|AtL.fieldAddrB zbl zg0 rfl rfl rfl<|AtL.store (H':=s2::[(b,.cells #[.pointer (some ⟨b,0,none⟩),.slice A4 (x.l++[c]).length C5] 256 (0,0))]::s6::H) 1 0 zba zg0 rfl rfl rfl rfl rfl rfl rfl rfl rfl<|AtL.done<|At.seq<|At.region ?_
 refine AtL.assign zg0 rfl rfl<|AtL.done<|At.pick [2,1] 3 rfl rfl ?_
 exact At.ret Tryz.func128 rfl rfl (⟨⟨A4,C5,x.l++[c],s6,o7⟩,rfl,rfl,rfl⟩)
theorem blen_ok {w0:World}{base:Nat}{H:List Seg}{b:Nat}{p:Value}{x:Sl tyB 5} :
  SCalls Tryz.prog 130 [.pointer (some ⟨b,0,none⟩)] w0 base (x.s::[(b,.cells #[p,.slice x.A x.l.length x.C] 256 (0,0))]::H) (fun v H' => v=int (x.l.length:Int)∧H' = x.s::[(b,.cells #[p,.slice x.A x.l.length x.C] 256 (0,0))]::H):=by
 refine SCalls.of_walk (n:=8) Tryz.func130 rfl rfl rfl fun cs => ?_
 refine At.seq<|At.region<|AtL.assign zg0 rfl rfl<|AtL.done<|At.seq<|At.region ?_
 refine AtL.move zg0 rfl rfl<|AtL.nilCheck zg0 rfl rfl<|AtL.fieldAddrB zbl zg0 rfl rfl rfl<|AtL.load zah zg0 rfl rfl (Cell.own 1 0 rfl rfl rfl)<|AtL.lenL Tryz.underlying22 zg0 rfl rfl<|AtL.assign zg0 rfl rfl ?_
 refine AtL.done ?_
 exact At.ret Tryz.func130 rfl rfl (⟨rfl,rfl⟩)
noncomputable section
inductive W (α:Type) where
  | mk (a:α)
def W.go {α:Type}(w:W α):α:=W.rec (motive:=fun _ => α) (fun a => a) w
inductive Tr (α:Type) where
  | e
  | n (l:Tr α) (x:α) (r:Tr α)
def pth (f:Nat):Nat→List Bool:=Nat.rec (motive:=fun _ => Nat→List Bool) (fun _ => []) (fun _ ih k => match k with
 | 0 => []
 | k + 1 => Nat.beq (Nat.mod k 2) 1::ih (Nat.div k 2)) f
def getP {α:Type}(d:α) (p:List Bool):Tr α→α:=List.rec (motive:=fun _ => Tr α→α)
 (fun t => Tr.rec (motive:=fun _ => α) d (fun _ x _ _ _ => x) t)
 (fun b _ ih t => Tr.rec (motive:=fun _ => α) d (fun l _ r _ _ => Bool.rec (motive:=fun _ => α) (ih l) (ih r) b) t) p
def Tr.get {α:Type}(d:α) (t:Tr α) (k:Nat):α:=getP d (pth k k) t
def Tr.fr {α β:Type}(k:Tr α→β) (t:Tr α):β:=Tr.rec (motive:=fun _ => β) (k .e) (fun l x r _ _ => k (.n l x r)) t
def putP {α:Type}(d v:α) (p:List Bool):Tr α→Tr α:=List.rec (motive:=fun _ => Tr α→Tr α)
 (fun t => Tr.rec (motive:=fun _ => Tr α) (.n .e v .e) (fun l _ r _ _ => .n l v r) t)
 (fun b _ ih t => Tr.rec (motive:=fun _ => Tr α) (Bool.rec (motive:=fun _ => Tr α) (Tr.fr (fun l => .n l d .e) (ih .e)) (Tr.fr (fun r => .n .e d r) (ih .e)) b)
  (fun l x r _ _ => Bool.rec (motive:=fun _ => Tr α) (Tr.fr (fun l => .n l x r) (ih l)) (Tr.fr (fun r => .n l x r) (ih r)) b) t) p
def Tr.put {α β:Type}(d v:α) (t:Tr α) (k:Nat) (c:Tr α→β):β:=Tr.fr c (putP d v (pth k k) t)
def evens {α:Type}:List α→List α
 | [] => []
 | x::l => x::(match l with | [] => [] | _::m => evens m)
def odds {α:Type}:List α→List α
 | [] => []
 | _::l => match l with | [] => [] | y::m => y::odds m
def mkTr {α:Type}:Nat→List α→Tr α
 | 0,_ => .e
 | _ + 1,[] => .e
 | f + 1,x::l => .n (mkTr f (evens l)) x (mkTr f (odds l))
def frN {β:Type}(k:Nat→β) (n:Nat):β:=Nat.rec (motive:=fun _ => β) (k 0) (fun n _ => k (Nat.succ n)) n
inductive LV where
  | undef
  | bool (b:Bool)
  | int (k:IntKind) (n:Int)
  | flt (k:FloatKind) (n:Nat)
  | nan
  | nanb
  | str (len n:Nat)
  | nilp
  | ptr (i o:Nat)
  | gptr (g o:Nat)
  | nils
  | sle
  | sl (i o len cap:Nat)
  | slo (i o len a:Nat)
  | map0
  | map (i:Nat)
  | fn (f:FuncId) (first cap:List LV)
  | yield (l:Nat)
  | nilf
  | ifc (t:TypeId) (v:LV)
  | nili
  | agg (cs:List LV)
  | tup (vs:List LV)
  deriving Inhabited
inductive AD where
  | call (f:FuncId) (args:List LV)
  | coll (r:Nat)
abbrev Fr:=Tr LV
inductive LO where
  | gone
  | rows (sz len:Nat) (t:Tr (List LV))
  | bytes (len n:Nat)
  | map (clock:Nat) (bs:List Nat) (es:List (LV×LV))
  | iter (m:Option Nat) (since:Nat) (seen:List Nat) (last:Nat)
  | loop (st:LoopState) (pend:Option Code) (fn:FuncId) (f:Fr) (ps:List Tmp) (assign body:Code) (dfs:Nat)
  | defd (ds:Option (List AD))
abbrev LH:=Tr LO
inductive Q where
  | bad (why:Nat)
  | ok (v:LV)
inductive Rs where
  | bad (why:Nat)
  | ok (v:LV) (nx:Nat) (h:LH)
def atB (h:LH) (i:Nat):LO:=Tr.get .gone h i
inductive TK where
  | other | flt | bool | int (k:IntKind) | str | ptr (e:TypeId) | slice (e:TypeId) | array (n:Nat) (e:TypeId) | map (k e:TypeId) | struct (fs:List (Nat×Nat×Bool×TypeId)) | iface (any:Bool) | func
  deriving Inhabited
structure TI where
  sz:Nat
  bytes:Nat
  zero:LV
  kind:TK
  cmp:Bool
  ok:Bool
  deriving Inhabited
def bytesNum:List UInt8→Nat
 | [] => 0
 | b::l => b.toNat + 256 * bytesNum l
def cvL (f:Value→LV):List Value→List LV
 | [] => []
 | v::l => f v::cvL f l
def cv:Nat→Value→LV
 | 0,_ => .undef
 | f + 1,v => match v with
  | .bool b => .bool b
  | .int k n => .int k n
  | .float k n => .flt k n
  | .string s => .str s.data.toList.length (bytesNum s.data.toList)
  | .pointer none => .nilp
  | .slice none 0 0 => .nils
  | .map none => .map0
  | .nilFunc => .nilf
  | .nilIface => .nili
  | .iface t v => .ifc t (cv f v)
  | .agg cs => match cs.toList.all (·.oneCell') with
   | true => .agg (cvL (cv f) cs.toList)
   | false => .undef
  | .func (.func g) a b => match a.toList,b.toList with
   | [],[] => .fn g [] []
   | _,_ => .undef
  | _ => .undef
def one:LV→Bool
 | .undef => false
 | .agg _ => false
 | .tup _ => false
 | _ => true
def cells:LV→Option (List LV)
 | .undef => none
 | .tup _ => none
 | .agg cs => some cs
 | v => some [v]
def kN:IntKind→Nat
 | .i8 => 0 | .i16 => 1 | .i32 => 2 | .i64 => 3 | .u8 => 4 | .u16 => 5 | .u32 => 6 | .u64 => 7
def lim:IntKind→Nat
 | .i64 => 9223372036854775808
 | .u64 => 18446744073709551616
 | .u8 => 256
 | .u16 => 65536
 | .u32 => 4294967296
 | .i32 => 2147483648
 | .i8 => 128
 | .i16 => 32768
def bitsN:IntKind→Nat
 | .i64 => 64 | .u64 => 64 | .i32 => 32 | .u32 => 32 | .i16 => 16 | .u16 => 16 | .i8 => 8 | .u8 => 8
def ltI:Int→Int→Bool
 | .ofNat a,.ofNat b => Nat.blt a b
 | .ofNat _,.negSucc _ => false
 | .negSucc _,.ofNat _ => true
 | .negSucc a,.negSucc b => Nat.blt b a
def eqI:Int→Int→Bool
 | .ofNat a,.ofNat b => Nat.beq a b
 | .negSucc a,.negSucc b => Nat.beq a b
 | _,_ => false
def putI (k:IntKind):Int→LV
 | .ofNat n => frN (fun n => .int k (.ofNat n)) n
 | .negSucc n => frN (fun n => .int k (.negSucc n)) n
def mkN (k:IntKind) (n:Nat):LV:=match Nat.blt n (lim k) with
 | true => frN (fun n => .int k (.ofNat n)) n
 | false => putI k (k.wrap (.ofNat n))
def mkI (k:IntKind):Int→LV
 | .ofNat n => mkN k n
 | .negSucc n => match k.signed && Nat.blt n (lim k) with
  | true => frN (fun n => .int k (.negSucc n)) n
  | false => putI k (k.wrap (.negSucc n))
def natOf:LV→Option Nat
 | .int _ (.ofNat n) => some n
 | _ => none
def subN (x o n:Nat):Nat:=Nat.mod (Nat.div x (Nat.pow 256 o)) (Nat.pow 256 n)
def catN (l a b:Nat):Nat:=Nat.add a (Nat.mul b (Nat.pow 256 l))
def byteN (x o:Nat):Nat:=Nat.mod (Nat.div x (Nat.pow 256 o)) 256
def ltN:Nat→Nat→Nat→Nat→Bool
 | _,_,0,_ => false
 | 0,_,_ + 1,_ => true
 | la + 1,a,lb + 1,b => match Nat.beq (Nat.mod a 256) (Nat.mod b 256) with
  | true => ltN la (Nat.div a 256) lb (Nat.div b 256)
  | false => Nat.blt (Nat.mod a 256) (Nat.mod b 256)
def bytesL:Nat→Nat→List LV
 | 0,_ => []
 | n + 1,x => .int .u8 (.ofNat (Nat.mod x 256))::bytesL n (Nat.div x 256)
def byteV:LV→Option Nat
 | .int .u8 (.ofNat b) => match Nat.blt b 256 with
  | true => some b
  | false => none
 | _ => none
def numL:List LV→Option Nat
 | [] => some 0
 | v::l => match byteV v,numL l with
  | some b,some n => some (Nat.add b (Nat.mul 256 n))
  | _,_ => none
def rowsF (t:Tr (List LV)):Nat→Nat→List LV
 | 0,_ => []
 | r + 1,i => Tr.get [] t i++rowsF t r (i + 1)
def readR (sz len:Nat) (t:Tr (List LV)) (o n:Nat):Option (List LV):=match Nat.ble (Nat.add o n) (Nat.mul len sz) with
 | false => none
 | true => match Nat.ble (Nat.add (Nat.mod o sz) n) sz with
  | true => some (((Tr.get [] t (Nat.div o sz)).drop (Nat.mod o sz)).take n)
  | false => match Nat.beq (Nat.mod o sz) 0 && Nat.beq (Nat.mod n sz) 0 with
   | true => some (rowsF t (Nat.div n sz) (Nat.div o sz))
   | false => none
def readB (len x o n:Nat):Option (List LV):=match Nat.ble (Nat.add o n) len with
 | false => none
 | true => some (bytesL n (Nat.div x (Nat.pow 256 o)))
def readO (lo:LO) (o n:Nat):Option (List LV):=match lo with
 | .rows sz len t => readR sz len t o n
 | .bytes len x => readB len x o n
 | _ => none
def cell1 (lo:LO) (o:Nat):Option LV:=match lo with
 | .rows sz len t => match Nat.blt o (Nat.mul len sz) with
  | true => (Tr.get [] t (Nat.div o sz))[Nat.mod o sz]?
  | false => none
 | .bytes len x => match Nat.blt o len with
  | true => some (frN (fun b => .int .u8 (.ofNat b)) (byteN x o))
  | false => none
 | _ => none
def writeRows {β:Type}(sz:Nat) (c:Tr (List LV)→β):Nat→Tr (List LV)→Nat→List LV→β
 | 0,t,_,_ => c t
 | r + 1,t,i,l => Tr.put [] (l.take sz) t i fun t => writeRows sz c r t (i + 1) (l.drop sz)
def rowW (r:Nat) (row l:List LV):List LV:=row.take r++(l++row.drop (Nat.add r l.length))
def writeR (sz len:Nat) (t:Tr (List LV)) (o:Nat) (l:List LV):Option LO:=match Nat.ble (Nat.add o l.length) (Nat.mul len sz) with
 | false => none
 | true => match Nat.ble (Nat.add (Nat.mod o sz) l.length) sz with
  | true => Tr.put [] (rowW (Nat.mod o sz) (Tr.get [] t (Nat.div o sz)) l) t (Nat.div o sz) fun t => some (.rows sz len t)
  | false => match Nat.beq (Nat.mod o sz) 0 && Nat.beq (Nat.mod l.length sz) 0 with
   | true => writeRows sz (fun t => some (.rows sz len t)) (Nat.div l.length sz) t (Nat.div o sz) l
   | false => none
def bytesW (x o n y:Nat):Nat:=catN o (subN x 0 o) (catN n y (Nat.div x (Nat.pow 256 (Nat.add o n))))
def writeB (len x o n y:Nat):Option LO:=match Nat.ble (Nat.add o n) len with
 | true => frN (fun z => some (.bytes len z)) (bytesW x o n y)
 | false => none
def writeO (lo:LO) (o:Nat) (l:List LV):Option LO:=match lo with
 | .rows sz len t => writeR sz len t o l
 | .bytes len x => match numL l with
  | some y => writeB len x o l.length y
  | none => none
 | _ => none
def putB (h:LH) (i:Nat) (lo:LO) (v:LV) (nx:Nat):Rs:=Tr.put .gone lo h i fun h => .ok v nx h
def writeC (h:LH) (i o:Nat) (l:List LV) (v:LV) (nx:Nat):Rs:=match writeO (atB h i) o l with
 | some lo => putB h i lo v nx
 | none => .bad 24
def writeM (lo:LO) (o n y:Nat):Option LO:=match lo with
 | .bytes len x => writeB len x o n y
 | lo => writeO lo o (bytesL n y)
def writeN (h:LH) (i o n y:Nat) (v:LV) (nx:Nat):Rs:=match writeM (atB h i) o n y with
 | some lo => putB h i lo v nx
 | none => .bad 25
def newB (lo:LO) (v:LV) (nx:Nat) (h:LH):Rs:=match Nat.blt nx 1000000 with
 | true => Tr.put .gone lo h nx fun h => frN (fun m => .ok v m h) (Nat.succ nx)
 | false => .bad 26
def mkR (sz:Nat) (l:List LV):Option LO:=match Nat.blt 0 sz && (Nat.beq (Nat.mod l.length sz) 0 && Nat.blt l.length 1000000) with
 | true => writeRows sz (fun t => some (.rows sz (Nat.div l.length sz) t)) (Nat.div l.length sz) .e 0 l
 | false => none
def mkLO (byte:Bool) (sz:Nat) (l:List LV):Option LO:=match byte with
 | true => match numL l with
  | some x => frN (fun x => some (.bytes l.length x)) x
  | none => none
 | false => mkR sz l
def repL:Nat→List LV→List LV
 | 0,_ => []
 | n + 1,l => l++repL n l
def fill1 (cs:List LV) (o s:Nat) (vs:List LV):Option (List LV):=match Nat.beq vs.length s && Nat.ble (o + s) cs.length with
 | true => some (cs.take o++(vs++cs.drop (o + s)))
 | false => none
def fillC (place:Nat→Option (Nat×Nat)):List LV→List (Nat×LV)→Option (List LV)
 | cs,[] => some cs
 | cs,(i,v)::rest => match place i with
  | none => none
  | some (o,s) => match cells v with
   | none => none
   | some vs => match fill1 cs o s vs with
    | some cs => fillC place cs rest
    | none => none
def aggB:Option TypeDesc→Bool
 | some (.struct _) => true
 | some (.array _ _) => true
 | _ => false
def szOf (P:Program) (t:TypeId):Nat:=match P.info? t with
 | some i => i.size
 | none => 0
def known (P:Program) (t:TypeId):Bool:=Nat.blt t P.types.size && ((P.underlying t).isSome && (match P.info? t with
 | some i => match i.zero with
  | some z => Nat.beq z.cells.size i.size
  | none => true
 | none => false))
def kindOf (P:Program) (t:TypeId):TK:=match P.underlying t with
 | some .bool => .bool
 | some (.int k) => .int k
 | some .string => .str
 | some (.float .f64) => .flt
 | some (.pointer e) => match known P e with | true => .ptr e | false => .other
 | some (.slice e) => match known P e with | true => .slice e | false => .other
 | some (.array n e) => match known P e with | true => .array n e | false => .other
 | some (.map k e) => match known P k && known P e with | true => .map k e | false => .other
 | some (.struct fs) => match fs.toList.all (fun f => known P f.type) with
  | true => .struct (fs.toList.map fun f => (f.offset,szOf P f.type,aggB (P.underlying f.type),f.type))
  | false => .other
 | some (.interface ms) => .iface ms.isEmpty
 | some (.func _ _ _) => .func
 | _ => .other
def flat (P:Program) (t:TypeId):Bool:=match P.underlying t with
 | some (.struct _) => false
 | some (.array _ _) => false
 | some _ => true
 | none => false
def cmpOf (P:Program) (t:TypeId) (i:TypeInfo):Bool:=i.comparable && !(P.stoodInHeld t) && !(P.eqGuardType P.depth t) && (match P.underlying t with
 | some (.struct fs) => fs.toList.all fun f => f.name != "_"
 | _ => true)
def mkTI (P:Program) (t:TypeId):TI:=match known P t with
 | true => match P.info? t with
  | some i => ⟨i.size,i.bytes,match i.zero with | some z => cv 50 z | none => .undef,kindOf P t,cmpOf P t i,flat P t⟩
  | none => default
 | false => default
def isAgg:TK→Bool
 | .struct _ => true
 | .array _ _ => true
 | _ => false
end
noncomputable section
inductive Mw where
  | plain (f:FuncId)
  | loads (f:FuncId) (e:TypeId)
  | fields (f:FuncId) (o:Nat)
structure Cx where
  ty:Nat→TI
  fn:Nat→Option Func
  pr:Nat→Option (List LV→Nat→LH→Rs)
  gl:Nat→Nat→Option LV
  mt:TypeId→String→Option Mw
abbrev SlF:=Nat→LV
def compX (x:Operand):W (SlF→LV):=match x with
 | .tmp t => .mk fun f => f t
 | .const v => .mk fun _ => cv 50 v
 | .global g => .mk fun _ => .gptr g 0
 | .func g => .mk fun _ => .fn g [] []
def evO (x:Operand) (f:SlF):LV:=(compX x).go f
def okV (v:LV):Q:=match v with
 | .undef => .bad 99
 | v => .ok v
def optQ (n:Nat) (v:Option LV):Q:=match v with
 | some v => .ok v
 | none => .bad n
def addI:Int→Int→Int
 | .ofNat a,.ofNat b => .ofNat (Nat.add a b)
 | a,b => a + b
def subI:Int→Int→Int
 | .ofNat a,.ofNat b => match Nat.ble b a with
  | true => .ofNat (Nat.sub a b)
  | false => .negSucc (Nat.pred (Nat.sub b a))
 | a,b => a - b
def mulI:Int→Int→Int
 | .ofNat a,.ofNat b => .ofNat (Nat.mul a b)
 | a,b => a * b
def divQ (k:IntKind):Int→Int→Q
 | .ofNat a,.ofNat (b + 1) => .ok (mkN k (Nat.div a (Nat.succ b)))
 | a,b => match eqI b 0 with
  | true => .bad 10
  | false => .ok (mkI k (a.tdiv b))
def remQ (k:IntKind):Int→Int→Q
 | .ofNat a,.ofNat (b + 1) => .ok (frN (fun n => .int k (.ofNat n)) (Nat.mod a (Nat.succ b)))
 | a,b => match eqI b 0 with
  | true => .bad 10
  | false => .ok (putI k (a.tmod b))
def bitQ (g:Nat→Nat→Nat) (k:IntKind):Int→Int→Q
 | .ofNat a,.ofNat b => .ok (mkN k (g a b))
 | _,_ => .bad 8
def notN (a b:Nat):Nat:=Nat.xor a (Nat.land a b)
abbrev IQ:=IntKind→Int→Int→Q
abbrev SQ:=Nat→Nat→Nat→Nat→Q
def intI (g:IQ) (k:IntKind) (x:Int) (b:LV):Q:=match b with
 | .int k' y => match Nat.beq (kN k) (kN k') with
  | true => g k x y
  | false => .bad 16
 | _ => .bad 16
def strS (s:SQ) (la x:Nat) (b:LV):Q:=match b with
 | .str lb y => s la x lb y
 | _ => .bad 17
def numQ (g:IQ) (s:SQ) (e:LV→LV→Q) (a b:LV):Q:=match a with
 | .int k x => intI g k x b
 | .str la x => strS s la x b
 | a => e a b
def fl1 (g:Option Ordering→Bool) (k:FloatKind) (x:Nat) (b:LV):Q:=match k,b with
 | .f64,.flt .f64 y => .ok (.bool (g (Ieee.double.order x y)))
 | .f64,.nan => .ok (.bool (g none))
 | _,_ => .bad 15
def fl2 (g:Option Ordering→Bool) (b:LV):Q:=match b with
 | .flt .f64 _ => .ok (.bool (g none))
 | .nan => .ok (.bool (g none))
 | _ => .bad 15
def flE (g:Option Ordering→Bool) (e:LV→LV→Q) (a b:LV):Q:=match a with
 | .flt k x => fl1 g k x b
 | .nan => fl2 g b
 | a => e a b
def isOEq (c:Option Ordering):Bool:=match c with
 | some .eq => true
 | _ => false
def isOLt (c:Option Ordering):Bool:=match c with
 | some .lt => true
 | _ => false
def isOGt (c:Option Ordering):Bool:=match c with
 | some .gt => true
 | _ => false
def nbE (a b:LV):Q:=match a,b with
 | .nanb,.int .u64 (.ofNat 9223372036854775808) => .ok .nanb
 | _,_ => .bad 15
def noS:SQ:=fun _ _ _ _ => .bad 13
def noE:LV→LV→Q:=fun _ _ => .bad 15
def shN (k:IntKind) (n:Nat):Nat:=Nat.pow 2 (match Nat.ble n (bitsN k) with | true => n | false => bitsN k)
def shlI (k:IntKind) (a b:Int):Q:=match b with
 | .negSucc _ => .bad 12
 | .ofNat n => .ok (mkI k (mulI a (.ofNat (shN k n))))
def shrI (k:IntKind) (a b:Int):Q:=match a,b with
 | .ofNat x,.ofNat n => .ok (frN (fun n => .int k (.ofNat n)) (Nat.div x (shN k n)))
 | _,_ => .bad 12
def shQ (g:IntKind→Int→Int→Q) (a b:LV):Q:=match a with
 | .int k x => match b with
  | .int _ y => g k x y
  | _ => .bad 16
 | _ => .bad 16
def catQ (la a lb b:Nat):Q:=match Nat.blt (Nat.add la lb) 1000000 with
 | true => frN (fun l => frN (fun n => .ok (.str l n)) (catN la a b)) (Nat.add la lb)
 | false => .bad 13
def eqS (la a lb b:Nat):Bool:=Nat.beq la lb && Nat.beq a b
def partV (ag:Bool) (n:Nat) (cs:List LV) (o:Nat):Option LV:=match ag with
 | true => match Nat.ble (o + n) cs.length with
  | true => some (.agg ((cs.drop o).take n))
  | false => none
 | false => cs[o]?
section
variable (ty:Nat→TI)
abbrev EQ:=LV→LV→Option Bool
def eqFs (f:TypeId→EQ) (xs ys:List LV):List (Nat×Nat×Bool×TypeId)→Option Bool
 | [] => some true
 | (o,n,ag,t)::fs => match partV ag n xs o,partV ag n ys o with
  | some a,some b => match f t a b with
   | some true => eqFs f xs ys fs
   | r => r
  | _,_ => none
def eqAs (f:EQ) (ag:Bool) (sz:Nat) (xs ys:List LV):Nat→Nat→Option Bool
 | 0,_ => some true
 | r + 1,i => match partV ag sz xs (Nat.mul i sz),partV ag sz ys (Nat.mul i sz) with
  | some a,some b => match f a b with
   | some true => eqAs f ag sz xs ys r (i + 1)
   | r => r
  | _,_ => none
def eqBool:EQ:=fun a b => match a,b with
 | .bool a,.bool b => some (a == b)
 | _,_ => none
def eqInt:EQ:=fun a b => match a,b with
 | .int k a,.int k' b => match Nat.beq (kN k) (kN k') with
  | true => some (eqI a b)
  | false => none
 | _,_ => none
def eqStr:EQ:=fun a b => match a,b with
 | .str la a,.str lb b => some (eqS la a lb b)
 | _,_ => none
def eqPtr (lv:Nat→Bool) (sz:Nat):EQ:=fun a b => match a,b with
 | .nilp,.nilp => some true
 | .nilp,.ptr _ _ => some false
 | .ptr _ _,.nilp => some false
 | .nilp,.gptr _ _ => some false
 | .gptr _ _,.nilp => some false
 | .ptr i o,.ptr j p => match Nat.blt 0 sz,Nat.beq i j with
  | true,true => some (Nat.beq o p)
  | true,false => match lv i && lv j with
   | true => some false
   | false => none
  | false,_ => none
 | .gptr i o,.gptr j p => match Nat.blt 0 sz && Nat.beq i j with
  | true => some (Nat.beq o p)
  | false => none
 | _,_ => none
def eqSl:EQ:=fun a b => match a,b with
 | .nils,.nils => some true
 | .nils,.sl _ _ _ _ => some false
 | .nils,.slo _ _ _ _ => some false
 | .sl _ _ _ _,.nils => some false
 | .slo _ _ _ _,.nils => some false
 | _,_ => none
def eqMp:EQ:=fun a b => match a,b with
 | .map0,.map0 => some true
 | .map0,.map _ => some false
 | .map _,.map0 => some false
 | _,_ => none
def eqFn:EQ:=fun a b => match a,b with
 | .nilf,.nilf => some true
 | .nilf,.fn _ _ _ => some false
 | .fn _ _ _,.nilf => some false
 | _,_ => none
def eqIfc (f:TypeId→EQ):EQ:=fun a b => match a,b with
 | .nili,.nili => some true
 | .nili,.ifc _ _ => some false
 | .ifc _ _,.nili => some false
 | .ifc t a,.ifc u b => match Nat.beq t u with
  | false => some false
  | true => match (ty t).cmp with
   | true => f t a b
   | false => none
 | _,_ => none
def eqAgg (f:List LV→List LV→Option Bool):EQ:=fun a b => match a,b with
 | .agg l,.agg m => f l m
 | _,_ => none
def eqT (lv:Nat→Bool):Nat→TypeId→EQ
 | 0,_ => fun _ _ => none
 | f + 1,t => match (ty t).kind with
  | .bool => eqBool
  | .int _ => eqInt
  | .str => eqStr
  | .ptr e => eqPtr lv (ty e).sz
  | .iface _ => eqIfc ty (eqT lv f)
  | .struct fs => match (ty t).cmp with
   | true => eqAgg fun l m => eqFs (eqT lv f) l m fs
   | false => fun _ _ => none
  | .array n e => match (ty t).cmp with
   | true => eqAgg fun l m => eqAs (eqT lv f e) (!(ty e).ok) (ty e).sz l m n 0
   | false => fun _ _ => none
  | .slice _ => eqSl
  | .map _ _ => eqMp
  | .func => eqFn
  | .other => fun _ _ => none
  | .flt => fun _ _ => none
def liveR (h:LH) (i:Nat):Bool:=match atB h i with
 | .rows _ _ _ => true
 | _ => false
def isC:Operand→Bool
 | .const _ => true
 | _ => false
def grd (t:TypeId) (c:Bool) (a b:LV):Bool:=match a,b with
 | .nili,.nili => c
 | .agg _,.agg _ => (ty t).cmp
 | _,_ => true
def eqQ (lv:Nat→Bool) (neg:Bool) (t:TypeId) (c:Bool) (a b:LV):Q:=match grd ty t c a b with
 | true => match eqT ty lv 20 t a b with
  | some r => .ok (.bool (match neg with | true => !r | false => r))
  | none => .bad 14
 | false => .bad 14
def cmpI (g:Int→Int→Bool):IQ:=fun _ a b => .ok (.bool (g a b))
def cmpS (g:Nat→Nat→Nat→Nat→Bool):SQ:=fun la a lb b => .ok (.bool (g la a lb b))
def binQ (op:BinOp) (t:TypeId) (c:Bool):W (LV→LV→LH→Q):=match op with
 | .add => .mk fun a b h => numQ (fun k a b => .ok (mkI k (addI a b))) catQ noE a b
 | .sub => .mk fun a b h => numQ (fun k a b => .ok (mkI k (subI a b))) noS noE a b
 | .mul => .mk fun a b h => numQ (fun k a b => .ok (mkI k (mulI a b))) noS noE a b
 | .quo => .mk fun a b h => numQ divQ noS noE a b
 | .rem => .mk fun a b h => numQ remQ noS noE a b
 | .and => .mk fun a b h => numQ (bitQ Nat.land) noS noE a b
 | .or => .mk fun a b h => numQ (bitQ Nat.lor) noS noE a b
 | .xor => .mk fun a b h => numQ (bitQ Nat.xor) noS noE a b
 | .andNot => .mk fun a b h => numQ (bitQ notN) noS nbE a b
 | .eql => .mk fun a b h => numQ (cmpI eqI) (cmpS eqS) (flE isOEq (eqQ ty (liveR h) false t c)) a b
 | .neq => .mk fun a b h => numQ (cmpI fun a b => !eqI a b) (cmpS fun a b c d => !eqS a b c d) (flE (fun c => !isOEq c) (eqQ ty (liveR h) true t c)) a b
 | .lss => .mk fun a b h => numQ (cmpI ltI) (cmpS ltN) (flE isOLt noE) a b
 | .leq => .mk fun a b h => numQ (cmpI fun a b => !ltI b a) (cmpS fun a b c d => !ltN c d a b) (flE (fun c => isOLt c || isOEq c) noE) a b
 | .gtr => .mk fun a b h => numQ (cmpI fun a b => ltI b a) (cmpS fun a b c d => ltN c d a b) (flE isOGt noE) a b
 | .geq => .mk fun a b h => numQ (cmpI fun a b => !ltI a b) (cmpS fun a b c d => !ltN a b c d) (flE (fun c => isOGt c || isOEq c) noE) a b
 | .shl => .mk fun a b h => shQ shlI a b
 | .shr => .mk fun a b h => shQ shrI a b
end
def notQ (k:IntKind):Int→Q
 | .negSucc _ => .bad 19
 | .ofNat n => match k.signed with
  | true => .ok (mkI k (.negSucc n))
  | false => match Nat.blt n (lim k) with
   | true => .ok (mkN k (Nat.sub (Nat.pred (lim k)) n))
   | false => .bad 19
def negQ (a:LV):Q:=match a with
 | .int k x => .ok (mkI k (subI (.ofNat 0) x))
 | _ => .bad 19
def xorQ (a:LV):Q:=match a with
 | .int k x => notQ k x
 | _ => .bad 19
def nbQ (a:LV):Q:=match a with
 | .bool b => .ok (.bool (!b))
 | _ => .bad 19
def unQ (op:UnOp):LV→Q:=match op with
 | .neg => negQ
 | .xor => xorQ
 | .not => nbQ
 | _ => fun _ => .bad 19
section
variable (cx:Cx)
def isByte (e:TypeId):Bool:=match (cx.ty e).kind with
 | .int .u8 => Nat.beq (cx.ty e).sz 1
 | _ => false
def aggQ (l:Option (List LV)):Q:=match l with
 | some l => .ok (.agg l)
 | none => .bad 20
def loadE (t:TypeId):W (LV→LH→Q):=match (cx.ty t).ok with
 | false => match isAgg (cx.ty t).kind with
  | true => .mk fun a h => match a with
   | .ptr i o => aggQ (readO (atB h i) o (cx.ty t).sz)
   | _ => .bad 23
  | false => .mk fun _ _ => .bad 23
 | true => .mk fun a h => match a with
  | .ptr i o => optQ 21 (cell1 (atB h i) o)
  | .gptr g o => optQ (10000 + g) (cx.gl g o)
  | _ => .bad 23
def lenE (a:LV):Option Nat:=match a with
 | .str n _ => some n
 | .nils => some 0
 | .sle => some 0
 | .sl _ _ n _ => some n
 | .slo _ _ n _ => some n
 | _ => none
def firstE (h:LH) (s n:Nat) (x:LV):Option (List LV):=match n with
 | 0 => some []
 | n + 1 => match x with
  | .str _ y => some (bytesL (n + 1) y)
  | .sl i o _ _ => readO (atB h i) o (Nat.mul (n + 1) s)
  | .slo i o _ _ => readO (atB h i) o (Nat.mul (n + 1) s)
  | _ => none
def readN (lo:LO) (o n:Nat):Option Nat:=match lo with
 | .bytes len y => match Nat.ble (Nat.add o n) len with
  | true => some (subN y o n)
  | false => none
 | lo => match readO lo o n with
  | some l => numL l
  | none => none
def firstN (h:LH) (n:Nat) (x:LV):Option Nat:=match n with
 | 0 => some 0
 | n + 1 => match x with
  | .str _ y => some (subN y 0 (n + 1))
  | .sl i o _ _ => readN (atB h i) o (n + 1)
  | .slo i o _ _ => readN (atB h i) o (n + 1)
  | _ => none
def szB:LO→Nat
 | .rows sz _ _ => sz
 | .bytes _ _ => 1
 | _ => 0
def knownB:LO→Nat
 | .rows sz len _ => Nat.mul len sz
 | .bytes len _ => len
 | _ => 0
def boundE (d:Nat):Option LV→Option Nat
 | none => some d
 | some v => natOf v
def offE (m l o sz:Nat):Nat:=match Nat.beq m l with
 | true => o
 | false => Nat.add o (Nat.mul l sz)
def okB (b:Bool) (n:Nat) (v:LV):Q:=match b with
 | true => .ok v
 | false => .bad n
def slE (i o sz l j m:Nat):LV:=frN (fun o => frN (fun n => frN (fun c => .sl i o n c) (Nat.sub m l)) (Nat.sub j l)) (offE m l o sz)
def sloA (l o a:Nat):Nat:=match l with
 | 0 => a
 | _ => o
def sloE (i o sz l j a:Nat):LV:=frN (fun a => frN (fun o => frN (fun n => .slo i o n a) (Nat.sub j l)) (Nat.add o (Nat.mul l sz))) (sloA l o a)
def cutS (n y l j:Nat):Q:=match Nat.ble l j && Nat.ble j n with
 | true => frN (fun m => frN (fun z => .ok (.str m z)) (subN y l m)) (Nat.sub j l)
 | false => .bad 42
def cutSlo (sz:Nat) (i o n a l j:Nat) (mx:Option LV) (hi:Option LV) (h:LH):Q:=match mx with
 | none => okB (Nat.blt 0 sz && (Nat.beq sz (szB (atB h i)) && (Nat.ble l j && (Nat.ble j n || Nat.ble (Nat.add o (Nat.mul j sz)) (knownB (atB h i)))))) 44 (sloE i o sz l j a)
 | some v => match natOf v,hi with
  | some m,some _ => okB (Nat.blt 0 n && (Nat.ble l j && (Nat.ble j m && Nat.ble m n))) 44 (slE i o sz l j m)
  | _,_ => .bad 41
def cutSl (e:Nat) (x:LV) (l:Nat) (hi mx:Option LV) (h:LH):Q:=match x with
 | .nils => match mx,l,boundE 0 hi with
  | none,0,some 0 => .ok .nils
  | _,_,_ => .bad 42
 | .sl i o n c => match boundE c mx,boundE n hi,mx.isSome && hi.isNone with
  | some m,some j,false => okB (Nat.ble l j && (Nat.ble j m && Nat.ble m c)) 42 (slE i o (cx.ty e).sz l j m)
  | _,_,_ => .bad 43
 | .slo i o n a => match boundE n hi with
  | some j => cutSlo (cx.ty e).sz i o n a l j mx hi h
  | none => .bad 43
 | _ => .bad 45
def cutA (n e:Nat) (x:LV) (l:Nat) (hi mx:Option LV):Q:=match x,mx,boundE n hi with
 | .ptr i o,none,some j => okB (Nat.ble l j && Nat.ble j n) 42 (slE i o (cx.ty e).sz l j n)
 | _,_,_ => .bad 41
def cutStr (x:LV) (l:Nat) (hi mx:Option LV):Q:=match x,mx with
 | .str n y,none => match boundE n hi with
  | some j => cutS n y l j
  | none => .bad 41
 | _,_ => .bad 41
def sliceE (xt:TypeId):W (LV→Option LV→Option LV→Option LV→LH→Q):=match (cx.ty xt).kind with
 | .str => .mk fun x lo hi mx h => match boundE 0 lo with
  | some l => cutStr x l hi mx
  | none => .bad 41
 | .slice e => .mk fun x lo hi mx h => match boundE 0 lo with
  | some l => cutSl cx e x l hi mx h
  | none => .bad 41
 | .array n e => .mk fun x lo hi mx h => match boundE 0 lo with
  | some l => cutA cx n e x l hi mx
  | none => .bad 41
 | _ => .mk fun _ _ _ _ _ => .bad 43
def fld (t:TypeId) (f:Nat):Option (Nat×Nat×Bool):=match (cx.ty t).kind with
 | .struct fs => match fs[f]? with
  | some (o,n,ag,_) => some (o,n,ag)
  | none => none
 | _ => none
def addP (a:LV) (d:Nat):Q:=match a with
 | .ptr i o => .ok (frN (fun o => .ptr i o) (Nat.add o d))
 | .gptr i o => .ok (frN (fun o => .gptr i o) (Nat.add o d))
 | _ => .bad 46
def fieldAddrE (s f:Nat):W (LV→Q):=match fld cx s f with
 | some (off,n + 1,_) => .mk fun a => addP a off
 | _ => .mk fun _ => .bad 47
def fieldE (s f:Nat):W (LV→Q):=match fld cx s f with
 | some (off,n,ag) => .mk fun a => match a with
  | .agg cs => optQ 48 (partV ag n cs off)
  | _ => .bad 49
 | none => .mk fun _ => .bad 47
def idxP (i o n j sz:Nat):Q:=match Nat.blt j n with
 | true => .ok (frN (fun o => .ptr i o) (Nat.add o (Nat.mul j sz)))
 | false => .bad 51
def idxS (sz:Nat) (x ix:LV):Q:=match natOf ix with
 | none => .bad 50
 | some j => match x with
  | .sl i o n _ => idxP i o n j sz
  | .slo i o n _ => idxP i o n j sz
  | _ => .bad 52
def idxA (n sz:Nat) (x ix:LV):Q:=match natOf ix with
 | none => .bad 50
 | some j => match Nat.blt j n with
  | true => addP x (Nat.mul j sz)
  | false => .bad 51
def indexAddrE (t:TypeId):W (LV→LV→Q):=match (cx.ty t).kind with
 | .slice e => .mk (idxS (cx.ty e).sz)
 | .array n e => .mk (idxA n (cx.ty e).sz)
 | _ => .mk fun _ _ => .bad 53
def idxStr (x ix:LV):Q:=match natOf ix with
 | none => .bad 50
 | some j => match x with
  | .str n y => match Nat.blt j n with
   | true => .ok (frN (fun b => .int .u8 (.ofNat b)) (byteN y j))
   | false => .bad 54
  | _ => .bad 54
def idxV (n:Nat) (ag:Bool) (sz:Nat) (x ix:LV):Q:=match natOf ix with
 | none => .bad 50
 | some j => match x with
  | .agg cs => match Nat.blt j n with
   | true => optQ 55 (partV ag sz cs (Nat.mul j sz))
   | false => .bad 54
  | _ => .bad 57
def indexE (t:TypeId):W (LV→LV→Q):=match (cx.ty t).kind with
 | .str => .mk idxStr
 | .array n e => .mk (idxV n (!(cx.ty e).ok) (cx.ty e).sz)
 | _ => .mk fun _ _ => .bad 56
def plain:Nat→LV→Bool
 | 0,_ => false
 | f + 1,v => match v with
  | .int _ _ => true
  | .str _ _ => true
  | .bool _ => true
  | .agg l => l.all (plain f)
  | _ => false
def keyT (t:TypeId):Bool:=match (cx.ty t).kind with
 | .int _ => true
 | .str => true
 | .bool => true
 | .struct _ => (cx.ty t).cmp
 | .array _ _ => (cx.ty t).cmp
 | _ => false
def eqKey (t:TypeId):EQ:=eqT cx.ty (fun _ => false) 10 t
def keyK (t:TypeId) (a:LV):Bool:=keyT cx t && (plain 5 a && (match eqKey cx t a a with
 | some b => b
 | none => false))
def samePs (f:LV→LV→Bool):List LV→List LV→Bool
 | [],[] => true
 | a::l,b::m => match f a b with
  | true => samePs f l m
  | false => false
 | _,_ => false
def samePl:Nat→LV→LV→Bool
 | 0,_,_ => false
 | f + 1,a,b => match a,b with
  | .bool a,.bool b => a == b
  | .int k a,.int k' b => Nat.beq (kN k) (kN k') && eqI a b
  | .str l a,.str m b => eqS l a m b
  | .agg l,.agg m => samePs (samePl f) l m
  | _,_ => false
def findM (t:TypeId) (k:LV):List (LV×LV)→Option (Option LV)
 | [] => some none
 | (a,v)::l => match eqKey cx t k a with
  | some true => some (some v)
  | some false => findM t k l
  | none => none
def posM (t:TypeId) (k:LV):List (LV×LV)→Option (Option Nat)
 | [] => some none
 | (a,v)::l => match eqKey cx t k a with
  | some true => some (some 0)
  | some false => match posM t k l with
   | some (some i) => some (some (i + 1))
   | r => r
  | none => none
def foundM (kt:TypeId) (x k:LV) (h:LH):Option (Option LV):=match keyK cx kt k with
 | false => none
 | true => match x with
  | .map0 => some none
  | .map i => match atB h i with
   | .map _ _ es => findM cx kt k es
   | _ => none
  | _ => none
def lookV (z:LV) (ok:Bool) (r:Option (Option LV)):Q:=match r,ok with
 | some (some v),true => .ok (.tup [v,.bool true])
 | some (some v),false => .ok v
 | some none,true => match okV z with
  | .ok z => .ok (.tup [z,.bool false])
  | r => r
 | some none,false => okV z
 | none,_ => .bad 60
def lookupE (t:TypeId) (ok:Bool):W (LV→LV→LH→Q):=match (cx.ty t).kind with
 | .map kt e => .mk fun x k h => lookV (cx.ty e).zero ok (foundM cx kt x k h)
 | _ => .mk fun _ _ _ => .bad 61
def cvI (k:IntKind) (x:LV):Q:=match x with
 | .int _ n => .ok (mkI k n)
 | _ => .bad 70
def cvF (x:LV):Q:=match x with
 | .int _ n => frN (fun m => .ok (.flt .f64 m)) (FloatKind.f64.nearest n)
 | _ => .bad 74
def cvB (x:LV) (h:LH):Q:=match lenE x with
 | some n => match firstN h n x with
  | some y => frN (fun y => .ok (.str n y)) y
  | none => .bad 72
 | none => .bad 73
def cvS (b:Bool) (x:LV) (h:LH):Q:=match x with
 | .str l n => .ok (.str l n)
 | x => match b with
  | true => cvB x h
  | false => .bad 73
def byteSl (s:TypeId):Bool:=match (cx.ty s).kind with
 | .slice e => isByte cx e
 | _ => false
def isK (t:TI):Bool:=t.ok || isAgg t.kind
def convE (s d:TypeId):W (LV→LH→Q):=match isK (cx.ty s) with
 | false => .mk fun _ _ => .bad 76
 | true => match (cx.ty d).kind with
  | .int k => .mk fun x _ => cvI k x
  | .flt => .mk fun x _ => cvF x
  | .str => .mk (cvS (byteSl cx s))
  | _ => .mk fun _ _ => .bad 76
def min2 (mx:Bool) (a b:LV):Option LV:=match a,b with
 | .int k x,.int _ y => match (match mx with | true => ltI x y | false => ltI y x) with
  | true => some (.int k y)
  | false => some (.int k x)
 | _,_ => none
def minE (mx:Bool):LV→List LV→Option LV
 | a,[] => some a
 | a,b::l => match min2 mx a b with
  | some c => minE mx c l
  | none => none
def goN (n:Nat):LV:=frN (fun n => .int .i64 (.ofNat n)) n
def lenMap (x:LV) (h:LH):Option Nat:=match x with
 | .map0 => some 0
 | .map i => match atB h i with
  | .map _ _ es => some es.length
  | _ => none
 | _ => none
def lenStr (x:LV):Option Nat:=match x with
 | .str n _ => some n
 | _ => none
def lenSl (x:LV):Option Nat:=match x with
 | .nils => some 0
 | .sle => some 0
 | .sl _ _ n _ => some n
 | .slo _ _ n _ => some n
 | _ => none
def arrN (t:TypeId):Option Nat:=match (cx.ty t).kind with
 | .array n _ => some n
 | _ => none
def lenB (t:TypeId):W (LV→LH→Option Nat):=match (cx.ty t).kind with
 | .str => .mk fun x _ => lenStr x
 | .slice _ => .mk fun x _ => lenSl x
 | .array n _ => .mk fun _ _ => some n
 | .ptr a => .mk fun _ _ => arrN cx a
 | .map _ _ => .mk lenMap
 | _ => .mk fun _ _ => none
def capQ (x:LV):Q:=match x with
 | .sl _ _ _ c => .ok (goN c)
 | .nils => .ok (goN 0)
 | _ => .bad 86
def numE (n:Option Nat):Q:=match n with
 | some n => .ok (goN n)
 | none => .bad 82
def bestE (mx:Bool) (l:List LV):Q:=match l with
 | a::l => optQ 87 (minE mx a l)
 | [] => .bad 87
def builtQ (b:Builtin) (ts:List TypeId):W (List LV→LH→Q):=match b,ts with
 | .len,t::_ => .mk fun l h => match l with
  | [x] => numE ((lenB cx t).go x h)
  | _ => .bad 83
 | .cap,t::_ => match (cx.ty t).kind with
  | .slice _ => .mk fun l _ => match l with
   | [x] => capQ x
   | _ => .bad 83
  | _ => .mk fun _ _ => .bad 86
 | .min,_ => .mk fun l _ => bestE false l
 | .max,_ => .mk fun l _ => bestE true l
 | _,_ => .mk fun _ _ => .bad 200
def nilQ (v:LV):Q:=match v with
 | .ptr i o => .ok (.ptr i o)
 | .gptr g o => .ok (.gptr g o)
 | .ifc t v => .ok (.ifc t v)
 | .fn g a b => .ok (.fn g a b)
 | .yield l => .ok (.yield l)
 | _ => .bad 105
def pickQ (c a b:LV):Q:=match c with
 | .bool true => okV a
 | .bool false => okV b
 | _ => .bad 100
def buildQ (place:Nat→Option (Nat×Nat)) (z:Option (List LV)) (ps:List (Nat×LV)):Q:=match z with
 | some z => aggQ (fillC place z ps)
 | none => .bad 101
def plcS (fs:List (Nat×Nat×Bool×TypeId)) (i:Nat):Option (Nat×Nat):=match fs[i]? with
 | some (o,n,_) => some (o,n)
 | none => none
def plcA (sz i:Nat):Option (Nat×Nat):=some (Nat.mul i sz,sz)
def partsE (ps:List (Nat×Operand)) (f:SlF):List (Nat×LV):=match ps with
 | [] => []
 | p::ps => (p.1,evO p.2 f)::partsE ps f
def buildE (t:TypeId):W (List (Nat×LV)→Q):=match (cx.ty t).kind with
 | .struct fs => .mk (buildQ (plcS fs) (cells (cx.ty t).zero))
 | .array _ e => .mk (buildQ (plcA (cx.ty e).sz) (cells (cx.ty t).zero))
 | _ => .mk fun _ => .bad 102
def ifcE (t:TypeId):W (LV→Q):=match (cx.ty t).kind with
 | .iface _ => .mk fun _ => .bad 98
 | .other => .mk fun _ => .bad 98
 | _ => .mk fun v => match okV v with
  | .ok v => .ok (.ifc t v)
  | r => r
def extQ (v:LV) (i:Nat):Q:=match v with
 | .tup vs => match vs[i]? with
  | some v => okV v
  | none => .bad 110
 | _ => .bad 111
def zF (z:LV):Q:=match okV z with
 | .ok z => .ok (.tup [z,.bool false])
 | r => r
def asV (a:TypeId) (z:LV) (ok:Bool) (x:LV):Q:=match x,ok with
 | .ifc t v,true => match Nat.beq t a with
  | true => .ok (.tup [v,.bool true])
  | false => zF z
 | .ifc t v,false => match Nat.beq t a with
  | true => .ok v
  | false => .bad 113
 | .nili,true => zF z
 | _,_ => .bad 114
def asI (z:LV) (ok:Bool) (x:LV):Q:=match x,ok with
 | .nili,true => zF z
 | _,_ => .bad 112
def assertE (a:TypeId) (ok:Bool):W (LV→Q):=match (cx.ty a).kind with
 | .iface _ => .mk (asI (cx.ty a).zero ok)
 | .other => .mk fun _ => .bad 112
 | _ => .mk (asV a (cx.ty a).zero ok)
def evL (xs:List Operand) (f:SlF):List LV:=match xs with
 | [] => []
 | x::xs => evO x f::evL xs f
def defd:List LV→Bool
 | [] => true
 | v::l => match v with
  | .undef => false
  | _ => defd l
def evC {β:Type}(bad:β) (k:List LV→β) (l:List LV):β:=match defd l with
 | true => k l
 | false => bad
def evM (x:Option Operand) (f:SlF):Option LV:=match x with
 | none => none
 | some x => some (evO x f)
def lastN:List Nat→Option Nat
 | [] => none
 | [b] => some b
 | _::l => lastN l
def findB (b:Nat):List Nat→List (LV×LV)→Q
 | c::bs,(k,v)::es => match Nat.beq c b with
  | true => .ok (.tup [k,v])
  | false => findB b bs es
 | _,_ => .bad 418
def entL (seen:List Nat) (last:Nat) (lo:LO):Q:=match lo,lastN seen with
 | .map clock bs es,some b => match Nat.beq clock last with
  | true => findB b bs es
  | false => .bad 419
 | _,_ => .bad 419
def entryE (x:LV) (h:LH):Q:=match x with
 | .ptr r 0 => match atB h r with
  | .iter (some m) _ seen last => entL seen last (atB h m)
  | _ => .bad 420
 | _ => .bad 420
def opQ (op:Op):W (SlF→LH→Q):=match op with
 | .move x => .mk fun f _ => okV (evO x f)
 | .assign x => .mk fun f _ => okV (evO x f)
 | .pick c a b => .mk fun f _ => pickQ (evO c f) (evO a f) (evO b f)
 | .build t ps => .mk fun f _ => (buildE cx t).go (partsE ps.toList f)
 | .load t a => .mk fun f h => (loadE cx t).go (evO a f) h
 | .nilCheck x => .mk fun f _ => nilQ (evO x f)
 | .binOp op t x y _ => .mk fun f h => (binQ cx.ty op t (isC x || isC y)).go (evO x f) (evO y f) h
 | .unOp op _ x => .mk fun f _ => unQ op (evO x f)
 | .convert s d x => .mk fun f h => (convE cx s d).go (evO x f) h
 | .makeInterface t x => .mk fun f _ => (ifcE cx t).go (evO x f)
 | .makeFunc (.func g) u c => .mk fun f _ => evC (.bad 202) (fun u => evC (.bad 202) (fun c => .ok (.fn g u c)) (evL c.toList f)) (evL u.toList f)
 | .slice t x lo hi mx => .mk fun f h => (sliceE cx t).go (evO x f) (evM lo f) (evM hi f) (evM mx f) h
 | .fieldAddr s x i => .mk fun f _ => (fieldAddrE cx s i).go (evO x f)
 | .field s x i => .mk fun f _ => (fieldE cx s i).go (evO x f)
 | .indexAddr t x i => .mk fun f _ => (indexAddrE cx t).go (evO x f) (evO i f)
 | .index t x i => .mk fun f _ => (indexE cx t).go (evO x f) (evO i f)
 | .lookup t x i ok => .mk fun f h => (lookupE cx t ok).go (evO x f) (evO i f) h
 | .extract t i => .mk fun f _ => extQ (evO t f) i
 | .typeAssert x _ a ok => .mk fun f _ => (assertE cx a ok).go (evO x f)
 | .entry x => .mk fun f h => entryE (evO x f) h
 | .call ⟨.builtin b,xs,ts⟩ => .mk fun f h => evC (.bad 201) (fun l => (builtQ cx b ts.toList).go l h) (evL xs.toList f)
 | _ => .mk fun _ _ => .bad 200
def lenZ (x:LV):Option Nat:=match x with
 | .int _ (.ofNat n) => some n
 | x => lenE x
def zedE (h:LH) (z:Option (List LV)) (sz n:Nat) (x:LV):Option (List LV):=match x with
 | .int _ _ => match z with
  | some z => some (repL n z)
  | none => none
 | x => firstE h sz n x
def zedN (h:LH) (n:Nat) (x:LV):Option Nat:=match x with
 | .int _ _ => some 0
 | x => firstN h n x
def optR (n:Nat) (f:LO→Rs) (lo:Option LO):Rs:=match lo with
 | some lo => f lo
 | none => .bad n
def newLO (byte:Bool) (sz:Nat) (l:List LV) (v:LV) (nx:Nat) (h:LH):Rs:=optR 31 (fun lo => newB lo v nx h) (mkLO byte sz l)
def newBy (len x:Nat) (v:LV) (nx:Nat) (h:LH):Rs:=frN (fun x => newB (.bytes len x) v nx h) x
def appN (s:LV) (m n y:Nat) (nx:Nat) (h:LH):Rs:=match s with
 | .nils => newBy n y (.slo nx 0 n 0) nx h
 | .sl i o _ c => match Nat.ble (Nat.add m n) c with
  | true => writeN h i (Nat.add o m) n y (frN (fun k => .sl i o k c) (Nat.add m n)) nx
  | false => match firstN h m s with
   | some z => frN (fun k => newBy k (catN m z y) (.slo nx 0 k 0) nx h) (Nat.add m n)
   | none => .bad 33
 | .slo i o _ _ => match Nat.beq (szB (atB h i)) 1 with
  | true => match Nat.ble (Nat.add o (Nat.add m n)) (knownB (atB h i)) with
   | true => writeN h i (Nat.add o m) n y (frN (fun k => .slo i o k o) (Nat.add m n)) nx
   | false => match Nat.beq (knownB (atB h i)) (Nat.add o m),readN (atB h i) o m with
    | true,some z => Tr.put .gone .gone h i fun h => frN (fun k => newBy k (catN m z y) (.slo nx 0 k 0) nx h) (Nat.add m n)
    | _,_ => .bad 34
  | false => .bad 34
 | _ => .bad 35
def moreR (sz:Nat) (lo:LO) (o m n:Nat) (l:List LV):Option LO:=match lo with
 | .rows _ len t => match Nat.beq o 0 && (Nat.beq len m && Nat.blt (Nat.add m n) 100000) with
  | true => writeRows sz (fun t => frN (fun k => some (.rows sz k t)) (Nat.add m n)) n t m l
  | false => match readR sz len t o (Nat.mul m sz) with
   | some z => mkR sz (z++l)
   | none => none
 | _ => none
def appC (sz:Nat) (s:LV) (m n:Nat) (l:List LV) (nx:Nat) (h:LH):Rs:=match s with
 | .nils => newLO false sz l (.slo nx 0 n 0) nx h
 | .sl i o _ c => match Nat.ble (Nat.add m n) c with
  | true => writeC h i (Nat.add o (Nat.mul m sz)) l (frN (fun k => .sl i o k c) (Nat.add m n)) nx
  | false => match firstE h sz m s with
   | some z => frN (fun k => newLO false sz (z++l) (.slo nx 0 k 0) nx h) (Nat.add m n)
   | none => .bad 33
 | .slo i o _ _ => match Nat.blt 0 sz && Nat.beq (szB (atB h i)) sz with
  | true => match Nat.ble (Nat.add o (Nat.mul (Nat.add m n) sz)) (knownB (atB h i)) with
   | true => writeC h i (Nat.add o (Nat.mul m sz)) l (frN (fun k => .slo i o k o) (Nat.add m n)) nx
   | false => match Nat.beq (knownB (atB h i)) (Nat.add o (Nat.mul m sz)) with
    | true => optR 38 (fun lo => Tr.put .gone .gone h i fun h => newB lo (frN (fun k => .slo nx 0 k 0) (Nat.add m n)) nx h) (moreR sz (atB h i) o m n l)
    | false => .bad 38
  | false => .bad 39
 | _ => .bad 40
def appS (byte:Bool) (sz:Nat) (z:Option (List LV)) (s x:LV) (m n:Nat) (nx:Nat) (h:LH):Rs:=match byte with
 | true => match zedN h n x with
  | some y => appN s m n y nx h
  | none => .bad 31
 | false => match zedE h z sz n x with
  | some l => match Nat.beq l.length (Nat.mul n sz) with
   | true => appC sz s m n l nx h
   | false => .bad 32
  | none => .bad 32
def isZ (v:LV):Bool:=match v with
 | .int .u8 (.ofNat 0) => true
 | _ => false
def hasZ (v:LV):Bool:=match cells v with
 | some _ => true
 | none => false
def capOk (s:LV):Bool:=match s with
 | .sl _ _ n c => Nat.ble n c
 | _ => true
def appendE (e:TypeId) (s x:LV) (nx:Nat) (h:LH):Rs:=match lenSl s,lenZ x with
 | some m,some n => match n with
  | 0 => match capOk s with
   | true => .ok s nx h
   | false => .bad 28
  | n' + 1 => match Nat.blt n 1000000 && (Nat.blt m 1000000 && (Nat.blt (cx.ty e).bytes 1000000 && hasZ (cx.ty e).zero)) with
   | true => appS (isByte cx e && isZ (cx.ty e).zero) (cx.ty e).sz (cells (cx.ty e).zero) s x m (n' + 1) nx h
   | false => .bad 29
 | _,_ => .bad 30
def appK (k2:TK) (x:LV):Bool:=match k2,x with
 | .int _,.int _ _ => true
 | .slice _,.nils => true
 | .slice _,.sle => true
 | .slice _,.sl _ _ _ _ => true
 | .slice _,.slo _ _ _ _ => true
 | .str,.str _ _ => true
 | _,_ => false
def copyN (d x:LV) (n:Nat) (nx:Nat) (h:LH):Rs:=match firstN h n x with
 | none => .bad 64
 | some y => match d with
  | .sl i o _ _ => writeN h i o n y (goN n) nx
  | .slo i o _ _ => writeN h i o n y (goN n) nx
  | _ => .bad 66
def copyC (sz:Nat) (d x:LV) (n:Nat) (nx:Nat) (h:LH):Rs:=match firstE h sz n x with
 | none => .bad 64
 | some l => match d with
  | .sl i o _ _ => writeC h i o l (goN n) nx
  | .slo i o _ _ => writeC h i o l (goN n) nx
  | _ => .bad 66
def minN (m n:Nat):Nat:=match Nat.ble n m with
 | true => n
 | false => m
def copyE (e:TypeId) (d x:LV) (nx:Nat) (h:LH):Rs:=match lenSl d,lenE x with
 | some m,some n => match minN m n with
  | 0 => .ok (goN 0) nx h
  | k + 1 => match isByte cx e with
   | true => copyN d x (k + 1) nx h
   | false => copyC (cx.ty e).sz d x (k + 1) nx h
 | _,_ => .bad 67
def putM (h:LH) (i:Nat) (clock:Nat) (bs:List Nat) (es:List (LV×LV)) (nx:Nat):Rs:=putB h i (.map clock bs es) (.tup []) nx
def setL (h:LH) (i:Nat) (clock:Nat) (bs:List Nat) (es:List (LV×LV)) (k v:LV) (nx:Nat) (p:Option (Option Nat)):Rs:=match p with
 | some none => frN (fun c => putM h i c (bs++[clock]) (es++[(k,v)]) nx) (Nat.succ clock)
 | some (some j) => match es[j]? with
  | some (a,_) => match samePl 6 a k with
   | true => putM h i clock bs (es.set j (k,v)) nx
   | false => .bad 62
  | none => .bad 62
 | none => .bad 62
def updM (kt:TypeId) (x k v:LV) (nx:Nat) (h:LH):Rs:=match x with
 | .map i => match atB h i with
  | .map clock bs es => setL h i clock bs es k v nx (posM cx kt k es)
  | _ => .bad 62
 | _ => .bad 63
def updateE (t:TypeId) (x k v:LV) (nx:Nat) (h:LH):Rs:=match (cx.ty t).kind with
 | .map kt _ => match keyK cx kt k,okV v with
  | true,.ok v => updM cx kt x k v nx h
  | _,_ => .bad 63
 | _ => .bad 61
def delL (h:LH) (i:Nat) (clock:Nat) (bs:List Nat) (es:List (LV×LV)) (nx:Nat) (p:Option (Option Nat)):Rs:=match p with
 | some none => putM h i clock bs es nx
 | some (some j) => putM h i clock (bs.eraseIdx j) (es.eraseIdx j) nx
 | none => .bad 318
def delE (kt:TypeId) (x k:LV) (nx:Nat) (h:LH):Rs:=match keyK cx kt k with
 | true => match x with
  | .map i => match atB h i with
   | .map clock bs es => delL h i clock bs es nx (posM cx kt k es)
   | _ => .bad 318
  | .map0 => .ok (.tup []) nx h
  | _ => .bad 318
 | false => .bad 318
def clrC (z:Option (List LV)) (i o n:Nat) (nx:Nat) (h:LH):Rs:=match n,z with
 | 0,_ => .ok (.tup []) nx h
 | n + 1,some z => writeC h i o (repL (n + 1) z) (.tup []) nx
 | _,_ => .bad 320
def clrE (k:TK) (x:LV) (nx:Nat) (h:LH):Rs:=match k,x with
 | .map _ _,.map i => match atB h i with
  | .map clock _ _ => putM h i clock [] [] nx
  | _ => .bad 320
 | .map _ _,.map0 => .ok (.tup []) nx h
 | .slice e,.sl i o n _ => clrC (cells (cx.ty e).zero) i o n nx h
 | .slice e,.slo i o n _ => clrC (cells (cx.ty e).zero) i o n nx h
 | .slice _,.nils => .ok (.tup []) nx h
 | _,_ => .bad 320
def builtM (b:Builtin) (ts:List TypeId):W (List LV→Nat→LH→Rs):=match b,ts with
 | .append,t::t2::_ => match (cx.ty t).kind with
  | .slice e => .mk fun l nx h => match l with
   | [s,x] => match appK (cx.ty t2).kind x with
    | true => appendE cx e s x nx h
    | false => .bad 313
   | _ => .bad 314
  | _ => .mk fun _ _ _ => .bad 315
 | .copy,t::_ => match (cx.ty t).kind with
  | .slice e => .mk fun l nx h => match l with
   | [d,x] => copyE cx e d x nx h
   | _ => .bad 316
  | _ => .mk fun _ _ _ => .bad 316
 | .delete,t::_ => match (cx.ty t).kind with
  | .map kt _ => .mk fun l nx h => match l with
   | [x,k] => delE cx kt x k nx h
   | _ => .bad 318
  | _ => .mk fun _ _ _ => .bad 318
 | .clear,t::_ => .mk fun l nx h => match l with
  | [x] => clrE cx (cx.ty t).kind x nx h
  | _ => .bad 320
 | _,_ => .mk fun _ _ _ => .bad 400
def newE (e:TypeId) (l:Option (List LV)) (nx:Nat) (h:LH):Rs:=match l with
 | some [] => newB (.rows 1 0 .e) (.ptr nx 0) nx h
 | some l => newLO (isByte cx e) (cx.ty e).sz l (.ptr nx 0) nx h
 | none => .bad 300
def bslE (e:TypeId) (n:Nat) (ps:List (Nat×LV)) (nx:Nat) (h:LH):Rs:=match cells (cx.ty e).zero,Nat.ble (Nat.mul n (cx.ty e).sz) 16777216 with
 | some z,true => match fillC (plcA (cx.ty e).sz) (repL n z) ps with
  | some l => newLO (isByte cx e) (cx.ty e).sz l (.sl nx 0 n n) nx h
  | none => .bad 303
 | _,_ => .bad 303
def buildSliceE (t n:Nat):W (List (Nat×LV)→Nat→LH→Rs):=match (cx.ty t).kind with
 | .slice e => .mk (bslE cx e n)
 | _ => .mk fun _ _ _ => .bad 304
def storeE (t:TI) (a v:LV) (nx:Nat) (h:LH):Rs:=match a with
 | .ptr i o => match cells v with
  | some l => match Nat.beq l.length t.sz && isK t with
   | true => writeC h i o l (.tup []) nx
   | false => .bad 305
  | none => .bad 306
 | _ => .bad 306
def makeMapE (k:TK) (r:Option LV) (nx:Nat) (h:LH):Rs:=match r with
 | none => newB (.map 0 [] []) (.map nx) nx h
 | some x => match k,x with
  | .map _ _,.int _ _ => newB (.map 0 [] []) (.map nx) nx h
  | _,_ => .bad 307
def mkSl (e l c:Nat) (nx:Nat) (h:LH):Rs:=match isByte cx e && isZ (cx.ty e).zero with
 | true => newB (.bytes c 0) (.sl nx 0 l c) nx h
 | false => match cells (cx.ty e).zero with
  | some z => newLO false (cx.ty e).sz (repL c z) (.sl nx 0 l c) nx h
  | none => .bad 309
def makeSliceE (k:TK) (l c:LV) (nx:Nat) (h:LH):Rs:=match k,natOf l,natOf c with
 | .slice e,some l,some c => match Nat.ble l c && (Nat.blt c 100000 && Nat.blt (cx.ty e).bytes 1000000) with
  | true => mkSl cx e l c nx h
  | false => .bad 308
 | _,_,_ => .bad 310
def rangeE (k:TK) (x:LV) (nx:Nat) (h:LH):Rs:=match k,x with
 | .map _ _,.map0 => newB (.iter none 0 [] 0) (.ptr nx 0) nx h
 | .map _ _,.map i => match atB h i with
  | .map clock _ _ => newB (.iter (some i) clock [] clock) (.ptr nx 0) nx h
  | _ => .bad 410
 | _,_ => .bad 411
def memN (l:List Nat) (n:Nat):Bool:=match l with
 | [] => false
 | m::l => match Nat.beq m n with
  | true => true
  | false => memN l n
def leftM (seen:List Nat):List Nat→List (LV×LV)→List (Nat×LV×LV)
 | b::bs,(k,v)::es => match memN seen b with
  | true => leftM seen bs es
  | false => (b,k,v)::leftM seen bs es
 | _,_ => []
def stepL (since clock:Nat) (r:Nat) (m:Nat) (seen:List Nat) (l:List (Nat×LV×LV)) (nx:Nat) (h:LH):Rs:=match l with
 | [] => .ok (.tup [.bool false]) nx h
 | [(b,k,v)] => match Nat.blt b since with
  | true => putB h r (.iter (some m) since (seen++[b]) clock) (.tup [.bool true,k,v]) nx
  | false => .bad 412
 | _ => .bad 413
def noneN:List Nat→Bool
 | [] => true
 | _ => false
def nextL (r m since:Nat) (seen:List Nat) (last:Nat) (lo:LO) (nx:Nat) (h:LH):Rs:=match lo with
 | .map clock bs es => match noneN seen || (noneN bs || bs.any fun b => Nat.blt b last) with
  | true => stepL since clock r m seen (leftM seen bs es) nx h
  | false => .bad 414
 | _ => .bad 415
def nextE (x:LV) (nx:Nat) (h:LH):Rs:=match x with
 | .ptr r 0 => match atB h r with
  | .iter none _ _ _ => .ok (.tup [.bool false]) nx h
  | .iter (some m) since seen last => nextL r m since seen last (atB h m) nx h
  | _ => .bad 416
 | _ => .bad 417
def s2b (k:TK) (x:LV) (nx:Nat) (h:LH):Rs:=match k,x with
 | .slice e,.str n y => match isByte cx e && Nat.blt n 1000000 with
  | true => newB (.bytes n y) (.slo nx 0 n 0) nx h
  | false => .bad 311
 | _,_ => .bad 312
def flA (op:BinOp):Option (Nat→Nat→Option Nat):=match op with
 | .add => some Ieee.double.add
 | .sub => some Ieee.double.sub
 | .mul => some Ieee.double.mul
 | _ => none
def flR (r:Option Nat) (nx:Nat) (h:LH):Rs:=match r with
 | some r => frN (fun r => .ok (.flt .f64 r) nx h) r
 | none => .ok .nan nx h
def flM (g:Nat→Nat→Option Nat) (a b:LV) (nx:Nat) (h:LH):Rs:=match a,b with
 | .flt .f64 x,.flt .f64 y => flR (g x y) nx h
 | .nan,.flt .f64 _ => .ok .nan nx h
 | .flt .f64 _,.nan => .ok .nan nx h
 | .nan,.nan => .ok .nan nx h
 | _,_ => .bad 430
def opM (op:Op):W (SlF→Nat→LH→Rs):=match op with
 | .alloc e => .mk fun f nx h => newE cx e (cells (cx.ty e).zero) nx h
 | .box e x => .mk fun f nx h => newE cx e (cells (evO x f)) nx h
 | .buildSlice t n ps => .mk fun f nx h => (buildSliceE cx t n).go (partsE ps.toList f) nx h
 | .store t a v => .mk fun f nx h => storeE (cx.ty t) (evO a f) (evO v f) nx h
 | .makeMap t r => .mk fun f nx h => makeMapE (cx.ty t).kind (evM r f) nx h
 | .makeSlice t l c => .mk fun f nx h => makeSliceE cx (cx.ty t).kind (evO l f) (evO c f) nx h
 | .insert t m k v => .mk fun f nx h => updateE cx t (evO m f) (evO k f) (evO v f) nx h
 | .mapUpdate t m k v => .mk fun f nx h => updateE cx t (evO m f) (evO k f) (evO v f) nx h
 | .convert s d x => match (cx.ty s).kind with
  | .str => .mk fun f nx h => s2b cx (cx.ty d).kind (evO x f) nx h
  | _ => .mk fun _ _ _ => .bad 312
 | .range t x => .mk fun f nx h => rangeE (cx.ty t).kind (evO x f) nx h
 | .next x s => match s with
  | false => .mk fun f nx h => nextE (evO x f) nx h
  | true => .mk fun _ _ _ => .bad 421
 | .binOp op t x y _ => match flA op with
  | some g => .mk fun f nx h => flM g (evO x f) (evO y f) nx h
  | none => .mk fun _ _ _ => .bad 431
 | .call ⟨.builtin b,xs,ts⟩ => .mk fun f nx h => evC (.bad 401) (fun l => (builtM cx b ts.toList).go l nx h) (evL xs.toList f)
 | _ => .mk fun _ _ _ => .bad 400
inductive OK where
  | q | m | call | recover | panic (x:Operand) | defer (c:Call)
def isFl:TK→Bool
 | .flt => true
 | _ => false
def isSl:TK→Bool
 | .slice _ => true
 | _ => false
def opK (op:Op):OK:=match op with
 | .alloc _ => .m
 | .box _ _ => .m
 | .buildSlice _ _ _ => .m
 | .insert _ _ _ _ => .m
 | .store _ _ _ => .m
 | .makeMap _ _ => .m
 | .makeSlice _ _ _ => .m
 | .mapUpdate _ _ _ _ => .m
 | .convert _ d _ => match isSl (cx.ty d).kind with
  | true => .m
  | false => .q
 | .range _ _ => .m
 | .binOp op t _ _ _ => match isFl (cx.ty t).kind,flA op with
  | true,some _ => .m
  | _,_ => .q
 | .next _ _ => .m
 | .entry _ => .q
 | .panic x => .panic x
 | .defer c => .defer c
 | .call ⟨.builtin b,_,_⟩ => match b with
  | .len => .q
  | .cap => .q
  | .min => .q
  | .max => .q
  | .recover => .recover
  | _ => .m
 | .call _ => .call
 | _ => .q
end
end
noncomputable section
inductive AI where
  | code (c:Code)
  | blk (id:Nat)
  | lp (b:Code)
  | scp (b:Code)
  | reg (all rest:List Oper)
  | rng (l:Nat)
  | endr (l:Nat)
  | beg
structure SF where
  g:FuncId
  ds:List AD
  dfd:Bool
  rd:Option Nat
inductive AF where
  | run (s:SF) (f:Fr) (k:List AI)
  | ret (s:SF) (f:Fr)
  | pan (s:SF) (f:Fr) (ch:List (LV×Bool))
inductive Res where
  | bad (why:Nat)
  | done (v:LV) (nx:Nat) (h:LH)
abbrev Run:=AF→List AF→Nat→LH→Res
abbrev Stp:=Run→SF→Fr→List AI→List AF→Nat→LH→Res
def gF (f:Fr):SlF:=fun t => Tr.get .undef f t
def pF {β:Type}(d:Option Nat) (v:LV) (f:Fr) (c:Fr→β):β:=match d with
 | none => c f
 | some d => Tr.put .undef v f d c
def exitA (id:Nat):List AI→Option (List AI)
 | [] => none
 | .blk j::k => match Nat.beq j id with
  | true => some k
  | false => exitA id k
 | _::k => exitA id k
def gotoA (l:Nat):List AI→Option (List AI)
 | [] => none
 | .scp b::k => match findLabel b l with
  | some r => some (.code r::.scp b::k)
  | none => gotoA l k
 | _::k => gotoA l k
def asB (w:Bool) (v:LV):Option Bool:=match v with
 | .bool b => some (match w with | true => b | false => !b)
 | .tup [] => some false
 | _ => none
def dstAt (all:List Oper) (j:Nat):Option Nat:=match all[j]? with
 | some o => o.dst
 | none => none
def wantE (all:List Oper) (g:Option (Nat×Bool)) (f:SlF):Option Bool:=match g with
 | none => some true
 | some (j,w) => match dstAt all j with
  | some t => asB w (f t)
  | none => none
def argsF {β:Type}(c:Fr→β):List LV→Nat→Fr→β
 | [],_,f => c f
 | v::l,i,f => Tr.put .undef v f i fun f => frN (fun i => argsF c l i f) (Nat.succ i)
def putsF {β:Type}(c:Fr→β):List Nat→List LV→Fr→β
 | t::ts,v::vs,f => Tr.put .undef v f t fun f => putsF c ts vs f
 | _,_,f => c f
def oneE (l:List LV):LV:=match l with
 | [v] => v
 | vs => .tup vs
section
variable (cx:Cx)
def resE (h:LH) (f:Fr):List ResultVar→Option (List LV)
 | [] => some []
 | .tmp t::l => match resE h f l with
  | some vs => some (gF f t::vs)
  | none => none
 | .cell a t::l => match resE h f l with
  | some vs => match (loadE cx t).go (gF f a) h with
   | .ok v => some (v::vs)
   | _ => none
  | none => none
def finK (v:LV) (s:SF) (f:Fr) (k:List AI) (c:AF→Res):Res:=match k with
 | .reg all (o::os)::k => pF o.dst v f fun f => c (.run s f (.reg all os::k))
 | .rng l::k => c (.run s f (.endr l::k))
 | _ => .bad 180
def finA (v:LV) (a:AF) (c:AF→Res):Res:=match a with
 | .run s f k => finK v s f k c
 | _ => .bad 181
def raiseA (a:AF) (ch:List (LV×Bool)):AF:=match a with
 | .run s f _ => .pan s f ch
 | .ret s f => .pan s f ch
 | .pan s f old => .pan s f (ch++old)
def afterA (a:AF):AF:=match a with
 | .pan s f ((_,true)::_) => .ret s f
 | a => a
def enterE (g:FuncId) (dfd:Bool) (args:List LV) (c:AF→Res):Res:=match cx.fn g with
 | none => .bad (2000 * 4096 + g)
 | some fn => match fn.body with
  | none => .bad (2001 * 4096 + g)
  | some b => match Nat.ble args.length fn.ntmps with
   | true => argsF (fun f => c (.run ⟨g,[],dfd,none⟩ f [.code b])) args 0 .e
   | false => .bad 182
inductive Cl where
  | none
  | fn (g:FuncId) (args:List LV)
  | round (l:Nat) (args:List LV)
def clV (v:LV) (args:List LV):Cl:=match v with
 | .fn g u cs => .fn g (u++(args++cs))
 | .yield l => .round l args
 | _ => .none
def clF (g:FuncId) (v:Q) (args:List LV):Cl:=match v with
 | .ok v => .fn g (v::args)
 | .bad _ => .none
def clM (m:Option Mw) (v:LV) (args:List LV) (h:LH):Cl:=match m with
 | some (.plain g) => .fn g (v::args)
 | some (.loads g e) => clF g ((loadE cx e).go v h) args
 | some (.fields g o) => clF g (addP v o) args
 | none => .none
def clI (m:String) (v:LV) (args:List LV) (h:LH):Cl:=match v with
 | .ifc t v => clM cx (cx.mt t m) v args h
 | _ => .none
def calleeE (c:Callee) (xs:List Operand):W (SlF→LH→Cl):=match c with
 | .value (.func g) => .mk fun f _ => evC .none (fun l => .fn g l) (evL xs f)
 | .value x => .mk fun f _ => evC .none (fun l => clV (evO x f) l) (evL xs f)
 | .invoke r m => .mk fun f h => evC .none (fun l => clI cx m (evO r f) l h) (evL xs f)
 | .builtin _ => .mk fun _ _ => .none
def knows (kn:Nat) (i:Nat):Bool:=Nat.testBit kn i
def addK (kn:Nat) (i:Nat):Nat:=Nat.lor kn (Nat.pow 2 i)
def isQ (o:Oper):Bool:=match opK cx o.op with
 | .q => true
 | _ => false
def readyQ:List Oper→Nat→Nat→List (Nat×Oper)×Nat
 | [],_,kn => ([],kn)
 | o::r,i,kn => match !(knows kn i) && ((depsL o).all (knows kn) && isQ cx o) with
  | true => let p:=readyQ r (i + 1) (addK kn i); ((i,o)::p.1,p.2)
  | false => readyQ r (i + 1) kn
def readyA:List Oper→Nat→Nat→List (Nat×Oper)
 | [],_,_ => []
 | o::r,i,kn => match !(knows kn i) && (depsL o).all (knows kn) with
  | true => (i,o)::readyA r (i + 1) kn
  | false => readyA r (i + 1) kn
def toChk (os:List Oper) (kn:Nat) (acts:List Nat):List Oper→Nat→List (Nat×Oper)
 | [],_ => []
 | o::r,i => match knows kn i && !(acts.any fun e => Nat.beq i e || befB (masks os []) i e) with
  | true => (i,o)::toChk os kn acts r (i + 1)
  | false => toChk os kn acts r (i + 1)
def isAl (o:Oper):Bool:=match o.op with
 | .alloc _ => true
 | .box _ _ => true
 | .buildSlice _ _ _ => true
 | _ => false
def pickA:List (Nat×Oper)→Option ((Nat×Oper)×List (Nat×Oper))
 | [] => none
 | (i,o)::r => match isAl o with
  | false => match r.all (fun p => isAl p.2) with
   | true => some ((i,o),r)
   | false => none
  | true => match r with
   | [] => some ((i,o),[])
   | _ => match pickA r with
    | some (m,oth) => some (m,(i,o)::oth)
    | none => none
def memP (l:List (Nat×Oper)) (i:Nat):Bool:=l.any fun p => Nat.beq p.1 i
def knA (kn:Nat):List (Nat×Oper)→Nat
 | [] => kn
 | p::l => knA (addK kn p.1) l
def waitC (kn m:Nat) (oth:List (Nat×Oper)):List Oper→Nat→Bool
 | [],_ => true
 | o::r,i => match knows kn i || (Nat.beq m i || (memP oth i || (depsL o).any fun j => !knows (knA kn oth) j)) with
  | true => waitC kn m oth r (i + 1)
  | false => false
def stayC (oth:List (Nat×Oper)) (i:Nat) (oth' : List (Nat×Oper)):Bool:=oth.all fun q => Nat.beq q.1 i || memP oth' q.1
def readsC (os:List Oper) (kn:Nat) (p:Nat×Oper):Bool:=(readsOf os p.2).all fun t => match lastW os p.1 t with
 | some j => knows kn j
 | none => true
inductive NP where
  | bad
  | fin
  | act (i:Nat) (o:Oper) (oth:List (Nat×Oper))
def nextP (os:List Oper) (kn:Nat) (oth:List (Nat×Oper)):NP:=match pickA (readyA os 0 kn) with
 | none => match Nat.beq kn (Nat.pred (Nat.pow 2 os.length)),oth with
  | true,[] => .fin
  | _,_ => .bad
 | some ((i,o),oth') => match waitC kn i oth' os 0 && (stayC oth i oth' && oth'.all (readsC os kn)) with
  | true => frN (fun i => .act i o oth') i
  | false => .bad
def lookA (os:List Oper) (f0:SlF) (val:Fr) (i:Nat) (rs:List Nat):SlF:=fun t => match memN rs t with
 | true => match lastW os i t with
  | some j => gF val j
  | none => f0 t
 | false => .undef
def quietE (os:List Oper) (f0:SlF) (val:Fr) (i:Nat) (o:Oper) (h:LH):Q:=match wantE os o.guard (lookA os f0 val i (readsOf os o)) with
 | none => .bad 130
 | some false => .ok (.tup [])
 | some true => (opQ cx o.op).go (lookA os f0 val i (readsOf os o)) h
def qsE {β:Type}(os:List Oper) (f0:SlF) (h:LH) (bad:Nat→β) (c:Fr→β):List (Nat×Oper)→Fr→β
 | [],val => c val
 | (i,o)::r,val => match quietE cx os f0 val i o h with
  | .ok v => Tr.put .undef v val i fun val => qsE os f0 h bad c r val
  | .bad n => bad n
def sameL (f:LV→LV→Bool):List LV→List LV→Bool
 | [],[] => true
 | a::l,b::m => match f a b with
  | true => sameL f l m
  | false => false
 | _,_ => false
def liveC (h:LH) (i:Nat):Bool:=match atB h i with
 | .rows _ _ _ => true
 | .bytes _ _ => true
 | _ => false
def same (h:LH):Nat→LV→LV→Bool
 | 0,_,_ => false
 | f + 1,a,b => match a,b with
  | .bool a,.bool b => a == b
  | .flt .f64 a,.flt .f64 b => Nat.beq a b
  | .int k a,.int k' b => Nat.beq (kN k) (kN k') && eqI a b
  | .str l a,.str m b => eqS l a m b
  | .nilp,.nilp => true
  | .ptr i o,.ptr j p => Nat.beq i j && Nat.beq o p
  | .gptr i o,.gptr j p => Nat.beq i j && Nat.beq o p
  | .nils,.nils => true
  | .sl i o n c,.sl i' o' n' c' => Nat.beq i i' && (Nat.beq o o' && (Nat.beq n n' && Nat.beq c c'))
  | .slo i o n a,.slo i' o' n' a' => liveC h i && (Nat.beq i i' && (Nat.beq o o' && (Nat.beq n n' && Nat.beq a a')))
  | .map0,.map0 => true
  | .map i,.map j => Nat.beq i j
  | .fn g u c,.fn g' u' c' => Nat.beq g g' && (sameL (same h f) u u' && sameL (same h f) c c')
  | .yield i,.yield j => Nat.beq i j
  | .nilf,.nilf => true
  | .ifc t a,.ifc u b => Nat.beq t u && same h f a b
  | .nili,.nili => true
  | .agg l,.agg m => sameL (same h f) l m
  | .tup l,.tup m => sameL (same h f) l m
  | _,_ => false
def chksE (os:List Oper) (f0:SlF) (h:LH) (val:Fr):List (Nat×Oper)→Bool
 | [] => true
 | (i,o)::r => match quietE cx os f0 val i o h with
  | .ok v => match same h 20 v (gF val i) with
   | true => chksE os f0 h val r
   | false => false
  | .bad _ => false
def finF {β:Type}(c:Fr→β):List Oper→Nat→Fr→Fr→β
 | [],_,_,f => c f
 | o::r,i,val,f => pF o.dst (gF val i) f fun f => finF c r (i + 1) val f
def doneR (n:Nat) (r:Res) (c:LV→Nat→LH→Res):Res:=match r with
 | .done v nx h => c v nx h
 | .bad w => .bad (w * 4096 + n)
def rsR (g:Nat) (r:Rs) (c:LV→Nat→LH→Res):Res:=match r with
 | .ok v nx h => c v nx h
 | .bad w => .bad (w * 4096 + g)
def roundD (w:Nat) (run:Run) (lo:LO) (l:Nat) (args:List LV) (nx:Nat) (h:LH) (c:LV→Nat→LH→Res):Res:=match lo with
 | .loop st pend fn f ps assign body dfs => match Nat.beq args.length ps.length with
  | true => putsF (fun f => doneR w (run (.run ⟨fn,[],false,some l⟩ f [.code assign,.beg,.code body]) [] nx h) c) ps args f
  | false => .bad (150 * 4096 + w)
 | _ => .bad (151 * 4096 + w)
def callD (w:Nat) (run:Run) (cl:Cl) (nx:Nat) (h:LH) (c:LV→Nat→LH→Res):Res:=match cl with
 | .fn g args => match cx.pr g with
  | some p => rsR g (p args nx h) c
  | none => doneR g (enterE cx g false args fun fr => run fr [] nx h) c
 | .round l args => roundD w run (atB h l) l args nx h c
 | .none => .bad (143 * 4096 + w)
def actE (w:Nat) (o:Op):W (Run→SlF→Nat→LH→(LV→Nat→LH→Res)→Res):=match opK cx o with
 | .m => .mk fun run f nx h c => rsR w ((opM cx o).go f nx h) c
 | .call => match o with
  | .call ⟨cl,xs,_⟩ => .mk fun run f nx h c => callD cx w run ((calleeE cx cl xs.toList).go f h) nx h c
  | _ => .mk fun _ _ _ _ _ => .bad 144
 | _ => .mk fun _ _ _ _ _ => .bad 144
def othC (os:List Oper) (f0:SlF) (val:Fr) (nx:Nat) (h:LH) (oth:List (Nat×Oper)):Bool:=oth.all fun q => match wantE os q.2.guard (lookA os f0 val q.1 (readsOf os q.2)) with
 | some true => match (opM cx q.2.op).go (lookA os f0 val q.1 (readsOf os q.2)) nx h with
  | .ok _ _ _ => true
  | .bad _ => false
 | _ => false
def preC (os:List Oper) (f0:SlF) (kn:Nat) (acts:List Nat) (oth:List (Nat×Oper)) (val:Fr) (nx:Nat) (h:LH):Bool:=match oth with
 | [] => true
 | _ => othC cx os f0 val nx h oth && chksE cx os f0 h val (toChk os kn acts os 0)
def actP (g:Nat) (os:List Oper) (run:Run) (f0:SlF) (nxt:Nat→List Nat→List (Nat×Oper)→Fr→Nat→LH→Res) (kn:Nat) (acts:List Nat) (val:Fr) (nx:Nat) (h:LH) (i:Nat) (o:Oper) (oth:List (Nat×Oper)):Res :=
 match wantE os o.guard (lookA os f0 val i (readsOf os o)) with
 | some true => (actE cx g o.op).go run (lookA os f0 val i (readsOf os o)) nx h fun v nx h => match chksE cx os f0 h val (toChk os kn (i::acts) os 0) with
  | true => Tr.put .undef v val i fun val => frN (fun kn => nxt kn (i::acts) oth val nx h) (addK kn i)
  | false => .bad (146 * 4096 + g)
 | some false => Tr.put .undef (.tup []) val i fun val => frN (fun kn => nxt kn acts oth val nx h) (addK kn i)
 | none => .bad (145 * 4096 + g)
def stepP (g:Nat) (os:List Oper) (run:Run) (f0:SlF) (c:Fr→Nat→LH→Res) (nxt:Nat→List Nat→List (Nat×Oper)→Fr→Nat→LH→Res) (kn:Nat) (acts:List Nat) (oth:List (Nat×Oper)) (nx:Nat) (h:LH) (val:Fr):Res :=
 match nextP os kn oth with
 | .bad => .bad (147 * 4096 + g)
 | .fin => c val nx h
 | .act i o oth' => match preC cx os f0 kn acts oth' val nx h with
  | true => actP cx g os run f0 nxt kn acts val nx h i o oth'
  | false => .bad (148 * 4096 + g)
def phasesE (g:Nat) (os:List Oper) (run:Run) (f0:SlF) (c:Fr→Nat→LH→Res) (n:Nat):Nat→List Nat→List (Nat×Oper)→Fr→Nat→LH→Res :=
 Nat.rec (motive:=fun _ => Nat→List Nat→List (Nat×Oper)→Fr→Nat→LH→Res) (fun _ _ _ _ _ _ => .bad (147 * 4096 + g))
  (fun _ ih kn acts oth val nx h => match readyQ cx os 0 kn with
   | (qs,kn) => frN (fun kn => qsE cx os f0 h Res.bad (stepP cx g os run f0 c ih kn acts oth nx h) qs val) kn) n
def drawE (g:Nat) (os:List Oper) (run:Run) (f0:Fr) (nx:Nat) (h:LH) (c:Fr→Nat→LH→Res):Res :=
 phasesE cx g os run (gF f0) (fun val nx h => finF (fun f => c f nx h) os 0 val f0) 60 0 [] [] .e nx h
def roundA (ih:Run) (lo:LO) (l:Nat) (args:List LV) (fr:AF) (cs:List AF) (nx:Nat) (h:LH):Res:=match lo with
 | .loop st pend fn f ps assign body dfs => match Nat.beq args.length ps.length with
  | true => putsF (fun f => ih (.run ⟨fn,[],false,some l⟩ f [.code assign,.beg,.code body]) (fr::cs) nx h) ps args f
  | false => .bad 150
 | _ => .bad 151
def callA (ih:Run) (cl:Cl) (fr:AF) (cs:List AF) (nx:Nat) (h:LH):Res:=match cl with
 | .fn g args => match cx.pr g with
  | some p => rsR g (p args nx h) fun v nx h => finA v fr fun a => ih a cs nx h
  | none => enterE cx g false args fun fr' => ih fr' (fr::cs) nx h
 | .round l args => roundA ih (atB h l) l args fr cs nx h
 | .none => .bad 152
def backA (ih:Run) (dfd:Bool) (v:LV) (cs:List AF) (nx:Nat) (h:LH):Res:=match cs with
 | [] => match dfd with
  | false => .done v nx h
  | true => .bad 160
 | c::cs => match dfd with
  | false => finA v c fun c => ih c cs nx h
  | true => ih (afterA c) cs nx h
def endR (ih:Run) (v:LV) (cs:List AF) (nx:Nat) (h:LH):Res:=match cs with
 | [] => .done v nx h
 | c::cs => finA v c fun c => ih c cs nx h
def stJ (jump:Option Code):LoopState:=match jump with
 | none => .ready
 | some _ => .done
def leaveR (ih:Run) (s:SF) (l:Nat) (lo:LO) (jump:Option Code) (cs:List AF) (nx:Nat) (h:LH):Res:=match s.dfd with
 | false => match lo,s.ds with
  | .loop st pend fn lf ps assign body dfs,[] => Tr.put .gone (.loop (stJ jump) jump fn lf ps assign body dfs) h l fun h =>
   endR ih (.bool jump.isNone) cs nx h
  | _,_ => .bad 162
 | true => .bad 162
def leaveA (ih:Run) (s:SF) (f:Fr) (jump:Option Code) (cs:List AF) (nx:Nat) (h:LH):Res:=match s.rd with
 | some l => leaveR ih s l (atB h l) jump cs nx h
 | none => match jump with
  | none => ih (.ret s f) cs nx h
  | some .ret => ih (.ret s f) cs nx h
  | _ => .bad 161
def takeE (lo:LO) (r:Nat) (h:LH) (c:List AD→LH→Res):Res:=match lo with
 | .defd (some es) => Tr.put .gone (.defd none) h r fun h => c es h
 | _ => .bad 170
def retD (ih:Run) (s:SF) (mk:SF→AF) (d:AD) (ds:List AD) (cs:List AF) (nx:Nat) (h:LH):Res:=match d with
 | .coll r => takeE (atB h r) r h fun es h => ih (mk ⟨s.g,es++ds,s.dfd,s.rd⟩) cs nx h
 | .call g args => enterE cx g true args fun fr => ih fr (mk ⟨s.g,ds,s.dfd,s.rd⟩::cs) nx h
def retE (ih:Run) (s:SF) (f:Fr) (cs:List AF) (nx:Nat) (h:LH):Res:=match cx.fn s.g with
 | some fn => match resE cx h f fn.results.toList with
  | some vs => backA ih s.dfd (oneE vs) cs nx h
  | none => .bad 172
 | none => .bad 173
def retA (ih:Run) (s:SF) (f:Fr) (cs:List AF) (nx:Nat) (h:LH):Res:=match s.ds with
 | d::ds => retD cx ih s (fun s => .ret s f) d ds cs nx h
 | [] => retE cx ih s f cs nx h
def panA (ih:Run) (s:SF) (f:Fr) (ch:List (LV×Bool)) (cs:List AF) (nx:Nat) (h:LH):Res:=match s.ds with
 | d::ds => retD cx ih s (fun s => .pan s f ch) d ds cs nx h
 | [] => match cx.fn s.g,cs with
  | some _,c::cs => ih (raiseA c ch) cs nx h
  | _,_ => .bad 174
def recA (ih:Run) (dst:Option Nat) (s:SF) (f:Fr) (k:List AI) (cs:List AF) (nx:Nat) (h:LH):Res:=match s.dfd,s.rd,cs with
 | true,none,.pan s' f' ((v,false)::old)::cs => pF dst v f fun f => ih (.run s f k) (.pan s' f' ((v,true)::old)::cs) nx h
 | true,none,.ret s' f'::cs => pF dst .nili f fun f => ih (.run s f k) (.ret s' f'::cs) nx h
 | _,_,_ => .bad 134
def panE (ih:Run) (v:LV) (s:SF) (f:Fr) (cs:List AF) (nx:Nat) (h:LH):Res:=match v with
 | .ifc t v => ih (.pan s f [(.ifc t v,false)]) cs nx h
 | _ => .bad 131
def defR (l:LO) (g:FuncId) (args:List LV) (h:LH) (c:LH→Res):Res:=match l with
 | .loop _ _ _ _ _ _ _ r => match atB h r with
  | .defd (some es) => Tr.put .gone (.defd (some (.call g args::es))) h r c
  | _ => .bad 132
 | _ => .bad 132
def defE (ih:Run) (cl:Cl) (dst:Option Nat) (s:SF) (f:Fr) (k:List AI) (cs:List AF) (nx:Nat) (h:LH):Res:=match cl with
 | .fn g args => match s.rd with
  | none => pF dst (.tup []) f fun f => ih (.run ⟨s.g,.call g args::s.ds,s.dfd,s.rd⟩ f k) cs nx h
  | some l => defR (atB h l) g args h fun h => pF dst (.tup []) f fun f => ih (.run s f k) cs nx h
 | _ => .bad 133
def qK (g:Nat) (q:Q) (c:LV→Res):Res:=match q with
 | .ok v => c v
 | .bad n => .bad (n * 4096 + g)
def compP (all:List Oper) (o:Oper) (os:List Oper):W Stp:=match opK cx o.op with
 | .q => .mk fun ih s f k cs nx h => qK s.g ((opQ cx o.op).go (gF f) h) fun v => pF o.dst v f fun f => ih (.run s f (.reg all os::k)) cs nx h
 | .m => .mk fun ih s f k cs nx h => rsR s.g ((opM cx o.op).go (gF f) nx h) fun v nx h => pF o.dst v f fun f => ih (.run s f (.reg all os::k)) cs nx h
 | .call => match o.op with
  | .call ⟨cl,xs,_⟩ => .mk fun ih s f k cs nx h => callA cx ih ((calleeE cx cl xs.toList).go (gF f) h) (.run s f (.reg all (o::os)::k)) cs nx h
  | _ => .mk fun _ _ _ _ _ _ _ => .bad 135
 | .recover => .mk fun ih s f k cs nx h => recA ih o.dst s f (.reg all os::k) cs nx h
 | .panic x => .mk fun ih s f k cs nx h => panE ih (evO x (gF f)) s f cs nx h
 | .defer c => match c.callee with
  | .value x => .mk fun ih s f k cs nx h => defE ih ((calleeE cx (.value x) c.args.toList).go (gF f) h) o.dst s f (.reg all os::k) cs nx h
  | _ => .mk fun _ _ _ _ _ _ _ => .bad 136
def wantK (w:Option Bool) (yes no:Res):Res:=match w with
 | some true => yes
 | some false => no
 | none => .bad 130
def compO (all:List Oper) (o:Oper) (os:List Oper):W Stp:=match o.guard with
 | none => compP cx all o os
 | some g => .mk fun ih s f k cs nx h => wantK (wantE all (some g) (gF f)) ((compP cx all o os).go ih s f k cs nx h) (pF o.dst (.tup []) f fun f => ih (.run s f (.reg all os::k)) cs nx h)
def begA (ih:Run) (l:Nat) (lo:LO) (s:SF) (f:Fr) (k:List AI) (cs:List AF) (nx:Nat) (h:LH):Res:=match lo with
 | .loop .ready pend fn lf ps assign body dfs => Tr.put .gone (.loop .busy pend fn lf ps assign body dfs) h l fun h => ih (.run s f k) cs nx h
 | _ => .bad 163
def pendK (pend:Option Code) (k:List AI):List AI:=match pend with
 | some c => .code c::k
 | none => k
def endA (ih:Run) (l:Nat) (lo:LO) (s:SF) (f:Fr) (k:List AI) (cs:List AF) (nx:Nat) (h:LH):Res:=match lo with
 | .loop .busy _ _ _ _ _ _ _ => .bad 165
 | .loop st pend fn lf ps assign body dfs => Tr.put .gone (.loop .exhausted pend fn lf ps assign body dfs) h l fun h => ih (.run s f (pendK pend k)) cs nx h
 | _ => .bad 165
def condA (ih:Run) (v:LV) (a b:Code) (s:SF) (f:Fr) (k:List AI) (cs:List AF) (nx:Nat) (h:LH):Res:=match v with
 | .bool true => ih (.run s f (.code a::k)) cs nx h
 | .bool false => ih (.run s f (.code b::k)) cs nx h
 | _ => .bad 120
def rangeN (ih:Run) (g:FuncId) (u c:List LV) (ps:List Tmp) (assign body:Code) (s:SF) (f:Fr) (k:List AI) (cs:List AF) (nx:Nat) (h:LH):Res:=match Nat.blt nx 1000000 with
 | true => Tr.put .gone (.defd (some [])) h nx fun h => frN (fun l => Tr.put .gone (.loop .ready none s.g f ps assign body nx) h l fun h => frN (fun nx' =>
   enterE cx g false (u++(.yield l::c)) fun fr => ih fr (.run ⟨s.g,.coll nx::s.ds,s.dfd,s.rd⟩ f (.rng l::k)::cs) nx' h) (Nat.succ l)) (Nat.succ nx)
 | false => .bad 27
def rangeI (ih:Run) (lo:LO) (g:FuncId) (u c:List LV) (ps:List Tmp) (assign body:Code) (s:SF) (f:Fr) (k:List AI) (cs:List AF) (nx:Nat) (h:LH):Res:=match lo,Nat.blt nx 1000000 with
 | .loop _ _ _ _ _ _ _ r,true => Tr.put .gone (.loop .ready none s.g f ps assign body r) h nx fun h => frN (fun nx' =>
   enterE cx g false (u++(.yield nx::c)) fun fr => ih fr (.run s f (.rng nx::k)::cs) nx' h) (Nat.succ nx)
 | _,_ => .bad 27
def rangeA (ih:Run) (v:LV) (ps:List Tmp) (assign body:Code) (s:SF) (f:Fr) (k:List AI) (cs:List AF) (nx:Nat) (h:LH):Res:=match v with
 | .fn g u c => match s.rd with
  | none => rangeN cx ih g u c ps assign body s f k cs nx h
  | some l => rangeI cx ih (atB h l) g u c ps assign body s f k cs nx h
 | _ => .bad 167
def toA (ih:Run) (k' : Option (List AI)) (s:SF) (f:Fr) (j:Code) (cs:List AF) (nx:Nat) (h:LH):Res:=match k' with
 | some k => ih (.run s f k) cs nx h
 | none => leaveA ih s f (some j) cs nx h
def compC (c:Code):W Stp:=match c with
 | .skip => .mk fun ih s f k cs nx h => ih (.run s f k) cs nx h
 | .label _ => .mk fun ih s f k cs nx h => ih (.run s f k) cs nx h
 | .ret => .mk fun ih s f k cs nx h => leaveA ih s f (some .ret) cs nx h
 | .exit id => .mk fun ih s f k cs nx h => toA ih (exitA id k) s f (.exit id) cs nx h
 | .goto l => .mk fun ih s f k cs nx h => toA ih (gotoA l k) s f (.goto l) cs nx h
 | .seq a b => .mk fun ih s f k cs nx h => ih (.run s f (.code a::.code b::k)) cs nx h
 | .cond o a b => .mk fun ih s f k cs nx h => condA ih (evO o (gF f)) a b s f k cs nx h
 | .block i b => .mk fun ih s f k cs nx h => ih (.run s f (.code b::.blk i::k)) cs nx h
 | .loop b => .mk fun ih s f k cs nx h => ih (.run s f (.code b::.lp b::k)) cs nx h
 | .scope b => .mk fun ih s f k cs nx h => ih (.run s f (.code b::.scp b::k)) cs nx h
 | .region _ ops d => match d with
  | false => .mk fun ih s f k cs nx h => ih (.run s f (.reg ops.toList ops.toList::k)) cs nx h
  | true => match okTmps ops.toList && okDeps ops.toList with
   | true => .mk fun ih s f k cs nx h => drawE cx s.g ops.toList ih f nx h fun f nx h => ih (.run s f k) cs nx h
   | false => .mk fun _ _ _ _ _ _ _ => .bad 121
 | .rangeFunc x ps assign body => .mk fun ih s f k cs nx h => rangeA cx ih (evO x (gF f)) ps.toList assign body s f k cs nx h
 | .refuse _ => .mk fun _ _ _ _ _ _ _ => .bad 168
def compI (i:AI):W Stp:=match i with
 | .code c => compC cx c
 | .reg all os => match os with
  | [] => .mk fun ih s f k cs nx h => ih (.run s f k) cs nx h
  | o::os => compO cx all o os
 | .blk _ => .mk fun ih s f k cs nx h => ih (.run s f k) cs nx h
 | .scp _ => .mk fun ih s f k cs nx h => ih (.run s f k) cs nx h
 | .lp b => .mk fun ih s f k cs nx h => ih (.run s f (.code b::.lp b::k)) cs nx h
 | .beg => .mk fun ih s f k cs nx h => match s.rd with
  | some l => begA ih l (atB h l) s f k cs nx h
  | none => .bad 163
 | .rng _ => .mk fun _ _ _ _ _ _ _ => .bad 164
 | .endr l => .mk fun ih s f k cs nx h => endA ih l (atB h l) s f k cs nx h
def runK (ih:Run) (s:SF) (f:Fr) (k:List AI) (cs:List AF) (nx:Nat) (h:LH):Res:=match k with
 | [] => leaveA ih s f none cs nx h
 | i::k => (compI cx i).go ih s f k cs nx h
def stepA (ih:Run) (fr:AF) (cs:List AF) (nx:Nat) (h:LH):Res:=match fr with
 | .run s f k => runK cx ih s f k cs nx h
 | .ret s f => retA cx ih s f cs nx h
 | .pan s f ch => panA cx ih s f ch cs nx h
def runA (n:Nat):Run:=Nat.rec (motive:=fun _ => Run) (fun _ _ _ _ => .bad 999) (fun _ ih => stepA cx ih) n
def callE (n:Nat) (g:FuncId) (args:List LV) (nx:Nat) (h:LH):Res:=enterE cx g false args fun fr => runA cx n fr [] nx h
end
end
@[simp] theorem frN_eq {β:Type}(k:Nat→β) (n:Nat):frN k n=k n:=by cases n <;> rfl
@[simp] theorem fr_eq {α β:Type}(k:Tr α→β) (t:Tr α):Tr.fr k t=k t:=by cases t <;> rfl
@[simp] theorem W.go_mk {α:Type}(a:α):(W.mk a).go=a:=rfl
def inv:List Bool→Nat
 | [] => 0
 | b::p => 2 * inv p + (match b with | true => 1 | false => 0) + 1
theorem inv_pth:∀ f k,k≤f→inv (pth f k)=k:=by
  intro f
  induction f with
  | zero => intro k hk; have : k = 0 := by omega
            subst this; rfl
  | succ f ih =>
    intro k hk
    cases k with
    | zero => rfl
    | succ k =>
      have h1:pth (f + 1) (k + 1)=Nat.beq (Nat.mod k 2) 1::pth f (Nat.div k 2):=rfl
      have h2:Nat.div k 2=k / 2:=rfl
      have h3:Nat.mod k 2=k % 2:=rfl
      have h4:∀ b p,inv (b::p)=2 * inv p + (match b with | true => 1 | false => 0) + 1:=fun _ _ => rfl
      rw [h1,h4,h2,h3,ih (k / 2) (by omega)]
      rcases Nat.mod_two_eq_zero_or_one k with h | h
      · rw [h]; show 2 * (k / 2) + 0 + 1=_; omega
      · rw [h]; show 2 * (k / 2) + 1 + 1=_; omega
theorem pth_inj {k k' : Nat}(h:pth k k=pth k' k'):k=k':=by
 rw [← inv_pth k k (Nat.le_refl _),← inv_pth k' k' (Nat.le_refl _),h]
theorem zfU {α:Type}(d:α) (t:Tr α):getP d [] t=match t with | .e => d | .n _ x _ => x:=by cases t <;> rfl
theorem zeC {α:Type}(d:α) (b:Bool) (p:List Bool) (t:Tr α):getP d (b::p) t=match t with | .e => d | .n l _ r => (match b with | true => getP d p r | false => getP d p l):=by
 cases t <;> cases b <;> rfl
theorem getP_e {α:Type}(d:α) (p:List Bool):getP d p .e=d:=by cases p <;> rfl
theorem putP_nil {α:Type}(d v:α) (t:Tr α):putP d v [] t=match t with | .e => .n .e v .e | .n l _ r => .n l v r:=by cases t <;> rfl
theorem putP_cons {α:Type}(d v:α) (b:Bool) (p:List Bool) (t:Tr α):putP d v (b::p) t=match t with
  | .e => (match b with | true => .n .e d (putP d v p .e) | false => .n (putP d v p .e) d .e)
  | .n l x r => (match b with | true => .n l x (putP d v p r) | false => .n (putP d v p l) x r):=by
 cases t <;> cases b <;> simp only [putP,fr_eq]
theorem getP_putP {α:Type}(d v:α) (p q:List Bool) (t:Tr α):getP d q (putP d v p t)=if q=p then v else getP d q t:=by
 induction p generalizing q t with
 | nil =>
  cases q with
  | nil => cases t <;> simp [putP_nil,zfU]
  | cons b q => cases t <;> cases b <;> simp [putP_nil,zeC,getP_e]
 | cons a p ih =>
  cases q with
  | nil => cases t <;> cases a <;> simp [putP_cons,zfU]
  | cons b q => cases t <;> cases a <;> cases b <;> simp [putP_cons,zeC,ih,getP_e]
noncomputable def Tr.set {α:Type}(d v:α) (t:Tr α) (k:Nat):Tr α:=putP d v (pth k k) t
theorem zaN {α β:Type}(d v:α) (t:Tr α) (k:Nat) (c:Tr α→β):Tr.put d v t k c=c (Tr.set d v t k):=fr_eq _ _
theorem zb2 {α:Type}(d v:α) (t:Tr α) (k j:Nat):Tr.get d (Tr.set d v t k) j=if j=k then v else Tr.get d t j:=by
 unfold Tr.get Tr.set
 rw [getP_putP]
 by_cases h:j=k
 ·subst h; simp
 ·rw [if_neg h,if_neg (fun e => h (pth_inj e))]
theorem get_same {α:Type}(d v:α) (t:Tr α) (k:Nat):Tr.get d (Tr.set d v t k) k=v:=by rw [zb2,if_pos rfl]
theorem zcB {α:Type}{d v:α}{t:Tr α}{k j:Nat}(h:j≠k):Tr.get d (Tr.set d v t k) j=Tr.get d t j:=by rw [zb2,if_neg h]
theorem get_e {α:Type}(d:α) (k:Nat):Tr.get d .e k=d:=getP_e _ _
theorem evens_get {α:Type}:∀ (l:List α) (i:Nat),(evens l)[i]? = l[2 * i]?
 | [],i => by simp [evens]
 | [x],i => by cases i <;> simp [evens]
 | x::y::m,i => by
  cases i with
  | zero => simp [evens]
  | succ i => rw [evens,List.getElem?_cons_succ,evens_get m i,show 2 * (i + 1)=2 * i + 1 + 1 by omega,List.getElem?_cons_succ,List.getElem?_cons_succ]
theorem odds_get {α:Type}:∀ (l:List α) (i:Nat),(odds l)[i]? = l[2 * i + 1]?
 | [],i => by simp [odds]
 | [x],i => by simp [odds]
 | x::y::m,i => by
  cases i with
  | zero => simp [odds]
  | succ i => rw [odds,List.getElem?_cons_succ,odds_get m i,show 2 * (i + 1) + 1=2 * i + 1 + 1 + 1 by omega,List.getElem?_cons_succ,List.getElem?_cons_succ]
theorem evens_len {α:Type}:∀ (l:List α),(evens l).length=(l.length + 1) / 2
 | [] => by simp [evens]
 | [x] => by simp [evens]
 | x::y::m => by rw [evens]; simp only [List.length_cons,evens_len m]; omega
theorem odds_len {α:Type}:∀ (l:List α),(odds l).length=l.length / 2
 | [] => by simp [odds]
 | [x] => by simp [odds]
 | x::y::m => by rw [odds]; simp only [List.length_cons,odds_len m]; omega
theorem mkTr_get {α:Type}(d:α):∀ (f:Nat) (l:List α) (g k:Nat),l.length < 2 ^ f→k≤g→getP d (pth g k) (mkTr f l)=(l[k]?).getD d:=by
  intro f
  induction f with
  | zero => intro l g k hl hk; have : l = [] := by cases l <;> simp_all
            subst this; rw [mkTr,getP_e]; rfl
  | succ f ih =>
    intro l g k hl hk
    cases l with
    | nil => rw [mkTr,getP_e]; rfl
    | cons x l =>
      rw [mkTr]
      simp only [List.length_cons] at hl
      cases k with
      | zero => cases g <;> (show getP d [] _=_; rw [zfU]; simp)
      | succ k =>
        cases g with
        | zero => omega
        | succ g =>
          have h1:pth (g + 1) (k + 1)=Nat.beq (k % 2) 1::pth g (k / 2):=rfl
          have hp:2 ^ (f + 1)=2 * 2 ^ f:=by rw [Nat.pow_succ]; omega
          rw [h1,zeC,List.getElem?_cons_succ]
          rcases Nat.mod_two_eq_zero_or_one k with h | h
          · rw [h]; show getP d _ (mkTr f (evens l))=_
            rw [ih _ _ _ (by rw [evens_len]; omega) (by omega),evens_get,show 2 * (k / 2)=k by omega]
          · rw [h]; show getP d _ (mkTr f (odds l))=_
            rw [ih _ _ _ (by rw [odds_len]; omega) (by omega),odds_get,show 2 * (k / 2) + 1=k by omega]
theorem mkTr_at {α:Type}(d:α) (f:Nat) (l:List α) (k:Nat) (hl:l.length < 2 ^ f):Tr.get d (mkTr f l) k=(l[k]?).getD d:=mkTr_get d f l k k hl (Nat.le_refl _)
theorem zal {a b:Nat}:Nat.blt a b=true↔a < b:=⟨fun h => Nat.le_of_ble_eq_true h,fun h => Nat.ble_eq_true_of_le h⟩
theorem zaf {a b:Nat}:Nat.ble a b=true↔a≤b:=⟨fun h => Nat.le_of_ble_eq_true h,fun h => Nat.ble_eq_true_of_le h⟩
theorem zaa {a b:Nat}:Nat.beq a b=true↔a=b:=⟨fun h => Nat.eq_of_beq_eq_true h,fun h => by subst h; exact Nat.beq_refl a⟩
theorem blt_dec (a b:Nat):Nat.blt a b=decide (a < b):=by rw [Bool.eq_iff_iff,zal]; simp
theorem zf2 (a b:Nat):Nat.beq a b=decide (a=b):=by rw [Bool.eq_iff_iff,zaa]; simp
theorem kN_inj {k k' : IntKind}(h:Nat.beq (kN k) (kN k')=true):k=k':=by cases k <;> cases k' <;> first | rfl | cases h
theorem zdK (a b:Int):ltI a b=decide (a < b):=by
 rw [Bool.eq_iff_iff,decide_eq_true_iff]
 cases a <;> cases b <;> simp only [ltI,zal] <;> first | exact ⟨fun h => by simp at h,fun h => by omega⟩ | omega | (constructor <;> intro h <;> omega) | simp <;> omega
theorem zcG (a b:Int):eqI a b=decide (a=b):=by
 rw [Bool.eq_iff_iff,decide_eq_true_iff]
 cases a <;> cases b <;> simp only [eqI,zaa] <;> first | exact ⟨fun h => congrArg _ h,fun h => (by injection h)⟩ | exact ⟨fun h => (by cases h),fun h => (by cases h)⟩
theorem addI_eq (a b:Int):addI a b=a + b:=by cases a <;> cases b <;> rfl
theorem subI_eq (a b:Int):subI a b=a - b:=by
  cases a <;> cases b <;> try rfl
  rename_i a b
  simp only [subI]
  cases h:Nat.ble b a with
  | true => have:=zaf.1 h; simp; omega
  | false => have : ¬ b ≤ a := fun h' => by rw [zaf.2 h'] at h; cases h
             simp; omega
theorem mulI_eq (a b:Int):mulI a b=a * b:=by cases a <;> cases b <;> rfl
theorem putI_eq (k:IntKind) (z:Int):putI k z = .int k z:=by cases z <;> simp [putI]
theorem zeN {k:IntKind}{n:Nat}(h:n < lim k):k.wrap (.ofNat n) = .ofNat n:=by
 cases k <;> simp only [lim] at h <;> simp [IntKind.wrap,IntKind.bits,IntKind.signed] <;> omega
theorem zdc {k:IntKind}{M H z:Int}(e1:(2:Int) ^ k.bits=M) (e2:(2:Int) ^ (k.bits - 1)=H) (hM:M=2 * H) (hs:k.signed=true) (h1:-H≤z) (h2:z < 0):k.wrap z=z:=by
 unfold IntKind.wrap
 rw [e1,e2,hs]
 have h:z % M=z + M:=by
  have:(z + M) % M=z + M:=Int.emod_eq_of_lt (by omega) (by omega)
  rw [← this,Int.add_emod_right]
 rw [h]
 show (if (true && decide (z + M ≥ H))=true then z + M - M else z + M)=z
 rw [Bool.true_and,if_pos (decide_eq_true (by omega))]
 omega
theorem wrap_neg {k:IntKind}{n:Nat}(hs:k.signed=true) (h:n < lim k):k.wrap (.negSucc n) = .negSucc n:=by
 cases k <;> first
  | (cases hs; done)
  | exact zdc (M:=256) (H:=128) rfl rfl rfl rfl (by rw [Int.negSucc_eq]; simp only [lim] at h; omega) (by rw [Int.negSucc_eq]; omega)
  | exact zdc (M:=65536) (H:=32768) rfl rfl rfl rfl (by rw [Int.negSucc_eq]; simp only [lim] at h; omega) (by rw [Int.negSucc_eq]; omega)
  | exact zdc (M:=4294967296) (H:=2147483648) rfl rfl rfl rfl (by rw [Int.negSucc_eq]; simp only [lim] at h; omega) (by rw [Int.negSucc_eq]; omega)
  | exact zdc (M:=18446744073709551616) (H:=9223372036854775808) rfl rfl rfl rfl (by rw [Int.negSucc_eq]; simp only [lim] at h; omega) (by rw [Int.negSucc_eq]; omega)
theorem mkN_eq (k:IntKind) (n:Nat):mkN k n = .int k (k.wrap (n:Int)):=by
 unfold mkN
 split
 ·rename_i h; rw [frN_eq]; exact congrArg _ (zeN (zal.1 h)).symm
 ·rw [putI_eq]; rfl
theorem zdS (k:IntKind) (z:Int):mkI k z = .int k (k.wrap z):=by
 cases z with
 | ofNat n => exact mkN_eq k n
 | negSucc n =>
  simp only [mkI]
  split
  ·rename_i h
   rw [Bool.and_eq_true] at h
   rw [frN_eq,wrap_neg h.1 (zal.1 h.2)]
  ·rw [putI_eq]
theorem zbz:∀ l m:List UInt8,l.length=m.length→bytesNum l=bytesNum m→l=m
 | [],[],_,_ => rfl
 | a::l,b::m,hl,h => by
  have ha:=a.toNat_lt
  have hb:=b.toNat_lt
  simp only [bytesNum] at h
  have h1:a.toNat=b.toNat:=by omega
  have h2:bytesNum l=bytesNum m:=by omega
  rw [UInt8.toNat_inj.1 h1,zbz l m (by simpa using hl) h2]
theorem zbA (l m:List UInt8):bytesNum (l++m)=bytesNum l + bytesNum m * 256 ^ l.length:=by
 induction l with
 | nil => simp [bytesNum]
 | cons b l ih =>
  simp only [List.cons_append,bytesNum,ih,List.length_cons,Nat.pow_succ]
  rw [Nat.mul_add,← Nat.add_assoc]
  congr 1
  rw [Nat.mul_comm 256,Nat.mul_assoc,Nat.mul_comm _ 256]
theorem zbE:∀ (o:Nat) (l:List UInt8),bytesNum (l.drop o)=bytesNum l / 256 ^ o
 | 0,l => by simp
 | o + 1,[] => by simp [bytesNum]
 | o + 1,b::l => by
  have hb:=b.toNat_lt
  rw [List.drop_succ_cons,zbE o l,bytesNum,Nat.pow_succ,Nat.mul_comm _ 256,← Nat.div_div_eq_div_mul]
  congr 1; omega
theorem zbD:∀ (n:Nat) (l:List UInt8),bytesNum (l.take n)=bytesNum l % 256 ^ n
 | 0,l => by simp [bytesNum,Nat.mod_one]
 | n + 1,[] => by simp [bytesNum]
 | n + 1,b::l => by
  have hb:=b.toNat_lt
  rw [List.take_succ_cons,bytesNum,bytesNum,zbD n l,Nat.pow_succ,Nat.mul_comm _ 256,Nat.mod_mul]
  have h1:(b.toNat + 256 * bytesNum l) % 256=b.toNat:=by omega
  have h2:(b.toNat + 256 * bytesNum l) / 256=bytesNum l:=by omega
  rw [h1,h2]
theorem zfu (l:List UInt8) (o n:Nat):subN (bytesNum l) o n=bytesNum ((l.drop o).take n):=by
 rw [zbD,zbE]; rfl
theorem zcI:∀ (l:List UInt8) (j:Nat),j < l.length→byteN (bytesNum l) j=(l.getD j 0).toNat
 | b::l,0,_ => by
  have hb:=b.toNat_lt
  simp only [byteN,bytesNum,List.getD_cons_zero]
  show (b.toNat + 256 * bytesNum l) / 256 ^ 0 % 256=_
  rw [Nat.pow_zero,Nat.div_one]; omega
 | b::l,j + 1,h => by
  have hb:=b.toNat_lt
  rw [List.getD_cons_succ,← zcI l j (by simpa using h)]
  show (b.toNat + 256 * bytesNum l) / 256 ^ (j + 1) % 256=bytesNum l / 256 ^ j % 256
  rw [Nat.pow_succ,Nat.mul_comm _ 256,← Nat.div_div_eq_div_mul]
  congr 2; omega
def mtR (P:Program) (t:TypeId) (path:List FieldStep) (func:Option (FuncId×Bool)):Option Mw:=match path,func with
 | [],some (f,true) => match P.underlying t with
  | some (.pointer _) => some (.plain f)
  | _ => none
 | [],some (f,false) => match P.underlying t with
  | some (.pointer e) => some (.loads f e)
  | some _ => some (.plain f)
  | none => none
 | [⟨s,j,true⟩],some (f,true) => match P.underlying s with
  | some (.struct fs) => match fs[j]? with
   | some fd => match aggB (P.underlying fd.type),szOf P fd.type with
    | true,_ + 1 => some (.fields f fd.offset)
    | _,_ => none
   | none => none
  | _ => none
 | _,_ => none
def mtOf (P:Program) (t:TypeId) (m:String):Option Mw:=match P.info? t with
 | none => none
 | some i => match i.methods.find? (fun r => r.name == m) with
  | none => none
  | some r => mtR P t r.path.toList r.func
def okOps (n:Nat) (os:List Oper):Bool:=os.all fun o => (match o.dst with
 | some d => Nat.blt d n
 | none => true) && (readsOf os o).all fun t => Nat.blt t n
def okC (n:Nat):Code→Bool
 | .region _ ops _ => okOps n ops.toList
 | .seq a b => okC n a && okC n b
 | .cond _ a b => okC n a && okC n b
 | .block _ b => okC n b
 | .loop b => okC n b
 | .scope b => okC n b
 | .rangeFunc _ ps a b => ps.toList.all (fun t => Nat.blt t n) && okC n a && okC n b
 | _ => true
def okFn (fn:Func):Bool:=!(fn.name == "runtime.NumGoroutine") && match fn.body with
 | some c => okC fn.ntmps c
 | none => false
variable {G:List (Nat×Obj)}
structure Bk where
  b:Nat
  off:Nat
  size:Nat
  sz:Nat
abbrev BB:=List Bk
def nanW (n:Nat):Prop:=n < 18446744073709551616∧∃ s f,Ieee.double.read n = .nan s f
mutual
def VR (B:BB):LV→Value→Prop
 | .undef,_ => True
 | .bool b,u => u = .bool b
 | .int k n,u => u = .int k n
 | .flt k n,u => u = .float k n
 | .nan,u => ∃ n,u = .float .f64 n∧nanW n
 | .nanb,u => ∃ n:Nat,u = .int .u64 n∧nanW n
 | .str len n,u => ∃ l,u=str l∧l.length=len∧bytesNum l=n
 | .nilp,u => u = .pointer none
 | .ptr i o,u => ∃ k,B[i]? = some k∧u = .pointer (some ⟨k.b,k.off + o,none⟩)
 | .gptr g o,u => u = .pointer (some ⟨g,o,none⟩)
 | .nils,u => u = .slice none 0 0
 | .sle,u => ∃ A c,u = .slice A 0 c
 | .sl i o len cap,u => ∃ k,B[i]? = some k∧u = .slice (some ⟨k.b,k.off + o,none⟩) len cap
 | .slo i o len a,u => ∃ k c A,B[i]? = some k∧u = .slice (some A) len c∧len≤c∧k.off + o + c * k.sz=k.size∧(0 < c→A=⟨k.b,k.off + o,none⟩)∧(c=0→A=⟨k.b,k.off + a,none⟩)∧c≤9223372036854775807
 | .map0,u => u = .map none
 | .map i,u => ∃ k,B[i]? = some k∧u = .map (some k.b)
 | .fn f us cs,u => ∃ a b,u = .func (.func f) a b∧VRL B us a.toList∧VRL B cs b.toList
 | .yield i,u => ∃ k,B[i]? = some k∧u = .func (.yield k.b) #[] #[]
 | .nilf,u => u = .nilFunc
 | .ifc t v,u => ∃ x,u = .iface t x∧VR B v x
 | .nili,u => u = .nilIface
 | .agg cs,u => ∃ vs,u = .agg vs∧VRL B cs vs.toList∧∀ c ∈ vs.toList,c.oneCell' = true
 | .tup cs,u => ∃ vs,u = .tuple vs∧VRL B cs vs.toList
def VRL (B:BB):List LV→List Value→Prop
 | [],l => l=[]
 | a::l,m => ∃ b m',m=b::m'∧VR B a b∧VRL B l m'
end
theorem zaP {B B' : BB}(h:B <+: B') {i:Nat}{k:Bk}(hk:B[i]? = some k):B'[i]? = some k:=by
 obtain ⟨C,rfl⟩:=h
 rw [List.getElem?_append_left (List.getElem?_eq_some_iff.1 hk).1]; exact hk
mutual
theorem VR.mono {B B' : BB}(hp:B <+: B'):∀ (v:LV) (u:Value),VR B v u→VR B' v u
 | .undef,_,_ => by simp only [VR]
 | .bool b,u,h => by simp only [VR] at h ⊢; exact h
 | .int k n,u,h => by simp only [VR] at h ⊢; exact h
 | .flt k n,u,h => by simp only [VR] at h ⊢; exact h
 | .nan,u,h => by simp only [VR] at h ⊢; exact h
 | .nanb,u,h => by simp only [VR] at h ⊢; exact h
 | .str len n,u,h => by simp only [VR] at h ⊢; exact h
 | .nilp,u,h => by simp only [VR] at h ⊢; exact h
 | .ptr i o,u,h => by simp only [VR] at h ⊢; obtain ⟨k,h1,h2⟩:=h; exact ⟨k,zaP hp h1,h2⟩
 | .gptr g o,u,h => by simp only [VR] at h ⊢; exact h
 | .nils,u,h => by simp only [VR] at h ⊢; exact h
 | .sle,u,h => by simp only [VR] at h ⊢; exact h
 | .sl i o len cap,u,h => by simp only [VR] at h ⊢; obtain ⟨k,h1,h2⟩:=h; exact ⟨k,zaP hp h1,h2⟩
 | .slo i o len a,u,h => by simp only [VR] at h ⊢; obtain ⟨k,c,A,h1,h2⟩:=h; exact ⟨k,c,A,zaP hp h1,h2⟩
 | .map0,u,h => by simp only [VR] at h ⊢; exact h
 | .map i,u,h => by simp only [VR] at h ⊢; obtain ⟨k,h1,h2⟩:=h; exact ⟨k,zaP hp h1,h2⟩
 | .fn f us cs,u,h => by simp only [VR] at h ⊢; obtain ⟨a,b,h1,h2,h3⟩:=h; exact ⟨a,b,h1,VRL.mono hp us _ h2,VRL.mono hp cs _ h3⟩
 | .yield i,u,h => by simp only [VR] at h ⊢; obtain ⟨k,h1,h2⟩:=h; exact ⟨k,zaP hp h1,h2⟩
 | .nilf,u,h => by simp only [VR] at h ⊢; exact h
 | .ifc t v,u,h => by simp only [VR] at h ⊢; obtain ⟨x,h1,h2⟩:=h; exact ⟨x,h1,VR.mono hp v x h2⟩
 | .nili,u,h => by simp only [VR] at h ⊢; exact h
 | .agg cs,u,h => by simp only [VR] at h ⊢; obtain ⟨vs,h1,h2,h3⟩:=h; exact ⟨vs,h1,VRL.mono hp cs _ h2,h3⟩
 | .tup cs,u,h => by simp only [VR] at h ⊢; obtain ⟨vs,h1,h2⟩:=h; exact ⟨vs,h1,VRL.mono hp cs _ h2⟩
theorem VRL.mono {B B' : BB}(hp:B <+: B'):∀ (v:List LV) (u:List Value),VRL B v u→VRL B' v u
 | [],l,h => by simp only [VRL] at h ⊢; exact h
 | a::l,m,h => by simp only [VRL] at h ⊢; obtain ⟨b,m',h1,h2,h3⟩:=h; exact ⟨b,m',h1,VR.mono hp a b h2,VRL.mono hp l m' h3⟩
end
theorem VRL.len {B:BB}:∀ {l:List LV}{m:List Value},VRL B l m→m.length=l.length
 | [],m,h => by simp only [VRL] at h; subst h; rfl
 | a::l,m,h => by simp only [VRL] at h; obtain ⟨b,m',rfl,_,h⟩:=h; simp [VRL.len h]
theorem VRL.get {B:BB}:∀ {l:List LV}{m:List Value},VRL B l m→∀ {i:Nat}{v:LV},l[i]? = some v→∃ u,m[i]? = some u∧VR B v u
 | [],m,h,i,v,hv => by simp at hv
 | a::l,m,h,i,v,hv => by
  simp only [VRL] at h; obtain ⟨b,m',rfl,h1,h2⟩:=h
  cases i with
  | zero => simp at hv; subst hv; exact ⟨b,by simp,h1⟩
  | succ i => simp at hv; obtain ⟨u,hu,h3⟩:=VRL.get h2 hv; exact ⟨u,by simpa using hu,h3⟩
theorem VRL.app {B:BB}:∀ {l:List LV}{m:List Value}{l' : List LV}{m' : List Value},VRL B l m→VRL B l' m'→VRL B (l++l') (m++m')
 | [],m,l',m',h,h' => by simp only [VRL] at h; subst h; simpa using h'
 | a::l,m,l',m',h,h' => by
  simp only [VRL] at h; obtain ⟨b,m1,rfl,h1,h2⟩:=h
  simp only [List.cons_append,VRL]; exact ⟨b,m1++m',rfl,h1,VRL.app h2 h'⟩
theorem VRL.take {B:BB}:∀ (n:Nat) {l:List LV}{m:List Value},VRL B l m→VRL B (l.take n) (m.take n)
 | 0,l,m,h => by simp [VRL]
 | n + 1,[],m,h => by simp only [VRL] at h; subst h; simp [VRL]
 | n + 1,a::l,m,h => by
  simp only [VRL] at h; obtain ⟨b,m1,rfl,h1,h2⟩:=h
  simp only [List.take_succ_cons,VRL]; exact ⟨b,_,rfl,h1,VRL.take n h2⟩
theorem VRL.drop {B:BB}:∀ (n:Nat) {l:List LV}{m:List Value},VRL B l m→VRL B (l.drop n) (m.drop n)
 | 0,l,m,h => by simpa using h
 | n + 1,[],m,h => by simp only [VRL] at h; subst h; simp [VRL]
 | n + 1,a::l,m,h => by
  simp only [VRL] at h; obtain ⟨b,m1,rfl,h1,h2⟩:=h
  simpa using VRL.drop n h2
theorem VRL.nil_ {B:BB}:VRL B [] []:=by simp only [VRL]
theorem VRL.cons_ {B:BB}{a:LV}{b:Value}{l:List LV}{m:List Value}(h:VR B a b) (h' : VRL B l m):VRL B (a::l) (b::m):=by
 simp only [VRL]; exact ⟨b,m,rfl,h,h'⟩
theorem VRL.bytes {B:BB}:∀ (l:List UInt8),VRL B (bytesL l.length (bytesNum l)) (l.map byt)
 | [] => VRL.nil_
 | b::l => by
  have hb:=b.toNat_lt
  have h1:Nat.mod (b.toNat + 256 * bytesNum l) 256=b.toNat:=(by omega:(b.toNat + 256 * bytesNum l) % 256=b.toNat)
  have h2:Nat.div (b.toNat + 256 * bytesNum l) 256=bytesNum l:=(by omega:(b.toNat + 256 * bytesNum l) / 256=bytesNum l)
  rw [List.length_cons,bytesL,bytesNum,h1,h2,List.map_cons]
  exact VRL.cons_ (by simp only [VR]; rfl) (VRL.bytes l)
def ADR (B:BB):AD→Deferred→Prop
 | .call f args,d => ∃ cap zs,d=⟨.fn (.func f) cap,zs⟩∧VRL B args (zs.toList++cap.toList)
 | .coll i,d => ∃ k,B[i]? = some k∧d=⟨.collected k.b,#[]⟩
def ADL (B:BB):List AD→List Deferred→Prop
 | [],l => l=[]
 | a::l,m => ∃ b m',m=b::m'∧ADR B a b∧ADL B l m'
def FR (B:BB) (f:Fr) (a:Array Value):Prop:=∀ t,VR B (Tr.get .undef f t) (a.getD t Go.undef)
def MRL (B:BB):List (LV×LV)→List MapEntry→Prop
 | [],l => l=[]
 | p::l,m => ∃ e m',m=e::m'∧VR B p.1 e.key∧VR B p.2 e.val∧MRL B l m'
def liveO:LO→Bool
 | .gone => false
 | _ => true
def DOR (B:BB):Option (List AD)→Option (List Deferred)→Prop
 | none,none => True
 | some l,some m => ADL B l m
 | _,_ => False
structure LoopR (B:BB) (L:Loop) (st:LoopState) (pend:Option Code) (fn:FuncId) (f:Fr) (ps:List Tmp) (assign body:Code) (dfs:Nat):Prop where
  okA:okC L.tmps.size assign=true
  okB:okC L.tmps.size body=true
  okP:ps.all (fun t => Nat.blt t L.tmps.size)=true
  okJ:∀ c,pend=some c→∀ n,okC n c=true
  state:L.state=st
  pend:L.pending=pend
  fn:L.fn=fn
  slots:FR B f L.tmps
  params:L.params.toList=ps
  assign:L.assign=assign
  body:L.body=body
  dfs:∃ k:Bk,B[dfs]? = some k∧L.defers=k.b
  bound:∀ t,Tr.get .undef f t≠.undef→t < L.tmps.size
def ITR (B:BB):Option Nat→Option Nat→Prop
 | none,m => m=none
 | some i,m => ∃ k:Bk,B[i]? = some k∧m=some k.b
def OR (B:BB) (k:Bk) (obj:Obj):LO→Prop
 | .gone => False
 | .rows sz len t => ∃ cs e,obj = .cells cs e (0,0)∧0 < sz∧k.sz=sz∧cs.size=k.size∧k.off + len * sz≤k.size∧(∀ c ∈ cs.toList,c.oneCell' = true) ∧
   ∀ r,r < len→VRL B (Tr.get [] t r) ((cs.toList.drop (k.off + r * sz)).take sz)
 | .bytes len x => ∃ cs e fr l,obj = .cells cs e fr∧k.sz=1∧cs.size=k.size∧k.off + len≤k.size∧frOut fr k.size∧(∀ c ∈ cs.toList,c.oneCell' = true) ∧
   l.length=len∧bytesNum l=x∧(cs.toList.drop k.off).take len=l.map byt
 | .map clock bs es => ∃ ents,obj = .map ents clock∧ents.toList.map (·.born)=bs∧MRL B es ents.toList
 | .iter m since seen last => k.off=0∧∃ m' sn,obj = .mapIter m' since sn last∧sn.toList=seen∧ITR B m m'
 | .loop st pend fn f ps assign body dfs => ∃ L,obj = .loop L∧LoopR B L st pend fn f ps assign body dfs
 | .defd ds => ∃ ds',obj = .deferred ds'∧DOR B ds ds'
def HR (G:List (Nat×Obj)) (B:BB) (h:LH) (H:List Seg):Prop:=∃ p:Nat→Nat,(∀ i,liveO (atB h i)=true→∃ (k:Bk) (obj:Obj),B[i]? = some k∧H[p i]? = some [(k.b,obj)]∧OR B k obj (atB h i)) ∧
 (∀ i i',liveO (atB h i)=true→liveO (atB h i')=true→p i=p i'→i=i')∧∀ g ∈ G,∃ j,H[j]? = some [g]∧∀ i,liveO (atB h i)=true→p i≠j
theorem HR.at_ {B:BB}{h:LH}{H:List Seg}(hr:HR G B h H) (i:Nat) (hi:liveO (atB h i)=true):∃ (k:Bk) (j:Nat) (obj:Obj),B[i]? = some k∧H[j]? = some [(k.b,obj)]∧OR B k obj (atB h i):=by
 obtain ⟨p,h1,_⟩:=hr
 obtain ⟨k,obj,h2⟩:=h1 i hi
 exact ⟨k,p i,obj,h2⟩
theorem HR.apart {B:BB}{h:LH}{H:List Seg}{w0:World}{base:Nat}{w:World}(S:Sep w0 base w H) (hr:HR G B h H) (i i' : Nat) (k k' : Bk) (hi:liveO (atB h i)=true) (hi' : liveO (atB h i')=true) (hk:B[i]? = some k) (hk' : B[i']? = some k') (hb:k.b=k'.b):i=i':=by
 obtain ⟨p,h1,h2,_⟩:=hr
 obtain ⟨k1,o1,a1,a2,_⟩:=h1 i hi
 obtain ⟨k2,o2,b1,b2,_⟩:=h1 i' hi'
 rw [hk] at a1; cases a1
 rw [hk'] at b1; cases b1
 refine h2 i i' hi hi' ?_
 have:=(zck S.nodup (i:=p i) (j:=0) (s:=[(k.b,o1)]) (b:=k.b) (o:=o1) a2 rfl (i':=p i') (s':=[(k'.b,o2)]) (o':=o2) b2 (by rw [hb]; simp)).1
 exact this.symm
theorem FR.mono {B B' : BB}(hp:B <+: B') {f:Fr}{a:Array Value}(h:FR B f a):FR B' f a:=fun t => VR.mono hp _ _ (h t)
theorem ADR.mono {B B' : BB}(hp:B <+: B') {d:AD}{e:Deferred}(h:ADR B d e):ADR B' d e:=by
 cases d with
 | call f args => obtain ⟨c,a,h1,h2⟩:=h; exact ⟨c,a,h1,VRL.mono hp _ _ h2⟩
 | coll i => obtain ⟨k,h1,h2⟩:=h; exact ⟨k,zaP hp h1,h2⟩
theorem ADL.mono {B B' : BB}(hp:B <+: B'):∀ {d:List AD}{e:List Deferred},ADL B d e→ADL B' d e
 | [],e,h => h
 | a::l,e,h => by obtain ⟨b,m,h1,h2,h3⟩:=h; exact ⟨b,m,h1,h2.mono hp,ADL.mono hp h3⟩
theorem MRL.mono {B B' : BB}(hp:B <+: B'):∀ {d:List (LV×LV)}{e:List MapEntry},MRL B d e→MRL B' d e
 | [],e,h => h
 | a::l,e,h => by obtain ⟨b,m,h1,h2,h3,h4⟩:=h; exact ⟨b,m,h1,VR.mono hp _ _ h2,VR.mono hp _ _ h3,MRL.mono hp h4⟩
theorem LoopR.mono {B B' : BB}(hp:B <+: B') {L:Loop}{st:LoopState}{pend:Option Code}{fn:FuncId}{f:Fr}{ps:List Tmp}{assign body:Code}{dfs:Nat}(h:LoopR B L st pend fn f ps assign body dfs):LoopR B' L st pend fn f ps assign body dfs :=
 ⟨h.okA,h.okB,h.okP,h.okJ,h.state,h.pend,h.fn,h.slots.mono hp,h.params,h.assign,h.body,by obtain ⟨k,h1,h2⟩:=h.dfs; exact ⟨k,zaP hp h1,h2⟩,h.bound⟩
theorem OR.mono {B B' : BB}(hp:B <+: B') {k:Bk}{obj:Obj}:∀ {lo:LO},OR B k obj lo→OR B' k obj lo
 | .gone,h => h
 | .rows sz len t,h => by
  obtain ⟨cs,e,h1,h2,h3,h4,h5,h6,h7⟩:=h
  exact ⟨cs,e,h1,h2,h3,h4,h5,h6,fun r hr => VRL.mono hp _ _ (h7 r hr)⟩
 | .bytes len x,h => h
 | .map clock bs es,h => by obtain ⟨a,h1,h2,h3⟩:=h; exact ⟨a,h1,h2,h3.mono hp⟩
 | .iter m since seen last,h => by
  obtain ⟨h0,m',sn,h1,h2,h3⟩:=h
  refine ⟨h0,m',sn,h1,h2,?_⟩
  cases m with
  | none => exact h3
  | some i => obtain ⟨k,h4,h5⟩:=h3; exact ⟨k,zaP hp h4,h5⟩
 | .loop st pend fn f ps assign body dfs,h => by
  obtain ⟨L,h1,h2⟩:=h
  exact ⟨L,h1,h2.mono hp⟩
 | .defd ds,h => by
  obtain ⟨ds',h1,h2⟩:=h
  refine ⟨ds',h1,?_⟩
  cases ds with
  | none => cases ds' with
   | none => trivial
   | some m => exact h2
  | some l => cases ds' with
   | none => exact h2
   | some m => exact ADL.mono hp h2
theorem HR.mono {B B' : BB}{h:LH}{H:List Seg}(hp:B <+: B') (hr:HR G B h H):HR G B' h H:=by
 obtain ⟨p,h1,h2⟩:=hr
 refine ⟨p,fun i hi => ?_,h2⟩
 obtain ⟨k,obj,a1,a2,a3⟩:=h1 i hi
 exact ⟨k,obj,zaP hp a1,a2,a3.mono hp⟩
theorem wrap_mod {k:IntKind}{a b:Int}(h:a % (2:Int) ^ k.bits=b % (2:Int) ^ k.bits):k.wrap a=k.wrap b:=by
 unfold IntKind.wrap; rw [h]
theorem zd3 (n:Nat):((2 ^ n:Nat):Int)=(2:Int) ^ n:=by norm_cast
theorem zdd {k:IntKind}{a b:Nat}(h:a % 2 ^ k.bits=b % 2 ^ k.bits):k.wrap (a:Int)=k.wrap (b:Int):=by
 apply wrap_mod
 have:=congrArg (fun n:Nat => (n:Int)) h
 simp only [Int.natCast_emod,zd3] at this
 exact this
theorem zc5 (n a:Nat):(BitVec.ofInt n (Int.ofNat a)).toNat=a % 2 ^ n:=by
 rw [BitVec.toNat_ofInt]
 show ((a:Int) % ((2 ^ n:Nat):Int)).toNat=_
 rw [← Int.natCast_emod]; rfl
theorem wrap_and (k:IntKind) (a b:Nat):k.wrap ((BitVec.ofInt k.bits (Int.ofNat a) &&& BitVec.ofInt k.bits (Int.ofNat b)).toNat:Int)=k.wrap ((Nat.land a b:Nat):Int):=by
 apply zdd
 rw [BitVec.toNat_and,zc5,zc5]
 show (a % _ &&& b % _) % _=(a &&& b) % _
 rw [Nat.and_mod_two_pow,Nat.mod_mod,Nat.mod_mod,Nat.and_mod_two_pow]
theorem wrap_or (k:IntKind) (a b:Nat):k.wrap ((BitVec.ofInt k.bits (Int.ofNat a) ||| BitVec.ofInt k.bits (Int.ofNat b)).toNat:Int)=k.wrap ((Nat.lor a b:Nat):Int):=by
 apply zdd
 rw [BitVec.toNat_or,zc5,zc5]
 show (a % _ ||| b % _) % _=(a ||| b) % _
 rw [Nat.or_mod_two_pow,Nat.mod_mod,Nat.mod_mod,Nat.or_mod_two_pow]
theorem wrap_xor (k:IntKind) (a b:Nat):k.wrap ((BitVec.ofInt k.bits (Int.ofNat a) ^^^ BitVec.ofInt k.bits (Int.ofNat b)).toNat:Int)=k.wrap ((Nat.xor a b:Nat):Int):=by
 apply zdd
 rw [BitVec.toNat_xor,zc5,zc5]
 show (a % _ ^^^ b % _) % _=(a ^^^ b) % _
 rw [Nat.xor_mod_two_pow,Nat.mod_mod,Nat.mod_mod,Nat.xor_mod_two_pow]
theorem zec (k:IntKind) (a b:Nat):k.wrap ((BitVec.ofInt k.bits (Int.ofNat a) &&& ~~~(BitVec.ofInt k.bits (Int.ofNat b))).toNat:Int)=k.wrap ((notN a b:Nat):Int):=by
 apply zdd
 apply Nat.eq_of_testBit_eq
 intro i
 show _=((a ^^^ (a &&& b)) % 2 ^ k.bits).testBit i
 simp only [Nat.testBit_mod_two_pow,Nat.testBit_xor,Nat.testBit_and,BitVec.toNat_and,zc5]
 by_cases hi:i < k.bits
 ·have h1:(~~~(BitVec.ofInt k.bits (Int.ofNat b))).toNat.testBit i = !(b.testBit i):=by
   rw [BitVec.testBit_toNat,BitVec.getLsbD_not,← BitVec.testBit_toNat,zc5,Nat.testBit_mod_two_pow]
   simp [hi]
  rw [h1]
  cases a.testBit i <;> cases b.testBit i <;> simp [hi]
 ·simp [hi]
theorem sh_min (k:IntKind) (n:Nat):shN k n=2 ^ (min n k.bits):=by
  have hb:bitsN k=k.bits:=by cases k <;> rfl
  unfold shN
  show 2 ^ _=_
  congr 1
  cases h:Nat.ble n (bitsN k) with
  | true => have:=zaf.1 h; rw [hb] at this; simp; omega
  | false => have : ¬ n ≤ bitsN k := fun h' => by rw [zaf.2 h'] at h; cases h
             rw [hb] at this; simp [hb]; omega
theorem not_wrap {k:IntKind}(hs:k.signed=true) (n:Nat):k.wrap ((BitVec.ofInt k.bits (-1) ^^^ BitVec.ofInt k.bits (Int.ofNat n)).toNat:Int)=k.wrap (.negSucc n):=by
 have h1:BitVec.ofInt k.bits (-1)=BitVec.allOnes k.bits:=by
  cases k <;> decide
 apply wrap_mod
 rw [h1,BitVec.allOnes_xor,BitVec.toNat_not,zc5]
 have hp:0 < 2 ^ k.bits:=Nat.two_pow_pos _
 have hlt:n % 2 ^ k.bits < 2 ^ k.bits:=Nat.mod_lt _ hp
 have e:((2 ^ k.bits - 1 - n % 2 ^ k.bits:Nat):Int)=(2:Int) ^ k.bits - 1 - (n:Int) % (2:Int) ^ k.bits:=by
  rw [Int.natCast_sub (by omega),Int.natCast_sub (by omega),Int.natCast_emod,zd3]; rfl
 rw [e,Int.negSucc_eq,show (2:Int) ^ k.bits - 1 - (n:Int) % (2:Int) ^ k.bits=(-1 - (n:Int) % (2:Int) ^ k.bits) + (2:Int) ^ k.bits by omega,Int.add_emod_right]
 rw [show -((n:Int) + 1) = -1 - (n:Int) by omega,Int.sub_emod,Int.emod_emod,← Int.sub_emod]
theorem not_wrapU {k:IntKind}(hs:k.signed=false) {n:Nat}(hn:n < lim k):k.wrap ((BitVec.ofInt k.bits k.max ^^^ BitVec.ofInt k.bits (Int.ofNat n)).toNat:Int)=k.wrap ((lim k - 1 - n:Nat):Int):=by
 have h1:BitVec.ofInt k.bits k.max=BitVec.allOnes k.bits:=by
  cases k <;> first | (cases hs; done) | decide
 have h2:lim k=2 ^ k.bits:=by cases k <;> first | (cases hs; done) | decide
 apply zdd
 rw [h1,BitVec.allOnes_xor,BitVec.toNat_not,zc5,h2,Nat.mod_eq_of_lt (a:=n) (by omega)]
theorem ltN_eq:∀ l m:List UInt8,ltN l.length (bytesNum l) m.length (bytesNum m)=Op.bytesLess l m
 | l,[] => by cases l <;> simp [ltN,Op.bytesLess]
 | [],b::m => by simp [ltN,Op.bytesLess]
 | a::l,b::m => by
  have ha:=a.toNat_lt
  have hb:=b.toNat_lt
  have h1:Nat.mod (bytesNum (a::l)) 256=a.toNat:=(by simp only [bytesNum]; omega:bytesNum (a::l) % 256=a.toNat)
  have h2:Nat.mod (bytesNum (b::m)) 256=b.toNat:=(by simp only [bytesNum]; omega:bytesNum (b::m) % 256=b.toNat)
  have h3:Nat.div (bytesNum (a::l)) 256=bytesNum l:=(by simp only [bytesNum]; omega:bytesNum (a::l) / 256=bytesNum l)
  have h4:Nat.div (bytesNum (b::m)) 256=bytesNum m:=(by simp only [bytesNum]; omega:bytesNum (b::m) / 256=bytesNum m)
  rw [List.length_cons,List.length_cons,ltN,h1,h2,h3,h4,Op.bytesLess,ltN_eq l m]
  cases h:Nat.beq a.toNat b.toNat with
  | true =>
   have e:a=b:=UInt8.toNat_inj.1 (zaa.1 h)
   subst e
   simp
  | false =>
   have e:a≠b:=fun e => by subst e; rw [zaa.2 rfl] at h; cases h
   have:(a == b)=false:=by simp [e]
   rw [this]
   simp only [Bool.false_and,Bool.or_false]
   rw [blt_dec]
   rfl
section
variable {P:Program}{t e k:TypeId}
theorem zcU (h:known P t=true):∃ i,P.info? t=some i∧mkTI P t=⟨i.size,i.bytes,match i.zero with | some z => cv 50 z | none => .undef,kindOf P t,cmpOf P t i,flat P t⟩∧(∀ z,i.zero=some z→z.cells.size=i.size):=by
 have h0:=h
 unfold known at h
 rw [Bool.and_eq_true,Bool.and_eq_true] at h
 cases hi:P.info? t with
 | none => rw [hi] at h; exact absurd h.2.2 (by simp)
 | some i =>
  refine ⟨i,rfl,?_,?_⟩
  ·unfold mkTI; rw [h0,hi]; try rfl
  ·intro z hz
   have h2:=h.2.2
   rw [hi] at h2
   simp only [hz] at h2
   exact zaa.1 h2
theorem zey (h:known P t=true):∃ d,P.underlying t=some d:=by
 unfold known at h
 rw [Bool.and_eq_true,Bool.and_eq_true] at h
 exact Option.isSome_iff_exists.1 h.2.1
theorem zce (h:known P t=false):mkTI P t=default:=by unfold mkTI; rw [h]
theorem zcW (h:(mkTI P t).kind≠.other):known P t=true∧(mkTI P t).kind=kindOf P t:=by
 cases hk:known P t with
 | false => rw [zce hk] at h; exact absurd rfl h
 | true => obtain ⟨i,_,h2,_⟩:=zcU hk; exact ⟨rfl,by rw [h2]⟩
theorem k_of {K:TK}(h:(mkTI P t).kind=K) (hn:K≠.other):known P t=true∧kindOf P t=K:=by
 have:=zcW (P:=P) (t:=t) (by rw [h]; exact hn)
 exact ⟨this.1,this.2 ▸ h⟩
theorem k_bool (h:(mkTI P t).kind = .bool):P.underlying t=some .bool:=by
 have:=(k_of h (by simp)).2
 unfold kindOf at this
 split at this <;> first | assumption | (cases this; done) | (split at this <;> cases this)
theorem k_int {kk:IntKind}(h:(mkTI P t).kind = .int kk):P.underlying t=some (.int kk):=by
 have:=(k_of h (by simp)).2
 unfold kindOf at this
 split at this <;> first | (cases this; assumption) | (cases this; done) | (split at this <;> cases this)
theorem k_flt (h:(mkTI P t).kind = .flt):P.underlying t=some (.float .f64):=by
 have:=(k_of h (by simp)).2
 unfold kindOf at this
 split at this <;> first | assumption | (cases this; done) | (split at this <;> cases this)
theorem k_str (h:(mkTI P t).kind = .str):P.underlying t=some .string:=by
 have:=(k_of h (by simp)).2
 unfold kindOf at this
 split at this <;> first | assumption | (cases this; done) | (split at this <;> cases this)
theorem k_ptr (h:(mkTI P t).kind = .ptr e):P.underlying t=some (.pointer e)∧known P e=true:=by
 have:=(k_of h (by simp)).2
 unfold kindOf at this
 split at this <;> first | (cases this; done) | (split at this <;> first | (cases this; exact ⟨by assumption,by assumption⟩) | (cases this; done))
theorem zaL (h:(mkTI P t).kind = .slice e):P.underlying t=some (.slice e)∧known P e=true:=by
 have:=(k_of h (by simp)).2
 unfold kindOf at this
 split at this <;> first | (cases this; done) | (split at this <;> first | (cases this; exact ⟨by assumption,by assumption⟩) | (cases this; done))
theorem zcp {n:Nat}(h:(mkTI P t).kind = .array n e):P.underlying t=some (.array n e)∧known P e=true:=by
 have:=(k_of h (by simp)).2
 unfold kindOf at this
 split at this <;> first | (cases this; done) | (split at this <;> first | (cases this; exact ⟨by assumption,by assumption⟩) | (cases this; done))
theorem k_map (h:(mkTI P t).kind = .map k e):P.underlying t=some (.map k e)∧known P k=true∧known P e=true:=by
 have:=(k_of h (by simp)).2
 unfold kindOf at this
 split at this <;> first | (cases this; done) | (split at this <;> first | (rename_i hh; rw [Bool.and_eq_true] at hh; cases this; exact ⟨by assumption,hh⟩) | (cases this; done))
theorem k_iface {b:Bool}(h:(mkTI P t).kind = .iface b):∃ ms,P.underlying t=some (.interface ms)∧b=ms.isEmpty:=by
 have:=(k_of h (by simp)).2
 unfold kindOf at this
 split at this <;> first | (cases this; exact ⟨_,by assumption,rfl⟩) | (cases this; done) | (split at this <;> cases this)
theorem k_func (h:(mkTI P t).kind = .func):∃ a b c,P.underlying t=some (.func a b c):=by
 have:=(k_of h (by simp)).2
 unfold kindOf at this
 split at this <;> first | (exact ⟨_,_,_,by assumption⟩) | (cases this; done) | (split at this <;> cases this)
theorem zds {l:List (Nat×Nat×Bool×TypeId)}(h:(mkTI P t).kind = .struct l):∃ fs,P.underlying t=some (.struct fs)∧l=fs.toList.map (fun f => (f.offset,szOf P f.type,aggB (P.underlying f.type),f.type))∧∀ f ∈ fs.toList,known P f.type=true:=by
 have:=(k_of h (by simp)).2
 unfold kindOf at this
 split at this <;> first | (cases this; done) | (split at this <;> first | (rename_i hh; cases this; exact ⟨_,by assumption,rfl,fun f hf => List.all_eq_true.1 hh f hf⟩) | (cases this; done))
theorem zfR (h:(mkTI P t).kind≠.other):∃ d,P.underlying t=some d:=by
 have h1:=zcW h
 rw [h1.2] at h
 unfold kindOf at h
 cases hu:P.underlying t with
 | some d => exact ⟨d,rfl⟩
 | none => rw [hu] at h; exact absurd rfl h
theorem zaI (h:known P t=true):∃ i,P.info? t=some i∧(mkTI P t).sz=i.size∧(mkTI P t).bytes=i.bytes:=by
 obtain ⟨i,h1,h2,_⟩:=zcU h
 exact ⟨i,h1,by rw [h2],by rw [h2]⟩
theorem zaz (h:known P t=true) (w:World):(sizeOf t).run P w = .ok (mkTI P t).sz w:=by
 obtain ⟨i,h1,h2,_⟩:=zaI h
 simp [sizeOf,typeInfo,h1,h2]
theorem zdF (h:known P t=true):szOf P t=(mkTI P t).sz:=by
 obtain ⟨i,h1,h2,_⟩:=zaI h
 unfold szOf; rw [h1,h2]
theorem ok_flat (h:(mkTI P t).ok=true):known P t=true∧flat P t=true:=by
 cases hk:known P t with
 | false => rw [zce hk] at h; cases h
 | true => obtain ⟨i,_,h2,_⟩:=zcU hk; rw [h2] at h; exact ⟨rfl,h⟩
theorem flat_agg (h:flat P t=true) (w:World):(Go.isAgg t).run P w = .ok false w:=by
 unfold flat at h
 cases hu:P.underlying t with
 | none => rw [hu] at h; cases h
 | some d =>
  rw [hu] at h
  unfold Go.isAgg
  simp only [Sem.run_bind,run_underlying hu,Result.andThen_ok]
  cases d <;> first | rfl | cases h
theorem kind_agg (h:isAgg (mkTI P t).kind=true):known P t=true∧∀ w,(Go.isAgg t).run P w = .ok true w:=by
 cases hk:(mkTI P t).kind with
 | struct l =>
  obtain ⟨fs,hu,_,_⟩:=zds hk
  exact ⟨(k_of hk (by simp)).1,fun w => by simp [Go.isAgg,run_underlying hu]⟩
 | array n e =>
  obtain ⟨hu,_⟩:=zcp hk
  exact ⟨(k_of hk (by simp)).1,fun w => by simp [Go.isAgg,run_underlying hu]⟩
 | _ => rw [hk] at h; cases h
theorem isK_known (h:isK (mkTI P t)=true):known P t=true:=by
 unfold isK at h
 rw [Bool.or_eq_true] at h
 rcases h with h | h
 ·exact (ok_flat h).1
 ·exact (kind_agg h).1
theorem known_under (h:isK (mkTI P t)=true):∃ d,P.underlying t=some d:=by
 unfold isK at h
 rw [Bool.or_eq_true] at h
 rcases h with h | h
 ·have:=(ok_flat h).2
  unfold flat at this
  cases hu:P.underlying t with
  | none => rw [hu] at this; cases this
  | some d => exact ⟨d,rfl⟩
 ·exact zfR (fun e => by rw [e] at h; cases h)
mutual
theorem cv_ok (B:BB):∀ (n:Nat) (v:Value),VR B (cv n v) v:=by
 intro n
 induction n with
 | zero => intro v; simp only [cv,VR]
 | succ n ih =>
  intro v
  have ihl:∀ l:List Value,VRL B (cvL (cv n) l) l:=by
   intro l
   induction l with
   | nil => simp only [cvL,VRL]
   | cons a l ihl => simp only [cvL]; exact VRL.cons_ (ih a) ihl
  unfold cv
  split <;> try (simp only [VR]; done)
  ·simp only [VR]; exact ⟨_,rfl,rfl,rfl⟩
  ·simp only [VR]; exact ⟨_,rfl,ih _⟩
  ·split
   ·rename_i h
    simp only [VR]
    exact ⟨_,rfl,ihl _,fun c hc => List.all_eq_true.1 h c hc⟩
   ·simp only [VR]
  ·split
   ·rename_i h1 h2
    simp only [VR]
    exact ⟨_,_,rfl,by rw [h1]; exact VRL.nil_,by rw [h2]; exact VRL.nil_⟩
   ·simp only [VR]
end
theorem zaZ (B:BB) (h:(mkTI P t).zero≠.undef):known P t=true∧∃ z,(∀ w,(zeroValue t).run P w = .ok z w)∧zeroV P t=some z∧VR B (mkTI P t).zero z∧z.cells.size=(mkTI P t).sz:=by
 cases hk:known P t with
 | false => rw [zce hk] at h; exact absurd rfl h
 | true =>
  obtain ⟨i,h1,h2,h3⟩:=zcU hk
  rw [h2] at h ⊢
  cases hz:i.zero with
  | none => rw [hz] at h; exact absurd rfl h
  | some z => exact ⟨rfl,z,fun w => by simp [zeroValue,typeInfo,h1,hz],by simp [zeroV,h1,hz],cv_ok B 50 z,h3 z hz⟩
end
theorem zaB {B:BB}{v:LV}{u:Value}{l:List LV}(h:VR B v u) (hc:cells v=some l):VRL B l u.cells.toList∧∀ c ∈ u.cells.toList,c.oneCell' = true:=by
 cases v <;> simp only [cells] at hc <;> try (cases hc; done)
 case agg cs =>
  cases hc
  simp only [VR] at h
  obtain ⟨vs,rfl,h1,h2⟩:=h
  exact ⟨h1,h2⟩
 all_goals
  cases hc
  have hh:=h
  simp only [VR] at h
  first
  | subst h; exact ⟨VRL.cons_ hh VRL.nil_,by simp [Value.cells,Value.oneCell']⟩
  | (obtain ⟨l,rfl,_⟩:=h; exact ⟨VRL.cons_ hh VRL.nil_,by simp [str,Value.cells,Value.oneCell']⟩)
  | (obtain ⟨_,_,rfl⟩:=h; exact ⟨VRL.cons_ hh VRL.nil_,by simp [Value.cells,Value.oneCell']⟩)
  | (obtain ⟨_,_,_,_,rfl,_⟩:=h; exact ⟨VRL.cons_ hh VRL.nil_,by simp [Value.cells,Value.oneCell']⟩)
  | (obtain ⟨_,_,rfl,_⟩:=h; exact ⟨VRL.cons_ hh VRL.nil_,by simp [Value.cells,Value.oneCell']⟩)
  | (obtain ⟨_,rfl,_⟩:=h; exact ⟨VRL.cons_ hh VRL.nil_,by simp [Value.cells,Value.oneCell']⟩)
def ER (B:BB) (f:SlF) (E:Env):Prop:=∀ t,f t≠.undef→∃ v,Env.get E t=some v∧VR B (f t) v
theorem ER.mono {B B' : BB}(hp:B <+: B') {f:SlF}{E:Env}(h:ER B f E):ER B' f E:=fun t ht => by
 obtain ⟨v,h1,h2⟩:=h t ht; exact ⟨v,h1,VR.mono hp _ _ h2⟩
theorem ER.ev {B:BB}{f:SlF}{E:Env}(h:ER B f E) (x:Operand) (hx:evO x f≠.undef):∃ v,ev E x=some v∧VR B (evO x f) v:=by
 cases x with
 | tmp t => exact h t hx
 | const v => exact ⟨v,rfl,cv_ok B 50 v⟩
 | global g => exact ⟨_,rfl,by show VR B (.gptr g 0) _; simp only [VR]⟩
 | func g => exact ⟨_,rfl,by show VR B (.fn g [] []) _; simp only [VR]; exact ⟨_,_,rfl,VRL.nil_,VRL.nil_⟩⟩
variable {X:Pt}{E:Env}{H:List Seg}{B:BB}{h:LH}
def RunsTo (P:Program) (w0:World) (base:Nat) (H:List Seg) (s:Sem Value) (v:Value):Prop:=∀ w,Sep w0 base w H→s.run P w = .ok v w
def BOk (X:Pt) (H:List Seg) (B:BB) (op:BinOp) (t:TypeId) (x y:Operand) (va vb:Value) (lv:LV):Prop :=
 ∃ v,VR B lv v∧RunsTo X.P X.w0 X.base H (do eqGuard op t x y va vb; binOp op t va vb) v
theorem BOk.does {op:BinOp}{t tz:TypeId}{x y:Operand}{va vb:Value}{lv:LV}(hx:ev E x=some va) (hy:ev E y=some vb) (hb:BOk X H B op t x y va vb lv) :
  ∃ v,VR B lv v∧Does X E H (.binOp op t x y tz) (Is v H):=by
 obtain ⟨v,h1,h2⟩:=hb
 refine ⟨v,h1,Does.core rfl fun dst ty pos after g ρ w hρ S => ⟨v,w,H,?_,S,rfl,rfl⟩⟩
 have:=h2 w S
 simp only [execOp,hρ _ _ hx,hρ _ _ hy,Sem.run_bind] at this ⊢
 rw [← Sem.run_bind,Sem.run_bind]
 simp only [Sem.run_bind,this,Result.andThen_ok,Sem.run_pure]
theorem bok (op:BinOp) (t:TypeId) (x y:Operand) {va vb v:Value}{lv:LV}(h1:VR B lv v) (h2:∀ w,(do eqGuard op t x y va vb; binOp op t va vb:Sem Value).run X.P w = .ok v w):BOk X H B op t x y va vb lv :=
 ⟨v,h1,fun w _ => h2 w⟩
section
variable {op:BinOp}{t:TypeId}{x y:Operand}{va vb:Value}{lv:LV}
theorem zbO {g:IQ}{s:SQ}{e:LV→LV→Q}{a b:LV}(hq:numQ g s e a b = .ok lv) (ha:VR B a va) (hb:VR B b vb)
  (hi:∀ k m n lv,g k m n = .ok lv→BOk X H B op t x y (.int k m) (.int k n) lv)
  (hs:∀ l m lv,s l.length (bytesNum l) m.length (bytesNum m) = .ok lv→BOk X H B op t x y (str l) (str m) lv)
  (he:∀ a b va vb lv,(∀ k n,a≠.int k n)→(∀ l n,a≠.str l n)→e a b = .ok lv→VR B a va→VR B b vb→BOk X H B op t x y va vb lv):BOk X H B op t x y va vb lv:=by
 unfold numQ at hq
 split at hq
 ·rename_i k m
  unfold intI at hq
  split at hq
  ·rename_i k' n
   split at hq
   ·rename_i hk
    have:=kN_inj hk
    subst this
    simp only [VR] at ha hb
    subst ha; subst hb
    exact hi _ _ _ _ hq
   ·cases hq
  ·cases hq
 ·rename_i la m
  unfold strS at hq
  split at hq
  ·rename_i lb n
   simp only [VR] at ha hb
   obtain ⟨l,rfl,rfl,rfl⟩:=ha
   obtain ⟨l',rfl,rfl,rfl⟩:=hb
   exact hs _ _ _ hq
  ·cases hq
 ·rename_i h1 h2
  exact he _ _ _ _ _ (fun k n e => h1 k n e) (fun l n e => h2 l n e) hq ha hb
theorem zbh {k:IntKind}{z:Int}:VR B (.int k z) (.int k z):=by simp only [VR]
theorem zdR {a b c d:Nat}:noS a b c d≠.ok lv:=fun h => by cases h
theorem zcq {a b:LV}:noE a b≠.ok lv:=fun h => by cases h
theorem zfy (n:Nat):(∃ s f,Ieee.double.read n = .nan s f)↔9218868437227405312 < n % 9223372036854775808:=by
 have e1:Ieee.double.signWeight=9223372036854775808:=by decide
 have e2:Ieee.double.infRung=9218868437227405312:=by decide
 have e3:Ieee.double.binade=4503599627370496:=by decide
 unfold Ieee.Format.read
 simp only [e1,e2,e3]
 split
 ·constructor
  ·rintro ⟨s,f,h⟩; cases h
  ·intro h; omega
 ·split
  ·constructor
   ·rintro ⟨s,f,h⟩; cases h
   ·intro h; omega
  ·split
   ·constructor
    ·rintro ⟨s,f,h⟩; cases h
    ·intro h; omega
   ·constructor
    ·intro _; omega
    ·intro _; exact ⟨_,_,rfl⟩
theorem ze9 {m n:Nat}(h:nanW m):Ieee.double.order m n=none:=by
 obtain ⟨_,s,f,h⟩:=h
 unfold Ieee.Format.order
 rw [h]; rfl
theorem nan_order2 {m n:Nat}(h:nanW n):Ieee.double.order m n=none:=by
 obtain ⟨_,s,f,h⟩:=h
 unfold Ieee.Format.order
 rw [h]
 cases Ieee.double.read m <;> rfl
theorem zcX (c:Option Ordering):isOEq c=(c == some .eq):=by rcases c with _ | _ | _ | _ <;> rfl
theorem zd5 (c:Option Ordering):isOLt c=(c == some .lt):=by rcases c with _ | _ | _ | _ <;> rfl
theorem zd6 (c:Option Ordering):isOGt c=(c == some .gt):=by rcases c with _ | _ | _ | _ <;> rfl
theorem zfg {g:Option Ordering→Bool}{e:LV→LV→Q}{a b:LV}(hq:flE g e a b = .ok lv) (ha:VR B a va) (hb:VR B b vb)
  (hrun:∀ (m n:Nat) (w:World),(do eqGuard op t x y (.float .f64 m) (.float .f64 n); binOp op t (.float .f64 m) (.float .f64 n):Sem Value).run X.P w = .ok (.bool (g (Ieee.double.order m n))) w)
  (he:e a b = .ok lv→BOk X H B op t x y va vb lv):BOk X H B op t x y va vb lv:=by
 unfold flE at hq
 split at hq
 ·rename_i k m
  simp only [VR] at ha; subst ha
  unfold fl1 at hq
  split at hq
  ·cases hq
   simp only [VR] at hb; subst hb
   exact bok (v:=.bool (g (Ieee.double.order _ _))) _ _ _ _ (by simp only [VR]) fun w => hrun _ _ w
  ·cases hq
   simp only [VR] at hb
   obtain ⟨n,rfl,hn⟩:=hb
   refine bok (v:=.bool (g none)) _ _ _ _ (by simp only [VR]) fun w => ?_
   have:=hrun m n w
   rw [nan_order2 hn] at this; exact this
  ·cases hq
 ·simp only [VR] at ha
  obtain ⟨m,rfl,hm⟩:=ha
  unfold fl2 at hq
  split at hq
  ·rename_i n
   cases hq
   simp only [VR] at hb; subst hb
   refine bok (v:=.bool (g none)) _ _ _ _ (by simp only [VR]) fun w => ?_
   have:=hrun m n w
   rw [ze9 hm] at this; exact this
  ·cases hq
   simp only [VR] at hb
   obtain ⟨n,rfl,hn⟩:=hb
   refine bok (v:=.bool (g none)) _ _ _ _ (by simp only [VR]) fun w => ?_
   have:=hrun m n w
   rw [ze9 hm] at this; exact this
  ·cases hq
 ·exact he hq
theorem notN_63 {n:Nat}(h:n < 18446744073709551616):notN n 9223372036854775808=n % 9223372036854775808:=by
 apply Nat.eq_of_testBit_eq
 intro i
 show (n ^^^ (n &&& 9223372036854775808)).testBit i=_
 rw [Nat.testBit_xor,Nat.testBit_and,show (9223372036854775808:Nat)=2 ^ 63 by decide,Nat.testBit_two_pow,Nat.testBit_mod_two_pow]
 by_cases e:i < 63
 ·have:¬ 63=i:=by omega
  simp [e,this]
 ·by_cases e2:63=i
  ·subst e2; simp
  ·have:n.testBit i=false:=Nat.testBit_lt_two_pow (Nat.lt_of_lt_of_le h (by
    have:(18446744073709551616:Nat)=2 ^ 64:=by decide
    rw [this]; exact Nat.pow_le_pow_right (by decide) (by omega)))
   simp [e,e2,this]
theorem nbE_ok {a b:LV}(hq:nbE a b = .ok lv) (ha:VR B a va) (hb:VR B b vb):BOk X H B .andNot t x y va vb lv:=by
 unfold nbE at hq
 split at hq
 ·cases hq
  simp only [VR] at ha hb
  obtain ⟨n,rfl,hn⟩:=ha
  subst hb
  refine bok (v:=.int .u64 ((notN n 9223372036854775808:Nat):Int)) _ _ _ _ ?_ fun w => ?_
  ·simp only [VR]
   refine ⟨_,rfl,?_,?_⟩
   ·rw [notN_63 hn.1]; omega
   ·rw [zfy,notN_63 hn.1]
    have:=(zfy n).1 hn.2
    omega
  ·have hlt:notN n 9223372036854775808 < 18446744073709551616:=by rw [notN_63 hn.1]; omega
   have e1:IntKind.wrap .u64 (Int.ofNat (notN n 9223372036854775808))=Int.ofNat (notN n 9223372036854775808):=zeN hlt
   have e2:((notN n 9223372036854775808:Nat):Int)=Int.ofNat (notN n 9223372036854775808):=rfl
   rw [e2,← e1]
   simp [eqGuard,binOp,Op.intBits,← zec]
 ·cases hq
theorem add_ok {a b:LV}(hq:numQ (fun k a b => .ok (mkI k (addI a b))) catQ noE a b = .ok lv) (ha:VR B a va) (hb:VR B b vb):BOk X H B .add t x y va vb lv :=
 zbO hq ha hb
  (fun k m n lv h => by cases h; exact bok (v:=.int k (k.wrap (m + n))) _ _ _ _ (by rw [zdS,addI_eq]; exact zbh) fun w => by simp [eqGuard,binOp,Op.intArith])
  (fun l m lv h => by
   unfold catQ at h
   split at h
   ·rename_i hl
    have hl:=zal.1 hl
    have hl:l.length + m.length < 1000000:=hl
    simp only [frN_eq] at h
    cases h
    refine bok (v:=str (l++m)) _ _ _ _ ?_ fun w => ?_
    ·simp only [VR]
     exact ⟨_,rfl,by simp,by rw [zbA]; rfl⟩
    ·have h:¬ ((9223372036854775807:Int) < ((l.length:Int) + (m.length:Int))):=by omega
     have e:(ByteArray.mk ⟨l⟩++ByteArray.mk ⟨m⟩)=ByteArray.mk ⟨l++m⟩:=by
      apply ByteArray.ext
      simp
     simp [str,eqGuard,binOp,Op.stringOp,IntKind.max,IntKind.bits,IntKind.signed,za9,h,e]
   ·cases h)
  (fun _ _ _ _ _ _ _ h => absurd h zcq)
theorem sub_ok {a b:LV}(hq:numQ (fun k a b => .ok (mkI k (subI a b))) noS noE a b = .ok lv) (ha:VR B a va) (hb:VR B b vb):BOk X H B .sub t x y va vb lv :=
 zbO hq ha hb
  (fun k m n lv h => by cases h; exact bok (v:=.int k (k.wrap (m - n))) _ _ _ _ (by rw [zdS,subI_eq]; exact zbh) fun w => by simp [eqGuard,binOp,Op.intArith])
  (fun l m lv h => absurd h zdR) (fun _ _ _ _ _ _ _ h => absurd h zcq)
theorem mul_ok {a b:LV}(hq:numQ (fun k a b => .ok (mkI k (mulI a b))) noS noE a b = .ok lv) (ha:VR B a va) (hb:VR B b vb):BOk X H B .mul t x y va vb lv :=
 zbO hq ha hb
  (fun k m n lv h => by cases h; exact bok (v:=.int k (k.wrap (m * n))) _ _ _ _ (by rw [zdS,mulI_eq]; exact zbh) fun w => by simp [eqGuard,binOp,Op.intArith])
  (fun l m lv h => absurd h zdR) (fun _ _ _ _ _ _ _ h => absurd h zcq)
theorem quo_ok {a b:LV}(hq:numQ divQ noS noE a b = .ok lv) (ha:VR B a va) (hb:VR B b vb):BOk X H B .quo t x y va vb lv :=
 zbO hq ha hb
  (fun k m n lv h => by
   have key:n≠0∧lv = .int k (k.wrap (m.tdiv n)):=by
    unfold divQ at h
    split at h
    ·cases h; exact ⟨by simp; omega,by rw [mkN_eq]; rfl⟩
    ·split at h
     ·cases h
     ·rename_i hz
      rw [zcG] at hz
      cases h
      exact ⟨by simpa using hz,zdS _ _⟩
   obtain ⟨h1,rfl⟩:=key
   exact bok _ _ _ _ zbh fun w => by simp [eqGuard,binOp,Op.intDiv,h1])
  (fun l m lv h => absurd h zdR) (fun _ _ _ _ _ _ _ h => absurd h zcq)
theorem rem_ok {a b:LV}(hq:numQ remQ noS noE a b = .ok lv) (ha:VR B a va) (hb:VR B b vb):BOk X H B .rem t x y va vb lv :=
 zbO hq ha hb
  (fun k m n lv h => by
   have key:n≠0∧lv = .int k (m.tmod n):=by
    unfold remQ at h
    split at h
    ·rw [frN_eq] at h; cases h; exact ⟨by simp; omega,rfl⟩
    ·split at h
     ·cases h
     ·rename_i hz
      rw [zcG] at hz
      cases h
      exact ⟨by simpa using hz,putI_eq _ _⟩
   obtain ⟨h1,rfl⟩:=key
   exact bok _ _ _ _ zbh fun w => by simp [eqGuard,binOp,Op.intDiv,h1])
  (fun l m lv h => absurd h zdR) (fun _ _ _ _ _ _ _ h => absurd h zcq)
theorem bit_of {g:Nat→Nat→Nat}{k:IntKind}{m n:Int}(h:bitQ g k m n = .ok lv):∃ a b:Nat,m=Int.ofNat a∧n=Int.ofNat b∧lv = .int k (k.wrap ((g a b:Nat):Int)):=by
 unfold bitQ at h
 split at h
 ·cases h; exact ⟨_,_,rfl,rfl,mkN_eq _ _⟩
 ·cases h
theorem and_ok {a b:LV}(hq:numQ (bitQ Nat.land) noS noE a b = .ok lv) (ha:VR B a va) (hb:VR B b vb):BOk X H B .and t x y va vb lv :=
 zbO hq ha hb
  (fun k m n lv h => by obtain ⟨a,b,rfl,rfl,rfl⟩:=bit_of h; exact bok _ _ _ _ zbh fun w => by rw [← wrap_and]; simp [eqGuard,binOp,Op.intBits])
  (fun l m lv h => absurd h zdR) (fun _ _ _ _ _ _ _ h => absurd h zcq)
theorem or_ok {a b:LV}(hq:numQ (bitQ Nat.lor) noS noE a b = .ok lv) (ha:VR B a va) (hb:VR B b vb):BOk X H B .or t x y va vb lv :=
 zbO hq ha hb
  (fun k m n lv h => by obtain ⟨a,b,rfl,rfl,rfl⟩:=bit_of h; exact bok _ _ _ _ zbh fun w => by rw [← wrap_or]; simp [eqGuard,binOp,Op.intBits])
  (fun l m lv h => absurd h zdR) (fun _ _ _ _ _ _ _ h => absurd h zcq)
theorem xor_ok {a b:LV}(hq:numQ (bitQ Nat.xor) noS noE a b = .ok lv) (ha:VR B a va) (hb:VR B b vb):BOk X H B .xor t x y va vb lv :=
 zbO hq ha hb
  (fun k m n lv h => by obtain ⟨a,b,rfl,rfl,rfl⟩:=bit_of h; exact bok _ _ _ _ zbh fun w => by rw [← wrap_xor]; simp [eqGuard,binOp,Op.intBits])
  (fun l m lv h => absurd h zdR) (fun _ _ _ _ _ _ _ h => absurd h zcq)
theorem andNot_ok {a b:LV}(hq:numQ (bitQ notN) noS nbE a b = .ok lv) (ha:VR B a va) (hb:VR B b vb):BOk X H B .andNot t x y va vb lv :=
 zbO hq ha hb
  (fun k m n lv h => by obtain ⟨a,b,rfl,rfl,rfl⟩:=bit_of h; exact bok _ _ _ _ zbh fun w => by rw [← zec]; simp [eqGuard,binOp,Op.intBits])
  (fun l m lv h => absurd h zdR) (fun _ _ _ _ _ _ _ h ha hb => nbE_ok h ha hb)
theorem zay {b c:Bool}(h:b=c):VR B (.bool b) (.bool c):=by subst h; simp only [VR]
theorem eqS_dec (l m:List UInt8):eqS l.length (bytesNum l) m.length (bytesNum m)=decide (l=m):=by
 rw [Bool.eq_iff_iff,decide_eq_true_iff]
 unfold eqS
 rw [Bool.and_eq_true,zaa,zaa]
 exact ⟨fun h => zbz l m h.1 h.2,fun h => by subst h; exact ⟨rfl,rfl⟩⟩
theorem lss_ok {a b:LV}(hq:numQ (cmpI ltI) (cmpS ltN) (flE isOLt noE) a b = .ok lv) (ha:VR B a va) (hb:VR B b vb):BOk X H B .lss t x y va vb lv :=
 zbO hq ha hb
  (fun k m n lv h => by cases h; exact bok _ _ _ _ (zay (zdK m n)) fun w => by simp [eqGuard,binOp,Op.intCmp])
  (fun l m lv h => by cases h; exact bok _ _ _ _ (zay (ltN_eq l m)) fun w => by simp [str,eqGuard,binOp,Op.stringOp,za6])
  (fun _ _ _ _ _ _ _ h ha hb => zfg h ha hb (fun m n w => by simp only [zd5,zd6,zcX]; rfl) (fun h => absurd h zcq))
theorem less_eq (l m:List UInt8):(Op.bytesLess l m || (l == m)) = !Op.bytesLess m l:=by
 induction l generalizing m with
 | nil => cases m <;> simp [Op.bytesLess]
 | cons a l ih =>
  cases m with
  | nil => simp [Op.bytesLess]
  | cons b m =>
   simp only [Op.bytesLess]
   have ih:=ih m
   rw [Bool.eq_iff_iff] at ih ⊢
   simp only [Bool.or_eq_true,decide_eq_true_eq,Bool.and_eq_true,beq_iff_eq,Bool.not_eq_true',Bool.or_eq_false_iff,decide_eq_false_iff_not,Bool.and_eq_false_iff,List.cons.injEq] at ih ⊢
   have tri:a < b∨a=b∨b < a:=by
    rw [UInt8.lt_iff_toNat_lt,UInt8.lt_iff_toNat_lt,← UInt8.toNat_inj]; omega
   rcases tri with h | h | h
   ·have h2:¬ b < a:=fun h2 => UInt8.lt_asymm h h2
    have h3:b≠a:=fun e => by subst e; exact UInt8.lt_irrefl _ h
    simp [h,h2,h3]
   ·subst h
    simp only [UInt8.lt_irrefl,false_or,true_and,not_false_eq_true]
    rw [ih]
    cases Op.bytesLess m l <;> simp
   ·have h2:¬ a < b:=fun h2 => UInt8.lt_asymm h h2
    have h3:a≠b:=fun e => by subst e; exact UInt8.lt_irrefl _ h
    simp [h,h2,h3]
theorem leq_ok {a b:LV}(hq:numQ (cmpI fun a b => !ltI b a) (cmpS fun a b c d => !ltN c d a b) (flE (fun c => isOLt c || isOEq c) noE) a b = .ok lv) (ha:VR B a va) (hb:VR B b vb):BOk X H B .leq t x y va vb lv :=
 zbO hq ha hb
  (fun k m n lv h => by cases h; exact bok (v:=.bool (decide (m≤n))) _ _ _ _ (zay (by simp only [zdK]; rw [Bool.eq_iff_iff]; simp)) fun w => by simp [eqGuard,binOp,Op.intCmp])
  (fun l m lv h => by
   cases h
   exact bok (v:=.bool (Op.bytesLess l m || (l == m))) _ _ _ _ (zay (by simp only [ltN_eq]; rw [less_eq])) fun w => by simp [str,eqGuard,binOp,Op.stringOp,za6])
  (fun _ _ _ _ _ _ _ h ha hb => zfg h ha hb (fun m n w => by simp only [zd5,zd6,zcX]; rfl) (fun h => absurd h zcq))
theorem gtr_ok {a b:LV}(hq:numQ (cmpI fun a b => ltI b a) (cmpS fun a b c d => ltN c d a b) (flE isOGt noE) a b = .ok lv) (ha:VR B a va) (hb:VR B b vb):BOk X H B .gtr t x y va vb lv :=
 zbO hq ha hb
  (fun k m n lv h => by cases h; exact bok (v:=.bool (decide (m > n))) _ _ _ _ (zay (zdK n m)) fun w => by simp [eqGuard,binOp,Op.intCmp])
  (fun l m lv h => by
   cases h
   exact bok (v:=.bool (!(Op.bytesLess l m || (l == m)))) _ _ _ _ (zay (by simp only [ltN_eq,less_eq,Bool.not_not])) fun w => by simp [str,eqGuard,binOp,Op.stringOp,za6])
  (fun _ _ _ _ _ _ _ h ha hb => zfg h ha hb (fun m n w => by simp only [zd5,zd6,zcX]; rfl) (fun h => absurd h zcq))
theorem geq_ok {a b:LV}(hq:numQ (cmpI fun a b => !ltI a b) (cmpS fun a b c d => !ltN a b c d) (flE (fun c => isOGt c || isOEq c) noE) a b = .ok lv) (ha:VR B a va) (hb:VR B b vb):BOk X H B .geq t x y va vb lv :=
 zbO hq ha hb
  (fun k m n lv h => by cases h; exact bok (v:=.bool (decide (m ≥ n))) _ _ _ _ (zay (by simp only [zdK]; rw [Bool.eq_iff_iff]; simp)) fun w => by simp [eqGuard,binOp,Op.intCmp])
  (fun l m lv h => by
   cases h
   exact bok (v:=.bool (!Op.bytesLess l m)) _ _ _ _ (zay (by simp only [ltN_eq])) fun w => by simp [str,eqGuard,binOp,Op.stringOp,za6])
  (fun _ _ _ _ _ _ _ h ha hb => zfg h ha hb (fun m n w => by simp only [zd5,zd6,zcX]; rfl) (fun h => absurd h zcq))
theorem sh_of {g:IntKind→Int→Int→Q}{a b:LV}(hq:shQ g a b = .ok lv) (ha:VR B a va) (hb:VR B b vb):∃ k m k2 n,va = .int k m∧vb = .int k2 n∧g k m n = .ok lv:=by
 unfold shQ at hq
 split at hq
 ·split at hq
  ·simp only [VR] at ha hb
   exact ⟨_,_,_,_,ha,hb,hq⟩
  ·cases hq
 ·cases hq
theorem shl_ok {a b:LV}(hq:shQ shlI a b = .ok lv) (ha:VR B a va) (hb:VR B b vb):BOk X H B .shl t x y va vb lv:=by
 obtain ⟨k,m,k2,n,rfl,rfl,h⟩:=sh_of hq ha hb
 unfold shlI at h
 split at h
 ·cases h
 ·rename_i n
  cases h
  refine bok (v:=.int k (k.wrap (m * Int.ofNat (shN k n)))) _ _ _ _ (by rw [zdS,mulI_eq]; exact zbh) fun w => ?_
  rw [sh_min]
  have h1:¬ ((n:Int) < 0):=by omega
  have e:(Int.ofNat (2 ^ min n k.bits):Int)=(2:Int) ^ min n k.bits:=by rw [← zd3]; rfl
  rw [e]
  simp [eqGuard,binOp,Op.shift,h1]
theorem shr_ok {a b:LV}(hq:shQ shrI a b = .ok lv) (ha:VR B a va) (hb:VR B b vb):BOk X H B .shr t x y va vb lv:=by
 obtain ⟨k,m,k2,n,rfl,rfl,h⟩:=sh_of hq ha hb
 unfold shrI at h
 split at h
 ·rename_i m n
  rw [frN_eq] at h
  cases h
  refine bok _ _ _ _ zbh fun w => ?_
  rw [sh_min]
  have h1:¬ ((n:Int) < 0):=by omega
  have e:(Int.ofNat (Nat.div m (2 ^ min n k.bits)):Int)=(Int.ofNat m).fdiv ((2:Int) ^ min n k.bits):=by
   rw [← zd3]; exact (Int.ofNat_fdiv _ _)
  rw [e]
  simp [eqGuard,binOp,Op.shift,h1]
 ·cases h
end
variable {G:List (Nat×Obj)}
section parts
variable {P:Program}{B:BB}
theorem zfo {t:TypeId}(h:known P t=true) {d:TypeDesc}(hd:P.underlying t=some d) (w:World):(Go.isAgg t).run P w = .ok (aggB (P.underlying t)) w:=by
 unfold Go.isAgg
 simp only [Sem.run_bind,run_underlying hd,Result.andThen_ok]
 rw [hd]
 cases d <;> rfl
theorem VRL.ext {l:List LV}{m:List Value}(h:VRL B l m) {o n:Nat}(hn:o + n≤l.length):VRL B ((l.drop o).take n) (m.toArray.extract o (o + n)).toList:=by
 have:(m.toArray.extract o (o + n)).toList=(m.drop o).take n:=by
  simp [List.extract_eq_take_drop]
 rw [this]
 exact VRL.take n (VRL.drop o h)
theorem zcz {t:TypeId}(hk:known P t=true) {cs:List LV}{vs:Array Value}(hv:VRL B cs vs.toList) (h1:∀ c ∈ vs.toList,c.oneCell' = true) {o:Nat}{lv:LV}
  (h:partV (aggB (P.underlying t)) (szOf P t) cs o=some lv):∃ v,VR B lv v∧∀ w,(part t vs o).run P w = .ok v w:=by
 obtain ⟨d,hd⟩:=zey hk
 have hsz:=zdF hk
 unfold partV at h
 split at h
 ·rename_i hag
  split at h
  ·rename_i hle
   cases h
   have hle:=zaf.1 hle
   refine ⟨.agg (vs.extract o (o + szOf P t)),?_,fun w => ?_⟩
   ·simp only [VR]
    refine ⟨_,rfl,?_,fun c hc => ?_⟩
    ·have:=hv.ext (o:=o) (n:=szOf P t) hle
     simpa using this
    ·refine h1 c ?_
     rw [Array.toList_extract,List.extract_eq_take_drop] at hc
     exact List.mem_of_mem_drop (List.mem_of_mem_take hc)
   ·simp only [part,Sem.run_bind,zfo hk hd,hag,Result.andThen_ok,if_true,zaz hk,Sem.run_pure,hsz]
  ·cases h
 ·rename_i hag
  obtain ⟨u,hu,hvu⟩:=hv.get h
  refine ⟨u,hvu,fun w => ?_⟩
  have hu:vs[o]? = some u:=by simpa using hu
  simp [part,zfo hk hd,hag,hu]
end parts
section eq
variable {P:Program}{w0:World}{base:Nat}{w:World}{H:List Seg}{B:BB}{h:LH}{lv:Nat→Bool}
def EqOk (P:Program) (w:World) (B:BB) (d:Nat) (t:TypeId) (f:EQ):Prop:=∀ a b r va vb,f a b=some r→VR B a va→VR B b vb→(Op.equalIn (d + 1) t va vb).run P w = .ok r w
theorem eqBool_ok {d t:Nat}(hu:P.underlying t=some .bool):EqOk P w B d t eqBool:=by
 intro a b r va vb hq ha hb
 unfold eqBool at hq
 split at hq
 ·simp only [VR] at ha hb; subst ha; subst hb; cases hq
  exact run_equalIn_bool w _ _ _ _ hu
 ·cases hq
theorem eqInt_ok {d t:Nat}{k:IntKind}(hu:P.underlying t=some (.int k)):EqOk P w B d t eqInt:=by
 intro a b r va vb hq ha hb
 unfold eqInt at hq
 split at hq
 ·split at hq
  ·rename_i hk
   have:=kN_inj hk
   subst this
   simp only [VR] at ha hb; subst ha; subst hb; cases hq
   rw [run_equalIn_int w _ _ _ _ _ _ hu,zcG]; rfl
  ·cases hq
 ·cases hq
theorem eqStr_ok {d t:Nat}(hu:P.underlying t=some .string):EqOk P w B d t eqStr:=by
 intro a b r va vb hq ha hb
 unfold eqStr at hq
 split at hq
 ·simp only [VR] at ha hb
  obtain ⟨l,rfl,rfl,rfl⟩:=ha
  obtain ⟨m,rfl,rfl,rfl⟩:=hb
  cases hq
  rw [eqS_dec]
  rw [show str l = .string ⟨⟨l⟩⟩ from rfl,show str m = .string ⟨⟨m⟩⟩ from rfl,run_equalIn_string w _ _ _ _ hu,za6,za6,zeH]
 ·cases hq
theorem zfb (S:Sep w0 base w H) (hr:HR G B h H) {i:Nat}(hl:liveR h i=true):∃ k cs e,B[i]? = some k∧w.heap[k.b]? = some (.cells cs e (0,0))∧liveO (atB h i)=true:=by
 have hl' : liveO (atB h i)=true:=by
  unfold liveR at hl
  split at hl
  ·rename_i hh; rw [hh]; rfl
  ·cases hl
 obtain ⟨k,j,obj,h1,h2,h3⟩:=hr.at_ i hl'
 unfold liveR at hl
 split at hl
 ·rename_i sz len t hh
  rw [hh] at h3
  obtain ⟨cs,e,rfl,_⟩:=h3
  exact ⟨k,cs,e,h1,(S.at_ h2 (j:=0) rfl).1,hl'⟩
 ·cases hl
theorem same_other {a b:Nat}{ca cb:Array Value}{ea eb:TypeId}(o p:Nat) (ha:w.heap[a]? = some (.cells ca ea (0,0))) (hb:w.heap[b]? = some (.cells cb eb (0,0))) (hne:a≠b) :
  (sameAddr ⟨a,o,none⟩ ⟨b,p,none⟩).run P w = .ok false w:=by
 have h1:(a == b)=false:=by simp [hne]
 have fa:∀ x,w.frozen? ⟨a,x,none⟩=false:=fun x => by simp [World.frozen?,ha]
 have fb:∀ x,w.frozen? ⟨b,x,none⟩=false:=fun x => by simp [World.frozen?,hb]
 simp [sameAddr,hne,fa,fb,noView,viewAt,World.shape?,ha,hb,mayBeOne,stringish]
theorem eqPtr_ok (S:Sep w0 base w H) (hr:HR G B h H) (hlv:∀ i,lv i=true→liveR h i=true) {d t e:Nat}(hu:P.underlying t=some (.pointer e)) (hk:known P e=true):EqOk P w B d t (eqPtr lv (mkTI P e).sz):=by
 intro a b r va vb hq ha hb
 unfold eqPtr at hq
 split at hq
 ·simp only [VR] at ha hb; subst ha; subst hb; cases hq; exact zbY hu
 ·simp only [VR] at ha hb; obtain ⟨k,_,rfl⟩:=hb; subst ha; cases hq; simp [Op.equalIn,run_underlying hu]
 ·simp only [VR] at ha hb; obtain ⟨k,_,rfl⟩:=ha; subst hb; cases hq; exact zbY hu
 ·simp only [VR] at ha hb; subst ha; subst hb; cases hq; simp [Op.equalIn,run_underlying hu]
 ·simp only [VR] at ha hb; subst ha; subst hb; cases hq; exact zbY hu
 ·rename_i i o j p
  simp only [VR] at ha hb
  obtain ⟨k,hk1,rfl⟩:=ha
  obtain ⟨k',hk2,rfl⟩:=hb
  split at hq
  ·rename_i h1 h2
   have h1:=zal.1 h1
   have h2:=zaa.1 h2
   subst h2
   rw [hk1] at hk2; cases hk2
   cases hq
   have hne:(mkTI P e).sz≠0:=by omega
   rw [zf2]
   simp [Op.equalIn,run_underlying hu,zaz hk,hne,sameAddr]
   by_cases e1:o=p
   ·subst e1; simp
   ·have:(({ block:=k.b,off:=k.off + o,spot:=none }:Addr) == { block:=k.b,off:=k.off + p,spot:=none })=false:=by
     rw [beq_eq_false_iff_ne]; intro e2; injection e2; omega
    rw [this]; simp [e1]
  ·rename_i h1 h2
   have h1:=zal.1 h1
   split at hq
   ·rename_i hl
    cases hq
    rw [Bool.and_eq_true] at hl
    obtain ⟨ki,ci,ei,a1,a2,a3⟩:=zfb S hr (hlv _ hl.1)
    obtain ⟨kj,cj,ej,b1,b2,b3⟩:=zfb S hr (hlv _ hl.2)
    rw [hk1] at a1; cases a1
    rw [hk2] at b1; cases b1
    have hne:k.b≠k'.b:=by
     intro e1
     have:=hr.apart S _ _ _ _ a3 b3 hk1 hk2 e1
     rw [zaa.2 this] at h2; cases h2
    have hz:(mkTI P e).sz≠0:=by omega
    simp [Op.equalIn,run_underlying hu,zaz hk,hz,same_other _ _ a2 b2 hne]
   ·cases hq
  ·cases hq
 ·rename_i i o j p
  simp only [VR] at ha hb
  subst ha; subst hb
  split at hq
  ·rename_i h1
   rw [Bool.and_eq_true] at h1
   have h2:=zaa.1 h1.2
   have h1:=zal.1 h1.1
   subst h2
   cases hq
   have hne:(mkTI P e).sz≠0:=by omega
   rw [zf2]
   simp [Op.equalIn,run_underlying hu,zaz hk,hne,sameAddr]
   by_cases e1:o=p
   ·subst e1; simp
   ·have:(({ block:=i,off:=o,spot:=none }:Addr) == { block:=i,off:=p,spot:=none })=false:=by
     rw [beq_eq_false_iff_ne]; intro e2; injection e2; omega
    rw [this]; simp [e1]
  ·cases hq
 ·cases hq
theorem eqSl_ok {d t e:Nat}(hu:P.underlying t=some (.slice e)):EqOk P w B d t eqSl:=by
 intro a b r va vb hq ha hb
 unfold eqSl at hq
 split at hq <;> cases hq <;> simp only [VR] at ha hb
 ·subst ha; subst hb; simp [Op.equalIn,run_underlying hu]
 ·obtain ⟨_,_,rfl⟩:=hb; subst ha; simp [Op.equalIn,run_underlying hu]
 ·obtain ⟨_,_,_,_,rfl,_⟩:=hb; subst ha; simp [Op.equalIn,run_underlying hu]
 ·obtain ⟨_,_,rfl⟩:=ha; subst hb; simp [Op.equalIn,run_underlying hu]
 ·obtain ⟨_,_,_,_,rfl,_⟩:=ha; subst hb; simp [Op.equalIn,run_underlying hu]
theorem eqMp_ok {d t k e:Nat}(hu:P.underlying t=some (.map k e)):EqOk P w B d t eqMp:=by
 intro a b r va vb hq ha hb
 unfold eqMp at hq
 split at hq <;> cases hq <;> simp only [VR] at ha hb
 ·subst ha; subst hb; simp [Op.equalIn,run_underlying hu]
 ·obtain ⟨_,_,rfl⟩:=hb; subst ha; simp [Op.equalIn,run_underlying hu]
 ·obtain ⟨_,_,rfl⟩:=ha; subst hb; simp [Op.equalIn,run_underlying hu]
theorem eqFn_ok {d t:Nat}{p q:Array TypeId}{v:Bool}(hu:P.underlying t=some (.func p q v)):EqOk P w B d t eqFn:=by
 intro a b r va vb hq ha hb
 unfold eqFn at hq
 split at hq <;> cases hq <;> simp only [VR] at ha hb
 ·subst ha; subst hb; simp [Op.equalIn,run_underlying hu]
 ·obtain ⟨_,_,rfl,_⟩:=hb; subst ha; simp [Op.equalIn,run_underlying hu]
 ·obtain ⟨_,_,rfl,_⟩:=ha; subst hb; simp [Op.equalIn,run_underlying hu]
def EqD (P:Program) (w:World) (B:BB) (n:Nat) (t:TypeId) (f:EQ):Prop:=∀ a b r va vb,f a b=some r→VR B a va→VR B b vb→(Op.equalIn n t va vb).run P w = .ok r w
theorem cmp_ok {t:TypeId}(hc:(mkTI P t).cmp=true):∃ i,P.info? t=some i∧i.comparable=true∧P.stoodInHeld t=false∧P.eqGuardType P.depth t=false∧(∀ fs,P.underlying t=some (.struct fs)→∀ f ∈ fs.toList,f.name≠ "_"):=by
 cases hk:known P t with
 | false => rw [zce hk] at hc; cases hc
 | true =>
  obtain ⟨i,h1,h2,_⟩:=zcU hk
  rw [h2] at hc
  have hc:cmpOf P t i=true:=hc
  unfold cmpOf at hc
  simp only [Bool.and_eq_true,Bool.not_eq_true'] at hc
  obtain ⟨⟨⟨c1,c2⟩,c3⟩,c4⟩:=hc
  refine ⟨i,h1,c1,c2,c3,fun fs hu f hf => ?_⟩
  rw [hu] at c4
  have:=List.all_eq_true.1 c4 f hf
  simpa using this
theorem eqIfc_ok {m t:Nat}{ms:Array (String×TypeId)}(hu:P.underlying t=some (.interface ms)) {f:TypeId→EQ}(hf:∀ t,EqD P w B m t (f t)):EqD P w B (m + 1) t (eqIfc (mkTI P) f):=by
 intro a b r va vb hq ha hb
 unfold eqIfc at hq
 split at hq
 ·simp only [VR] at ha hb; subst ha; subst hb; cases hq; simp [Op.equalIn,run_underlying hu]
 ·simp only [VR] at ha hb; obtain ⟨x,rfl,_⟩:=hb; subst ha; cases hq; simp [Op.equalIn,run_underlying hu]
 ·simp only [VR] at ha hb; obtain ⟨x,rfl,_⟩:=ha; subst hb; cases hq; simp [Op.equalIn,run_underlying hu]
 ·simp only [VR] at ha hb
  obtain ⟨x,rfl,hx⟩:=ha
  obtain ⟨y,rfl,hy⟩:=hb
  split at hq
  ·rename_i t1 a1 u1 b1 _ hne
   cases hq
   have hne:t1≠u1:=fun e => by rw [zaa.2 e] at hne; cases hne
   simp [Op.equalIn,run_underlying hu,hne]
  ·rename_i heq
   have heq:=zaa.1 heq
   subst heq
   split at hq
   ·rename_i hc
    obtain ⟨i,h1,h2,_⟩:=cmp_ok hc
    have:=hf _ _ _ _ _ _ hq hx hy
    simp [Op.equalIn,run_underlying hu,typeInfo,h1,h2,this]
   ·cases hq
 ·cases hq
theorem eqFs_ok {m:Nat}{f:TypeId→EQ}(hf:∀ t,EqD P w B m t (f t)) {xs ys:List LV}{vs us:Array Value}(hv:VRL B xs vs.toList) (hu:VRL B ys us.toList) (h1:∀ c ∈ vs.toList,c.oneCell' = true) (h2:∀ c ∈ us.toList,c.oneCell' = true) :
  ∀ (fs:List Field) (r:Bool),(∀ g ∈ fs,known P g.type=true∧g.name≠ "_")→eqFs f xs ys (fs.map fun f => (f.offset,szOf P f.type,aggB (P.underlying f.type),f.type))=some r→(Op.eqFields m vs us fs).run P w = .ok r w
 | [],r,_,hq => by simp only [List.map_nil,eqFs] at hq; cases hq; rfl
 | g::fs,r,hk,hq => by
  simp only [List.map_cons,eqFs] at hq
  obtain ⟨hg,hn⟩:=hk g (by simp)
  split at hq
  ·rename_i a b e1 e2
   obtain ⟨va,a1,a2⟩:=zcz hg hv h1 e1
   obtain ⟨vb,b1,b2⟩:=zcz hg hu h2 e2
   simp only [Op.eqFields]
   rw [if_pos hn]
   split at hq
   ·rename_i he
    have:=hf _ _ _ _ _ _ he a1 b1
    have ih:=eqFs_ok hf hv hu h1 h2 fs r (fun g hg => hk g (by simp [hg])) hq
    simp [a2,b2,this,ih]
   ·rename_i e3
    cases r with
    | true => exact absurd hq e3
    | false =>
     have:=hf _ _ _ _ _ _ hq a1 b1
     simp [a2,b2,this]
  ·cases hq
theorem eqAs_ok {m e:Nat}{f:EQ}(hf:EqD P w B m e f) (hk:known P e=true) {xs ys:List LV}{vs us:Array Value}(hv:VRL B xs vs.toList) (hu:VRL B ys us.toList) (h1:∀ c ∈ vs.toList,c.oneCell' = true) (h2:∀ c ∈ us.toList,c.oneCell' = true) :
  ∀ (n i:Nat) (r:Bool),eqAs f (aggB (P.underlying e)) (szOf P e) xs ys n i=some r→(Op.eqItems m e (szOf P e) vs us (List.range' i n)).run P w = .ok r w
 | 0,i,r,hq => by simp only [eqAs] at hq; cases hq; rfl
 | n + 1,i,r,hq => by
  simp only [eqAs] at hq
  split at hq
  ·rename_i a b e1 e2
   obtain ⟨va,a1,a2⟩:=zcz hk hv h1 e1
   obtain ⟨vb,b1,b2⟩:=zcz hk hu h2 e2
   have a2:∀ w,(part e vs (i * szOf P e)).run P w = .ok va w:=a2
   have b2:∀ w,(part e us (i * szOf P e)).run P w = .ok vb w:=b2
   simp only [List.range',Op.eqItems]
   split at hq
   ·rename_i he
    have:=hf _ _ _ _ _ he a1 b1
    have ih:=eqAs_ok hf hk hv hu h1 h2 n (i + 1) r hq
    simp [a2,b2,this,ih]
   ·rename_i e3
    cases r with
    | true => exact absurd hq e3
    | false =>
     have:=hf _ _ _ _ _ hq a1 b1
     simp [a2,b2,this]
  ·cases hq
theorem cellsOf_sz {e:TypeId}(hk:known P e=true):P.cellsOf e=szOf P e:=by
 obtain ⟨i,h1,_⟩:=zaI hk
 simp [Program.cellsOf,szOf,h1]
theorem notOk {e:TypeId}(hk:known P e=true):(!(mkTI P e).ok)=aggB (P.underlying e):=by
 obtain ⟨i,h1,h2,_⟩:=zcU hk
 rw [h2]
 show (!(flat P e))=_
 unfold flat
 obtain ⟨d,hd⟩:=zey hk
 rw [hd]
 cases d <;> rfl
theorem eqT_ok (S:Sep w0 base w H) (hr:HR G B h H) (hlv:∀ i,lv i=true→liveR h i=true):∀ (f n:Nat),f≤n→∀ t,EqD P w B n t (eqT (mkTI P) lv f t)
 | 0,n,_,t => fun a b r va vb hq _ _ => by simp only [eqT] at hq; cases hq
 | f + 1,0,hn,t => by omega
 | f + 1,m + 1,hn,t => by
  have ih:=eqT_ok S hr hlv f m (by omega)
  intro a b r va vb hq ha hb
  unfold eqT at hq
  cases hk:(mkTI P t).kind with
  | flt => rw [hk] at hq; cases hq
  | bool => rw [hk] at hq; exact eqBool_ok (k_bool hk) _ _ _ _ _ hq ha hb
  | int k => rw [hk] at hq; exact eqInt_ok (k_int hk) _ _ _ _ _ hq ha hb
  | str => rw [hk] at hq; exact eqStr_ok (k_str hk) _ _ _ _ _ hq ha hb
  | ptr e => rw [hk] at hq; exact eqPtr_ok S hr hlv (k_ptr hk).1 (k_ptr hk).2 _ _ _ _ _ hq ha hb
  | iface c => rw [hk] at hq; obtain ⟨ms,hu,_⟩:=k_iface hk; exact eqIfc_ok hu ih _ _ _ _ _ hq ha hb
  | struct l =>
   rw [hk] at hq
   cases hc:(mkTI P t).cmp with
   | false => simp only [hc] at hq; cases hq
   | true =>
    simp only [hc] at hq
    obtain ⟨fs,hu,rfl,hkf⟩:=zds hk
    obtain ⟨i,c1,c2,c3,c4,c5⟩:=cmp_ok hc
    unfold eqAgg at hq
    split at hq
    ·simp only [VR] at ha hb
     obtain ⟨vs,rfl,v1,v2⟩:=ha
     obtain ⟨us,rfl,u1,u2⟩:=hb
     have hfo:P.fieldsOf t=fs:=by simp [Program.fieldsOf,hu]
     rw [run_equalIn_struct w m t vs us (by rw [hfo]; exact hu) c3,hfo]
     exact eqFs_ok ih v1 u1 v2 u2 _ _ (fun g hg => ⟨hkf g hg,c5 fs hu g hg⟩) hq
    ·cases hq
  | array n e =>
   rw [hk] at hq
   cases hc:(mkTI P t).cmp with
   | false => simp only [hc] at hq; cases hq
   | true =>
    simp only [hc] at hq
    obtain ⟨hu,hke⟩:=zcp hk
    unfold eqAgg at hq
    split at hq
    ·simp only [VR] at ha hb
     obtain ⟨vs,rfl,v1,v2⟩:=ha
     obtain ⟨us,rfl,u1,u2⟩:=hb
     obtain ⟨i,hi,_⟩:=zaI hke
     rw [run_equalIn_array w m vs us hu hi,cellsOf_sz hke,List.range_eq_range']
     rw [notOk hke,← zdF hke] at hq
     exact eqAs_ok (ih e) hke v1 u1 v2 u2 n 0 r hq
    ·cases hq
  | slice e => rw [hk] at hq; exact eqSl_ok (zaL hk).1 _ _ _ _ _ hq ha hb
  | map k e => rw [hk] at hq; exact eqMp_ok (k_map hk).1 _ _ _ _ _ hq ha hb
  | func => rw [hk] at hq; obtain ⟨_,_,_,hu⟩:=k_func hk; exact eqFn_ok hu _ _ _ _ _ hq ha hb
  | other => rw [hk] at hq; cases hq
theorem eqT_undef (f:Nat) (t:TypeId) (b:LV):eqT (mkTI P) lv f t .undef b=none:=by
 cases f with
 | zero => rfl
 | succ f =>
  unfold eqT
  generalize (mkTI P t).kind=K; generalize (mkTI P t).cmp=c
  cases K <;> first | rfl | (cases c <;> rfl)
theorem eqT_flt (f:Nat) (t:TypeId) (k:FloatKind) (n:Nat) (b:LV):eqT (mkTI P) lv f t (.flt k n) b=none:=by
 cases f with
 | zero => rfl
 | succ f =>
  unfold eqT
  generalize (mkTI P t).kind=K; generalize (mkTI P t).cmp=c
  cases K <;> first | rfl | (cases c <;> rfl)
theorem eqT_nan (f:Nat) (t:TypeId) (b:LV):eqT (mkTI P) lv f t .nan b=none:=by
 cases f with
 | zero => rfl
 | succ f =>
  unfold eqT
  generalize (mkTI P t).kind=K; generalize (mkTI P t).cmp=c
  cases K <;> first | rfl | (cases c <;> rfl)
theorem eqT_nanb (f:Nat) (t:TypeId) (b:LV):eqT (mkTI P) lv f t .nanb b=none:=by
 cases f with
 | zero => rfl
 | succ f =>
  unfold eqT
  generalize (mkTI P t).kind=K; generalize (mkTI P t).cmp=c
  cases K <;> first | rfl | (cases c <;> rfl)
theorem eqT_undef2 (f:Nat) (t:TypeId) (a:LV) (ha:a = .nili∨(∃ l,a = .agg l)):eqT (mkTI P) lv f t a .undef=none:=by
 cases f with
 | zero => rfl
 | succ f =>
  unfold eqT
  generalize (mkTI P t).kind=K; generalize (mkTI P t).cmp=c
  rcases ha with rfl | ⟨l,rfl⟩ <;> cases K <;> first | rfl | (cases c <;> rfl)
theorem grd_ok {t:TypeId}{c:Bool}{op:BinOp}{x y:Operand}{a b:LV}{va vb:Value}(hop:op = .eql∨op = .neq) (hc:c=true→∃ v,x = .const v∨y = .const v) (hg:grd (mkTI P) t c a b=true) (ha:VR B a va) (hb:VR B b vb) (hna:a≠.undef) (hnb:(a = .nili∨∃ l,a = .agg l)→b≠.undef) :
  (eqGuard op t x y va vb).run P w = .ok () w:=by
 cases a with
 | undef => exact absurd rfl hna
 | nili =>
  simp only [VR] at ha; subst ha
  cases b with
  | undef => exact absurd rfl (hnb (.inl rfl))
  | nili =>
   simp only [VR] at hb; subst hb
   obtain ⟨v,hc⟩:=hc hg
   rcases hop with rfl | rfl <;> rcases hc with rfl | rfl <;> simp [eqGuard]
  | bool _ => simp only [VR] at hb; subst hb; rcases hop with rfl | rfl <;> rfl
  | int _ _ => simp only [VR] at hb; subst hb; rcases hop with rfl | rfl <;> rfl
  | flt _ _ => simp only [VR] at hb; subst hb; rcases hop with rfl | rfl <;> rfl
  | nan => simp only [VR] at hb; obtain ⟨_,rfl,_⟩:=hb; rcases hop with rfl | rfl <;> rfl
  | nanb => simp only [VR] at hb; obtain ⟨_,rfl,_⟩:=hb; rcases hop with rfl | rfl <;> rfl
  | str _ _ => simp only [VR] at hb; obtain ⟨_,rfl,_⟩:=hb; rcases hop with rfl | rfl <;> rfl
  | nilp => simp only [VR] at hb; subst hb; rcases hop with rfl | rfl <;> rfl
  | ptr _ _ => simp only [VR] at hb; obtain ⟨_,_,rfl⟩:=hb; rcases hop with rfl | rfl <;> rfl
  | gptr _ _ => simp only [VR] at hb; subst hb; rcases hop with rfl | rfl <;> rfl
  | nils => simp only [VR] at hb; subst hb; rcases hop with rfl | rfl <;> rfl
  | sle => simp only [VR] at hb; obtain ⟨_,_,rfl⟩:=hb; rcases hop with rfl | rfl <;> rfl
  | sl _ _ _ _ => simp only [VR] at hb; obtain ⟨_,_,rfl⟩:=hb; rcases hop with rfl | rfl <;> rfl
  | slo _ _ _ => simp only [VR] at hb; obtain ⟨_,_,_,_,rfl,_⟩:=hb; rcases hop with rfl | rfl <;> rfl
  | map0 => simp only [VR] at hb; subst hb; rcases hop with rfl | rfl <;> rfl
  | map _ => simp only [VR] at hb; obtain ⟨_,_,rfl⟩:=hb; rcases hop with rfl | rfl <;> rfl
  | fn _ _ _ => simp only [VR] at hb; obtain ⟨_,_,rfl,_⟩:=hb; rcases hop with rfl | rfl <;> rfl
  | yield _ => simp only [VR] at hb; obtain ⟨_,_,rfl⟩:=hb; rcases hop with rfl | rfl <;> rfl
  | nilf => simp only [VR] at hb; subst hb; rcases hop with rfl | rfl <;> rfl
  | ifc _ _ => simp only [VR] at hb; obtain ⟨_,rfl,_⟩:=hb; rcases hop with rfl | rfl <;> rfl
  | agg _ => simp only [VR] at hb; obtain ⟨_,rfl,_⟩:=hb; rcases hop with rfl | rfl <;> rfl
  | tup _ => simp only [VR] at hb; obtain ⟨_,rfl,_⟩:=hb; rcases hop with rfl | rfl <;> rfl
 | agg l =>
  simp only [VR] at ha; obtain ⟨vs,rfl,_⟩:=ha
  cases b with
  | undef => exact absurd rfl (hnb (.inr ⟨l,rfl⟩))
  | agg m =>
   simp only [VR] at hb; obtain ⟨us,rfl,_⟩:=hb
   obtain ⟨i,c1,c2,c3,c4,c5⟩:=cmp_ok (P:=P) (t:=t) hg
   exact run_eqGuard_agg w op t x y vs us c4
  | nili => simp only [VR] at hb; subst hb; rcases hop with rfl | rfl <;> rfl
  | bool _ => simp only [VR] at hb; subst hb; rcases hop with rfl | rfl <;> rfl
  | int _ _ => simp only [VR] at hb; subst hb; rcases hop with rfl | rfl <;> rfl
  | flt _ _ => simp only [VR] at hb; subst hb; rcases hop with rfl | rfl <;> rfl
  | nan => simp only [VR] at hb; obtain ⟨_,rfl,_⟩:=hb; rcases hop with rfl | rfl <;> rfl
  | nanb => simp only [VR] at hb; obtain ⟨_,rfl,_⟩:=hb; rcases hop with rfl | rfl <;> rfl
  | str _ _ => simp only [VR] at hb; obtain ⟨_,rfl,_⟩:=hb; rcases hop with rfl | rfl <;> rfl
  | nilp => simp only [VR] at hb; subst hb; rcases hop with rfl | rfl <;> rfl
  | ptr _ _ => simp only [VR] at hb; obtain ⟨_,_,rfl⟩:=hb; rcases hop with rfl | rfl <;> rfl
  | gptr _ _ => simp only [VR] at hb; subst hb; rcases hop with rfl | rfl <;> rfl
  | nils => simp only [VR] at hb; subst hb; rcases hop with rfl | rfl <;> rfl
  | sle => simp only [VR] at hb; obtain ⟨_,_,rfl⟩:=hb; rcases hop with rfl | rfl <;> rfl
  | sl _ _ _ _ => simp only [VR] at hb; obtain ⟨_,_,rfl⟩:=hb; rcases hop with rfl | rfl <;> rfl
  | slo _ _ _ => simp only [VR] at hb; obtain ⟨_,_,_,_,rfl,_⟩:=hb; rcases hop with rfl | rfl <;> rfl
  | map0 => simp only [VR] at hb; subst hb; rcases hop with rfl | rfl <;> rfl
  | map _ => simp only [VR] at hb; obtain ⟨_,_,rfl⟩:=hb; rcases hop with rfl | rfl <;> rfl
  | fn _ _ _ => simp only [VR] at hb; obtain ⟨_,_,rfl,_⟩:=hb; rcases hop with rfl | rfl <;> rfl
  | yield _ => simp only [VR] at hb; obtain ⟨_,_,rfl⟩:=hb; rcases hop with rfl | rfl <;> rfl
  | nilf => simp only [VR] at hb; subst hb; rcases hop with rfl | rfl <;> rfl
  | ifc _ _ => simp only [VR] at hb; obtain ⟨_,rfl,_⟩:=hb; rcases hop with rfl | rfl <;> rfl
  | tup _ => simp only [VR] at hb; obtain ⟨_,rfl,_⟩:=hb; rcases hop with rfl | rfl <;> rfl
 | bool _ => simp only [VR] at ha; subst ha; rcases hop with rfl | rfl <;> rfl
 | int _ _ => simp only [VR] at ha; subst ha; rcases hop with rfl | rfl <;> rfl
 | flt _ _ => simp only [VR] at ha; subst ha; rcases hop with rfl | rfl <;> rfl
 | nan => simp only [VR] at ha; obtain ⟨_,rfl,_⟩:=ha; rcases hop with rfl | rfl <;> rfl
 | nanb => simp only [VR] at ha; obtain ⟨_,rfl,_⟩:=ha; rcases hop with rfl | rfl <;> rfl
 | str _ _ => simp only [VR] at ha; obtain ⟨_,rfl,_⟩:=ha; rcases hop with rfl | rfl <;> rfl
 | nilp => simp only [VR] at ha; subst ha; rcases hop with rfl | rfl <;> rfl
 | ptr _ _ => simp only [VR] at ha; obtain ⟨_,_,rfl⟩:=ha; rcases hop with rfl | rfl <;> rfl
 | gptr _ _ => simp only [VR] at ha; subst ha; rcases hop with rfl | rfl <;> rfl
 | nils => simp only [VR] at ha; subst ha; rcases hop with rfl | rfl <;> rfl
 | sle => simp only [VR] at ha; obtain ⟨_,_,rfl⟩:=ha; rcases hop with rfl | rfl <;> rfl
 | sl _ _ _ _ => simp only [VR] at ha; obtain ⟨_,_,rfl⟩:=ha; rcases hop with rfl | rfl <;> rfl
 | slo _ _ _ => simp only [VR] at ha; obtain ⟨_,_,_,_,rfl,_⟩:=ha; rcases hop with rfl | rfl <;> rfl
 | map0 => simp only [VR] at ha; subst ha; rcases hop with rfl | rfl <;> rfl
 | map _ => simp only [VR] at ha; obtain ⟨_,_,rfl⟩:=ha; rcases hop with rfl | rfl <;> rfl
 | fn _ _ _ => simp only [VR] at ha; obtain ⟨_,_,rfl,_⟩:=ha; rcases hop with rfl | rfl <;> rfl
 | yield _ => simp only [VR] at ha; obtain ⟨_,_,rfl⟩:=ha; rcases hop with rfl | rfl <;> rfl
 | nilf => simp only [VR] at ha; subst ha; rcases hop with rfl | rfl <;> rfl
 | ifc _ _ => simp only [VR] at ha; obtain ⟨_,rfl,_⟩:=ha; rcases hop with rfl | rfl <;> rfl
 | tup _ => simp only [VR] at ha; obtain ⟨_,rfl,_⟩:=ha; rcases hop with rfl | rfl <;> rfl
end eq
section
variable {X:Pt}{E:Env}{H:List Seg}{B:BB}{h:LH}{t:TypeId}{x y:Operand}{va vb:Value}{lv:LV}
theorem isC_or {x y:Operand}(h:(isC x || isC y)=true):∃ v,x = .const v∨y = .const v:=by
 cases x <;> cases y <;> simp [isC] at h <;> first | exact ⟨_,.inl rfl⟩ | exact ⟨_,.inr rfl⟩
theorem bin_eql {a:LV}{va vb:Value}(h1:∀ k n,a≠.int k n) (h2:∀ l n,a≠.str l n) (h3:∀ k n,a≠.flt k n) (h6:a≠.nan) (h7:a≠.nanb) (h4:a≠.undef) (ha:VR B a va) :
  binOp .eql t va vb=(do pure (.bool (← Op.equal t va vb)):Sem Value)∧binOp .neq t va vb=(do pure (.bool (!(← Op.equal t va vb))):Sem Value):=by
 cases a with
 | undef => exact absurd rfl h4
 | int k n => exact absurd rfl (h1 k n)
 | str l n => exact absurd rfl (h2 l n)
 | flt k n => exact absurd rfl (h3 k n)
 | nan => exact absurd rfl h6
 | nanb => exact absurd rfl h7
 | bool _ => simp only [VR] at ha; subst ha; exact ⟨rfl,rfl⟩
 | nilp => simp only [VR] at ha; subst ha; exact ⟨rfl,rfl⟩
 | ptr _ _ => simp only [VR] at ha; obtain ⟨_,_,rfl⟩:=ha; exact ⟨rfl,rfl⟩
 | gptr _ _ => simp only [VR] at ha; subst ha; exact ⟨rfl,rfl⟩
 | nils => simp only [VR] at ha; subst ha; exact ⟨rfl,rfl⟩
 | sle => simp only [VR] at ha; obtain ⟨_,_,rfl⟩:=ha; exact ⟨rfl,rfl⟩
 | sl _ _ _ _ => simp only [VR] at ha; obtain ⟨_,_,rfl⟩:=ha; exact ⟨rfl,rfl⟩
 | slo _ _ _ => simp only [VR] at ha; obtain ⟨_,_,_,_,rfl,_⟩:=ha; exact ⟨rfl,rfl⟩
 | map0 => simp only [VR] at ha; subst ha; exact ⟨rfl,rfl⟩
 | map _ => simp only [VR] at ha; obtain ⟨_,_,rfl⟩:=ha; exact ⟨rfl,rfl⟩
 | fn _ _ _ => simp only [VR] at ha; obtain ⟨_,_,rfl,_⟩:=ha; exact ⟨rfl,rfl⟩
 | yield _ => simp only [VR] at ha; obtain ⟨_,_,rfl⟩:=ha; exact ⟨rfl,rfl⟩
 | nilf => simp only [VR] at ha; subst ha; exact ⟨rfl,rfl⟩
 | ifc _ _ => simp only [VR] at ha; obtain ⟨_,rfl,_⟩:=ha; exact ⟨rfl,rfl⟩
 | nili => simp only [VR] at ha; subst ha; exact ⟨rfl,rfl⟩
 | agg _ => simp only [VR] at ha; obtain ⟨_,rfl,_⟩:=ha; exact ⟨rfl,rfl⟩
 | tup _ => simp only [VR] at ha; obtain ⟨_,rfl,_⟩:=ha; exact ⟨rfl,rfl⟩
theorem eqQ_ok (hr:HR G B h H) {neg:Bool}{a b:LV}(h1:∀ k n,a≠.int k n) (h2:∀ l n,a≠.str l n) (hq:eqQ (mkTI X.P) (liveR h) neg t (isC x || isC y) a b = .ok lv) (ha:VR B a va) (hb:VR B b vb) :
  BOk X H B (match neg with | true => .neq | false => .eql) t x y va vb lv:=by
 unfold eqQ at hq
 split at hq
 ·rename_i hg
  split at hq
  ·rename_i r he
   have h4:a≠.undef:=fun e => by subst e; rw [eqT_undef] at he; cases he
   have h3:∀ k n,a≠.flt k n:=fun k n e => by subst e; rw [eqT_flt] at he; cases he
   have h6:a≠.nan:=fun e => by subst e; rw [eqT_nan] at he; cases he
   have h7:a≠.nanb:=fun e => by subst e; rw [eqT_nanb] at he; cases he
   have h5:(a = .nili∨∃ l,a = .agg l)→b≠.undef:=fun ha e => by subst e; rw [eqT_undef2 _ _ _ ha] at he; cases he
   obtain ⟨b1,b2⟩:=bin_eql (t:=t) (vb:=vb) h1 h2 h3 h6 h7 h4 ha
   cases hq
   refine ⟨_,zay rfl,fun w S => ?_⟩
   have:=eqT_ok S hr (fun i h => h) 20 10000 (by omega) t _ _ _ _ _ he ha hb
   have hgd:=fun op hop => grd_ok (w:=w) (op:=op) hop (fun hc => isC_or hc) hg ha hb h4 h5
   cases neg with
   | true =>
    show (do eqGuard .neq t x y va vb; binOp .neq t va vb:Sem Value).run X.P w=_
    rw [b2]
    simp only [Sem.run_bind,hgd _ (.inr rfl),Op.equal,Op.maxDepth,this,Result.andThen_ok,Sem.run_pure]
   | false =>
    show (do eqGuard .eql t x y va vb; binOp .eql t va vb:Sem Value).run X.P w=_
    rw [b1]
    simp only [Sem.run_bind,hgd _ (.inl rfl),Op.equal,Op.maxDepth,this,Result.andThen_ok,Sem.run_pure]
  ·cases hq
 ·cases hq
theorem bin_ok (hr:HR G B h H) {op:BinOp}{a b:LV}(hq:(binQ (mkTI X.P) op t (isC x || isC y)).go a b h = .ok lv) (ha:VR B a va) (hb:VR B b vb):BOk X H B op t x y va vb lv:=by
 cases op with
 | add => exact add_ok hq ha hb
 | sub => exact sub_ok hq ha hb
 | mul => exact mul_ok hq ha hb
 | quo => exact quo_ok hq ha hb
 | rem => exact rem_ok hq ha hb
 | and => exact and_ok hq ha hb
 | or => exact or_ok hq ha hb
 | xor => exact xor_ok hq ha hb
 | andNot => exact andNot_ok hq ha hb
 | lss => exact lss_ok hq ha hb
 | leq => exact leq_ok hq ha hb
 | gtr => exact gtr_ok hq ha hb
 | geq => exact geq_ok hq ha hb
 | shl => exact shl_ok hq ha hb
 | shr => exact shr_ok hq ha hb
 | eql =>
  refine zbO (op:=.eql) hq ha hb (fun k m n lv h => ?_) (fun l m lv h => ?_) (fun a b va vb lv h1 h2 hq ha hb => zfg hq ha hb (fun m n w => by simp only [zcX]; rfl) (fun hq => eqQ_ok (neg:=false) hr h1 h2 hq ha hb))
  ·cases h; exact bok (v:=.bool (decide (m=n))) _ _ _ _ (zay (zcG m n)) fun w => by simp [eqGuard,binOp,Op.intCmp]; rfl
  ·cases h; exact bok (v:=.bool (decide (l=m))) _ _ _ _ (zay (eqS_dec l m)) fun w => by simp [str,eqGuard,binOp_string_eql,za6,zeH]
 | neq =>
  refine zbO (op:=.neq) hq ha hb (fun k m n lv h => ?_) (fun l m lv h => ?_) (fun a b va vb lv h1 h2 hq ha hb => zfg hq ha hb (fun m n w => by simp only [zcX]; rfl) (fun hq => eqQ_ok (neg:=true) hr h1 h2 hq ha hb))
  ·cases h; exact bok (v:=.bool (!decide (m=n))) _ _ _ _ (zay (congrArg not (zcG m n))) fun w => by simp [eqGuard,binOp,Op.intCmp]; rfl
  ·cases h; exact bok (v:=.bool (!decide (l=m))) _ _ _ _ (zay (congrArg not (eqS_dec l m))) fun w => by simp [str,eqGuard,binOp_string_neq,za6,zeH]
end
variable {G:List (Nat×Obj)}
theorem zbp {α:Type}(l:List α) {a b c d n:Nat}(h:c + n≤b) (hd:d=a + c):(((l.drop a).take b).drop c).take n=(l.drop d).take n:=by
 subst hd
 rw [List.drop_take,List.take_take,List.drop_drop,Nat.min_eq_left (by omega)]
theorem take_split {α:Type}(l:List α) (a n m:Nat):(l.drop a).take (n + m)=(l.drop a).take n++(l.drop (a + n)).take m:=by
 rw [List.take_add,List.drop_drop]
section
variable {B:BB}{cs:List Value}{off sz len:Nat}{t:Tr (List LV)}
theorem rowsF_ok (hrow:∀ r,r < len→VRL B (Tr.get [] t r) ((cs.drop (off + r * sz)).take sz)):∀ (n i:Nat),i + n≤len→VRL B (rowsF t n i) ((cs.drop (off + i * sz)).take (n * sz))
 | 0,i,_ => by simp [rowsF,VRL]
 | n + 1,i,hn => by
  have h1:=hrow i (by omega)
  have h2:=rowsF_ok hrow n (i + 1) (by omega)
  rw [rowsF,Nat.add_mul,Nat.one_mul,Nat.add_comm (n * sz) sz,take_split]
  refine h1.app ?_
  rw [show off + i * sz + sz=off + (i + 1) * sz by rw [Nat.add_mul]; omega]
  exact h2
theorem readR_ok (hsz:0 < sz) (hrow:∀ r,r < len→VRL B (Tr.get [] t r) ((cs.drop (off + r * sz)).take sz)) {o n:Nat}{l:List LV}(h:readR sz len t o n=some l):VRL B l ((cs.drop (off + o)).take n)∧o + n≤len * sz:=by
 unfold readR at h
 split at h
 ·cases h
 ·rename_i h1
  have h1:o + n≤len * sz:=zaf.1 h1
  refine ⟨?_,h1⟩
  split at h
  ·rename_i h2
   have h2:o % sz + n≤sz:=zaf.1 h2
   have hd:o=sz * (o / sz) + o % sz:=(Nat.div_add_mod o sz).symm
   cases h
   cases n with
   | zero => simp [VRL]
   | succ n =>
    have hr:o / sz < len:=by
     rw [Nat.div_lt_iff_lt_mul hsz]; omega
    have:=((hrow _ hr).drop (o % sz)).take (n + 1)
    rw [zbp cs (d:=off + o) h2 (by rw [Nat.mul_comm]; omega)] at this
    exact this
  ·split at h
   ·rename_i h3
    rw [Bool.and_eq_true] at h3
    have h4:o % sz=0:=zaa.1 h3.1
    have h5:n % sz=0:=zaa.1 h3.2
    cases h
    have ho:o=o / sz * sz:=by have:=Nat.div_add_mod o sz; rw [Nat.mul_comm]; omega
    have hn:n=n / sz * sz:=by have:=Nat.div_add_mod n sz; rw [Nat.mul_comm]; omega
    have:=rowsF_ok hrow (n / sz) (o / sz) (by
     have:(o / sz + n / sz) * sz≤len * sz:=by rw [Nat.add_mul,← ho,← hn]; exact h1
     exact Nat.le_of_mul_le_mul_right this hsz)
    rw [← ho,← hn] at this
    exact this
   ·cases h
theorem readB_ok {len x:Nat}{l:List UInt8}(h1:l.length=len) (h2:bytesNum l=x) (h3:(cs.drop off).take len=l.map byt) {o n:Nat}{r:List LV}(h:readB len x o n=some r):VRL B r ((cs.drop (off + o)).take n)∧o + n≤len:=by
 unfold readB at h
 split at h
 ·cases h
 ·rename_i hle
  have hle:o + n≤len:=zaf.1 hle
  cases h
  refine ⟨?_,hle⟩
  subst h2
  have e1:Nat.div (bytesNum l) (Nat.pow 256 o)=bytesNum (l.drop o):=(zbE o l).symm
  have e2:bytesL n (bytesNum (l.drop o))=bytesL n (bytesNum ((l.drop o).take n)):=by
   have:∀ (n x:Nat),bytesL n x=bytesL n (x % 256 ^ n):=by
    intro n
    induction n with
    | zero => intro x; rfl
    | succ n ih =>
     intro x
     simp only [bytesL]
     have a1:Nat.mod (x % 256 ^ (n + 1)) 256=Nat.mod x 256:=by
      show x % 256 ^ (n + 1) % 256=x % 256
      rw [Nat.pow_succ,Nat.mod_mul_left_mod]
     have a2:Nat.div (x % 256 ^ (n + 1)) 256=(Nat.div x 256) % 256 ^ n:=by
      show x % 256 ^ (n + 1) / 256=x / 256 % 256 ^ n
      rw [Nat.pow_succ,Nat.mul_comm,Nat.mod_mul_right_div_self]
     rw [a1,a2,← ih]
   rw [this n (bytesNum (l.drop o)),zbD]
  rw [e1,e2]
  have e3:(cs.drop (off + o)).take n=((l.drop o).take n).map byt:=by
   rw [List.map_take,List.map_drop,← h3,zbp cs hle rfl]
  rw [e3]
  have:=VRL.bytes (B:=B) ((l.drop o).take n)
  rw [show ((l.drop o).take n).length=n by simp; omega] at this
  exact this
end
theorem OR.read {B:BB}{k:Bk}{obj:Obj}{lo:LO}(hor:OR B k obj lo) {o n:Nat}{l:List LV}(h:readO lo o n=some l) :
  ∃ cs e fr,obj = .cells cs e fr∧VRL B l ((cs.toList.drop (k.off + o)).take n)∧k.off + o + n≤cs.size∧∀ c ∈ cs.toList,c.oneCell' = true:=by
 unfold readO at h
 split at h
 ·obtain ⟨cs,e,rfl,h2,h3,h4,h5,h6,h7⟩:=hor
  obtain ⟨h8,h9⟩:=readR_ok h2 h7 h
  exact ⟨cs,e,_,rfl,h8,by omega,h6⟩
 ·obtain ⟨cs,e,fr,l',rfl,h3,h4,h5,h6,h7,h8,h9,h10⟩:=hor
  obtain ⟨h11,h12⟩:=readB_ok h8 h9 h10 h
  exact ⟨cs,e,fr,rfl,h11,by omega,h7⟩
 ·cases h
theorem OR.cell {B:BB}{k:Bk}{obj:Obj}{lo:LO}(hor:OR B k obj lo) {o:Nat}{v:LV}(h:cell1 lo o=some v) :
  ∃ cs e fr u,obj = .cells cs e fr∧cs[k.off + o]? = some u∧VR B v u∧∀ c ∈ cs.toList,c.oneCell' = true:=by
 unfold cell1 at h
 split at h
 ·rename_i sz len t
  obtain ⟨cs,e,rfl,h2,h3,h4,h5,h6,h7⟩:=hor
  split at h
  ·rename_i hlt
   have hlt:o < len * sz:=zal.1 hlt
   have hr:o / sz < len:=by rw [Nat.div_lt_iff_lt_mul h2]; omega
   obtain ⟨u,hu,hv⟩:=(h7 _ hr).get h
   refine ⟨cs,e,_,u,rfl,?_,hv,h6⟩
   have hd:=Nat.div_add_mod o sz
   have hm:Nat.mod o sz < sz:=Nat.mod_lt o h2
   rw [List.getElem?_take,if_pos hm,List.getElem?_drop] at hu
   rw [← Array.getElem?_toList]
   rw [← hu]
   congr 1
   show k.off + o=k.off + o / sz * sz + o % sz
   rw [Nat.mul_comm (o / sz)]; omega
  ·cases h
 ·rename_i len x
  obtain ⟨cs,e,fr,l',rfl,h3,h4,h5,h6,h7,h8,h9,h10⟩:=hor
  split at h
  ·rename_i hlt
   have hlt:o < len:=zal.1 hlt
   rw [frN_eq] at h
   cases h
   subst h9
   have hl:o < l'.length:=by omega
   have hu:(l'.map byt)[o]? = some (byt (l'.getD o 0)):=by simp [List.getD,hl]
   rw [← h10,List.getElem?_take,if_pos hlt,List.getElem?_drop,Array.getElem?_toList] at hu
   refine ⟨cs,e,fr,_,rfl,hu,?_,h7⟩
   rw [zcI l' o hl]
   simp only [VR]
   rfl
  ·cases h
 ·cases h
section
variable {w0:World}{base:Nat}{H:List Seg}{B:BB}{h:LH}
theorem live_read {lo:LO}{o n:Nat}{l:List LV}(h:readO lo o n=some l):liveO lo=true:=by
 cases lo <;> first | rfl | (cases h; done)
theorem live_cell {lo:LO}{o:Nat}{l:LV}(h:cell1 lo o=some l):liveO lo=true:=by
 cases lo <;> first | rfl | (cases h; done)
theorem HR.read (hr:HR G B h H) {i o n:Nat}{l:List LV}(hq:readO (atB h i) o n=some l) {k:Bk}(hk:B[i]? = some k) :
  ∃ vs:List Value,VRL B l vs∧vs.length=n∧(∀ c ∈ vs,c.oneCell' = true)∧∀ j v,vs[j]? = some v→Cell w0 base H (Addr.add ⟨k.b,k.off + o,none⟩ j) v:=by
 obtain ⟨k',j,obj,h1,h2,h3⟩:=hr.at_ i (live_read hq)
 rw [hk] at h1; cases h1
 obtain ⟨cs,e,fr,rfl,a1,a2,a3⟩:=h3.read hq
 refine ⟨_,a1,by simp; omega,fun c hc => a3 c (List.mem_of_mem_drop (List.mem_of_mem_take hc)),fun m v hv => ?_⟩
 rw [zai]
 refine Cell.own j 0 h2 rfl ?_
 rw [List.getElem?_take] at hv
 split at hv
 ·rw [List.getElem?_drop,Array.getElem?_toList] at hv; exact hv
 ·cases hv
theorem HR.cell (hr:HR G B h H) {i o:Nat}{v:LV}(hq:cell1 (atB h i) o=some v) {k:Bk}(hk:B[i]? = some k):∃ u,VR B v u∧Cell w0 base H ⟨k.b,k.off + o,none⟩ u∧u.oneCell' = true:=by
 obtain ⟨k',j,obj,h1,h2,h3⟩:=hr.at_ i (live_cell hq)
 rw [hk] at h1; cases h1
 obtain ⟨cs,e,fr,u,rfl,a1,a2,a3⟩:=h3.cell hq
 exact ⟨u,a2,Cell.own j 0 h2 rfl a1,a3 u (by rw [← Array.getElem?_toList] at a1; exact List.mem_iff_getElem?.2 ⟨_,a1⟩)⟩
end
variable {G:List (Nat×Obj)}
structure CxOk (P:Program) (w0:World) (base:Nat) (cx:Cx):Prop where
  ty:cx.ty=mkTI P
  gl:∀ g o v,cx.gl g o=some v→∃ u,VR [] v u∧∀ w,Below base w0 w→w.cell? ⟨g,o,none⟩=some u
section
variable {X:Pt}{E:Env}{H:List Seg}{B:BB}{h:LH}{cx:Cx}{f:SlF}{lv:LV}
def QuOk (X:Pt) (E:Env) (H:List Seg) (B:BB) (op:Op) (lv:LV):Prop:=∃ v,VR B lv v∧Does X E H op (Is v H)
theorem zdQ {v lv:LV}(h:okV v = .ok lv):v=lv∧v≠.undef:=by
 unfold okV at h
 split at h
 ·cases h
 ·rename_i hne; cases h; exact ⟨rfl,fun e => hne e⟩
theorem zeq {n:Nat}{v:Option LV}{lv:LV}(h:optQ n v = .ok lv):v=some lv:=by
 unfold optQ at h
 split at h
 ·cases h; rfl
 ·cases h
theorem move_ok (hE:ER B f E) {x:Operand}(hq:okV (evO x f) = .ok lv):QuOk X E H B (.move x) lv∧QuOk X E H B (.assign x) lv:=by
 obtain ⟨rfl,hn⟩:=zdQ hq
 obtain ⟨v,h1,h2⟩:=hE.ev x hn
 exact ⟨⟨v,h2,Do.move h1⟩,⟨v,h2,Do.assign h1⟩⟩
theorem pick_ok (hE:ER B f E) {c a b:Operand}(hq:pickQ (evO c f) (evO a f) (evO b f) = .ok lv):QuOk X E H B (.pick c a b) lv:=by
 unfold pickQ at hq
 split at hq
 ·rename_i hc
  obtain ⟨u,h1,h2⟩:=hE.ev c (by rw [hc]; simp)
  rw [hc] at h2; simp only [VR] at h2; subst h2
  obtain ⟨rfl,hn⟩:=zdQ hq
  obtain ⟨v,h3,h4⟩:=hE.ev a hn
  exact ⟨v,h4,Do.pickT h1 h3⟩
 ·rename_i hc
  obtain ⟨u,h1,h2⟩:=hE.ev c (by rw [hc]; simp)
  rw [hc] at h2; simp only [VR] at h2; subst h2
  obtain ⟨rfl,hn⟩:=zdQ hq
  obtain ⟨v,h3,h4⟩:=hE.ev b hn
  exact ⟨v,h4,Do.pickF h1 h3⟩
 ·cases hq
theorem zfO (hc:CxOk X.P X.w0 X.base cx) (hr:HR G B h H) {t:TypeId}{a:LV}{va:Value}(hq:(loadE cx t).go a h = .ok lv) (ha:VR B a va) :
  ∃ p v,va = .pointer (some p)∧VR B lv v∧∀ w,Sep X.w0 X.base w H→(loadVar t p).run X.P w = .ok v w:=by
 unfold loadE at hq
 rw [hc.ty] at hq
 cases hok:(mkTI X.P t).ok with
 | false =>
  simp only [hok] at hq
  cases hag:isAgg (mkTI X.P t).kind with
  | false => simp only [hag] at hq; cases hq
  | true =>
   simp only [hag,W.go_mk] at hq
   obtain ⟨hk,hag⟩:=kind_agg hag
   split at hq
   ·rename_i i o
    unfold aggQ at hq
    split at hq
    ·rename_i l hl
     cases hq
     simp only [VR] at ha
     obtain ⟨k,hk1,rfl⟩:=ha
     obtain ⟨vs,h1,h2,h3,h4⟩:=hr.read (w0:=X.w0) (base:=X.base) hl hk1
     refine ⟨_,.agg vs.toArray,rfl,?_,fun w S => ?_⟩
     ·simp only [VR]; exact ⟨_,rfl,by simpa using h1,by simpa using h3⟩
     ·have:=run_loadCells_list (P:=X.P) w ⟨k.b,k.off + o,none⟩ vs (fun j v hv => h4 j v hv w S)
      rw [h2] at this
      simp only [loadVar,Sem.run_bind,hag,Result.andThen_ok,if_true,zaz hk,this,Sem.run_pure]
    ·cases hq
   ·cases hq
 | true =>
  simp only [hok,W.go_mk] at hq
  obtain ⟨hk,hfl⟩:=ok_flat hok
  have hag:=flat_agg hfl
  split at hq
  ·rename_i i o
   have hl:=zeq hq
   simp only [VR] at ha
   obtain ⟨k,hk1,rfl⟩:=ha
   obtain ⟨u,h1,h2,h3⟩:=hr.cell (w0:=X.w0) (base:=X.base) hl hk1
   exact ⟨_,u,rfl,h1,fun w S => by simp [loadVar,hag,h2 w S]⟩
  ·rename_i g o
   have hl:=zeq hq
   simp only [VR] at ha
   subst ha
   obtain ⟨u,h1,h2⟩:=hc.gl _ _ _ hl
   exact ⟨_,u,rfl,VR.mono (List.nil_prefix) _ _ h1,fun w S => by simp [loadVar,hag,h2 w S.below]⟩
  ·cases hq
theorem loadE_undef {t:TypeId}:(loadE cx t).go .undef h≠.ok lv:=by
 intro hq
 unfold loadE at hq
 cases hok:(cx.ty t).ok with
 | false =>
  simp only [hok] at hq
  cases hag:isAgg (cx.ty t).kind with
  | false => simp only [hag] at hq; cases hq
  | true => simp only [hag,W.go_mk] at hq; cases hq
 | true => simp only [hok,W.go_mk] at hq; cases hq
theorem load_ok (hc:CxOk X.P X.w0 X.base cx) (hr:HR G B h H) (hE:ER B f E) {t:TypeId}{a:Operand}(hq:(loadE cx t).go (evO a f) h = .ok lv):QuOk X E H B (.load t a) lv:=by
 obtain ⟨va,h1,h2⟩:=hE.ev a (fun e => by rw [e] at hq; exact loadE_undef hq)
 obtain ⟨p,v,rfl,h3,h4⟩:=zfO hc hr hq h2
 exact ⟨v,h3,Does.core rfl fun dst ty pos after g ρ w hρ S => ⟨v,w,H,by simp [execOp,hρ _ _ h1,Instr.loadAt,Instr.sureAddr,h4 w S],S,rfl,rfl⟩⟩
theorem nil_ok (hE:ER B f E) {x:Operand}(hq:nilQ (evO x f) = .ok lv):QuOk X E H B (.nilCheck x) lv:=by
 have hn:evO x f≠.undef:=fun e => by rw [e] at hq; cases hq
 obtain ⟨v,h1,h2⟩:=hE.ev x hn
 unfold nilQ at hq
 split at hq
 all_goals first | (cases hq; done) | skip
 all_goals
  rename_i he
  rw [he] at h2
  have h3:=h2
  simp only [VR] at h2
  cases hq
 ·obtain ⟨k,_,rfl⟩:=h2; exact ⟨_,h3,Do.nilCheck h1⟩
 ·subst h2; exact ⟨_,h3,Do.nilCheck h1⟩
 ·obtain ⟨y,rfl,_⟩:=h2; exact ⟨_,h3,Do.nilCheckI h1⟩
 ·obtain ⟨a,b,rfl,_⟩:=h2; exact ⟨_,h3,Do.nilCheckF h1⟩
 ·obtain ⟨k,_,rfl⟩:=h2; exact ⟨_,h3,Does.pureOp rfl fun dst ty pos after g ρ w hρ => by simp [execOp,hρ _ _ h1]⟩
theorem un_ok (hE:ER B f E) {op:UnOp}{t:TypeId}{x:Operand}(hq:unQ op (evO x f) = .ok lv):QuOk X E H B (.unOp op t x) lv:=by
 have hn:evO x f≠.undef:=fun e => by rw [e] at hq; cases op <;> cases hq
 obtain ⟨v,h1,h2⟩:=hE.ev x hn
 cases op with
 | plus => cases hq
 | neg =>
  simp only [unQ,negQ] at hq
  split at hq
  ·rename_i k n he
   rw [he] at h2; simp only [VR] at h2; subst h2
   cases hq
   refine ⟨.int k (k.wrap (0 - n)),by rw [zdS,subI_eq]; exact zbh,Do.neg h1 rfl⟩
  ·cases hq
 | xor =>
  simp only [unQ,xorQ] at hq
  split at hq
  ·rename_i k n he
   rw [he] at h2; simp only [VR] at h2; subst h2
   unfold notQ at hq
   split at hq
   ·cases hq
   ·rename_i n
    split at hq
    ·rename_i hs
     cases hq
     refine ⟨.int k (k.wrap (.negSucc n)),by rw [zdS]; exact zbh,Does.pureOp rfl fun dst ty pos after g ρ w hρ => ?_⟩
     rw [← not_wrap hs]
     simp [execOp,hρ _ _ h1,Op.unary,Op.intBits,hs]
    ·rename_i hs
     split at hq
     ·rename_i hl
      cases hq
      refine ⟨.int k (k.wrap ((lim k - 1 - n:Nat):Int)),by rw [mkN_eq]; exact zbh,Does.pureOp rfl fun dst ty pos after g ρ w hρ => ?_⟩
      rw [← not_wrapU hs (zal.1 hl)]
      simp [execOp,hρ _ _ h1,Op.unary,Op.intBits,hs]
     ·cases hq
  ·cases hq
 | not =>
  simp only [unQ,nbQ] at hq
  split at hq
  ·rename_i b he
   rw [he] at h2; simp only [VR] at h2; subst h2
   cases hq
   exact ⟨_,zay rfl,Do.not h1⟩
  ·cases hq
theorem iface_ok (hc:CxOk X.P X.w0 X.base cx) (hE:ER B f E) {t:TypeId}{x:Operand}(hq:(ifcE cx t).go (evO x f) = .ok lv):QuOk X E H B (.makeInterface t x) lv:=by
 unfold ifcE at hq
 rw [hc.ty] at hq
 have key:(mkTI X.P t).kind≠.other→(∀ b,(mkTI X.P t).kind≠.iface b)→(match okV (evO x f) with | .ok v => Q.ok (.ifc t v) | r => r) = .ok lv→QuOk X E H B (.makeInterface t x) lv:=by
  intro h1 h2 hq
  split at hq
  ·rename_i v hv
   obtain ⟨rfl,hn⟩:=zdQ hv
   cases hq
   obtain ⟨u,h3,h4⟩:=hE.ev x hn
   obtain ⟨d,hd⟩:=zfR h1
   refine ⟨.iface t u,by simp only [VR]; exact ⟨u,rfl,h4⟩,Do.makeIface hd ?_ h3⟩
   cases d <;> try rfl
   rename_i ms
   exfalso
   refine h2 ms.isEmpty ?_
   rw [(zcW h1).2]
   unfold kindOf; rw [hd]
  ·rename_i r hr
   rw [hq] at hr; exact absurd rfl (hr lv)
 cases hk:(mkTI X.P t).kind <;> simp only [hk] at hq
 case iface b => cases hq
 case other => cases hq
 all_goals exact key (by rw [hk]; simp) (fun b => by rw [hk]; simp) hq
theorem evC_ok {bad:Q}{k:List LV→Q}{l:List LV}(hb:bad≠.ok lv) (hq:evC bad k l = .ok lv):defd l=true∧k l = .ok lv:=by
 unfold evC at hq
 split at hq
 ·rename_i h; exact ⟨h,hq⟩
 ·exact absurd hq hb
theorem zbR:∀ {l:List LV},defd l=true→∀ v ∈ l,v≠.undef
 | [],_,v,hv => by simp at hv
 | a::l,h,v,hv => by
  unfold defd at h
  split at h
  ·cases h
  ·rename_i hne
   rcases List.mem_cons.1 hv with rfl | hv
   ·exact fun e => hne e
   ·exact zbR h v hv
theorem zc4 (hE:ER B f E):∀ (xs:List Operand),(∀ v ∈ evL xs f,v≠.undef)→∃ vs,evs E xs=some vs∧VRL B (evL xs f) vs
 | [],_ => ⟨[],rfl,VRL.nil_⟩
 | x::xs,hn => by
  obtain ⟨v,h1,h2⟩:=hE.ev x (hn _ (by simp [evL]))
  obtain ⟨vs,h3,h4⟩:=zc4 hE xs (fun u hu => hn u (by simp [evL,hu]))
  exact ⟨v::vs,by simp [evs,h1,h3],VRL.cons_ h2 h4⟩
theorem zeD (hE:ER B f E):∀ (ps:List (Nat×Operand)),(∀ v ∈ partsE ps f,v.2≠.undef)→∃ vs,evsP E ps=some vs∧vs.length=ps.length∧∀ (i:Nat) (p:Nat×LV),(partsE ps f)[i]? = some p→∃ v,vs[i]? = some (p.1,v)∧VR B p.2 v
 | [],_ => ⟨[],rfl,rfl,fun i p h => by simp [partsE] at h⟩
 | q::ps,hn => by
  obtain ⟨v,h1,h2⟩:=hE.ev q.2 (hn (q.1,evO q.2 f) (by simp [partsE]))
  obtain ⟨vs,h3,h5,h4⟩:=zeD hE ps (fun u hu => hn u (by simp [partsE,hu]))
  obtain ⟨a,x⟩:=q
  refine ⟨(a,v)::vs,by simp only at h1; simp [evsP,h1,h3],by simp [h5],fun i p hp => ?_⟩
  cases i with
  | zero => simp [partsE] at hp; subst hp; exact ⟨v,by simp,h2⟩
  | succ i => simp [partsE] at hp; obtain ⟨u,hu,h6⟩:=h4 i p hp; exact ⟨u,by simpa using hu,h6⟩
end
section
variable {X:Pt}{E:Env}{H:List Seg}{B:BB}{h:LH}{cx:Cx}{f:SlF}{lv:LV}
theorem zcd:∀ (q:List (Nat×Operand)),(partsE q f).length=q.length
 | [] => rfl
 | a::q => by simp [partsE,zcd q]
theorem zdx {place:Nat→Option (Nat×Nat)}:∀ (ps:List (Nat×LV)) (vs:List (Nat×Value)) (cs:List LV) (ds:List Value) (l:List LV),vs.length=ps.length→(∀ (i:Nat) (p:Nat×LV),ps[i]? = some p→∃ v,vs[i]? = some (p.1,v)∧VR B p.2 v) →
  VRL B cs ds→(∀ c ∈ ds,c.oneCell' = true)→fillC place cs ps=some l→∃ m,fillL place ds vs=some m∧VRL B l m∧(∀ c ∈ m,c.oneCell' = true)∧m.length=ds.length
 | [],vs,cs,ds,l,hl,hp,hc,h1,hq => by
  cases vs with
  | nil => simp only [fillC] at hq; cases hq; exact ⟨ds,rfl,hc,h1,rfl⟩
  | cons v vs => simp at hl
 | (i,v)::ps,[],cs,ds,l,hl,hp,hc,h1,hq => by simp at hl
 | (i,v)::ps,u::us,cs,ds,l,hl,hp,hc,h1,hq => by
  obtain ⟨w,hw,hv⟩:=hp 0 (i,v) (by simp)
  simp at hw
  subst hw
  simp only [fillC] at hq
  simp only [fillL]
  cases hpl:place i with
  | none => rw [hpl] at hq; cases hq
  | some os =>
   obtain ⟨o,s⟩:=os
   rw [hpl] at hq
   simp only at hq ⊢
   cases hcv:cells v with
   | none => rw [hcv] at hq; cases hq
   | some vc =>
    rw [hcv] at hq
    simp only at hq
    obtain ⟨c1,c2⟩:=zaB hv hcv
    unfold fill1 at hq
    cases hb:(Nat.beq vc.length s && Nat.ble (o + s) cs.length) with
    | false => simp only [hb] at hq; cases hq
    | true =>
     simp only [hb] at hq
     have e1:w.cells.toList.length=vc.length:=c1.len
     have e2:ds.length=cs.length:=hc.len
     rw [e1,e2,hb]
     simp only
     rw [Bool.and_eq_true] at hb
     have b1:=zaa.1 hb.1
     have b2:=zaf.1 hb.2
     obtain ⟨m,m1,m2,m3,m4⟩:=zdx ps us _ (ds.take o++(w.cells.toList++ds.drop (o + s))) l (by simpa using hl) (fun j p hj => hp (j + 1) p (by simpa using hj)) ((hc.take o).app (c1.app (hc.drop (o + s)))) (by
      intro c hc
      simp only [List.mem_append] at hc
      rcases hc with hc | hc | hc
      ·exact h1 c (List.mem_of_mem_take hc)
      ·exact c2 c hc
      ·exact h1 c (List.mem_of_mem_drop hc)) hq
     refine ⟨m,m1,m2,m3,?_⟩
     have e3:w.cells.size=vc.length:=by simpa using e1
     rw [m4]; simp; omega
theorem zcg {place:Nat→Option (Nat×Nat)}:∀ (ps:List (Nat×LV)) (cs l:List LV),fillC place cs ps=some l→∀ p ∈ ps,p.2≠.undef
 | [],_,_,_,p,hp => by simp at hp
 | (i,v)::ps,cs,l,hq,p,hp => by
  simp only [fillC] at hq
  split at hq
  ·cases hq
  ·split at hq
   ·cases hq
   ·rename_i vc hcv
    split at hq
    ·rcases List.mem_cons.1 hp with rfl | hp
     ·intro e; simp only at e; subst e; cases hcv
     ·exact zcg ps _ l hq p hp
    ·cases hq
theorem lay_ok {t:TypeId}{l:List (Nat×Nat×Bool×TypeId)}{z:Value}(hk:(mkTI X.P t).kind = .struct l) (hz:zeroV X.P t=some z):∃ pl,layOf X.P t=some (pl,z.cells.toList)∧∀ i,pl[i]? = plcS l i:=by
 obtain ⟨fs,hu,rfl,hkf⟩:=zds hk
 refine ⟨fs.toList.map fun f => (f.offset,szOf X.P f.type),?_,fun i => ?_⟩
 ·unfold layOf
  rw [hu]
  have:fs.toList.mapM (fun f => (X.P.info? f.type).map fun i => (f.offset,i.size))=some (fs.toList.map fun f => (f.offset,szOf X.P f.type)):=by
   revert hkf
   generalize fs.toList=l
   intro hkf
   induction l with
   | nil => rfl
   | cons g l ih =>
    obtain ⟨i,hi,_⟩:=zaI (hkf g (by simp))
    rw [List.mapM_cons,ih (fun f hf => hkf f (by simp [hf])),hi]
    simp [szOf,hi]
  simp only [this,hz]
 ·simp only [plcS,List.getElem?_map]
  cases fs.toList[i]? <;> rfl
theorem aggQ_ok {l:Option (List LV)}(h:aggQ l = .ok lv):∃ m,l=some m∧lv = .agg m:=by
 unfold aggQ at h
 split at h
 ·cases h; exact ⟨_,rfl,rfl⟩
 ·cases h
theorem build_ok (hc:CxOk X.P X.w0 X.base cx) (hE:ER B f E) {t:TypeId}{ps:Array (Nat×Operand)}(hq:(buildE cx t).go (partsE ps.toList f) = .ok lv):QuOk X E H B (.build t ps) lv:=by
 unfold buildE at hq
 rw [hc.ty] at hq
 have zero:∀ {z:List LV},cells (mkTI X.P t).zero=some z→∃ zv,zeroV X.P t=some zv∧VRL B z zv.cells.toList∧(∀ c ∈ zv.cells.toList,c.oneCell' = true)∧(∀ w,(zeroValue t).run X.P w = .ok zv w):=by
  intro z hz
  obtain ⟨_,zv,z1,z2,z3,_⟩:=zaZ (P:=X.P) (t:=t) B (fun e => by rw [e] at hz; cases hz)
  exact ⟨zv,z2,(zaB z3 hz).1,(zaB z3 hz).2,z1⟩
 cases hk:(mkTI X.P t).kind <;> simp only [hk,W.go_mk] at hq
 case struct l =>
  unfold buildQ at hq
  split at hq
  ·rename_i z hz
   obtain ⟨m,hm,rfl⟩:=aggQ_ok hq
   obtain ⟨zv,z1,z2,z3,_⟩:=zero hz
   obtain ⟨vs,v1,v2,v3⟩:=zeD hE ps.toList (zcg _ _ _ hm)
   obtain ⟨pl,p1,p2⟩:=lay_ok hk z1
   have hfun:(fun i => pl[i]?)=plcS l:=funext p2
   obtain ⟨r,r1,r2,r3,r4⟩:=zdx (place:=plcS l) _ vs z zv.cells.toList m (by rw [v2,zcd]) v3 z2 z3 hm
   exact ⟨.agg r.toArray,by simp only [VR]; exact ⟨_,rfl,by simpa using r2,by simpa using r3⟩,Do.build p1 v1 (by rw [hfun]; exact r1)⟩
  ·cases hq
 case array n e =>
  unfold buildQ at hq
  split at hq
  ·rename_i z hz
   obtain ⟨m,hm,rfl⟩:=aggQ_ok hq
   obtain ⟨zv,z1,z2,z3,z4⟩:=zero hz
   obtain ⟨vs,v1,v2,v3⟩:=zeD hE ps.toList (zcg _ _ _ hm)
   obtain ⟨hu,hke⟩:=zcp hk
   obtain ⟨r,r1,r2,r3,r4⟩:=zdx (place:=plcA (mkTI X.P e).sz) _ vs z zv.cells.toList m (by rw [v2,zcd]) v3 z2 z3 hm
   refine ⟨.agg r.toArray,by simp only [VR]; exact ⟨_,rfl,by simpa using r2,by simpa using r3⟩,Does.pureOp rfl fun dst ty pos after g ρ w hρ => ?_⟩
   have e1:(ps.map fun p => (p.1,ρ p.2))=vs.toArray:=by
    apply Array.ext'
    rw [Array.toList_map]
    exact zd9 hρ v1
   have hf2:=zfY r1
   have hb:(Instr.build t (ps.map fun p => (p.1,ρ p.2))).run X.P w = .ok (.agg r.toArray) w:=by
    rw [e1]
    unfold Instr.build
    simp only [Sem.run_bind,z4,run_underlying hu,Result.andThen_ok,zaz hke]
    have hf3:Instr.fill (fun i => some (i * (mkTI X.P e).sz,(mkTI X.P e).sz)) zv.cells vs=some r.toArray:=by
     rw [← hf2]; rfl
    rw [hf3]
    rfl
   simp only [execOp,Sem.run_bind,hb,Result.andThen_ok,Sem.run_pure]
  ·cases hq
 all_goals cases hq
theorem fld_ok {s i o n:Nat}{ag:Bool}(hc:CxOk X.P X.w0 X.base cx) (hq:fld cx s i=some (o,n,ag)):∃ fs fd,X.P.underlying s=some (.struct fs)∧fs[i]? = some fd∧o=fd.offset∧n=szOf X.P fd.type∧ag=aggB (X.P.underlying fd.type)∧known X.P fd.type=true:=by
 unfold fld at hq
 rw [hc.ty] at hq
 cases hk:(mkTI X.P s).kind <;> simp only [hk] at hq
 case struct l =>
  obtain ⟨fs,hu,rfl,hkf⟩:=zds hk
  rw [List.getElem?_map] at hq
  cases hf:fs.toList[i]? with
  | none => rw [hf] at hq; cases hq
  | some fd =>
   rw [hf] at hq
   simp only [Option.map_some] at hq
   cases hq
   exact ⟨fs,fd,hu,by simpa using hf,rfl,rfl,rfl,hkf fd (List.mem_iff_getElem?.2 ⟨_,hf⟩)⟩
 all_goals cases hq
theorem addP_ok {a:LV}{d:Nat}{va:Value}(hq:addP a d = .ok lv) (ha:VR B a va):∃ b o,va = .pointer (some ⟨b,o,none⟩)∧VR B lv (.pointer (some ⟨b,o + d,none⟩)):=by
 unfold addP at hq
 split at hq
 ·simp only [VR] at ha
  obtain ⟨k,hk,rfl⟩:=ha
  rw [frN_eq] at hq
  cases hq
  exact ⟨_,_,rfl,by simp only [VR]; exact ⟨k,hk,by congr 3; show _=k.off + (_ + _); omega⟩⟩
 ·simp only [VR] at ha
  subst ha
  rw [frN_eq] at hq
  cases hq
  exact ⟨_,_,rfl,by simp only [VR]; rfl⟩
 ·cases hq
theorem zfp {d:Nat}:addP .undef d≠.ok lv:=fun h => by cases h
theorem fieldAddr_ok (hc:CxOk X.P X.w0 X.base cx) (hE:ER B f E) {s i:Nat}{x:Operand}(hq:(fieldAddrE cx s i).go (evO x f) = .ok lv):QuOk X E H B (.fieldAddr s x i) lv:=by
 unfold fieldAddrE at hq
 split at hq
 ·rename_i off n ag hf
  obtain ⟨fs,fd,hu,hfd,rfl,hn,_,hk⟩:=fld_ok hc hf
  simp only [W.go_mk] at hq
  obtain ⟨v,h1,h2⟩:=hE.ev x (fun e => by rw [e] at hq; exact zfp hq)
  obtain ⟨b,o,rfl,h3⟩:=addP_ok hq h2
  refine ⟨_,h3,Do.fieldAddrB ?_ h1 rfl⟩
  obtain ⟨inf,hi,_⟩:=zaI hk
  unfold szOf at hn
  rw [hi] at hn
  have hn:n.succ=inf.size:=hn
  simp only [fieldOff,hu,hfd,hi]
  rw [← hn]
  rfl
 ·cases hq
theorem field_ok (hc:CxOk X.P X.w0 X.base cx) (hE:ER B f E) {s i:Nat}{x:Operand}(hq:(fieldE cx s i).go (evO x f) = .ok lv):QuOk X E H B (.field s x i) lv:=by
 unfold fieldE at hq
 split at hq
 ·rename_i off n ag hf
  obtain ⟨fs,fd,hu,hfd,rfl,rfl,rfl,hk⟩:=fld_ok hc hf
  simp only [W.go_mk] at hq
  split at hq
  ·rename_i cs hx
   have hp:=zeq hq
   obtain ⟨v,h1,h2⟩:=hE.ev x (by rw [hx]; simp)
   rw [hx] at h2
   simp only [VR] at h2
   obtain ⟨vs,rfl,h3,h4⟩:=h2
   obtain ⟨u,u1,u2⟩:=zcz hk h3 h4 hp
   refine ⟨u,u1,Does.pureOp rfl fun dst ty pos after g ρ w hρ => ?_⟩
   simp [execOp,hρ _ _ h1,Instr.field,run_underlying hu,hfd,asAgg,u2]
  ·cases hq
 ·cases hq
theorem extract_ok (hE:ER B f E) {x:Operand}{i:Nat}(hq:extQ (evO x f) i = .ok lv):QuOk X E H B (.extract x i) lv:=by
 unfold extQ at hq
 split at hq
 ·rename_i cs hx
  split at hq
  ·rename_i v hv
   obtain ⟨rfl,hn⟩:=zdQ hq
   obtain ⟨u,h1,h2⟩:=hE.ev x (by rw [hx]; simp)
   rw [hx] at h2
   simp only [VR] at h2
   obtain ⟨vs,rfl,h3⟩:=h2
   obtain ⟨y,y1,y2⟩:=h3.get hv
   exact ⟨y,y2,Do.extract h1 (by simpa using y1)⟩
  ·cases hq
 ·cases hq
theorem makeFunc_ok (hE:ER B f E) {g:FuncId}{us cs:Array Operand}(hq:evC (Q.bad 202) (fun u => evC (Q.bad 202) (fun c => Q.ok (.fn g u c)) (evL cs.toList f)) (evL us.toList f) = .ok lv):QuOk X E H B (.makeFunc (.func g) us cs) lv:=by
 obtain ⟨d1,hq⟩:=evC_ok (by simp) hq
 obtain ⟨d2,hq⟩:=evC_ok (by simp) hq
 cases hq
 obtain ⟨u,u1,u2⟩:=zc4 hE us.toList (zbR d1)
 obtain ⟨c,c1,c2⟩:=zc4 hE cs.toList (zbR d2)
 exact ⟨_,by simp only [VR]; exact ⟨_,_,rfl,by simpa using u2,by simpa using c2⟩,Do.makeFunc u1 c1⟩
theorem zcm {v:LV}{n:Nat}{u:Value}(h:natOf v=some n) (hv:VR B v u):∃ k,u = .int k (n:Int):=by
 unfold natOf at h
 split at h
 ·cases h; simp only [VR] at hv; exact ⟨_,hv⟩
 ·cases h
theorem indexAddr_ok (hc:CxOk X.P X.w0 X.base cx) (hE:ER B f E) {t:Nat}{x ix:Operand}(hq:(indexAddrE cx t).go (evO x f) (evO ix f) = .ok lv):QuOk X E H B (.indexAddr t x ix) lv:=by
 unfold indexAddrE at hq
 rw [hc.ty] at hq
 cases hk:(mkTI X.P t).kind <;> simp only [hk,W.go_mk] at hq
 case slice e =>
  obtain ⟨hu,hke⟩:=zaL hk
  unfold idxS at hq
  split at hq
  ·cases hq
  ·rename_i j hj
   obtain ⟨vi,i1,i2⟩:=hE.ev ix (fun e => by rw [e] at hj; cases hj)
   obtain ⟨kk,rfl⟩:=zcm hj i2
   have go:∀ {i o n:Nat},idxP i o n j (mkTI X.P e).sz = .ok lv→j < n∧lv = .ptr i (o + j * (mkTI X.P e).sz):=by
    intro i o n hq
    unfold idxP at hq
    split at hq
    ·rename_i hlt
     rw [frN_eq] at hq
     cases hq
     exact ⟨zal.1 hlt,rfl⟩
    ·cases hq
   split at hq
   ·rename_i i o n c hx
    obtain ⟨hlt,rfl⟩:=go hq
    obtain ⟨vx,x1,x2⟩:=hE.ev x (by rw [hx]; simp)
    rw [hx] at x2; simp only [VR] at x2
    obtain ⟨k,hk1,rfl⟩:=x2
    refine ⟨.pointer (some ⟨k.b,k.off + (o + j * (mkTI X.P e).sz),none⟩),by simp only [VR]; exact ⟨k,hk1,rfl⟩,Does.pureOp rfl fun dst ty pos after g ρ w hρ => ?_⟩
    simp [execOp,hρ _ _ x1,hρ _ _ i1,Instr.indexAt,asIntOf,run_underlying hu,hlt,zaz hke,zai,Nat.add_assoc]
   ·rename_i i o n a hx
    obtain ⟨hlt,rfl⟩:=go hq
    obtain ⟨vx,x1,x2⟩:=hE.ev x (by rw [hx]; simp)
    rw [hx] at x2; simp only [VR] at x2
    obtain ⟨k,c,A,hk1,rfl,q1,q2,q3⟩:=x2
    have:=q3.1 (by omega)
    subst this
    refine ⟨.pointer (some ⟨k.b,k.off + (o + j * (mkTI X.P e).sz),none⟩),by simp only [VR]; exact ⟨k,hk1,rfl⟩,Does.pureOp rfl fun dst ty pos after g ρ w hρ => ?_⟩
    simp [execOp,hρ _ _ x1,hρ _ _ i1,Instr.indexAt,asIntOf,run_underlying hu,hlt,zaz hke,zai,Nat.add_assoc]
   ·cases hq
 case array n e =>
  obtain ⟨hu,hke⟩:=zcp hk
  unfold idxA at hq
  split at hq
  ·cases hq
  ·rename_i j hj
   obtain ⟨vi,i1,i2⟩:=hE.ev ix (fun e => by rw [e] at hj; cases hj)
   obtain ⟨kk,rfl⟩:=zcm hj i2
   split at hq
   ·rename_i hlt
    have hlt:=zal.1 hlt
    obtain ⟨vx,x1,x2⟩:=hE.ev x (fun e => by rw [e] at hq; exact zfp hq)
    obtain ⟨b,o,rfl,h3⟩:=addP_ok hq x2
    refine ⟨_,h3,Does.pureOp rfl fun dst ty pos after g ρ w hρ => ?_⟩
    simp [execOp,hρ _ _ x1,hρ _ _ i1,Instr.indexAt,Instr.sureAddr,asIntOf,run_underlying hu,hlt,zaz hke,zai]
   ·cases hq
 all_goals cases hq
theorem index_ok (hc:CxOk X.P X.w0 X.base cx) (hE:ER B f E) {t:Nat}{x ix:Operand}(hq:(indexE cx t).go (evO x f) (evO ix f) = .ok lv):QuOk X E H B (.index t x ix) lv:=by
 unfold indexE at hq
 rw [hc.ty] at hq
 cases hk:(mkTI X.P t).kind <;> simp only [hk,W.go_mk] at hq
 case str =>
  have hu:=k_str hk
  unfold idxStr at hq
  split at hq
  ·cases hq
  ·rename_i j hj
   obtain ⟨vi,i1,i2⟩:=hE.ev ix (fun e => by rw [e] at hj; cases hj)
   obtain ⟨kk,rfl⟩:=zcm hj i2
   split at hq
   ·rename_i n y hx
    split at hq
    ·rename_i hlt
     have hlt:=zal.1 hlt
     obtain ⟨vx,x1,x2⟩:=hE.ev x (by rw [hx]; simp)
     rw [hx] at x2; simp only [VR] at x2
     obtain ⟨l,rfl,rfl,rfl⟩:=x2
     rw [frN_eq] at hq
     cases hq
     exact ⟨_,by rw [zcI l j hlt]; simp only [VR]; rfl,Do.indexS j rfl hlt hu x1 i1⟩
    ·cases hq
   ·cases hq
 case array n e =>
  obtain ⟨hu,hke⟩:=zcp hk
  unfold idxV at hq
  split at hq
  ·cases hq
  ·rename_i j hj
   obtain ⟨vi,i1,i2⟩:=hE.ev ix (fun e => by rw [e] at hj; cases hj)
   obtain ⟨kk,rfl⟩:=zcm hj i2
   split at hq
   ·rename_i cs hx
    split at hq
    ·rename_i hlt
     have hlt:=zal.1 hlt
     have hp:=zeq hq
     obtain ⟨vx,x1,x2⟩:=hE.ev x (by rw [hx]; simp)
     rw [hx] at x2; simp only [VR] at x2
     obtain ⟨vs,rfl,v1,v2⟩:=x2
     rw [notOk hke,← zdF hke] at hp
     obtain ⟨u,u1,u2⟩:=zcz hke v1 v2 hp
     refine ⟨u,u1,Does.pureOp rfl fun dst ty pos after g ρ w hρ => ?_⟩
     have u2:∀ w,(part e vs (j * szOf X.P e)).run X.P w = .ok u w:=u2
     rw [zdF hke] at u2
     simp [execOp,hρ _ _ x1,hρ _ _ i1,Instr.index,asIntOf,run_underlying hu,hlt,zaz hke,u2]
    ·cases hq
   ·cases hq
 all_goals cases hq
end
variable {G:List (Nat×Obj)}
theorem zfH {B:BB}:∀ {l:List LV}{vs:List Value}{y:Nat},numL l=some y→VRL B l vs→∃ m:List UInt8,vs=m.map byt∧bytesNum m=y
 | [],vs,y,h,hv => by
  simp only [numL] at h; cases h
  simp only [VRL] at hv; subst hv
  exact ⟨[],rfl,rfl⟩
 | v::l,vs,y,h,hv => by
  simp only [numL] at h
  split at h
  ·rename_i b n hb hn
   cases h
   simp only [VRL] at hv
   obtain ⟨u,vs,rfl,h1,h2⟩:=hv
   obtain ⟨m,rfl,rfl⟩:=zfH hn h2
   unfold byteV at hb
   split at hb
   ·rename_i b'
    split at hb
    ·rename_i hlt
     cases hb
     have hlt:=zal.1 hlt
     simp only [VR] at h1
     subst h1
     refine ⟨UInt8.ofNat b::m,?_,?_⟩
     ·simp only [List.map_cons,byt]
      congr 2
      simp
      omega
     ·simp only [bytesNum]
      have:(UInt8.ofNat b).toNat=b:=by simp; omega
      rw [this]; rfl
    ·cases hb
   ·cases hb
  ·cases h
theorem OR.readN {B:BB}{k:Bk}{obj:Obj}{lo:LO}(hor:OR B k obj lo) {o n y:Nat}(h:readN lo o n=some y) :
  ∃ cs e fr l,obj = .cells cs e fr∧l.length=n∧bytesNum l=y∧(cs.toList.drop (k.off + o)).take n=l.map byt:=by
 unfold Go.Proofs.YtdncjmehhahidaaGreatDoor.readN at h
 split at h
 ·rename_i len x
  obtain ⟨cs,e,fr,l',rfl,h3,h4,h5,h6,h7,h8,h9,h10⟩:=hor
  split at h
  ·rename_i hle
   have hle:o + n≤len:=zaf.1 hle
   cases h
   refine ⟨cs,e,fr,(l'.drop o).take n,rfl,by simp; omega,by rw [← h9,zfu],?_⟩
   rw [List.map_take,List.map_drop,← h10,zbp cs.toList hle rfl]
  ·cases h
 ·split at h
  ·rename_i l hl
   obtain ⟨cs,e,fr,rfl,a1,a2,a3⟩:=hor.read hl
   obtain ⟨m,m1,m2⟩:=zfH h a1
   refine ⟨cs,e,fr,m,rfl,?_,m2,m1⟩
   have:=congrArg List.length m1
   simp at this
   omega
  ·cases h
theorem live_readN {lo:LO}{o n y:Nat}(h:readN lo o n=some y):liveO lo=true:=by
 cases lo <;> first | rfl | (cases h; done)
section
variable {w0:World}{base:Nat}{H:List Seg}{B:BB}{h:LH}{P:Program}
theorem HR.readN (hr:HR G B h H) {i o n y:Nat}(hq:Go.Proofs.YtdncjmehhahidaaGreatDoor.readN (atB h i) o n=some y) {k:Bk}(hk:B[i]? = some k) :
  ∃ l:List UInt8,l.length=n∧bytesNum l=y∧∀ j u,l[j]? = some u→Cell w0 base H (Addr.add ⟨k.b,k.off + o,none⟩ j) (byt u):=by
 obtain ⟨k',j,obj,h1,h2,h3⟩:=hr.at_ i (live_readN hq)
 rw [hk] at h1; cases h1
 obtain ⟨cs,e,fr,l,rfl,a1,a2,a3⟩:=h3.readN hq
 refine ⟨l,a1,a2,fun m u hu => ?_⟩
 rw [zai]
 refine Cell.own j 0 h2 rfl ?_
 have hm:(l.map byt)[m]? = some (byt u):=by simp [hu]
 rw [← a3,List.getElem?_take] at hm
 split at hm
 ·rw [List.getElem?_drop,Array.getElem?_toList] at hm; exact hm
 ·cases hm
theorem zcD (hr:HR G B h H) {n m y:Nat}{x:LV}{vx:Value}(hq:firstN h n x=some y) (hl:lenE x=some m) (hn:n≤m) (hx:VR B x vx) :
  ∃ l:List UInt8,l.length=n∧bytesNum l=y∧(∀ w,Sep w0 base w H→(Builtin.firstCells 1 n vx).run P w = .ok (l.map byt).toArray w) ∧
   ((∃ full,vx=str full∧l=full.take n∧full.length=m)∨(∃ A c,vx = .slice A m c∧(0 < n→∃ a,A=some a∧∀ j u,l[j]? = some u→Cell w0 base H (a.add j) (byt u)))):=by
 have zero:∀ {A:Option Addr}{c:Nat}(w:World),(Builtin.firstCells 1 0 (.slice A m c)).run P w = .ok #[] w:=by
  intro A c w
  cases A <;> simp [Builtin.firstCells,loadCells,loadCellsFrom]
 have some_:∀ {a:Addr}{c:Nat}{l:List UInt8},l.length=n→(∀ j u,l[j]? = some u→Cell w0 base H (a.add j) (byt u))→∀ w,Sep w0 base w H→(Builtin.firstCells 1 n (.slice (some a) m c)).run P w = .ok (l.map byt).toArray w:=by
  intro a c l hl hc w S
  have:=run_loadCells_list (P:=P) w a (l.map byt) (fun j v hv => by
   rw [List.getElem?_map] at hv
   cases hu:l[j]? with
   | none => rw [hu] at hv; cases hv
   | some u => rw [hu] at hv; cases hv; exact hc j u hu w S)
  rw [List.length_map,hl] at this
  simp only [Builtin.firstCells,Nat.mul_one,this]
 cases x <;> simp only [lenE] at hl <;> try (cases hl; done)
 case str len num =>
  cases hl
  simp only [VR] at hx
  obtain ⟨full,rfl,rfl,rfl⟩:=hx
  have hy:y=bytesNum (full.take n):=by
   cases n with
   | zero => simp only [firstN] at hq; cases hq; simp [bytesNum]
   | succ n => simp only [firstN] at hq; cases hq; rw [zfu]; rfl
  refine ⟨full.take n,by simp; omega,hy.symm,fun w S => ?_,.inl ⟨full,rfl,rfl,rfl⟩⟩
  simp only [str,Builtin.firstCells,Sem.run_pure]
  congr 1
  apply Array.ext'
  simp [List.extract_eq_take_drop]
  rfl
 case nils =>
  cases hl
  simp only [VR] at hx
  subst hx
  have:n=0:=by omega
  subst this
  simp only [firstN] at hq; cases hq
  exact ⟨[],rfl,rfl,fun w S => zero w,.inr ⟨_,_,rfl,fun h => by omega⟩⟩
 case sle =>
  cases hl
  simp only [VR] at hx
  obtain ⟨A,c,rfl⟩:=hx
  have:n=0:=by omega
  subst this
  simp only [firstN] at hq; cases hq
  exact ⟨[],rfl,rfl,fun w S => zero w,.inr ⟨_,_,rfl,fun h => by omega⟩⟩
 case sl i o len c =>
  cases hl
  simp only [VR] at hx
  obtain ⟨k,hk,rfl⟩:=hx
  cases n with
  | zero => simp only [firstN] at hq; cases hq; exact ⟨[],rfl,rfl,fun w S => zero w,.inr ⟨_,_,rfl,fun h => by omega⟩⟩
  | succ n =>
   simp only [firstN] at hq
   obtain ⟨l,l1,l2,l3⟩:=hr.readN (w0:=w0) (base:=base) hq hk
   exact ⟨l,l1,l2,some_ l1 l3,.inr ⟨_,_,rfl,fun _ => ⟨_,rfl,l3⟩⟩⟩
 case slo i o len ad =>
  cases hl
  simp only [VR] at hx
  obtain ⟨k,c,A,hk,rfl,q1,q2,q3⟩:=hx
  cases n with
  | zero => simp only [firstN] at hq; cases hq; exact ⟨[],rfl,rfl,fun w S => zero w,.inr ⟨_,_,rfl,fun h => by omega⟩⟩
  | succ n =>
   simp only [firstN] at hq
   have:=q3.1 (by omega)
   subst this
   obtain ⟨l,l1,l2,l3⟩:=hr.readN (w0:=w0) (base:=base) hq hk
   exact ⟨l,l1,l2,some_ l1 l3,.inr ⟨_,_,rfl,fun _ => ⟨_,rfl,l3⟩⟩⟩
theorem zcE (hr:HR G B h H) {s n m:Nat}{x:LV}{vx:Value}{l:List LV}(hq:firstE h s n x=some l) (hl:lenE x=some m) (hn:n≤m) (hx:VR B x vx) :
  ∃ vs:List Value,VRL B l vs∧(∀ c ∈ vs,c.oneCell' = true)∧∀ w,Sep w0 base w H→(Builtin.firstCells s n vx).run P w = .ok vs.toArray w:=by
 have zero:∀ {A:Option Addr}{c:Nat}(w:World),(Builtin.firstCells s 0 (.slice A m c)).run P w = .ok #[] w:=by
  intro A c w
  cases A <;> simp [Builtin.firstCells,loadCells,loadCellsFrom]
 have nil:VRL B [] []:=VRL.nil_
 cases n with
 | zero =>
  simp only [firstE] at hq
  cases hq
  refine ⟨[],nil,by simp,fun w S => ?_⟩
  cases x <;> simp only [lenE] at hl <;> try (cases hl; done)
  case str => simp only [VR] at hx; obtain ⟨full,rfl,_⟩:=hx; simp [str,Builtin.firstCells]
  case nils => cases hl; simp only [VR] at hx; subst hx; exact zero w
  case sle => cases hl; simp only [VR] at hx; obtain ⟨A,c,rfl⟩:=hx; exact zero w
  case sl => cases hl; simp only [VR] at hx; obtain ⟨k,hk,rfl⟩:=hx; exact zero w
  case slo => cases hl; simp only [VR] at hx; obtain ⟨k,c,A,hk,rfl,_⟩:=hx; exact zero w
 | succ n =>
  simp only [firstE] at hq
  split at hq
  ·rename_i len y
   cases hq
   simp only [lenE] at hl; cases hl
   simp only [VR] at hx
   obtain ⟨full,rfl,rfl,rfl⟩:=hx
   have e:bytesL (n + 1) (bytesNum full)=bytesL ((full.take (n + 1)).length) (bytesNum (full.take (n + 1))):=by
    rw [zbD]
    have h2:(full.take (n + 1)).length=n + 1:=by simp; omega
    rw [h2]
    have:∀ (n x:Nat),bytesL n x=bytesL n (x % 256 ^ n):=by
     intro n
     induction n with
     | zero => intro x; rfl
     | succ n ih =>
      intro x
      simp only [bytesL]
      have a1:Nat.mod (x % 256 ^ (n + 1)) 256=Nat.mod x 256:=by
       show x % 256 ^ (n + 1) % 256=x % 256
       rw [Nat.pow_succ,Nat.mod_mul_left_mod]
      have a2:Nat.div (x % 256 ^ (n + 1)) 256=(Nat.div x 256) % 256 ^ n:=by
       show x % 256 ^ (n + 1) / 256=x / 256 % 256 ^ n
       rw [Nat.pow_succ,Nat.mul_comm,Nat.mod_mul_right_div_self]
      rw [a1,a2,← ih]
    exact this _ _
   rw [e]
   refine ⟨(full.take (n + 1)).map byt,VRL.bytes _,fun c hc => ?_,fun w S => ?_⟩
   ·obtain ⟨u,_,rfl⟩:=List.mem_map.1 hc; rfl
   ·simp only [str,Builtin.firstCells,Sem.run_pure]
    congr 1
    apply Array.ext'
    simp [List.extract_eq_take_drop]
    rfl
  ·rename_i i o len c
   simp only [VR] at hx
   obtain ⟨k,hk,rfl⟩:=hx
   obtain ⟨vs,v1,v2,v3,v4⟩:=hr.read (w0:=w0) (base:=base) hq hk
   refine ⟨vs,v1,v3,fun w S => ?_⟩
   have:=run_loadCells_list (P:=P) w _ vs (fun j v hv => v4 j v hv w S)
   rw [v2] at this
   exact this
  ·rename_i i o len ad
   simp only [lenE] at hl; cases hl
   simp only [VR] at hx
   obtain ⟨k,c,A,hk,rfl,q1,q2,q3⟩:=hx
   have:=q3.1 (by omega)
   subst this
   obtain ⟨vs,v1,v2,v3,v4⟩:=hr.read (w0:=w0) (base:=base) hq hk
   refine ⟨vs,v1,v3,fun w S => ?_⟩
   have:=run_loadCells_list (P:=P) w _ vs (fun j v hv => v4 j v hv w S)
   rw [v2] at this
   exact this
  ·cases hq
end
end Go.Proofs.YtdncjmehhahidaaGreatDoor
