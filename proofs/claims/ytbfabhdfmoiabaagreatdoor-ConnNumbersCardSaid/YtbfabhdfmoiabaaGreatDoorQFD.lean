/- The parts of the proof that this law needs, in the order of their texts: the logic of walks, the plain laws, the walks. -/
import Derived.Test.YtbfabhdfmoiabaaGreatDoorQFC
namespace Go.Proofs.YtbfabhdfmoiabaaGreatDoor
set_option maxHeartbeats 400000
set_option linter.unusedVariables false
set_option linter.unusedSimpArgs false
set_option maxRecDepth 100000
def zgN (e2 e1:Int):Int:=if e2=0∧e1=0 then 0 else 4
def zgO (e2 e1:Int) (en:Bool):Bool:=decide (¬ (e2=0∧e1=0)) || en
def StrV.push (x:StrV) (l:List UInt8) (now:Int):List (List UInt8)×Int×Bool×StrV :=
 ((frP x.br 65535 x.k (x.ch.push l).1).out,zgN (frP x.br 65535 x.k (x.ch.push l).1).e (x.ch.push l).2.1,
  zgO (frP x.br 65535 x.k (x.ch.push l).1).e (x.ch.push l).2.1 (x.ch.push l).2.2.ended,
  { x with ch:=(x.ch.push l).2.2,wh:=max x.wh now,k:=(frP x.br 65535 x.k (x.ch.push l).1).rest,br:=frB x.br 65535 x.k (x.ch.push l).1 })
theorem frB_ok {br:Bool}{e:Int}{k l:List UInt8}(h:br=false→e=0):frB br 65535 k l=false→(if br=true then e else (frF 65535 (k++l)).e)=0:=by
 intro h1
 cases br with
 | true => rw [frB,if_pos rfl] at h1; cases h1
 | false =>
  rw [if_neg (by simp)]
  rw [frB,if_neg (by simp)] at h1
  exact Decidable.byContradiction fun h2 => by rw [decide_eq_true h2] at h1; cases h1
set_option maxHeartbeats 1000000 in
theorem push_str {w0:World}{base:Nat}{H:List Seg}{c mb:Nat}{most idle buffer last:Int}{kvs:List (Int×Lk×Nat)}{mn:Nat}{x:Str}{i now:Int}{A:Option Addr}{C:Nat}{l:List UInt8}(hm:¬ most=0) (hat:atG i kvs=some (.str x)) (hk:x.ok) (h:Rd tyB w0 base H A C l) (hT:inT now) (hl7:l.length≤70000) (hcl:x.closing=false) (hsz:x.ch.y.l.length + x.y.l.length + l.length≤200000000) :
  SCalls Tryz.prog 14 [B c,V i,.slice A l.length C,V now] w0 base (O0 c most idle buffer last mb::[(mb,mapG kyI Lk.v kvs mn)]::O4 x.b x.ch.v x.sd x.client x.wh x.buffer x.wait.A x.wait.l.length x.wait.C false false x.r::O1 x.r 65535 x.br x.y.A x.y.l.length x.y.C (x.off:Int) x.lr x.e::x.ch.s::x.wait.s::x.y.s::H) (fun v H' => ∃ (o:Sl tyGot 44) (ys:List (Sl tyB 5)) (x' : Str) (cl:Bool),o.l=ys.map (fun q => gotV q.v)∧ys.map (·.l)=(x.p.push l now).1∧x'.p=(x.p.push l now).2.2.2∧cl=(x.p.push l now).2.2.1∧x'.ok∧x'.b=x.b∧x'.ch.y.l.length + x'.y.l.length≤x.ch.y.l.length + x.y.l.length + l.length∧v = .tuple #[.slice o.A o.l.length o.C,int (x.p.push l now).2.1]∧H' = o.s::zas ys::O0 c most idle buffer last mb::[(mb,mapG kyI Lk.v (if cl=true then delG i kvs else kvs) mn)]::O4 x'.b x'.ch.v x'.sd x'.client x'.wh x'.buffer x'.wait.A x'.wait.l.length x'.wait.C x'.closing cl x'.r::O1 x'.r 65535 x'.br x'.y.A x'.y.l.length x'.y.C (x'.off:Int) x'.lr x'.e::x'.ch.s::x'.wait.s::x'.y.s::H):=by
 have hko:=hk.off
 have hke:=hk.e
 have hle0:=h.le
 have hcap0:=h.cap
 have hpl:=zbM x.ch.p l
 have hpk:x.ch.p.k=x.ch.y.l:=rfl
 rw [hpk] at hpl
 refine SCalls.of_walk (n:=91) Tryz.func14 Z Z Z fun cs => ?_
 refine zc<|za<|AtL.assign zg0 Z Z<|AtL.assign zg0 Z Z<|AtL.done<|zc ?_
 refine za<|zb zg0 Z Z<|zb zg0 Z Z<|zk zaM zg0 Z Z (zbi (lk:=Lk.str x) i hm hat) ?_
 rintro _ _ ⟨rfl,rfl⟩
 refine zb zg0 Z Z<|AtL.extract zg0 Z Z Z<|AtL.extract zg0 Z Z Z<|AtL.assign zg0 Z Z<|AtL.assign zg0 Z Z<|AtL.done ?_
 refine zc<|zc<|za<|zb zg0 Z Z<|zT zg0 Z Z Z<|AtL.done ?_
 refine zB Z<|zj<|zc<|za<|zb zg0 Z Z<|zZ zaF zg0 Z Z Z (fun w => by kernel_rfl) (zdi (b:=x.b)) ?_
 rintro _ _ ⟨rfl,rfl⟩
 refine AtL.assign zg0 Z Z<|AtL.done<|zc<|At.block<|zc<|za ?_
 refine zb zg0 Z Z<|zk za7 zg0 Z Z (zbL hT) ?_
 rintro _ _ ⟨rfl,rfl⟩
 refine zag zg0 Z Z<|zb zg0 Z Z<|zb (.inr ⟨_,_,_,Z,Z,Z,Z⟩) Z Z<|zC Tryz.underlying34 (.inr ⟨_,_,_,Z,Z,Z,Z⟩) Z Z<|zai (.inr ⟨_,_,_,Z,Z,Z,Z⟩) Z Z Z<|zm zg0 Z Z Z ?_
 refine AtL.assign zg0 Z Z<|AtL.done ?_
 refine zU false Z (decide_eq_false (by omega))<|zc<|za<|zb zg0 Z Z<|zf zg0 Z Z<|zd zaS zg0 Z Z Z ?_
 refine zh zR zg0 Z Z (Cell.own 2 0 Z Z Z)<|zb zg0 Z Z<|zb (.inr ⟨_,_,_,Z,Z,Z,Z⟩) Z Z<|zZ zdF (.inr ⟨_,_,_,Z,Z,Z,Z⟩) Z Z Z (fun w => by kernel_rfl) (zfh (b:=x.b)) ?_
 rintro _ _ ⟨rfl,rfl⟩
 refine zm zg0 Z Z Z<|AtL.assign zg0 Z Z<|AtL.done<|zB Z<|zj<|zp ?_
 refine zc<|za<|zb zg0 Z Z<|zb zg0 Z Z<|zb4 Z zg0 Z Z Z<|AtL.done ?_
 refine zc<|za<|zb zg0 Z Z<|zb zg0 Z Z<|zf zg0 Z Z<|zd zb0 zg0 Z Z Z ?_
 refine zh zo zg0 Z Z (Cell.own 2 0 Z Z Z)<|zb zg0 Z Z ?_
 refine zcZ (z:=max x.wh now) zg0 Z Z Z (by omega)<|zf zg0 Z Z<|zd zb0 zg0 Z Z Z<|zr (H':=O0 c most idle buffer last mb::[(mb,mapG kyI Lk.v kvs mn)]::O4 x.b x.ch.v x.sd x.client (max x.wh now) x.buffer x.wait.A x.wait.l.length x.wait.C false false x.r::O1 x.r 65535 x.br x.y.A x.y.l.length x.y.C (x.off:Int) x.lr x.e::x.ch.s::x.wait.s::x.y.s::H) 2 0 zaB zg0 Z Z Z Z Z Z Z Z Z<|AtL.done<|zc ?_
 refine za<|zb zg0 Z Z<|zf zg0 Z Z<|zd zbI zg0 Z Z Z<|zh zcN zg0 Z Z (Cell.own 2 0 Z Z Z)<|zb zg0 Z Z ?_
 refine AtL.pick (H':=x.ch.s::O0 c most idle buffer last mb::[(mb,mapG kyI Lk.v kvs mn)]::O4 x.b x.ch.v x.sd x.client (max x.wh now) x.buffer x.wait.A x.wait.l.length x.wait.C false false x.r::O1 x.r 65535 x.br x.y.A x.y.l.length x.y.C (x.off:Int) x.lr x.e::x.wait.s::x.y.s::H) [4,0,1,2,3,5,6] 7 Z Z ?_
 refine zZ (zic x.ch) zg0 Z Z Z (zia x.ch) (chn_Push x.ch (l:=l) (Rd.skip 6 h) (by omega)) ?_
 rintro _ _ ⟨t1,ch2,ht3,hp4,hc5,rfl,rfl⟩
 have t1n:t1.l.length≤x.ch.y.l.length + l.length:=by have h9:=zbM x.ch.p l; rw [ht3]; have h8:x.ch.p.k=x.ch.y.l:=rfl; rw [h8] at h9; omega
 try rw [zh8 hp4 hc5]
 refine zb zg0 Z Z<|AtL.extract zg0 Z Z Z<|AtL.extract zg0 Z Z Z<|AtL.assign zg0 Z Z<|AtL.assign zg0 Z Z<|AtL.done ?_
 refine zc<|za<|zb zg0 Z Z<|zb zg0 Z Z<|AtL.pick (H':=O4 x.b ch2.v x.sd x.client (max x.wh now) x.buffer x.wait.A x.wait.l.length x.wait.C false false x.r::O1 x.r 65535 x.br x.y.A x.y.l.length x.y.C (x.off:Int) x.lr x.e::x.y.s::t1.s::ch2.s::O0 c most idle buffer last mb::[(mb,mapG kyI Lk.v kvs mn)]::x.wait.s::H) [4,5,7,0,1,2,3,6] 8 Z Z ?_
 refine zZ tf_body235 zg0 Z Z Z (fun w => by kernel_rfl) (sreads_ok (x:=x) (l:=t1.l) (t1.own.rd (i:=0) Z) (by omega) hk) ?_
 rintro _ _ ⟨o6,ys7,z8,of9,lr10,ho11,hys12,hof13,hzl14,hzr15,rfl,rfl⟩
 refine zb zg0 Z Z<|AtL.extract zg0 Z Z Z<|AtL.extract zg0 Z Z Z<|AtL.assign zg0 Z Z<|AtL.assign zg0 Z Z<|AtL.done ?_
 refine zc<|zc<|za<|zb zg0 Z Z<|zT zg0 Z Z Z<|zb zg0 Z Z ?_
 refine zy 3 (E':=[(76,.bool (decide ((¬ (((x.ch.p.push l).2.1:Int)=0))∧(((if (frP x.br 65535 (x.y.l.drop x.off) t1.l).e=0 then 0 else 4):Int)=0)))),(12,B x.b),(14,.slice o6.A o6.l.length o6.C),(15,V (if (frP x.br 65535 (x.y.l.drop x.off) t1.l).e=0 then 0 else 4))]) (fun J => ?_) ?_
 ·refine zY (t:=73) Z ?_ ?_
  ·intro hs73
   have hs73:¬ (((x.ch.p.push l).2.1:Int)=0):=of_decide_eq_false (zO hs73)
   refine zb (.inr ⟨_,_,_,Z,Z,Z,Z⟩) Z Z<|zW (.inr ⟨_,_,_,Z,Z,Z,Z⟩) Z Z Z<|zn zg0 Z Z Z ?_
   exact J _ (by exact ⟨(zw (by clear J; first | (simp [hs73]; done) | (simp_all; done) | grind)),Z,Z,Z,trivial⟩)
  ·intro hs73
   have hs73:((x.ch.p.push l).2.1:Int)=0:=of_decide_eq_true (zJ hs73)
   refine ze Z Z Z Z Z Z<|ze Z Z Z Z Z Z<|zm zg0 Z Z Z ?_
   exact J _ (by exact ⟨(zw (by clear J; first | (simp [hs73]; done) | (simp_all; done) | grind)),Z,Z,Z,trivial⟩)
 ·refine AtL.done<|zq Z ?_ ?_
  ·intro hc4
   refine za<|AtL.assign zg0 Z Z<|AtL.done<|zc<|zc<|za ?_
   refine zb zg0 Z Z<|zT zg0 Z Z Z<|zb zg0 Z Z<|ze Z Z Z Z Z Z<|ze Z Z Z Z Z Z<|ze Z Z Z Z Z Z ?_
   refine ze Z Z Z Z Z Z<|ze Z Z Z Z Z Z<|zn zg0 Z Z Z<|AtL.done<|zX Z<|za ?_
   refine zb zg0 Z Z<|zf zg0 Z Z<|zd zaw zg0 Z Z Z<|zr (H':=o6.s::zas ys7::z8.s::O1 x.r 65535 (frB x.br 65535 (x.y.l.drop x.off) t1.l) z8.A z8.l.length z8.C (of9:Int) lr10 (if x.br=true then x.e else (frF 65535 (x.y.l.drop x.off++t1.l)).e)::O4 x.b ch2.v x.sd x.client (max x.wh now) x.buffer x.wait.A x.wait.l.length x.wait.C false true x.r::t1.s::ch2.s::O0 c most idle buffer last mb::[(mb,mapG kyI Lk.v kvs mn)]::x.wait.s::H) 4 0 za0 zg0 Z Z Z Z Z Z Z Z Z<|AtL.done<|zc ?_
   refine za<|zb zg0 Z Z<|zb zg0 Z Z<|AtL.assign zg0 Z Z<|AtL.assign zg0 Z Z<|AtL.done ?_
   refine zaJ Z<|Un.pick (H':=O0 c most idle buffer last mb::[(mb,mapG kyI Lk.v kvs mn)]::O4 x.b ch2.v x.sd x.client (max x.wh now) x.buffer x.wait.A x.wait.l.length x.wait.C false true x.r::o6.s::zas ys7::z8.s::O1 x.r 65535 (frB x.br 65535 (x.y.l.drop x.off) t1.l) z8.A z8.l.length z8.C (of9:Int) lr10 (if x.br=true then x.e else (frF 65535 (x.y.l.drop x.off++t1.l)).e)::t1.s::ch2.s::x.wait.s::H) [7,8,4,0,1,2,3,5,6,9] 10 Z Z<|zaH zav Z Z (zbJ (cl:=true) (kvs:=kvs) i hat) ?_
   rintro _ _ ⟨rfl,rfl⟩
   have hR9:frP x.br 65535 x.p.k (x.p.ch.push l).1=frP x.br 65535 (x.y.l.drop x.off) t1.l:=by rw [ht3]; rfl
   exact zap (vs:=[.slice o6.A o6.l.length o6.C,V 4]) [3,4,0,1,2,6,8,9,5] 10 Z Z Tryz.func14 Z ⟨Z,Z,trivial⟩ (⟨o6,ys7,(⟨x.b,ch2,x.sd,x.client,max x.wh now,x.buffer,x.wait,false,x.r,z8,of9,lr10,(if x.br=true then x.e else (frF 65535 (x.y.l.drop x.off++t1.l)).e),(frB x.br 65535 (x.y.l.drop x.off) t1.l)⟩:Str),true,ho11,by rw [hys12,ht3]; rfl,by simp only [Str.p,StrV.push,hcl,hp4,hzr15,ht3],(by show _=zgO (frP x.br 65535 x.p.k (x.p.ch.push l).1).e (x.ch.p.push l).2.1 (x.ch.p.push l).2.2.ended; rw [hR9,← hp4]; unfold zgO; grind),⟨hof13,by rw [← ht3] at *; exact frB_ok hk.e⟩,Z,by have h9:=zbM x.ch.p l; rw [← hp4,← ht3] at h9; have h8:x.ch.p.k=x.ch.y.l:=Z; have h7:ch2.p.k=ch2.y.l:=Z; rw [h8,h7] at h9; dsimp only; omega,(by rw [show (x.p.push l now).2.1=4 from by show zgN (frP x.br 65535 x.p.k (x.p.ch.push l).1).e (x.ch.p.push l).2.1=_; rw [hR9]; unfold zgN; grind]; rfl),Z⟩)
  ·intro hc4
   refine zj<|zc<|zc<|za<|zb zg0 Z Z<|zT zg0 Z Z Z ?_
   refine zb zg0 Z Z<|zy 6 (E':=[(85,.bool (decide ((¬ (((if (frP x.br 65535 (x.y.l.drop x.off) t1.l).e=0 then 0 else 4):Int)=0))∨(ch2.p.ended=true)))),(12,B x.b),(14,.slice o6.A o6.l.length o6.C),(15,V (if (frP x.br 65535 (x.y.l.drop x.off) t1.l).e=0 then 0 else 4))]) (fun J => ?_) ?_
   ·refine zY (t:=79) Z ?_ ?_
    ·intro hs79
     have hs79:¬ (((if (frP x.br 65535 (x.y.l.drop x.off) t1.l).e=0 then 0 else 4):Int)=0):=of_decide_eq_false (zO hs79)
     refine ze Z Z Z Z Z Z<|ze Z Z Z Z Z Z<|ze Z Z Z Z Z Z<|ze Z Z Z Z Z Z<|ze Z Z Z Z Z Z<|zn zg0 Z Z Z ?_
     exact J _ (by exact ⟨(zw (by clear J; first | (simp [hs79]; done) | (simp_all; done) | grind)),Z,Z,Z,trivial⟩)
    ·intro hs79
     have hs79:((if (frP x.br 65535 (x.y.l.drop x.off) t1.l).e=0 then 0 else 4):Int)=0:=of_decide_eq_true (zJ hs79)
     refine zb (.inr ⟨_,_,_,Z,Z,Z,Z⟩) Z Z<|zf (.inr ⟨_,_,_,Z,Z,Z,Z⟩) Z Z<|zd zbI (.inr ⟨_,_,_,Z,Z,Z,Z⟩) Z Z Z<|zh zcN (.inr ⟨_,_,_,Z,Z,Z,Z⟩) Z Z (Cell.own 4 0 Z Z Z)<|AtL.pick (H':=ch2.s::o6.s::zas ys7::z8.s::O1 x.r 65535 (frB x.br 65535 (x.y.l.drop x.off) t1.l) z8.A z8.l.length z8.C (of9:Int) lr10 (if x.br=true then x.e else (frF 65535 (x.y.l.drop x.off++t1.l)).e)::O4 x.b ch2.v x.sd x.client (max x.wh now) x.buffer x.wait.A x.wait.l.length x.wait.C false false x.r::t1.s::O0 c most idle buffer last mb::[(mb,mapG kyI Lk.v kvs mn)]::x.wait.s::H) [6,0,1,2,3,4,5,7,8,9] 10 Z Z<|zZ (zg8 ch2) (.inr ⟨_,_,_,Z,Z,Z,Z⟩) Z Z Z (zg5 ch2) (zj5 ch2) ?_
     rintro _ _ ⟨rfl,rfl⟩
     refine zm zg0 Z Z Z<|AtL.pick (H':=o6.s::zas ys7::z8.s::O1 x.r 65535 (frB x.br 65535 (x.y.l.drop x.off) t1.l) z8.A z8.l.length z8.C (of9:Int) lr10 (if x.br=true then x.e else (frF 65535 (x.y.l.drop x.off++t1.l)).e)::O4 x.b ch2.v x.sd x.client (max x.wh now) x.buffer x.wait.A x.wait.l.length x.wait.C false false x.r::t1.s::ch2.s::O0 c most idle buffer last mb::[(mb,mapG kyI Lk.v kvs mn)]::x.wait.s::H) [1,2,3,4,5,6,0,7,8,9] 10 Z Z ?_
     exact J _ (by exact ⟨(zw (by clear J; first | (simp [hs79]; done) | (simp_all; done) | grind)),Z,Z,Z,trivial⟩)
   ·refine AtL.done<|zq Z ?_ ?_
    ·intro hc5
     refine za<|zb zg0 Z Z<|zf zg0 Z Z<|zd zaw zg0 Z Z Z<|zr (H':=o6.s::zas ys7::z8.s::O1 x.r 65535 (frB x.br 65535 (x.y.l.drop x.off) t1.l) z8.A z8.l.length z8.C (of9:Int) lr10 (if x.br=true then x.e else (frF 65535 (x.y.l.drop x.off++t1.l)).e)::O4 x.b ch2.v x.sd x.client (max x.wh now) x.buffer x.wait.A x.wait.l.length x.wait.C false true x.r::t1.s::ch2.s::O0 c most idle buffer last mb::[(mb,mapG kyI Lk.v kvs mn)]::x.wait.s::H) 4 0 za0 zg0 Z Z Z Z Z Z Z Z Z<|AtL.done ?_
     refine zc<|za<|zb zg0 Z Z<|zb zg0 Z Z<|AtL.assign zg0 Z Z<|AtL.assign zg0 Z Z ?_
     refine AtL.done<|zaJ Z<|Un.pick (H':=O0 c most idle buffer last mb::[(mb,mapG kyI Lk.v kvs mn)]::O4 x.b ch2.v x.sd x.client (max x.wh now) x.buffer x.wait.A x.wait.l.length x.wait.C false true x.r::o6.s::zas ys7::z8.s::O1 x.r 65535 (frB x.br 65535 (x.y.l.drop x.off) t1.l) z8.A z8.l.length z8.C (of9:Int) lr10 (if x.br=true then x.e else (frF 65535 (x.y.l.drop x.off++t1.l)).e)::t1.s::ch2.s::x.wait.s::H) [7,8,4,0,1,2,3,5,6,9] 10 Z Z<|zaH zav Z Z (zbJ (cl:=true) (kvs:=kvs) i hat) ?_
     rintro _ _ ⟨rfl,rfl⟩
     have hR9:frP x.br 65535 x.p.k (x.p.ch.push l).1=frP x.br 65535 (x.y.l.drop x.off) t1.l:=by rw [ht3]; rfl
     exact zap (vs:=[.slice o6.A o6.l.length o6.C,V (if (frP x.br 65535 (x.y.l.drop x.off) t1.l).e=0 then 0 else 4)]) [3,4,0,1,2,6,8,9,5] 10 Z Z Tryz.func14 Z ⟨Z,Z,trivial⟩ (⟨o6,ys7,(⟨x.b,ch2,x.sd,x.client,max x.wh now,x.buffer,x.wait,false,x.r,z8,of9,lr10,(if x.br=true then x.e else (frF 65535 (x.y.l.drop x.off++t1.l)).e),(frB x.br 65535 (x.y.l.drop x.off) t1.l)⟩:Str),true,ho11,by rw [hys12,ht3]; rfl,by simp only [Str.p,StrV.push,hcl,hp4,hzr15,ht3],(by show _=zgO (frP x.br 65535 x.p.k (x.p.ch.push l).1).e (x.ch.p.push l).2.1 (x.ch.p.push l).2.2.ended; rw [hR9,← hp4]; unfold zgO; grind),⟨hof13,by rw [← ht3] at *; exact frB_ok hk.e⟩,Z,by have h9:=zbM x.ch.p l; rw [← hp4,← ht3] at h9; have h8:x.ch.p.k=x.ch.y.l:=Z; have h7:ch2.p.k=ch2.y.l:=Z; rw [h8,h7] at h9; dsimp only; omega,(by rw [show (x.p.push l now).2.1=(if (frP x.br 65535 (x.y.l.drop x.off) t1.l).e=0 then 0 else 4) from by show zgN (frP x.br 65535 x.p.k (x.p.ch.push l).1).e (x.ch.p.push l).2.1=_; rw [hR9]; unfold zgN; grind]; rfl),Z⟩)
    ·intro hc5
     refine zj<|zc<|za<|zb zg0 Z Z<|zb zg0 Z Z<|AtL.assign zg0 Z Z ?_
     refine AtL.assign zg0 Z Z<|AtL.done<|zaJ Z<|Un.pick (H':=O0 c most idle buffer last mb::[(mb,mapG kyI Lk.v kvs mn)]::O4 x.b ch2.v x.sd x.client (max x.wh now) x.buffer x.wait.A x.wait.l.length x.wait.C false false x.r::o6.s::zas ys7::z8.s::O1 x.r 65535 (frB x.br 65535 (x.y.l.drop x.off) t1.l) z8.A z8.l.length z8.C (of9:Int) lr10 (if x.br=true then x.e else (frF 65535 (x.y.l.drop x.off++t1.l)).e)::t1.s::ch2.s::x.wait.s::H) [7,8,4,0,1,2,3,5,6,9] 10 Z Z<|zaH zav Z Z (zbJ (cl:=false) (kvs:=kvs) i hat) ?_
     rintro _ _ ⟨rfl,rfl⟩
     have hR9:frP x.br 65535 x.p.k (x.p.ch.push l).1=frP x.br 65535 (x.y.l.drop x.off) t1.l:=by rw [ht3]; rfl
     exact zap (vs:=[.slice o6.A o6.l.length o6.C,V (if (frP x.br 65535 (x.y.l.drop x.off) t1.l).e=0 then 0 else 4)]) [3,4,0,1,2,6,8,9,5] 10 Z Z Tryz.func14 Z ⟨Z,Z,trivial⟩ (⟨o6,ys7,(⟨x.b,ch2,x.sd,x.client,max x.wh now,x.buffer,x.wait,false,x.r,z8,of9,lr10,(if x.br=true then x.e else (frF 65535 (x.y.l.drop x.off++t1.l)).e),(frB x.br 65535 (x.y.l.drop x.off) t1.l)⟩:Str),false,ho11,by rw [hys12,ht3]; rfl,by simp only [Str.p,StrV.push,hcl,hp4,hzr15,ht3],(by show _=zgO (frP x.br 65535 x.p.k (x.p.ch.push l).1).e (x.ch.p.push l).2.1 (x.ch.p.push l).2.2.ended; rw [hR9,← hp4]; unfold zgO; grind),⟨hof13,by rw [← ht3] at *; exact frB_ok hk.e⟩,Z,by have h9:=zbM x.ch.p l; rw [← hp4,← ht3] at h9; have h8:x.ch.p.k=x.ch.y.l:=Z; have h7:ch2.p.k=ch2.y.l:=Z; rw [h8,h7] at h9; dsimp only; omega,(by rw [show (x.p.push l now).2.1=(if (frP x.br 65535 (x.y.l.drop x.off) t1.l).e=0 then 0 else 4) from by show zgN (frP x.br 65535 x.p.k (x.p.ch.push l).1).e (x.ch.p.push l).2.1=_; rw [hR9]; unfold zgN; grind]; rfl),Z⟩)
end Go.Proofs.YtbfabhdfmoiabaaGreatDoor
namespace Go.Proofs.YtbfabhdfmoiabaaGreatDoor
set_option linter.unusedVariables false
set_option linter.unusedSimpArgs false
set_option maxRecDepth 100000
def StrV.take (x:StrV) (m:Nat) (now:Int):List UInt8×Bool×StrV :=
 (x.wait.take m,x.closing && decide ((x.wait.drop m).length=0),{ x with wait:=x.wait.drop m,wh:=if 0 < min m x.wait.length then max x.wh now else x.wh })
def StrV.answer (x:StrV) (slot:Int) (l:List UInt8):Int×Bool×StrV :=
 if sgoE slot l=0 then (if x.buffer < ((x.wait++(x.ch.send (frmL l)).1).length:Int) then 3 else 0,decide (x.buffer < ((x.wait++(x.ch.send (frmL l)).1).length:Int)),{ x with ch:=(x.ch.send (frmL l)).2,wait:=x.wait++(x.ch.send (frmL l)).1 })
 else (sgoE slot l,false,x)
theorem zdl (l:List UInt8) (m:Nat):l.take (min m l.length)=l.take m:=by
 rcases Nat.le_total m l.length with h | h
 ·rw [Nat.min_eq_left h]
 ·rw [Nat.min_eq_right h,List.take_of_length_le h,List.take_length]
theorem zdo (l:List UInt8) (m:Nat):l.drop (min m l.length)=l.drop m:=by
 rcases Nat.le_total m l.length with h | h
 ·rw [Nat.min_eq_left h]
 ·rw [Nat.min_eq_right h,List.drop_eq_nil_of_le h,List.drop_length]
set_option maxHeartbeats 1000000 in
theorem take_str {w0:World}{base:Nat}{H:List Seg}{c mb:Nat}{most idle buffer last:Int}{kvs:List (Int×Lk×Nat)}{mn:Nat}{x:Str}{i:Int}(hm:¬ most=0) (hat:atG i kvs=some (.str x)) (hk:x.ok) {now:Int}(m:Nat) (hT:inT now) (hw:x.wait.l.length≤1073741824) :
  SCalls Tryz.prog 16 [B c,V i,V (m:Int),V now] w0 base (O0 c most idle buffer last mb::[(mb,mapG kyI Lk.v kvs mn)]::O4 x.b x.ch.v x.sd x.client x.wh x.buffer x.wait.A x.wait.l.length x.wait.C x.closing false x.r::O1 x.r 65535 x.br x.y.A x.y.l.length x.y.C (x.off:Int) x.lr x.e::x.ch.s::x.wait.s::x.y.s::H) (fun v H' => ∃ (o:Sl tyB 5) (x' : Str) (cl:Bool),o.l=(x.p.take m now).1∧x'.ok∧x'.p=(x.p.take m now).2.2∧cl=(x.p.take m now).2.1∧(x'.b=x.b∧x'.y=x.y)∧v = .tuple #[.slice o.A o.l.length o.C,int 0]∧H' = o.s::O0 c most idle buffer last mb::[(mb,mapG kyI Lk.v (if cl=true then delG i kvs else kvs) mn)]::O4 x'.b x'.ch.v x'.sd x'.client x'.wh x'.buffer x'.wait.A x'.wait.l.length x'.wait.C x'.closing cl x'.r::O1 x'.r 65535 x'.br x'.y.A x'.y.l.length x'.y.C (x'.off:Int) x'.lr x'.e::x'.ch.s::x'.wait.s::x'.y.s::H):=by
 have hcw:=z7 x.wait.own
 refine SCalls.of_walk (n:=87) Tryz.func16 Z Z Z fun cs => ?_
 refine zc<|za<|AtL.assign zg0 Z Z<|AtL.assign zg0 Z Z<|AtL.done<|zc ?_
 refine za<|zb zg0 Z Z<|zb zg0 Z Z<|zk zaM zg0 Z Z (zbi (lk:=Lk.str x) i hm hat) ?_
 rintro _ _ ⟨rfl,rfl⟩
 refine zb zg0 Z Z<|AtL.extract zg0 Z Z Z<|AtL.extract zg0 Z Z Z<|AtL.assign zg0 Z Z<|AtL.assign zg0 Z Z<|AtL.done ?_
 refine zc<|At.block<|zc<|za<|zb zg0 Z Z<|zT zg0 Z Z Z ?_
 refine AtL.assign zg0 Z Z<|AtL.done<|zB Z<|zc<|za<|zb zg0 Z Z ?_
 refine zA zg0 Z Z Z<|zb zg0 Z Z<|zy 4 (E':=[(32,.bool (decide ((m:Int) < 0))),(0,B c),(1,V i),(2,V (m:Int)),(3,V now),(10,.iface 106 (B x.b))]) (fun J => ?_) ?_
 ·refine zD (t:=28) Z ?_ ?_
  ·intro hs28
   refine ze Z Z Z Z Z Z<|ze Z Z Z Z Z Z<|ze Z Z Z Z Z Z<|zn zg0 Z Z Z ?_
   exact J _ (by exact ⟨(zw (by clear J; first | (simp [hs28]; done) | (simp_all; done) | grind)),Z,Z,Z,Z,Z,trivial⟩)
  ·intro hs28
   refine zb (.inr ⟨_,_,_,Z,Z,Z,Z⟩) Z Z<|zk za7 (.inr ⟨_,_,_,Z,Z,Z,Z⟩) Z Z (zbL hT) ?_
   rintro _ _ ⟨rfl,rfl⟩
   refine zag (.inr ⟨_,_,_,Z,Z,Z,Z⟩) Z Z<|zm zg0 Z Z Z ?_
   exact J _ (by exact ⟨(zw (by clear J; first | (simp [hs28]; done) | (simp_all; done) | grind)),Z,Z,Z,Z,Z,trivial⟩)
 ·refine AtL.assign zg0 Z Z<|AtL.done<|zq Z ?_ ?_
  ·intro hc2
   exfalso; omega
  ·intro hc2
   refine zj<|zp<|zc<|za<|zb zg0 Z Z<|zb zg0 Z Z ?_
   refine zb4 Z zg0 Z Z Z<|AtL.done<|zc<|za<|zb zg0 Z Z<|zZ zaF zg0 Z Z Z (fun w => by kernel_rfl) (zdi (b:=x.b)) ?_
   rintro _ _ ⟨rfl,rfl⟩
   refine AtL.assign zg0 Z Z<|AtL.done<|zc<|za<|zb zg0 Z Z<|zb zg0 Z Z ?_
   refine zf zg0 Z Z<|zd zaq zg0 Z Z Z<|zh zE zg0 Z Z (Cell.own 2 0 Z Z Z)<|zC Tryz.underlying34 zg0 Z Z ?_
   refine AtL.minZ (z:=((min m x.wait.l.length:Nat):Int)) zg0 Z Z Z (by omega)<|AtL.assign zg0 Z Z<|AtL.done<|zc<|za<|zb zg0 Z Z ?_
   refine zf zg0 Z Z<|zd zaq zg0 Z Z Z<|zh zE zg0 Z Z (Cell.own 2 0 Z Z Z)<|zb zg0 Z Z ?_
   have hleo3:=zab x.wait.own
   refine zbN 0 (min m x.wait.l.length:Nat) x.wait.C x.wait.own Z (zI Z Z) Z (by intro h; cases h) (by omega) (by omega) (by omega) (Nat.le_refl _) Tryz.underlying34 zQ zg0 Z Z ?_
   intro A1 C2 o3
   clear hleo3
   have hlo3:(subl x.wait.l 0 (min m x.wait.l.length:Nat)).length=(min m x.wait.l.length:Nat) - 0:=zP (by omega)
   refine zk zd7 zg0 Z Z (zfu (l:=subl x.wait.l 0 (min m x.wait.l.length:Nat)) (o3.rd (i:=5) Z) (by first | omega | (simp only [List.length_append,List.length_cons,List.length_nil]; omega) | (simp; done) | (simp; omega))) ?_
   rintro _ _ ⟨⟨A4,C5,l6,s7,o8⟩,hx9,rfl,rfl⟩
   obtain rfl:subl x.wait.l 0 (min m x.wait.l.length:Nat)=l6:=hx9.symm
   refine AtL.assign zg0 Z Z<|AtL.done<|zc<|za<|zb zg0 Z Z<|zb zg0 Z Z ?_
   refine zf zg0 Z Z<|zd zaq zg0 Z Z Z<|zh zE zg0 Z Z (Cell.own 3 0 Z Z Z)<|zb zg0 Z Z ?_
   have hleo12:=zab x.wait.own
   refine zbN (min m x.wait.l.length:Nat) x.wait.l.length x.wait.C x.wait.own (zI Z Z) Z Z (by intro h; cases h) (by omega) (by omega) (by omega) (Nat.le_refl _) Tryz.underlying34 zQ zg0 Z Z ?_
   intro A10 C11 o12
   clear hleo12
   have hlo12:(subl x.wait.l (min m x.wait.l.length:Nat) x.wait.l.length).length=x.wait.l.length - (min m x.wait.l.length:Nat):=zP (by omega)
   refine zf zg0 Z Z<|zd zaq zg0 Z Z Z<|zr (H':=s7::O0 c most idle buffer last mb::[(mb,mapG kyI Lk.v kvs mn)]::[(x.b,.cells #[x.ch.v,.bool x.sd,V x.client,V x.wh,V x.buffer,.slice A10 (subl x.wait.l (min m x.wait.l.length:Nat) x.wait.l.length).length C11,.bool x.closing,.bool false,B x.r] 108 (0,0))]::O1 x.r 65535 x.br x.y.A x.y.l.length x.y.C (x.off:Int) x.lr x.e::x.ch.s::x.wait.s::x.y.s::H) 3 0 zaA zg0 Z Z Z Z Z Z Z Z Z<|AtL.done<|zc<|zc ?_
   refine za<|zb zg0 Z Z<|zai zg0 Z Z Z<|AtL.done<|zq Z ?_ ?_
   ·intro hc3
    refine za<|zb zg0 Z Z<|zb zg0 Z Z<|zf zg0 Z Z<|zd zb0 zg0 Z Z Z<|zh zo zg0 Z Z (Cell.own 3 0 Z Z Z) ?_
    refine zb zg0 Z Z ?_
    refine zcZ (z:=max x.wh now) zg0 Z Z Z (by omega)<|zf zg0 Z Z<|zd zb0 zg0 Z Z Z<|zr (H':=s7::O0 c most idle buffer last mb::[(mb,mapG kyI Lk.v kvs mn)]::[(x.b,.cells #[x.ch.v,.bool x.sd,V x.client,V (max x.wh now),V x.buffer,.slice A10 (subl x.wait.l (min m x.wait.l.length:Nat) x.wait.l.length).length C11,.bool x.closing,.bool false,B x.r] 108 (0,0))]::O1 x.r 65535 x.br x.y.A x.y.l.length x.y.C (x.off:Int) x.lr x.e::x.ch.s::x.wait.s::x.y.s::H) 3 0 zaB zg0 Z Z Z Z Z Z Z Z Z<|AtL.done<|zc ?_
    refine zc<|za<|zb zg0 Z Z<|zf zg0 Z Z<|zd zaS zg0 Z Z Z<|zh zR zg0 Z Z (Cell.own 3 0 Z Z Z) ?_
    refine zb zg0 Z Z<|zy 7 (E':=[(82,.bool (decide ((x.closing=true)∧(((subl x.wait.l (min m x.wait.l.length:Nat) x.wait.l.length).length:Int)=0)))),(12,B x.b),(14,.slice A4 (subl x.wait.l 0 (min m x.wait.l.length:Nat)).length C5)]) (fun J => ?_) ?_
    ·refine zY (t:=75) Z ?_ ?_
     ·intro hs75
      have hs75:x.closing=true:=hs75
      refine zb (.inr ⟨_,_,_,Z,Z,Z,Z⟩) Z Z<|zf (.inr ⟨_,_,_,Z,Z,Z,Z⟩) Z Z<|zd zaq (.inr ⟨_,_,_,Z,Z,Z,Z⟩) Z Z Z<|zh zE (.inr ⟨_,_,_,Z,Z,Z,Z⟩) Z Z (Cell.own 3 0 Z Z Z)<|zC Tryz.underlying34 (.inr ⟨_,_,_,Z,Z,Z,Z⟩) Z Z<|zW (.inr ⟨_,_,_,Z,Z,Z,Z⟩) Z Z Z ?_
      refine zn zg0 Z Z Z ?_
      exact J _ (by exact ⟨(zw (by clear J; first | (simp [hs75]; done) | (simp_all; done) | grind)),Z,Z,trivial⟩)
     ·intro hs75
      have hs75:x.closing=false:=hs75
      refine ze Z Z Z Z Z Z<|ze Z Z Z Z Z Z<|ze Z Z Z Z Z Z<|ze Z Z Z Z Z Z<|ze Z Z Z Z Z Z<|ze Z Z Z Z Z Z ?_
      refine zm zg0 Z Z Z ?_
      exact J _ (by exact ⟨(zw (by clear J; first | (simp [hs75]; done) | (simp_all; done) | grind)),Z,Z,trivial⟩)
    ·refine AtL.done<|zq Z ?_ ?_
     ·intro hc4
      refine za<|zb zg0 Z Z<|zf zg0 Z Z<|zd zaw zg0 Z Z Z<|zr (H':=s7::O0 c most idle buffer last mb::[(mb,mapG kyI Lk.v kvs mn)]::[(x.b,.cells #[x.ch.v,.bool x.sd,V x.client,V (max x.wh now),V x.buffer,.slice A10 (subl x.wait.l (min m x.wait.l.length:Nat) x.wait.l.length).length C11,.bool x.closing,.bool true,B x.r] 108 (0,0))]::O1 x.r 65535 x.br x.y.A x.y.l.length x.y.C (x.off:Int) x.lr x.e::x.ch.s::x.wait.s::x.y.s::H) 3 0 za0 zg0 Z Z Z Z Z Z Z Z Z<|AtL.done ?_
      refine zc<|za<|zb zg0 Z Z<|AtL.assign zg0 Z Z<|AtL.assign zg0 Z Z<|AtL.done ?_
      refine zaJ Z<|Un.pick (H':=O0 c most idle buffer last mb::[(mb,mapG kyI Lk.v kvs mn)]::[(x.b,.cells #[x.ch.v,.bool x.sd,V x.client,V (max x.wh now),V x.buffer,.slice A10 (subl x.wait.l (min m x.wait.l.length:Nat) x.wait.l.length).length C11,.bool x.closing,.bool true,B x.r] 108 (0,0))]::s7::O1 x.r 65535 x.br x.y.A x.y.l.length x.y.C (x.off:Int) x.lr x.e::x.ch.s::x.wait.s::x.y.s::H) [1,2,3,0,4,5,6,7] 8 Z Z<|zaH zav Z Z (zbJ (cl:=true) (kvs:=kvs) i hat) ?_
      rintro _ _ ⟨rfl,rfl⟩
      have hkl:(min m x.wait.l.length)=(min m x.wait.l.length):=rfl
      exact zap (vs:=[.slice A4 (subl x.wait.l 0 (min m x.wait.l.length:Nat)).length C5,V 0]) [3,0,1,2,4,5,6,7] 8 Z Z Tryz.func16 Z ⟨Z,Z,trivial⟩ (⟨⟨A4,C5,subl x.wait.l 0 (min m x.wait.l.length:Nat),s7,o8⟩,(⟨x.b,x.ch,x.sd,x.client,max x.wh now,x.buffer,⟨A10,C11,subl x.wait.l (min m x.wait.l.length:Nat) x.wait.l.length,x.wait.s,o12⟩,x.closing,x.r,x.y,x.off,x.lr,x.e,x.br⟩:Str),true,(by show subl x.wait.l 0 (min m x.wait.l.length)=x.wait.l.take m; rw [zcp,zdl]),⟨hk.off,hk.e⟩,by simp only [Str.p,StrV.take,za1,zdo]; grind,by simp only [Str.p,StrV.take,za1,← zdo x.wait.l m]; grind,⟨Z,Z⟩,Z,Z⟩)
     ·intro hc4
      refine zj<|zc<|za<|zb zg0 Z Z<|AtL.assign zg0 Z Z<|AtL.assign zg0 Z Z ?_
      refine AtL.done<|zaJ Z<|Un.pick (H':=O0 c most idle buffer last mb::[(mb,mapG kyI Lk.v kvs mn)]::[(x.b,.cells #[x.ch.v,.bool x.sd,V x.client,V (max x.wh now),V x.buffer,.slice A10 (subl x.wait.l (min m x.wait.l.length:Nat) x.wait.l.length).length C11,.bool x.closing,.bool false,B x.r] 108 (0,0))]::s7::O1 x.r 65535 x.br x.y.A x.y.l.length x.y.C (x.off:Int) x.lr x.e::x.ch.s::x.wait.s::x.y.s::H) [1,2,3,0,4,5,6,7] 8 Z Z<|zaH zav Z Z (zbJ (cl:=false) (kvs:=kvs) i hat) ?_
      rintro _ _ ⟨rfl,rfl⟩
      have hkl:(min m x.wait.l.length)=(min m x.wait.l.length):=rfl
      exact zap (vs:=[.slice A4 (subl x.wait.l 0 (min m x.wait.l.length:Nat)).length C5,V 0]) [3,0,1,2,4,5,6,7] 8 Z Z Tryz.func16 Z ⟨Z,Z,trivial⟩ (⟨⟨A4,C5,subl x.wait.l 0 (min m x.wait.l.length:Nat),s7,o8⟩,(⟨x.b,x.ch,x.sd,x.client,max x.wh now,x.buffer,⟨A10,C11,subl x.wait.l (min m x.wait.l.length:Nat) x.wait.l.length,x.wait.s,o12⟩,x.closing,x.r,x.y,x.off,x.lr,x.e,x.br⟩:Str),false,(by show subl x.wait.l 0 (min m x.wait.l.length)=x.wait.l.take m; rw [zcp,zdl]),⟨hk.off,hk.e⟩,by simp only [Str.p,StrV.take,za1,zdo]; grind,by simp only [Str.p,StrV.take,za1,← zdo x.wait.l m]; grind,⟨Z,Z⟩,Z,Z⟩)
   ·intro hc3
    refine zj<|zc<|zc<|za<|zb zg0 Z Z<|zf zg0 Z Z ?_
    refine zd zaS zg0 Z Z Z<|zh zR zg0 Z Z (Cell.own 3 0 Z Z Z)<|zb zg0 Z Z<|zy 7 (E':=[(82,.bool (decide ((x.closing=true)∧(((subl x.wait.l (min m x.wait.l.length:Nat) x.wait.l.length).length:Int)=0)))),(12,B x.b),(14,.slice A4 (subl x.wait.l 0 (min m x.wait.l.length:Nat)).length C5)]) (fun J => ?_) ?_
    ·refine zY (t:=75) Z ?_ ?_
     ·intro hs75
      have hs75:x.closing=true:=hs75
      refine zb (.inr ⟨_,_,_,Z,Z,Z,Z⟩) Z Z<|zf (.inr ⟨_,_,_,Z,Z,Z,Z⟩) Z Z<|zd zaq (.inr ⟨_,_,_,Z,Z,Z,Z⟩) Z Z Z<|zh zE (.inr ⟨_,_,_,Z,Z,Z,Z⟩) Z Z (Cell.own 3 0 Z Z Z)<|zC Tryz.underlying34 (.inr ⟨_,_,_,Z,Z,Z,Z⟩) Z Z<|zW (.inr ⟨_,_,_,Z,Z,Z,Z⟩) Z Z Z ?_
      refine zn zg0 Z Z Z ?_
      exact J _ (by exact ⟨(zw (by clear J; first | (simp [hs75]; done) | (simp_all; done) | grind)),Z,Z,trivial⟩)
     ·intro hs75
      have hs75:x.closing=false:=hs75
      refine ze Z Z Z Z Z Z<|ze Z Z Z Z Z Z<|ze Z Z Z Z Z Z<|ze Z Z Z Z Z Z<|ze Z Z Z Z Z Z<|ze Z Z Z Z Z Z ?_
      refine zm zg0 Z Z Z ?_
      exact J _ (by exact ⟨(zw (by clear J; first | (simp [hs75]; done) | (simp_all; done) | grind)),Z,Z,trivial⟩)
    ·refine AtL.done<|zq Z ?_ ?_
     ·intro hc4
      refine za<|zb zg0 Z Z<|zf zg0 Z Z<|zd zaw zg0 Z Z Z<|zr (H':=s7::O0 c most idle buffer last mb::[(mb,mapG kyI Lk.v kvs mn)]::[(x.b,.cells #[x.ch.v,.bool x.sd,V x.client,V x.wh,V x.buffer,.slice A10 (subl x.wait.l (min m x.wait.l.length:Nat) x.wait.l.length).length C11,.bool x.closing,.bool true,B x.r] 108 (0,0))]::O1 x.r 65535 x.br x.y.A x.y.l.length x.y.C (x.off:Int) x.lr x.e::x.ch.s::x.wait.s::x.y.s::H) 3 0 za0 zg0 Z Z Z Z Z Z Z Z Z<|AtL.done ?_
      refine zc<|za<|zb zg0 Z Z<|AtL.assign zg0 Z Z<|AtL.assign zg0 Z Z<|AtL.done ?_
      refine zaJ Z<|Un.pick (H':=O0 c most idle buffer last mb::[(mb,mapG kyI Lk.v kvs mn)]::[(x.b,.cells #[x.ch.v,.bool x.sd,V x.client,V x.wh,V x.buffer,.slice A10 (subl x.wait.l (min m x.wait.l.length:Nat) x.wait.l.length).length C11,.bool x.closing,.bool true,B x.r] 108 (0,0))]::s7::O1 x.r 65535 x.br x.y.A x.y.l.length x.y.C (x.off:Int) x.lr x.e::x.ch.s::x.wait.s::x.y.s::H) [1,2,3,0,4,5,6,7] 8 Z Z<|zaH zav Z Z (zbJ (cl:=true) (kvs:=kvs) i hat) ?_
      rintro _ _ ⟨rfl,rfl⟩
      have hkl:(min m x.wait.l.length)=(min m x.wait.l.length):=rfl
      exact zap (vs:=[.slice A4 (subl x.wait.l 0 (min m x.wait.l.length:Nat)).length C5,V 0]) [3,0,1,2,4,5,6,7] 8 Z Z Tryz.func16 Z ⟨Z,Z,trivial⟩ (⟨⟨A4,C5,subl x.wait.l 0 (min m x.wait.l.length:Nat),s7,o8⟩,(⟨x.b,x.ch,x.sd,x.client,x.wh,x.buffer,⟨A10,C11,subl x.wait.l (min m x.wait.l.length:Nat) x.wait.l.length,x.wait.s,o12⟩,x.closing,x.r,x.y,x.off,x.lr,x.e,x.br⟩:Str),true,(by show subl x.wait.l 0 (min m x.wait.l.length)=x.wait.l.take m; rw [zcp,zdl]),⟨hk.off,hk.e⟩,by simp only [Str.p,StrV.take,za1,zdo]; grind,by simp only [Str.p,StrV.take,za1,← zdo x.wait.l m]; grind,⟨Z,Z⟩,Z,Z⟩)
     ·intro hc4
      refine zj<|zc<|za<|zb zg0 Z Z<|AtL.assign zg0 Z Z<|AtL.assign zg0 Z Z ?_
      refine AtL.done<|zaJ Z<|Un.pick (H':=O0 c most idle buffer last mb::[(mb,mapG kyI Lk.v kvs mn)]::[(x.b,.cells #[x.ch.v,.bool x.sd,V x.client,V x.wh,V x.buffer,.slice A10 (subl x.wait.l (min m x.wait.l.length:Nat) x.wait.l.length).length C11,.bool x.closing,.bool false,B x.r] 108 (0,0))]::s7::O1 x.r 65535 x.br x.y.A x.y.l.length x.y.C (x.off:Int) x.lr x.e::x.ch.s::x.wait.s::x.y.s::H) [1,2,3,0,4,5,6,7] 8 Z Z<|zaH zav Z Z (zbJ (cl:=false) (kvs:=kvs) i hat) ?_
      rintro _ _ ⟨rfl,rfl⟩
      have hkl:(min m x.wait.l.length)=(min m x.wait.l.length):=rfl
      exact zap (vs:=[.slice A4 (subl x.wait.l 0 (min m x.wait.l.length:Nat)).length C5,V 0]) [3,0,1,2,4,5,6,7] 8 Z Z Tryz.func16 Z ⟨Z,Z,trivial⟩ (⟨⟨A4,C5,subl x.wait.l 0 (min m x.wait.l.length:Nat),s7,o8⟩,(⟨x.b,x.ch,x.sd,x.client,x.wh,x.buffer,⟨A10,C11,subl x.wait.l (min m x.wait.l.length:Nat) x.wait.l.length,x.wait.s,o12⟩,x.closing,x.r,x.y,x.off,x.lr,x.e,x.br⟩:Str),false,(by show subl x.wait.l 0 (min m x.wait.l.length)=x.wait.l.take m; rw [zcp,zdl]),⟨hk.off,hk.e⟩,by simp only [Str.p,StrV.take,za1,zdo]; grind,by simp only [Str.p,StrV.take,za1,← zdo x.wait.l m]; grind,⟨Z,Z⟩,Z,Z⟩)
set_option maxHeartbeats 1000000 in
theorem zie {w0:World}{base:Nat}{H:List Seg}{c mb:Nat}{most idle buffer last:Int}{kvs:List (Int×Lk×Nat)}{mn:Nat}{x:Str}{i:Int}(hm:¬ most=0) (hat:atG i kvs=some (.str x)) (hk:x.ok) {A:Option Addr}{C:Nat}{l:List UInt8}(slot:Int) (h:Rd tyB w0 base H A C l) (hl:l.length≤1000000) (hw:x.wait.l.length≤1073741824) :
  SCalls Tryz.prog 15 [B c,V i,V slot,.slice A l.length C] w0 base (O0 c most idle buffer last mb::[(mb,mapG kyI Lk.v kvs mn)]::O4 x.b x.ch.v x.sd x.client x.wh x.buffer x.wait.A x.wait.l.length x.wait.C x.closing false x.r::O1 x.r 65535 x.br x.y.A x.y.l.length x.y.C (x.off:Int) x.lr x.e::x.ch.s::x.wait.s::x.y.s::H) (fun v H' => ∃ (x' : Str) (cl:Bool),x'.ok∧x'.p=(x.p.answer slot l).2.2∧cl=(x.p.answer slot l).2.1∧(x'.b=x.b∧x'.y=x.y)∧v=int (x.p.answer slot l).1∧H' = (O0 c most idle buffer last mb)::[(mb,mapG kyI Lk.v (if cl=true then delG i kvs else kvs) mn)]::O4 x'.b x'.ch.v x'.sd x'.client x'.wh x'.buffer x'.wait.A x'.wait.l.length x'.wait.C x'.closing cl x'.r::O1 x'.r 65535 x'.br x'.y.A x'.y.l.length x'.y.C (x'.off:Int) x'.lr x'.e::x'.ch.s::x'.wait.s::x'.y.s::H):=by
 have hcw:=z7 x.wait.own
 have hle0:=h.le
 have hcap0:=h.cap
 refine SCalls.of_walk (n:=89) Tryz.func15 Z Z Z fun cs => ?_
 refine zc<|za<|AtL.assign zg0 Z Z<|AtL.done<|zc<|za ?_
 refine zb zg0 Z Z<|zb zg0 Z Z<|zk zaM zg0 Z Z (zbi (lk:=Lk.str x) i hm hat) ?_
 rintro _ _ ⟨rfl,rfl⟩
 refine zb zg0 Z Z<|AtL.extract zg0 Z Z Z<|AtL.extract zg0 Z Z Z<|AtL.assign zg0 Z Z<|AtL.assign zg0 Z Z<|AtL.done ?_
 refine zc<|zc<|za<|zb zg0 Z Z<|zT zg0 Z Z Z<|AtL.done ?_
 refine zB Z<|zj<|zc<|za<|zb zg0 Z Z<|zb zg0 Z Z ?_
 refine zb4 Z zg0 Z Z Z<|AtL.done<|zc<|za<|zb zg0 Z Z<|zb zg0 Z Z ?_
 refine zb zg0 Z Z ?_
 refine zZ tf_body232 zg0 Z Z Z (fun w => by kernel_rfl) (sgoes_ok (b:=x.b) (l:=l) slot (Rd.skip 7 h) (by omega)) ?_
 rintro _ _ ⟨o1,f2,h3,h4,rfl,rfl⟩
 refine zb zg0 Z Z<|AtL.extract zg0 Z Z Z<|AtL.extract zg0 Z Z Z<|AtL.assign zg0 Z Z<|AtL.assign zg0 Z Z<|AtL.done ?_
 refine zc<|zc<|za<|zb zg0 Z Z<|zT zg0 Z Z Z<|AtL.done ?_
 refine zae Z ?_ ?_
 ·intro hc2
  have hc2:¬ ((sgoE slot l:Int)=0):=of_decide_eq_false (zO hc2)
  refine zc<|za<|zb zg0 Z Z<|AtL.assign zg0 Z Z<|AtL.done<|zaJ Z ?_
  refine Un.pick (H':=O0 c most idle buffer last mb::[(mb,mapG kyI Lk.v kvs mn)]::O4 x.b x.ch.v x.sd x.client x.wh x.buffer x.wait.A x.wait.l.length x.wait.C x.closing false x.r::o1.s::f2.s::O1 x.r 65535 x.br x.y.A x.y.l.length x.y.C (x.off:Int) x.lr x.e::x.ch.s::x.wait.s::x.y.s::H) [2,3,4,0,1,5,6,7,8] 9 Z Z<|zaH zav Z Z (zbJ (cl:=false) (kvs:=kvs) i hat) ?_
  rintro _ _ ⟨rfl,rfl⟩
  exact zap (vs:=[V (sgoE slot l)]) [0,1,2,5,6,7,8] 9 Z Z Tryz.func15 Z ⟨Z,trivial⟩ (⟨x,false,hk,by rw [StrV.answer,if_neg hc2],by rw [StrV.answer,if_neg hc2],⟨Z,Z⟩,by rw [StrV.answer,if_neg hc2]; rfl,Z⟩)
 ·intro hc2
  have hc2:(sgoE slot l:Int)=0:=of_decide_eq_true (zJ hc2)
  have hgo:sgoE slot l=0:=by simpa using hc2
  obtain ⟨ho9,hf9⟩:=h3 hgo
  have hol:o1.l.length=1:=by rw [ho9]; rfl
  have hog:o1.l.getD 0 (⟨none,0,[]⟩:Bs)=f2.v:=by rw [ho9]; rfl
  have hfn:=frmL_len l
  have hgl:(o1.l.getD 0 (⟨none,0,[]⟩:Bs)).l=frmL l:=by rw [hog]; exact hf9
  have hgn:(o1.l.getD 0 (⟨none,0,[]⟩:Bs)).l.length≤l.length + 2:=by rw [hgl]; exact hfn
  have hoe:∀ q ∈ o1.l,Rd tyB w0 base (f2.s::H) q.A q.C q.l:=by rw [ho9]; intro q hq; rw [List.mem_singleton.1 hq]; exact f2.own.rd (i:=0) rfl
  refine zj<|zc<|za<|zb zg0 Z Z<|zZ zaF zg0 Z Z Z (fun w => by kernel_rfl) (zdi (b:=x.b)) ?_
  rintro _ _ ⟨rfl,rfl⟩
  refine AtL.assign zg0 Z Z<|AtL.done<|zc<|zc<|za<|zb zg0 Z Z ?_
  refine zC Tryz.underlying22 zg0 Z Z<|zb zg0 Z Z<|AtL.done<|At.block<|zbp<|zc ?_
  refine za<|zA zg0 Z Z Z<|AtL.done<|zc ?_
  refine zU true Z (decide_eq_true (by omega))<|zj<|zc<|At.block<|zc<|za ?_
  refine zF 0 (o1.own.rd (i:=0) Z) Tryz.underlying22 zaA zg0 Z Z Z Z (by omega) ?_
  refine zh (v:=.slice ((o1.l.getD 0 (⟨none,0,[]⟩:Bs)).A) ((o1.l.getD 0 (⟨none,0,[]⟩:Bs)).l).length ((o1.l.getD 0 (⟨none,0,[]⟩:Bs)).C)) zE zg0 Z Z (zH (o1.own.rd (i:=0) Z) (zz (⟨none,0,[]⟩:Bs) (by omega)) Z)<|AtL.assign zg0 Z Z<|AtL.done<|zc<|za<|zb zg0 Z Z ?_
  refine zf zg0 Z Z<|zd zaw zg0 Z Z Z<|zh zR zg0 Z Z (Cell.own 4 0 Z Z Z)<|zag zg0 Z Z<|AtL.done<|zX Z ?_
  refine za<|zb zg0 Z Z<|zb zg0 Z Z<|zf zg0 Z Z<|zd zbI zg0 Z Z Z<|zh zcN zg0 Z Z (Cell.own 4 0 Z Z Z) ?_
  refine zb zg0 Z Z<|AtL.pick (H':=x.ch.s::o1.s::f2.s::O0 c most idle buffer last mb::[(mb,mapG kyI Lk.v kvs mn)]::O4 x.b x.ch.v x.sd x.client x.wh x.buffer x.wait.A x.wait.l.length x.wait.C x.closing false x.r::O1 x.r 65535 x.br x.y.A x.y.l.length x.y.C (x.off:Int) x.lr x.e::x.wait.s::x.y.s::H) [6,0,1,2,3,4,5,7,8] 9 Z Z ?_
  refine zZ (zib x.ch) zg0 Z Z Z (zh9 x.ch) (chn_Send x.ch (l:=(o1.l.getD 0 (⟨none,0,[]⟩:Bs)).l) (Rd.pick [1] 8 Z Z (hoe _ (zbh (l:=o1.l) (i:=0) (d:=(⟨none,0,[]⟩:Bs)) (by omega)))) (by omega)) ?_
  rintro _ _ ⟨t5,ch6,ht7,hp8,hc9,rfl,rfl⟩
  have t5n:t5.l.length≤4 + 4 * ((o1.l.getD 0 (⟨none,0,[]⟩:Bs)).l).length:=by rw [ht7]; exact zh6 _ _
  try rw [zh7 hp8 hc9]
  refine AtL.pick (H':=x.wait.s::O4 x.b ch6.v x.sd x.client x.wh x.buffer x.wait.A x.wait.l.length x.wait.C x.closing false x.r::t5.s::ch6.s::o1.s::f2.s::O0 c most idle buffer last mb::[(mb,mapG kyI Lk.v kvs mn)]::O1 x.r 65535 x.br x.y.A x.y.l.length x.y.C (x.off:Int) x.lr x.e::x.y.s::H) [8,6,0,1,2,3,4,5,7,9] 10 Z Z ?_
  refine zk zfd zg0 Z Z (put_str (y:=x.wait) (l:=t5.l) (t5.own.rd (i:=0) Z) (by omega)) ?_
  rintro _ _ ⟨z10,cl11,hz12,hcl13,rfl,rfl⟩
  have z10c9:=z7 z10.own
  refine AtL.done<|zp<|za ?_
  refine AtL.add (z:=1) zg0 Z Z Z (by decide)<|zb zg0 Z Z<|AtL.done<|zaN<|zc<|za ?_
  refine zA zg0 Z Z Z<|AtL.done<|zc ?_
  refine zU false Z (decide_eq_false (by omega))<|zau Z<|zc<|zc<|za<|zb zg0 Z Z ?_
  refine zf zg0 Z Z<|zd zaw zg0 Z Z Z<|zh zR zg0 Z Z (Cell.own 1 0 Z Z Z)<|zag zg0 Z Z<|zb zg0 Z Z<|zy 3 (E':=[(66,.bool false),(9,.iface 106 (B x.b)),(12,B x.b)]) (fun J => ?_) ?_
  ·refine zY (t:=63) Z ?_ ?_
   ·intro hs63
    have hs63:cl11=false:=zO hs63
    refine zb (.inr ⟨_,_,_,Z,Z,Z,Z⟩) Z Z<|zZ zdF (.inr ⟨_,_,_,Z,Z,Z,Z⟩) Z Z Z (fun w => by kernel_rfl) (zfh (b:=x.b)) ?_
    rintro _ _ ⟨rfl,rfl⟩
    refine zn zg0 Z Z Z ?_
    exact J _ (by exact ⟨Z,Z,Z,trivial⟩)
   ·intro hs63
    have hs63:cl11=true:=zJ hs63
    refine ze Z Z Z Z Z Z<|ze Z Z Z Z Z Z<|zm zg0 Z Z Z ?_
    exact J _ (by exact ⟨Z,Z,Z,trivial⟩)
  ·refine zb zg0 Z Z<|ze Z Z Z Z Z Z<|ze Z Z Z Z Z Z<|zm zg0 Z Z Z<|AtL.done<|zB Z ?_
   refine zj<|zc<|zc ?_
   cases cl11 with
   | true =>
    rw [Bool.false_or] at hcl13
    have hgt:x.buffer < (z10.l.length:Int):=of_decide_eq_true hcl13.symm
    refine zac (es:=[]) (pv:=[(0,B x.b),(1,B x.b),(2,.pointer (some ⟨x.b,7,none⟩)),(3,.bool true),(4,.bool true),(5,B x.b),(6,B x.b),(7,.pointer (some ⟨x.b,5,none⟩)),(8,.slice z10.A z10.l.length z10.C),(9,V (z10.l.length:Int)),(10,B x.b),(11,B x.b),(12,.pointer (some ⟨x.b,4,none⟩)),(13,V x.buffer),(14,.bool true),(15,.bool true)]) zV (by kernel_rfl) (by kernel_rfl) (by kernel_rfl) ?_
    refine ⟨⟨zpr Z Z Z (zi Z),zpr Z Z Z (zl Z),zpr Z Z Z (zg zaw Z Z),zpr Z Z Z (zu zR Z (Cell.own 1 0 Z Z Z)),zpr Z Z Z (zi Z),zpr Z Z ⟨_,_,_,Z,Z,Z,Z⟩ (zi Z),zpr Z Z ⟨_,_,_,Z,Z,Z,Z⟩ (zl Z),zpr Z Z ⟨_,_,_,Z,Z,Z,Z⟩ (zg zaq Z Z),zpr Z Z ⟨_,_,_,Z,Z,Z,Z⟩ (zu zE Z (Cell.own 1 0 Z Z Z)),zpr Z Z ⟨_,_,_,Z,Z,Z,Z⟩ (zbt Tryz.underlying34 Z),zpr Z Z ⟨_,_,_,Z,Z,Z,Z⟩ (zi Z),zpr Z Z ⟨_,_,_,Z,Z,Z,Z⟩ (zl Z),zpr Z Z ⟨_,_,_,Z,Z,Z,Z⟩ (zg zd4 Z Z),zpr Z Z ⟨_,_,_,Z,Z,Z,Z⟩ (zu zo Z (Cell.own 1 0 Z Z Z)),zpr Z Z ⟨_,_,_,Z,Z,Z,Z⟩ (zM (zbV Z Z) (decide_eq_true hgt)),zpr Z Z Z (za4 Z Z),trivial⟩,by kernel_rfl,?_⟩
    refine At.mono (E':=[(88,.bool true)]) ⟨Z,trivial⟩<|zX Z<|zc<|za<|AtL.assign zg0 Z Z<|AtL.done ?_
    refine zaJ Z<|Un.pick (H':=O0 c most idle buffer last mb::[(mb,mapG kyI Lk.v kvs mn)]::O4 x.b ch6.v x.sd x.client x.wh x.buffer z10.A z10.l.length z10.C x.closing true x.r::z10.s::t5.s::ch6.s::o1.s::f2.s::O1 x.r 65535 x.br x.y.A x.y.l.length x.y.C (x.off:Int) x.lr x.e::x.y.s::H) [6,7,1,0,2,3,4,5,8,9] 10 Z Z<|zaH zav Z Z (zbJ (cl:=true) (kvs:=kvs) i hat) ?_
    rintro _ _ ⟨rfl,rfl⟩
    have hA:x.p.answer slot l=(if x.buffer < ((z10.l).length:Int) then 3 else 0,decide (x.buffer < ((z10.l).length:Int)),{ x.p with ch:=ch6.p,wait:=z10.l }):=by rw [StrV.answer,if_pos hgo,hp8,hz12,ht7,hgl]; rfl
    exact zap (vs:=[V 3]) [0,1,2,8,5,3,9] 10 Z Z Tryz.func15 Z ⟨Z,trivial⟩ (⟨(⟨x.b,ch6,x.sd,x.client,x.wh,x.buffer,z10,x.closing,x.r,x.y,x.off,x.lr,x.e,x.br⟩:Str),true,⟨hk.off,hk.e⟩,by rw [hA]; rfl,by rw [hA]; exact hcl13,⟨Z,Z⟩,by rw [hA]; show _=int (if x.buffer < ((z10.l).length:Int) then 3 else 0); rw [if_pos hgt]; rfl,Z⟩)
   | false =>
    rw [Bool.false_or] at hcl13
    have hgt:¬ x.buffer < (z10.l.length:Int):=of_decide_eq_false hcl13.symm
    refine zac (es:=[]) (pv:=[(0,B x.b),(1,B x.b),(2,.pointer (some ⟨x.b,7,none⟩)),(3,.bool false),(4,.bool false),(5,undef),(6,undef),(7,undef),(8,undef),(9,undef),(10,undef),(11,undef),(12,undef),(13,undef),(14,undef),(15,.bool false)]) zV (by kernel_rfl) (by kernel_rfl) (by kernel_rfl) ?_
    refine ⟨⟨zpr Z Z Z (zi Z),zpr Z Z Z (zl Z),zpr Z Z Z (zg zaw Z Z),zpr Z Z Z (zu zR Z (Cell.own 1 0 Z Z Z)),zpr Z Z Z (zi Z),.inr ⟨_,Z,Z,.inr ⟨⟨_,_,_,Z,Z,Z,Z⟩,Z⟩⟩,.inr ⟨_,Z,Z,.inr ⟨⟨_,_,_,Z,Z,Z,Z⟩,Z⟩⟩,.inr ⟨_,Z,Z,.inr ⟨⟨_,_,_,Z,Z,Z,Z⟩,Z⟩⟩,.inr ⟨_,Z,Z,.inr ⟨⟨_,_,_,Z,Z,Z,Z⟩,Z⟩⟩,.inr ⟨_,Z,Z,.inr ⟨⟨_,_,_,Z,Z,Z,Z⟩,Z⟩⟩,.inr ⟨_,Z,Z,.inr ⟨⟨_,_,_,Z,Z,Z,Z⟩,Z⟩⟩,.inr ⟨_,Z,Z,.inr ⟨⟨_,_,_,Z,Z,Z,Z⟩,Z⟩⟩,.inr ⟨_,Z,Z,.inr ⟨⟨_,_,_,Z,Z,Z,Z⟩,Z⟩⟩,.inr ⟨_,Z,Z,.inr ⟨⟨_,_,_,Z,Z,Z,Z⟩,Z⟩⟩,.inr ⟨_,Z,Z,.inr ⟨⟨_,_,_,Z,Z,Z,Z⟩,Z⟩⟩,zpr Z Z Z (zak Z Z),trivial⟩,by kernel_rfl,?_⟩
    refine At.mono (E':=[(88,.bool false)]) ⟨Z,trivial⟩<|zB Z<|zj<|zc<|za<|AtL.assign zg0 Z Z ?_
    refine AtL.done<|zaJ Z<|Un.pick (H':=O0 c most idle buffer last mb::[(mb,mapG kyI Lk.v kvs mn)]::O4 x.b ch6.v x.sd x.client x.wh x.buffer z10.A z10.l.length z10.C x.closing false x.r::z10.s::t5.s::ch6.s::o1.s::f2.s::O1 x.r 65535 x.br x.y.A x.y.l.length x.y.C (x.off:Int) x.lr x.e::x.y.s::H) [6,7,1,0,2,3,4,5,8,9] 10 Z Z<|zaH zav Z Z (zbJ (cl:=false) (kvs:=kvs) i hat) ?_
    rintro _ _ ⟨rfl,rfl⟩
    have hA:x.p.answer slot l=(if x.buffer < ((z10.l).length:Int) then 3 else 0,decide (x.buffer < ((z10.l).length:Int)),{ x.p with ch:=ch6.p,wait:=z10.l }):=by rw [StrV.answer,if_pos hgo,hp8,hz12,ht7,hgl]; rfl
    exact zap (vs:=[V 0]) [0,1,2,8,5,3,9] 10 Z Z Tryz.func15 Z ⟨Z,trivial⟩ (⟨(⟨x.b,ch6,x.sd,x.client,x.wh,x.buffer,z10,x.closing,x.r,x.y,x.off,x.lr,x.e,x.br⟩:Str),false,⟨hk.off,hk.e⟩,by rw [hA]; rfl,by rw [hA]; exact hcl13,⟨Z,Z⟩,by rw [hA]; show _=int (if x.buffer < ((z10.l).length:Int) then 3 else 0); rw [if_neg hgt]; rfl,Z⟩)
end Go.Proofs.YtbfabhdfmoiabaaGreatDoor
namespace Go.Proofs.YtbfabhdfmoiabaaGreatDoor
set_option linter.unusedVariables false
set_option linter.unusedSimpArgs false
set_option maxRecDepth 100000
theorem end_str {w0:World}{base:Nat}{H:List Seg}{c mb:Nat}{most idle buffer last:Int}{kvs:List (Int×Lk×Nat)}{mn:Nat}{x:Str}{i:Int}(hm:¬ most=0) (hat:atG i kvs=some (.str x)) :
  SCalls Tryz.prog 23 [B c,V i] w0 base (O0 c most idle buffer last mb::[(mb,mapG kyI Lk.v kvs mn)]::O4 x.b x.ch.v x.sd x.client x.wh x.buffer x.wait.A x.wait.l.length x.wait.C x.closing false x.r::H) (fun v H' => v=int 0∧H' = (O0 c most idle buffer last mb)::[(mb,mapG kyI Lk.v (delG i kvs) mn)]::H):=by
 refine SCalls.of_walk (n:=23) Tryz.func23 Z Z Z fun cs => ?_
 refine zc<|za<|AtL.assign zg0 Z Z<|AtL.done<|zc<|za ?_
 refine zb zg0 Z Z<|zb zg0 Z Z<|zk zaM zg0 Z Z (zbi (lk:=Lk.str x) i hm hat) ?_
 rintro _ _ ⟨rfl,rfl⟩
 refine zb zg0 Z Z<|AtL.extract zg0 Z Z Z<|AtL.extract zg0 Z Z Z<|AtL.assign zg0 Z Z<|AtL.assign zg0 Z Z<|AtL.done ?_
 refine zc<|zc<|za<|zb zg0 Z Z<|zT zg0 Z Z Z<|AtL.done ?_
 refine zB Z<|zj<|zc<|za<|zb zg0 Z Z<|zZ zaF zg0 Z Z Z (fun w => by kernel_rfl) (zdi (b:=x.b)) ?_
 rintro _ _ ⟨rfl,rfl⟩
 refine zf zg0 Z Z<|zd zaw zg0 Z Z Z<|zr (H':=O0 c most idle buffer last mb::[(mb,mapG kyI Lk.v kvs mn)]::O4 x.b x.ch.v x.sd x.client x.wh x.buffer x.wait.A x.wait.l.length x.wait.C x.closing true x.r::H) 2 0 za0 zg0 Z Z Z Z Z Z Z Z Z<|AtL.done<|zc<|za ?_
 refine zb zg0 Z Z<|zb zg0 Z Z<|zk zav zg0 Z Z (left_str (cl:=true) (kvs:=kvs) i hat) ?_
 rintro _ _ ⟨rfl,rfl⟩
 refine AtL.done<|zc<|za<|AtL.assign zg0 Z Z<|AtL.done<|At.pick [0,1] 3 Z Z ?_
 exact zt Tryz.func23 Z Z (⟨Z,Z⟩)
theorem end_req {w0:World}{base:Nat}{H:List Seg}{c mb:Nat}{most idle buffer last:Int}{kvs:List (Int×Lk×Nat)}{mn:Nat}{x:Req}{i:Int}(hm:¬ most=0) (hat:atG i kvs=some (.req x)) :
  SCalls Tryz.prog 23 [B c,V i] w0 base (O0 c most idle buffer last mb::[(mb,mapG kyI Lk.v kvs mn)]::O2 x.b x.ch.v x.sd x.client x.wh x.buffer x.wait.A x.wait.l.length x.wait.C x.closing false x.hr x.wb x.last x.behind::H) (fun v H' => v=int 0∧H' = (O0 c most idle buffer last mb)::[(mb,mapG kyI Lk.v (delG i kvs) mn)]::H):=by
 refine SCalls.of_walk (n:=23) Tryz.func23 Z Z Z fun cs => ?_
 refine zc<|za<|AtL.assign zg0 Z Z<|AtL.done<|zc<|za ?_
 refine zb zg0 Z Z<|zb zg0 Z Z<|zk zaM zg0 Z Z (zbi (lk:=Lk.req x) i hm hat) ?_
 rintro _ _ ⟨rfl,rfl⟩
 refine zb zg0 Z Z<|AtL.extract zg0 Z Z Z<|AtL.extract zg0 Z Z Z<|AtL.assign zg0 Z Z<|AtL.assign zg0 Z Z<|AtL.done ?_
 refine zc<|zc<|za<|zb zg0 Z Z<|zT zg0 Z Z Z<|AtL.done ?_
 refine zB Z<|zj<|zc<|za<|zb zg0 Z Z<|zZ zaF zg0 Z Z Z (fun w => by kernel_rfl) (zdi (b:=x.b)) ?_
 rintro _ _ ⟨rfl,rfl⟩
 refine zf zg0 Z Z<|zd zaw zg0 Z Z Z<|zr (H':=O0 c most idle buffer last mb::[(mb,mapG kyI Lk.v kvs mn)]::O2 x.b x.ch.v x.sd x.client x.wh x.buffer x.wait.A x.wait.l.length x.wait.C x.closing true x.hr x.wb x.last x.behind::H) 2 0 za0 zg0 Z Z Z Z Z Z Z Z Z<|AtL.done<|zc<|za ?_
 refine zb zg0 Z Z<|zb zg0 Z Z<|zk zav zg0 Z Z (left_req (cl:=true) (kvs:=kvs) i hat) ?_
 rintro _ _ ⟨rfl,rfl⟩
 refine AtL.done<|zc<|za<|AtL.assign zg0 Z Z<|AtL.done<|At.pick [0,1] 3 Z Z ?_
 exact zt Tryz.func23 Z Z (⟨Z,Z⟩)
theorem zh2 {w0:World}{base:Nat}{H:List Seg}{c mb:Nat}{most idle buffer last:Int}{kvs:List (Int×Lk×Nat)}{mn:Nat}{i now:Int}{A:Option Addr}{C:Nat}{l:List UInt8}(hm:¬ most=0) (hat:atG i kvs=none) :
  SCalls Tryz.prog 14 [B c,V i,.slice A l.length C,V now] w0 base (O0 c most idle buffer last mb::[(mb,mapG kyI Lk.v kvs mn)]::H) (fun v H' => v = .tuple #[.slice none 0 0,int 6]∧H' = (O0 c most idle buffer last mb)::[(mb,mapG kyI Lk.v kvs mn)]::H):=by
 refine SCalls.of_walk (n:=91) Tryz.func14 Z Z Z fun cs => ?_
 refine zc<|za<|AtL.assign zg0 Z Z<|AtL.assign zg0 Z Z<|AtL.done<|zc ?_
 refine za<|zb zg0 Z Z<|zb zg0 Z Z<|zk zaM zg0 Z Z (zfw i hm hat) ?_
 rintro _ _ ⟨rfl,rfl⟩
 refine zb zg0 Z Z<|AtL.extract zg0 Z Z Z<|AtL.extract zg0 Z Z Z<|AtL.assign zg0 Z Z<|AtL.assign zg0 Z Z<|AtL.done ?_
 refine zc<|zc<|za<|zb zg0 Z Z<|zT zg0 Z Z Z<|AtL.done ?_
 refine zX Z<|zc<|za<|zb zg0 Z Z<|AtL.assign zg0 Z Z<|AtL.assign zg0 Z Z ?_
 refine AtL.done ?_
 exact zt Tryz.func14 Z Z (⟨Z,Z⟩)
theorem zj9 {w0:World}{base:Nat}{H:List Seg}{c mb:Nat}{most idle buffer last:Int}{kvs:List (Int×Lk×Nat)}{mn:Nat}{i s:Int}{A:Option Addr}{C:Nat}{l:List UInt8}(hm:¬ most=0) (hat:atG i kvs=none) :
  SCalls Tryz.prog 15 [B c,V i,V s,.slice A l.length C] w0 base (O0 c most idle buffer last mb::[(mb,mapG kyI Lk.v kvs mn)]::H) (fun v H' => v=int 6∧H' = (O0 c most idle buffer last mb)::[(mb,mapG kyI Lk.v kvs mn)]::H):=by
 refine SCalls.of_walk (n:=89) Tryz.func15 Z Z Z fun cs => ?_
 refine zc<|za<|AtL.assign zg0 Z Z<|AtL.done<|zc<|za ?_
 refine zb zg0 Z Z<|zb zg0 Z Z<|zk zaM zg0 Z Z (zfw i hm hat) ?_
 rintro _ _ ⟨rfl,rfl⟩
 refine zb zg0 Z Z<|AtL.extract zg0 Z Z Z<|AtL.extract zg0 Z Z Z<|AtL.assign zg0 Z Z<|AtL.assign zg0 Z Z<|AtL.done ?_
 refine zc<|zc<|za<|zb zg0 Z Z<|zT zg0 Z Z Z<|AtL.done ?_
 refine zX Z<|zc<|za<|zb zg0 Z Z<|AtL.assign zg0 Z Z<|AtL.done ?_
 exact zt Tryz.func15 Z Z (⟨Z,Z⟩)
theorem ctake_none {w0:World}{base:Nat}{H:List Seg}{c mb:Nat}{most idle buffer last:Int}{kvs:List (Int×Lk×Nat)}{mn:Nat}{i m now:Int}(hm:¬ most=0) (hat:atG i kvs=none) :
  SCalls Tryz.prog 16 [B c,V i,V m,V now] w0 base (O0 c most idle buffer last mb::[(mb,mapG kyI Lk.v kvs mn)]::H) (fun v H' => v = .tuple #[.slice none 0 0,int 6]∧H' = (O0 c most idle buffer last mb)::[(mb,mapG kyI Lk.v kvs mn)]::H):=by
 refine SCalls.of_walk (n:=87) Tryz.func16 Z Z Z fun cs => ?_
 refine zc<|za<|AtL.assign zg0 Z Z<|AtL.assign zg0 Z Z<|AtL.done<|zc ?_
 refine za<|zb zg0 Z Z<|zb zg0 Z Z<|zk zaM zg0 Z Z (zfw i hm hat) ?_
 rintro _ _ ⟨rfl,rfl⟩
 refine zb zg0 Z Z<|AtL.extract zg0 Z Z Z<|AtL.extract zg0 Z Z Z<|AtL.assign zg0 Z Z<|AtL.assign zg0 Z Z<|AtL.done ?_
 refine zc<|At.block<|zc<|za<|zb zg0 Z Z<|zT zg0 Z Z Z ?_
 refine AtL.assign zg0 Z Z<|AtL.done<|zX Z<|zc<|za<|zb zg0 Z Z ?_
 refine AtL.assign zg0 Z Z<|AtL.assign zg0 Z Z<|AtL.done ?_
 exact zt Tryz.func16 Z Z (⟨Z,Z⟩)
theorem zj7 {w0:World}{base:Nat}{H:List Seg}{c mb:Nat}{most idle buffer last:Int}{kvs:List (Int×Lk×Nat)}{mn:Nat}{i:Int}(hm:¬ most=0) (hat:atG i kvs=none) :
  SCalls Tryz.prog 26 [B c,V i] w0 base (O0 c most idle buffer last mb::[(mb,mapG kyI Lk.v kvs mn)]::H) (fun v H' => v=int 6∧H' = (O0 c most idle buffer last mb)::[(mb,mapG kyI Lk.v kvs mn)]::H):=by
 refine SCalls.of_walk (n:=33) Tryz.func26 Z Z Z fun cs => ?_
 refine zc<|za<|AtL.assign zg0 Z Z<|AtL.done<|zc<|za ?_
 refine zb zg0 Z Z<|zb zg0 Z Z<|zk zaM zg0 Z Z (zfw i hm hat) ?_
 rintro _ _ ⟨rfl,rfl⟩
 refine zb zg0 Z Z<|AtL.extract zg0 Z Z Z<|AtL.extract zg0 Z Z Z<|AtL.assign zg0 Z Z<|AtL.assign zg0 Z Z<|AtL.done ?_
 refine zc<|zc<|za<|zb zg0 Z Z<|zT zg0 Z Z Z<|AtL.done ?_
 refine zX Z<|zc<|za<|zb zg0 Z Z<|AtL.assign zg0 Z Z<|AtL.done ?_
 exact zt Tryz.func26 Z Z (⟨Z,Z⟩)
theorem zj8 {w0:World}{base:Nat}{H:List Seg}{c mb:Nat}{most idle buffer last:Int}{kvs:List (Int×Lk×Nat)}{mn:Nat}{i:Int}(hm:¬ most=0) (hat:atG i kvs=none) :
  SCalls Tryz.prog 23 [B c,V i] w0 base (O0 c most idle buffer last mb::[(mb,mapG kyI Lk.v kvs mn)]::H) (fun v H' => v=int 6∧H' = (O0 c most idle buffer last mb)::[(mb,mapG kyI Lk.v kvs mn)]::H):=by
 refine SCalls.of_walk (n:=23) Tryz.func23 Z Z Z fun cs => ?_
 refine zc<|za<|AtL.assign zg0 Z Z<|AtL.done<|zc<|za ?_
 refine zb zg0 Z Z<|zb zg0 Z Z<|zk zaM zg0 Z Z (zfw i hm hat) ?_
 rintro _ _ ⟨rfl,rfl⟩
 refine zb zg0 Z Z<|AtL.extract zg0 Z Z Z<|AtL.extract zg0 Z Z Z<|AtL.assign zg0 Z Z<|AtL.assign zg0 Z Z<|AtL.done ?_
 refine zc<|zc<|za<|zb zg0 Z Z<|zT zg0 Z Z Z<|AtL.done ?_
 refine zX Z<|zc<|za<|zb zg0 Z Z<|AtL.assign zg0 Z Z<|AtL.done ?_
 exact zt Tryz.func23 Z Z (⟨Z,Z⟩)
end Go.Proofs.YtbfabhdfmoiabaaGreatDoor
namespace Go.Proofs.YtbfabhdfmoiabaaGreatDoor
set_option linter.unusedVariables false
set_option linter.unusedSimpArgs false
set_option maxRecDepth 100000
open Go
def ziO:List UInt8→Option (List UInt8×List UInt8)
 | [] => none
 | c::r => if c=13∧r.head? = some 10 then some ([],r.tail) else (ziO r).map fun p => (c::p.1,p.2)
def crlf (c:UInt8):Bool:=c=13 || c=10
theorem zg3 {b l r:List UInt8}(h:ziO b=some (l,r)):b=l++13::10::r:=by
 induction b generalizing l with
 | nil => simp [ziO] at h
 | cons c b ih =>
  unfold ziO at h
  split at h
  ·rename_i h1
   obtain ⟨rfl,h2⟩:=h1
   cases b with
   | nil => simp at h2
   | cons d b => simp at h2; subst h2; simp at h; obtain ⟨rfl,rfl⟩:=h; rfl
  ·cases hc:ziO b with
   | none => rw [hc] at h; simp at h
   | some p =>
    rw [hc] at h
    simp at h
    obtain ⟨rfl,rfl⟩:=h
    rw [ih (l:=p.1) (by rw [hc])]
    rfl
def zbZ (b:List UInt8):Option (List (List UInt8)) :=
 match h:ziO b with
 | none => none
 | some (l,r) => if l.any crlf then none else if l=[] then (if r=[] then some [] else none) else (zbZ r).map (l::·)
termination_by b.length
decreasing_by (have:=zg3 h; rw [this]; simp; omega)
theorem zkV (b:List UInt8):ziO b=if Lib.index b [13,10] = -1 then none else some (b.take (Lib.index b [13,10]).toNat,b.drop ((Lib.index b [13,10]).toNat + 2)):=by
 induction b with
 | nil => rfl
 | cons c r ih =>
  have hg:=Lib.index_ge r [13,10]
  unfold ziO Lib.index
  by_cases h:c=13∧r.head? = some 10
  ·obtain ⟨rfl,h2⟩:=h
   cases r with
   | nil => simp at h2
   | cons d r => simp at h2; subst h2; simp [List.isPrefixOf]
  ·rw [if_neg h]
   have hp:List.isPrefixOf [13,10] (c::r)=false:=by
    cases r with
    | nil => simp [List.isPrefixOf]
    | cons d r => simp [List.isPrefixOf] at h ⊢; intro h1 h2; exact h h1.symm h2.symm
   rw [hp,ih]
   by_cases h3:Lib.index r [13,10] = -1
   ·simp [h3]
   ·have h4:¬ (Lib.index r [13,10] == -1)=true:=by simpa using h3
    simp only [Bool.false_eq_true,if_false,h3,h4]
    have h5:¬ Lib.index r [13,10] + 1 = -1:=by omega
    rw [if_neg h5]
    have h6:(Lib.index r [13,10] + 1).toNat=(Lib.index r [13,10]).toNat + 1:=by omega
    rw [h6]
    simp [Nat.add_right_comm]
def spF (c:UInt8):List UInt8→List (List UInt8)
 | [] => [[]]
 | d::r => if d=c then []::spF c r else match spF c r with
  | [] => [[d]]
  | w::ws => (d::w)::ws
theorem zjF (c:UInt8) (l:List UInt8):spF c l≠[]:=by
 cases l with
 | nil => simp [spF]
 | cons d r => unfold spF; split <;> (try simp); split <;> simp
theorem ziI (c:UInt8) (l:List UInt8):(Lib.index l [c] = -1∧l.count c=0∧spF c l=[l])∨(∃ i:Nat,Lib.index l [c]=i∧i < l.length∧l.count c=(l.drop (i + 1)).count c + 1∧spF c l=l.take i::spF c (l.drop (i + 1))):=by
 induction l with
 | nil => left; exact ⟨rfl,rfl,rfl⟩
 | cons d r ih =>
  by_cases h:d=c
  ·subst h
   right
   refine ⟨0,by unfold Lib.index; simp [List.isPrefixOf],by simp,by simp,?_⟩
   rw [spF,if_pos rfl]; simp
  ·have hp:List.isPrefixOf [c] (d::r)=false:=by simp [List.isPrefixOf]; exact fun h2 => h h2.symm
   rcases ih with ⟨h1,h2,h3⟩ | ⟨i,h1,h2,h3,h4⟩
   ·left
    refine ⟨by unfold Lib.index; rw [hp]; simp [h1],by simp [List.count_cons,h,h2],?_⟩
    rw [spF,if_neg h,h3]
   ·right
    refine ⟨i + 1,?_,by simp; omega,?_,?_⟩
    ·unfold Lib.index; rw [hp,h1]
     have:¬ ((i:Int) == -1)=true:=by simp
     simp only [Bool.false_eq_true,if_false]
     rw [if_neg this]; omega
    ·rw [List.drop_succ_cons,List.count_cons,h3]; simp [h]
    ·rw [spF,if_neg h,h4]; simp
theorem splitK_sp (c:UInt8) (l:List UInt8):Lib.splitK [c] 0 (l.count c) l=spF c l:=by
 induction l using (measure List.length).wf.induction with
 | _ l ih =>
  rcases ziI c l with ⟨h1,h2,h3⟩ | ⟨i,h1,h2,h3,h4⟩
  ·rw [h2,h3]; rfl
  ·rw [h3,h4]
   unfold Lib.splitK
   have h5:¬ (Lib.index l [c] == -1)=true:=by rw [h1]; simp
   rw [if_neg h5,h1]
   simp only [Int.toNat_natCast,Nat.add_zero,List.length_singleton]
   rw [ih (l.drop (i + 1)) (show (List.drop _ _).length < _ by simp; omega)]
theorem count_c (c:UInt8) (n:Nat) (l:List UInt8) (h:l.length < n):Lib.countFrom [c] n l=l.count c:=by
 induction n generalizing l with
 | zero => omega
 | succ n ih =>
  unfold Lib.countFrom
  rcases ziI c l with ⟨h1,h2,h3⟩ | ⟨i,h1,h2,h3,h4⟩
  ·rw [h1,h2]; rfl
  ·have h5:¬ (Lib.index l [c] == -1)=true:=by rw [h1]; simp
   rw [if_neg h5,h1,h3]
   simp only [Int.toNat_natCast,List.length_singleton]
   rw [ih _ (by simp; omega)]; omega
def zbl (c:UInt8):Bool:=c=9 || c=32
theorem zg1 (p:UInt8→Bool) (l:List UInt8):(l.dropWhile p).length≤l.length:=by
 induction l with
 | nil => simp
 | cons c l ih => rw [List.dropWhile_cons]; split <;> simp; omega
def tl (p:UInt8→Bool) (l:List UInt8):List UInt8:=l.dropWhile p
def tr (p:UInt8→Bool) (l:List UInt8):List UInt8:=(l.reverse.dropWhile p).reverse
theorem zfL (p:UInt8→Bool) (l:List UInt8) (c:UInt8):tr p (l++[c])=if p c then tr p l else l++[c]:=by
 unfold tr
 rw [List.reverse_append]
 simp only [List.reverse_cons,List.reverse_nil,List.nil_append,List.singleton_append,List.dropWhile_cons]
 split <;> simp
theorem tl_snoc (p:UInt8→Bool) (l:List UInt8) (c:UInt8):tl p (l++[c])=if tl p l=[] then (if p c then [] else [c]) else tl p l++[c]:=by
 induction l with
 | nil => simp [tl,List.dropWhile_cons]
 | cons d l ih =>
  unfold tl at ih ⊢
  simp only [List.cons_append,List.dropWhile_cons]
  split
  ·exact ih
  ·simp
theorem zeH (l:List UInt8):l=[]∨∃ k c,l=k++[c]:=by
 rcases List.eq_nil_or_concat l with h | ⟨k,c,h⟩
 ·exact .inl h
 ·exact .inr ⟨k,c,by simpa using h⟩
theorem tl_tr (p:UInt8→Bool) (l:List UInt8):tl p (tr p l)=tr p (tl p l):=by
 induction l using (measure List.length).wf.induction with
 | _ l ih =>
  rcases zeH l with rfl | ⟨k,c,rfl⟩
  ·rfl
  ·rw [zfL,tl_snoc]
   have hk:=ih k (show k.length < (k++[c]).length by simp)
   by_cases hc:p c=true
   ·rw [if_pos hc,hk]
    by_cases h2:tl p k=[]
    ·rw [if_pos h2,if_pos hc,h2]
    ·rw [if_neg h2,zfL,if_pos hc]
   ·rw [if_neg hc,tl_snoc]
    by_cases h2:tl p k=[]
    ·rw [if_pos h2,if_neg hc]
     have:=zfL p [] c
     rw [if_neg hc] at this
     exact this.symm
    ·rw [if_neg h2,zfL,if_neg hc]
def zc4 (l:List UInt8):List UInt8:=tr zbl (tl zbl l)
theorem zij (l:List UInt8):Lib.trimS l [9,32]=zc4 l:=by
 have h:(fun c => ([9,32]:List UInt8).contains c)=zbl:=by
  funext c
  simp [zbl,List.contains_cons]
 unfold Lib.trimS Lib.trimLeftS Lib.trimRightS zc4
 rw [h]
 exact tl_tr zbl l
theorem tl_all (p:UInt8→Bool) (l:List UInt8):tl p l=[]↔l.all p=true:=by
 induction l with
 | nil => simp [tl]
 | cons c l ih =>
  unfold tl at ih ⊢
  rw [List.dropWhile_cons]
  split
  ·rename_i h; rw [ih]; simp [h]
  ·rename_i h; simp [h]
theorem zkx (l cs:List UInt8):Lib.trimS l cs=[]↔l.all (fun c => cs.contains c)=true:=by
 have h:Lib.trimS l cs=tl (fun c => cs.contains c) (tr (fun c => cs.contains c) l):=rfl
 rw [h,tl_tr]
 constructor
 ·intro h2
  apply (tl_all _ _).1
  rcases zeH (tl (fun c => cs.contains c) l) with h3 | ⟨k,c,h3⟩
  ·exact h3
  ·exfalso
   -- what is left begins with a byte that is none
   have hne:∀ k:List UInt8,k.all (fun c => cs.contains c)=false→tr (fun c => cs.contains c) k≠[]:=by
    intro k hk h9
    unfold tr at h9
    rw [List.reverse_eq_nil_iff] at h9
    have:=(tl_all (fun c => cs.contains c) k.reverse).1 h9
    rw [List.all_reverse] at this
    rw [this] at hk; cases hk
   have hd:∀ m:List UInt8,tl (fun c => cs.contains c) m≠[]→(tl (fun c => cs.contains c) m).all (fun c => cs.contains c)=false:=by
    intro m hm
    induction m with
    | nil => exact absurd rfl hm
    | cons d m ih =>
     unfold tl at ih hm ⊢
     rw [List.dropWhile_cons] at hm ⊢
     split at hm
     ·rename_i hd; rw [if_pos hd]; exact ih hm
     ·rename_i hd; rw [if_neg hd]; simp at hd; simp [hd]
   exact hne _ (hd l (by rw [h3]; simp)) h2
 ·intro h2
  rw [(tl_all _ _).2 h2]; rfl
def lowB (c:UInt8):UInt8:=if 65≤c∧c≤90 then c + 32 else c
def zbC (l:List UInt8):List UInt8:=l.map lowB
def zku (c:UInt8):Bool:=!(c≠9 && c < 32) && c≠127
def zeP (l:List UInt8):Bool:=l.all zku && decide (zc4 l=l)
theorem trim_same (l:List UInt8):zc4 l=l↔(l=[]∨(zbl (l.getD 0 0)=false∧zbl (l.getD (l.length - 1) 0)=false)):=by
 constructor
 ·intro h
  by_cases h0:l=[]
  ·exact .inl h0
  ·right
   have hlen:(tl zbl l).length≤l.length:=by unfold tl; exact zg1 _ _
   have hlen2:(tr zbl (tl zbl l)).length≤(tl zbl l).length:=by unfold tr; rw [List.length_reverse]; exact Nat.le_trans (zg1 _ _) (by simp)
   have e:(tr zbl (tl zbl l)).length=l.length:=by show (zc4 l).length=_; rw [h]
   constructor
   ·cases l with
    | nil => exact absurd rfl h0
    | cons c l =>
     show zbl c=false
     cases hb:zbl c with
     | false => rfl
     | true =>
      exfalso
      have:tl zbl (c::l)=tl zbl l:=by unfold tl; rw [List.dropWhile_cons,if_pos hb]
      have h3:(tl zbl l).length≤l.length:=by unfold tl; exact zg1 _ _
      rw [this] at hlen2 e
      simp at e; omega
   ·rcases zeH l with h1 | ⟨k,c,rfl⟩
    ·exact absurd h1 h0
    ·have:(k++[c]).getD ((k++[c]).length - 1) 0=c:=by simp
     rw [this]
     cases hb:zbl c with
     | false => rfl
     | true =>
      exfalso
      have h2:zc4 (k++[c])=tl zbl (tr zbl (k++[c])):=(tl_tr _ _).symm
      rw [zfL,if_pos hb] at h2
      have h3:(tl zbl (tr zbl k)).length≤k.length:=by
       refine Nat.le_trans (zg1 _ _) ?_
       unfold tr; rw [List.length_reverse]; exact Nat.le_trans (zg1 _ _) (by simp)
      rw [← h2,h] at h3
      simp at h3; omega
 ·rintro (rfl | ⟨h1,h2⟩)
  ·rfl
  ·have ha:tl zbl l=l:=by
    cases l with
    | nil => rfl
    | cons c l => unfold tl; rw [List.dropWhile_cons,if_neg (by rw [show zbl c=false from h1]; simp)]
   unfold zc4
   rw [ha]
   rcases zeH l with rfl | ⟨k,c,rfl⟩
   ·rfl
   ·have:(k++[c]).getD ((k++[c]).length - 1) 0=c:=by simp
    rw [this] at h2
    rw [zfL,if_neg (by rw [h2]; simp)]
def LET:List UInt8:=[48,49,50,51,52,53,54,55,56,57,65,66,67,68,69,70,71,72,73,74,75,76,77,78,79,80,81,82,83,84,85,86,87,88,89,90,97,98,99,100,101,102,103,104,105,106,107,108,109,110,111,112,113,114,115,116,117,118,119,120,121,122,33,35,36,37,38,39,42,43,45,46,94,95,96,124,126]
def zgW (c:UInt8):Bool :=
 decide ((((48≤c.toNat∧c.toNat≤57)∨(65≤c.toNat∧c.toNat≤90))∨(97≤c.toNat∧c.toNat≤122)) ∨
  (c.toNat=33∨(35≤c.toNat∧c.toNat≤39)∨c.toNat=42∨c.toNat=43∨c.toNat=45∨c.toNat=46∨(94≤c.toNat∧c.toNat≤96)∨c.toNat=124∨c.toNat=126))
theorem let_all:((List.range 256).all fun n => zgW (UInt8.ofNat n) == LET.contains (UInt8.ofNat n))=true:=by decide +kernel
theorem let_eq (c:UInt8):zgW c=LET.contains c:=by
 have h:=List.all_eq_true.1 let_all c.toNat (List.mem_range.2 (by have:=c.toNat_lt; omega))
 rw [UInt8.ofNat_toNat] at h
 exact eq_of_beq h
def zd1 (s:List UInt8) (most:Int):Bool:=decide (1≤s.length∧(s.length:Int)≤most) && s.all zgW
def zeX (s:List UInt8):Bool:=decide (s.head? = some 47) && s.all fun c => decide (33≤c.toNat∧c.toNat≤126)
def allF (fs:List (List UInt8×List UInt8)) (name:List UInt8):List (List UInt8):=(fs.filter fun f => zbC f.1=zbC name).map (·.2)
def zbA (fs:List (List UInt8×List UInt8)) (name:List UInt8):List UInt8×Nat:=((allF fs name).headD [],(allF fs name).length)
def HOST:List UInt8:=[104,111,115,116]
def zgX (fs:List (List UInt8×List UInt8)) (minor:Int):Bool:=decide ((zbA fs HOST).2=1∨((zbA fs HOST).2=0∧minor=0))
abbrev Fld:=List UInt8×List UInt8
structure HeadV where
  m:List UInt8
  t:List UInt8
  minor:Int
  fs:List Fld
deriving DecidableEq
def HeadV.zero:HeadV:=⟨[],[],0,[]⟩
def zkT (f:Fld):Bool:=zd1 f.1 64 && zeP f.2
def okF (h:HeadV):Bool :=
 zd1 h.m 16 && decide (h.t.length≤2048) && zeX h.t && decide (0≤h.minor∧h.minor≤1) && decide (h.fs.length≤32) && h.fs.all zkT && zgX h.fs h.minor
def HTTP1:List UInt8:=[72,84,84,80,47,49,46]
def fieldB (f:Fld):List UInt8:=f.1++58::32::f.2
def ze0:List Fld→List UInt8
 | [] => [13,10]
 | f::fs => fieldB f++13::10::ze0 fs
def lineB (h:HeadV):List UInt8:=h.m++32::(h.t++32::(HTTP1++[UInt8.ofNat (48 + h.minor.toNat)]))
def headB (h:HeadV):List UInt8:=lineB h++13::10::ze0 h.fs
def cutC (c:UInt8):List UInt8→Option (List UInt8×List UInt8)
 | [] => none
 | a::r => if a=c then some ([],r) else (cutC c r).map fun p => (a::p.1,p.2)
def verF (v:List UInt8):Bool :=
 decide (v.length=8) && decide (v.take 5=[72,84,84,80,47]) && decide (48≤v.getD 5 0∧v.getD 5 0≤57) && decide (v.getD 6 0=46) && decide (48≤v.getD 7 0∧v.getD 7 0≤57)
def zbs:List (List UInt8)→Nat→Int ⊕ List Fld
 | [],_ => .inr []
 | x::r,n => if n=32 then .inl 431 else
  match cutC 58 x with
  | none => .inl 400
  | some (k,v) => if zd1 k 64 && zeP (zc4 v) then
    (match zbs r (n + 1) with | .inl s => .inl s | .inr fs => .inr ((k,zc4 v)::fs))
   else .inl 400
def headF (l0:List UInt8) (ls:List (List UInt8)):HeadV×Int :=
 match spF 32 l0 with
 | [m,t,v] =>
  if m=[]∨t=[]∨v=[]∨zd1 m 16=false then (.zero,400)
  else if verF v=false then (.zero,400)
  else if v.getD 5 0≠49∨49 < v.getD 7 0 then (.zero,505)
  else if 2048 < t.length then (.zero,414)
  else if zeX t=false then (.zero,400)
  else match zbs ls 0 with
   | .inl s => (.zero,s)
   | .inr fs => if zgX fs ((v.getD 7 0 - 48).toNat:Int) then (⟨m,t,((v.getD 7 0 - 48).toNat:Int),fs⟩,200) else (.zero,400)
 | _ => (.zero,400)
def zaT (b:List UInt8):HeadV×Int :=
 if 4096 < b.length then (.zero,431)
 else match zbZ b with
  | none => (.zero,400)
  | some [] => (.zero,400)
  | some (l0::ls) => headF l0 ls
theorem zhZ {b:List UInt8}{ls:List (List UInt8)}(h:zbZ b=some ls):b.length=((ls.map fun l => l.length + 2).sum) + 2:=by
 induction b using (measure List.length).wf.induction generalizing ls with
 | _ b ih =>
  rw [zbZ] at h
  split at h
  ·cases h
  ·rename_i l r hc
   have hb:=zg3 hc
   split at h
   ·cases h
   ·split at h
    ·rename_i h1 h2
     split at h
     ·rename_i h3
      cases h; subst h3; subst h2; rw [hb]; rfl
     ·cases h
    ·cases hr:zbZ r with
     | none => rw [hr] at h; cases h
     | some ks =>
      rw [hr] at h
      cases h
      have:=ih r (show r.length < b.length by rw [hb]; simp; omega) hr
      rw [hb]
      simp only [List.length_append,List.length_cons,List.map_cons,List.sum_cons,this]
      omega
theorem cutC_len {c:UInt8}{x l r:List UInt8}(h:cutC c x=some (l,r)):x=l++c::r:=by
 induction x generalizing l with
 | nil => simp [cutC] at h
 | cons a x ih =>
  unfold cutC at h
  split at h
  ·rename_i h1; subst h1; cases h; rfl
  ·cases hc:cutC c x with
   | none => rw [hc] at h; cases h
   | some p => rw [hc] at h; cases h; rw [ih (l:=p.1) (by rw [hc])]; rfl
theorem trimF_le (l:List UInt8):(zc4 l).length≤l.length:=by
 have h1:=zg1 zbl l
 have h2:=zg1 zbl (l.dropWhile zbl).reverse
 simp only [zc4,tl,tr,List.length_reverse] at *
 omega
theorem fields_of (ls:List (List UInt8)) (n:Nat) (fs:List Fld) (hn:n≤32) (h:zbs ls n = .inr fs) :
  fs.all zkT=true∧n + fs.length≤32∧(ze0 fs).length≤(ls.map fun l => l.length + 2).sum + 2 + fs.length:=by
 induction ls generalizing n fs with
 | nil => cases h; simp [ze0,hn]
 | cons x ls ih =>
  rw [zbs] at h
  split at h
  ·cases h
  ·rename_i hne
   split at h
   ·cases h
   ·rename_i k v hc
    split at h
    ·rename_i hok
     cases hr:zbs ls (n + 1) with
     | inl s => rw [hr] at h; cases h
     | inr gs =>
      rw [hr] at h
      cases h
      obtain ⟨i1,i2,i3⟩:=ih (n + 1) gs (by omega) hr
      have hx:=cutC_len hc
      have hv:=trimF_le v
      refine ⟨?_,?_,?_⟩
      ·rw [List.all_cons,i1,zkT]; simp only [hok,Bool.and_self]
      ·simp only [List.length_cons]; omega
      ·simp only [ze0,fieldB,List.length_append,List.length_cons,List.map_cons,List.sum_cons,hx]
       omega
    ·cases h
theorem spF_join {c:UInt8}{l:List UInt8}{a b d:List UInt8}(h:spF c l=[a,b,d]):l=a++c::(b++c::d):=by
 have one:∀ (l a:List UInt8) (r:List (List UInt8)),spF c l=a::r→(r=[]∧l=a)∨(∃ k,l=a++c::k∧spF c k=r):=by
  intro l
  induction l with
  | nil => intro a r h; simp [spF] at h; exact .inl ⟨h.2,h.1.symm⟩
  | cons x l ih =>
   intro a r h
   rw [spF] at h
   split at h
   ·rename_i h1; cases h; subst h1; exact .inr ⟨l,rfl,rfl⟩
   ·cases hl:spF c l with
    | nil => exact absurd hl (zjF c l)
    | cons y ys =>
     rw [hl] at h
     simp at h
     obtain ⟨rfl,rfl⟩:=h
     rcases ih y ys hl with ⟨h1,h2⟩ | ⟨k,h1,h2⟩
     ·exact .inl ⟨h1,by rw [h2]⟩
     ·exact .inr ⟨k,by rw [h1]; rfl,h2⟩
 rcases one l a _ h with ⟨h1,_⟩ | ⟨k,h1,h2⟩
 ·cases h1
 ·rcases one k b _ h2 with ⟨h3,_⟩ | ⟨j,h3,h4⟩
  ·cases h3
  ·rcases one j d _ h4 with ⟨_,h5⟩ | ⟨i,h5,h6⟩
   ·rw [h1,h3,h5]
   ·exact absurd h6 (zjF c i)
theorem byte_minor:∀ c:UInt8,(48≤c∧c≤57)→¬ 49 < c→(c - 48).toNat≤1:=by
 intro c h1 h2
 have h3:c=48∨c=49:=by
  have a1:48≤c.toNat:=h1.1
  have a2:¬ 49 < c.toNat:=h2
  have:c.toNat=48∨c.toNat=49:=by omega
  rcases this with h | h
  ·exact .inl (UInt8.toNat_inj.1 h)
  ·exact .inr (UInt8.toNat_inj.1 h)
 rcases h3 with rfl | rfl <;> decide
theorem back2 (b:List UInt8) (z:HeadV) (h:zaT b=(z,200)):okF z=true∧(headB z).length≤b.length + 32:=by
 rw [zaT] at h
 split at h
 ·cases h
 ·split at h
  ·cases h
  ·cases h
  ·rename_i hb l0 ls hl
   rw [headF] at h
   split at h
   ·rename_i m t v hsp
    split at h
    ·cases h
    ·rename_i c1
     split at h
     ·cases h
     ·rename_i c2
      split at h
      ·cases h
      ·rename_i c3
       split at h
       ·cases h
       ·rename_i c4
        split at h
        ·cases h
        ·rename_i c5
         split at h
         ·rename_i s hs
          have:s=200:=by injection h
          subst this
          exfalso
          revert hs
          have key:∀ (ls:List (List UInt8)) (n:Nat),zbs ls n≠.inl 200:=by
           intro ls
           induction ls with
           | nil => intro n h; cases h
           | cons x ls ih =>
            intro n h
            rw [zbs] at h
            split at h
            ·injection h with h; revert h; decide
            ·split at h
             ·injection h with h; revert h; decide
             ·split at h
              ·split at h
               ·rename_i s hs; injection h with h; subst h; exact ih _ hs
               ·cases h
              ·injection h with h; revert h; decide
          exact key ls 0
         ·rename_i fs hf
          split at h
          ·rename_i hh
           cases h
           obtain ⟨f1,f2,f3⟩:=fields_of ls 0 fs (by omega) hf
           have hlen:=zhZ hl
           have hj:=spF_join hsp
           simp only [verF,Bool.and_eq_false_iff,not_or,Bool.not_eq_false,decide_eq_true_eq] at c2
           simp only [not_or,Bool.not_eq_false] at c1 c3 c5
           have hmin:=byte_minor _ c2.2 c3.2
           refine ⟨?_,?_⟩
           ·simp only [okF,Bool.and_eq_true,decide_eq_true_eq]
            refine ⟨⟨⟨⟨⟨⟨c1.2.2.2,by omega⟩,c5⟩,by omega⟩,by omega⟩,f1⟩,hh⟩
           ·have hv:v.length=8:=c2.1.1.1.1
            have h7:HTTP1.length=7:=rfl
            simp only [headB,lineB,List.length_append,List.length_cons,List.length_nil,List.map_cons,List.sum_cons,h7] at hlen ⊢
            rw [hj] at hlen
            simp only [List.length_append,List.length_cons] at hlen
            omega
          ·cases h
   ·cases h
def CLEN:List UInt8:=[99,111,110,116,101,110,116,45,108,101,110,103,116,104]
def TENC:List UInt8:=[116,114,97,110,115,102,101,114,45,101,110,99,111,100,105,110,103]
def CONN:List UInt8:=[99,111,110,110,101,99,116,105,111,110]
def CLOSE:List UInt8:=[99,108,111,115,101]
def ALIVE:List UInt8:=[107,101,101,112,45,97,108,105,118,101]
def zeO (s:List UInt8):Option Nat:=if s.length≤10 then Go.Lib.decNat s else none
def zaQ (fs:List Fld):Int×Int :=
 if 0 < (zbA fs TENC).2 then (0,501)
 else match allF fs CLEN with
  | [] => (-1,200)
  | f::r => if r.all (fun s => decide (s=f)) then
    (match zeO f with
     | none => (0,400)
     | some n => if 65535 < n then (0,413) else ((n:Int),200))
   else (0,400)
def wordsF (fs:List Fld):List (List UInt8):=(allF fs CONN).flatMap fun v => (spF 44 v).map fun x => zbC (zc4 x)
def zeZ:Bool→List (List UInt8)→Bool
 | k,[] => k
 | k,w::r => if w=CLOSE then false else zeZ (k || decide (w=ALIVE)) r
def zfn (fs:List Fld) (minor:Int):Bool:=zeZ (decide (minor=1)) (wordsF fs)
theorem dec_all (s:List UInt8) (n:Nat):(Go.Lib.decFrom n s).isSome=s.all fun c => decide (48≤c.toNat∧c.toNat≤57):=by
 induction s generalizing n with
 | nil => rfl
 | cons a s ih =>
  rw [Go.Lib.decFrom,List.all_cons]
  by_cases h:48≤a.toNat∧a.toNat≤57
  ·rw [Go.Lib.digitVal,if_pos h]; simp only [ih,h,and_self,decide_true,Bool.true_and]
  ·rw [Go.Lib.digitVal,if_neg h]; simp [h]
def DIG:List UInt8:=[48,49,50,51,52,53,54,55,56,57]
theorem dig_all:((List.range 256).all fun n => (decide (48≤(UInt8.ofNat n).toNat∧(UInt8.ofNat n).toNat≤57)) == DIG.contains (UInt8.ofNat n))=true:=by decide +kernel
theorem dig_eq (c:UInt8):decide (48≤c.toNat∧c.toNat≤57)=DIG.contains c:=by
 have h:=List.all_eq_true.1 dig_all c.toNat (List.mem_range.2 (by have:=c.toNat_lt; omega))
 rw [UInt8.ofNat_toNat] at h
 exact eq_of_beq h
theorem size_some (s:List UInt8):(zeO s).isSome=(decide (s≠[]) && decide (s.length≤10) && decide (Go.Lib.trimS s DIG=[])):=by
 rw [zeO]
 by_cases h:s.length≤10
 ·rw [if_pos h,Go.Lib.decNat]
  cases s with
  | nil => rfl
  | cons a s =>
   have h1:(Go.Lib.trimS (a::s) DIG=[])↔((a::s).all fun c => decide (48≤c.toNat∧c.toNat≤57))=true:=by
    rw [zkx]; simp only [dig_eq]
   simp only [List.isEmpty_cons,Bool.false_eq_true,if_false,dec_all,ne_eq,reduceCtorEq,not_false_eq_true,decide_true,Bool.true_and,h]
   by_cases h2:((a::s).all fun c => decide (48≤c.toNat∧c.toNat≤57))=true
   ·rw [h2,decide_eq_true (h1.2 h2)]
   ·rw [Bool.not_eq_true] at h2
    rw [h2,decide_eq_false (fun h3 => by rw [h1.1 h3] at h2; cases h2)]
 ·rw [if_neg h]; simp [h]
theorem size_atoi {s:List UInt8}{n:Nat}(h:zeO s=some n):Go.Lib.atoi s=some (n:Int):=by
 rw [zeO] at h
 split at h
 ·cases s with
  | nil => cases h
  | cons a s =>
   have h1:=dec_all (a::s) 0
   have h2:Go.Lib.decFrom 0 (a::s)=some n:=h
   rw [h2] at h1
   have h3:48≤a.toNat:=by
    have:=List.all_eq_true.1 h1.symm a (by simp)
    simp only [decide_eq_true_eq] at this; exact this.1
   have h4:(a == 45)=false:=by
    rw [beq_eq_false_iff_ne]; rintro rfl; revert h3; decide
   have h5:(a == 43)=false:=by
    rw [beq_eq_false_iff_ne]; rintro rfl; revert h3; decide
   rw [Go.Lib.atoi]
   simp only [h4,h5,Bool.false_eq_true,if_false,h,Option.map_some]
 ·cases h
theorem size_lt {s:List UInt8}{n:Nat}(h:zeO s=some n):n < 10000000000:=by
 have key:∀ (s:List UInt8) (a n:Nat),Go.Lib.decFrom a s=some n→n < (a + 1) * 10 ^ s.length:=by
  intro s
  induction s with
  | nil => intro a n h; cases h; simp
  | cons c s ih =>
   intro a n h
   rw [Go.Lib.decFrom] at h
   split at h
   ·rename_i d hd
    have h1:=ih _ _ h
    have hd1:d≤9:=by
     rw [Go.Lib.digitVal] at hd
     split at hd
     ·cases hd; omega
     ·cases hd
    rw [List.length_cons,Nat.pow_succ]
    have h2:(a * 10 + d + 1) * 10 ^ s.length≤(a + 1) * 10 * 10 ^ s.length:=Nat.mul_le_mul_right _ (by omega)
    have h3:(a + 1) * 10 * 10 ^ s.length=(a + 1) * (10 ^ s.length * 10):=by rw [Nat.mul_assoc,Nat.mul_comm 10]
    omega
   ·cases h
 rw [zeO] at h
 split at h
 ·rename_i hl
  rw [Go.Lib.decNat] at h
  split at h
  ·cases h
  ·have h1:=key _ _ _ h
   have h2:10 ^ s.length≤10 ^ 10:=Nat.pow_le_pow_right (by decide) hl
   have h3:(10:Nat) ^ 10=10000000000:=by decide
   omega
 ·cases h
end Go.Proofs.YtbfabhdfmoiabaaGreatDoor
namespace Go.Proofs.YtbfabhdfmoiabaaGreatDoor
set_option linter.unusedVariables false
set_option linter.unusedSimpArgs false
set_option maxRecDepth 100000
def zcw (f:UInt8→UInt8) (l:List UInt8) (k:Nat):List UInt8:=(l.take k).map f++l.drop k
theorem zaV (f:UInt8→UInt8) (l:List UInt8) (k:Nat):(zcw f l k).length=l.length:=by simp [zcw]; omega
theorem mapTo_zero (f:UInt8→UInt8) (l:List UInt8):zcw f l 0=l:=by simp [zcw]
theorem mapTo_all (f:UInt8→UInt8) (l:List UInt8):zcw f l l.length=l.map f:=by simp [zcw]
theorem zgV (f:UInt8→UInt8) (l:List UInt8) (k:Nat) (h:k < l.length):(zcw f l k).getD k 0=l.getD k 0:=by
 have hl:((l.take k).map f).length=k:=by simp; omega
 simp only [zcw,List.getD]
 rw [List.getElem?_append_right (by omega),hl,Nat.sub_self,List.getElem?_drop,Nat.add_zero]
theorem zjR (f:UInt8→UInt8) (l:List UInt8) (k:Nat) (h:k < l.length):(zcw f l k).set k (f (l.getD k 0))=zcw f l (k + 1):=by
 have hl:((l.take k).map f).length=k:=by simp; omega
 unfold zcw
 rw [List.set_append_right _ _ (by omega),hl,Nat.sub_self]
 rw [List.drop_eq_getElem_cons h,List.set_cons_zero]
 rw [List.take_succ_eq_append_getElem h,List.map_append]
 simp [List.getD,h]
theorem mapTo_same (f:UInt8→UInt8) (l:List UInt8) (k:Nat) (h:k < l.length) (hf:f (l.getD k 0)=l.getD k 0):zcw f l (k + 1)=zcw f l k:=by
 rw [← zjR f l k h,hf,← zgV f l k h]
 apply List.ext_getElem (by simp)
 intro i h1 h2
 rw [List.getElem_set]
 split
 ·rename_i h3; subst h3; simp [List.getD,h2]
 ·rfl
theorem lowB_up {c:UInt8}(h:(65:Int)≤(c.toNat:Int)∧(c.toNat:Int)≤90):lowB c=c + 32:=by
 rw [lowB,if_pos ⟨by show (65:Nat)≤c.toNat; omega,by show c.toNat≤90; omega⟩]
theorem lowB_no {c:UInt8}(h:¬ ((65:Int)≤(c.toNat:Int)∧(c.toNat:Int)≤90)):lowB c=c:=by
 rw [lowB,if_neg]
 rintro ⟨h1,h2⟩
 have h1:(65:Nat)≤c.toNat:=h1
 have h2:c.toNat≤90:=h2
 omega
theorem add32 {c:UInt8}(h:(65:Int)≤(c.toNat:Int)∧(c.toNat:Int)≤90):IntKind.u8.wrap ((c.toNat:Int) + 32)=((lowB c).toNat:Int):=by
 rw [lowB_up h,UInt8.toNat_add]
 have h2:(c.toNat + (32:UInt8).toNat) % 2 ^ 8=c.toNat + 32:=by
  rw [show (32:UInt8).toNat=32 from rfl]; omega
 rw [h2]
 exact w8 (by omega) (by omega)
theorem ziC {w0:World}{base:Nat}{H:List Seg}{l:List UInt8}(hl:l.length≤140737488355000) :
  SCalls Tryz.prog 89 [str l] w0 base (H) (fun v H' => v=str (zbC l)∧H' = H):=by
 refine SCalls.of_walk (n:=29) Tryz.func89 Z Z Z fun cs => ?_
 refine zc<|za<|AtL.assign zg0 Z Z<|AtL.done<|zc<|za ?_
 refine zb zg0 Z Z ?_
 refine zdh (l:=l) Tryz.underlying9 Tryz.underlying34 Tryz.underlying5 (by first | omega | (simp only [List.length_append,List.length_cons,List.length_nil]; omega) | (simp; done) | (simp; omega)) zg0 Z Z ?_
 intro A1 C2 s3 n5 o4
 refine AtL.assign zg0 Z Z<|AtL.done<|zc<|zc<|za<|zb zg0 Z Z ?_
 refine zC Tryz.underlying34 zg0 Z Z<|zb zg0 Z Z<|AtL.done<|At.block<|zcI (fun (k:Nat) (s2:Seg) => [(3,.slice A1 (zcw lowB l k).length C2),(8,.slice A1 (zcw lowB l k).length C2),(9,V (l.length:Int)),(10,V (k:Int))]) (fun (k:Nat) (s2:Seg) => s2::H) (fun (k:Nat) (s2:Seg) => k≤l.length∧Own tyB 5 A1 (C2) (zcw lowB l k) s2) (fun (k:Nat) (s2:Seg) => l.length - k) 0 s3 (⟨Nat.zero_le _,by rw [mapTo_zero]; exact o4⟩) ⟨Z,Z,Z,Z,trivial⟩ Z ?_
 rintro k s2 ⟨hk,ho⟩ ihL1
 have hlen:=zaV lowB l k
 have hcap:=z7 ho
 have hle:=zab ho
 refine zc<|za<|zA zg0 Z Z Z<|AtL.done<|zc<|zq Z ?_ ?_
 ·intro hc1
  refine zj<|zc<|At.block<|zc<|za<|zb zg0 Z Z ?_
  refine zF k (ho.rd (i:=0) Z) Tryz.underlying34 zQ zg0 Z Z Z Z (by omega) ?_
  refine zh (v:=.int .u8 (((zcw lowB l k).getD k 0).toNat:Int)) zS zg0 Z Z (zH (ho.rd (i:=0) Z) (zz 0 (by omega)) Z)<|AtL.assign zg0 Z Z<|AtL.assign zg0 Z Z<|AtL.done<|zc<|za ?_
  refine zb zg0 Z Z<|zbu zg0 Z Z Z<|zb zg0 Z Z<|zy 3 (E':=[(20,.bool (decide ((65≤(((zcw lowB l k).getD k 0).toNat:Int))∧((((zcw lowB l k).getD k 0).toNat:Int)≤90)))),(3,.slice A1 (zcw lowB l k).length C2),(4,V (k:Int)),(5,.int .u8 (((zcw lowB l k).getD k 0).toNat:Int)),(8,.slice A1 (zcw lowB l k).length C2),(9,V (l.length:Int)),(10,V (k:Int))]) (fun J => ?_) ?_
  ·refine zD (t:=17) Z ?_ ?_
   ·intro hs17
    refine zb (.inr ⟨_,_,_,Z,Z,Z,Z⟩) Z Z<|zbd (.inr ⟨_,_,_,Z,Z,Z,Z⟩) Z Z Z<|zn zg0 Z Z Z ?_
    exact J _ (by exact ⟨(zw (by clear J; first | (simp [hs17]; done) | (simp_all; done) | grind)),Z,Z,Z,Z,Z,Z,trivial⟩)
   ·intro hs17
    refine ze Z Z Z Z Z Z<|ze Z Z Z Z Z Z<|zm zg0 Z Z Z ?_
    exact J _ (by exact ⟨(zw (by clear J; first | (simp [hs17]; done) | (simp_all; done) | grind)),Z,Z,Z,Z,Z,Z,trivial⟩)
  ·refine AtL.done<|zq Z ?_ ?_
   ·intro hc2
    refine za<|zb zg0 Z Z<|zb zg0 Z Z<|zb zg0 Z Z<|AtL.add (z:=(lowB ((zcw lowB l k).getD k 0)).toNat) zg0 Z Z Z (add32 hc2) ?_
    refine zF k (ho.rd (i:=0) Z) Tryz.underlying34 zQ zg0 Z Z Z Z (by omega) ?_
    refine zeN (u:=(lowB ((zcw lowB l k).getD k 0))) 0 k zQ Z ho (by omega) zg0 Z Z ?_
    intro s6 o7
    refine zfD (m:=((zcw lowB l k).set k (lowB ((zcw lowB l k).getD k 0))).length) 3 Z (List.length_set)<|zfD (m:=((zcw lowB l k).set k (lowB ((zcw lowB l k).getD k 0))).length) 8 Z (List.length_set)<|AtL.done<|zp<|za ?_
    refine AtL.add (z:=(k:Int) + 1) zg0 Z Z Z (w64 (by omega) (by omega))<|zb zg0 Z Z<|AtL.done ?_
    refine ihL1 (k + 1) s6 (⟨by omega,by rw [← zjR _ _ _ (by omega),← zgV lowB l k (by omega)]; exact o7⟩) (by omega) _ ?_
    exact ⟨(by first | rfl | exact zaf (by simp [zaV]) | exact zah (by omega) | exact zah (by simp [zaV]) | exact zaf (by simp [zaV]; omega)),(by first | rfl | exact zaf (by simp [zaV]) | exact zah (by omega) | exact zah (by simp [zaV]) | exact zaf (by simp [zaV]; omega)),Z,(by first | rfl | exact zaf (by simp [zaV]) | exact zah (by omega) | exact zah (by simp [zaV]) | exact zaf (by simp [zaV]; omega)),trivial⟩
   ·intro hc2
    refine zj<|zp<|za ?_
    refine AtL.add (z:=(k:Int) + 1) zg0 Z Z Z (w64 (by omega) (by omega))<|zb zg0 Z Z<|AtL.done ?_
    refine ihL1 (k + 1) s2 (⟨by omega,by rw [mapTo_same _ _ _ (by omega) (by rw [← zgV lowB l k (by omega)]; exact lowB_no hc2)]; exact ho⟩) (by omega) _ ?_
    exact ⟨(by first | rfl | exact zaf (by simp [zaV]) | exact zah (by omega) | exact zah (by simp [zaV]) | exact zaf (by simp [zaV]; omega)),(by first | rfl | exact zaf (by simp [zaV]) | exact zah (by omega) | exact zah (by simp [zaV]) | exact zaf (by simp [zaV]; omega)),Z,(by first | rfl | exact zaf (by simp [zaV]) | exact zah (by omega) | exact zah (by simp [zaV]) | exact zaf (by simp [zaV]; omega)),trivial⟩
 ·intro hc1
  obtain rfl:k=l.length:=by omega
  refine zau Z<|zc<|za<|zb zg0 Z Z<|zev (ho.rd (i:=0) Z) Tryz.underlying34 Tryz.underlying5 Tryz.underlying9 zg0 Z Z<|AtL.assign zg0 Z Z ?_
  refine AtL.done<|At.pick [] 1 Z Z ?_
  exact zt Tryz.func89 Z Z (⟨congrArg str (by rw [mapTo_all,zbC]),Z⟩)
theorem zgM (l:List UInt8) (k:Nat) (h:k < l.length):l.take (k + 1)=l.take k++[l.getD k 0]:=by
 rw [List.take_succ_eq_append_getElem h]; simp [List.getD,h]
theorem zds {p:UInt8→Bool}{l:List UInt8}{k:Nat}(h:k < l.length) (ha:(l.take k).all p=true) (hp:p (l.getD k 0)=true):(l.take (k + 1)).all p=true:=by
 rw [zgM l k h,List.all_append,ha]; simpa using hp
theorem ziT {p:UInt8→Bool}{l:List UInt8}{k:Nat}(h:k < l.length) (hp:p (l.getD k 0)=false):l.all p=false:=by
 rw [List.all_eq_false]
 refine ⟨l.getD k 0,?_,by rw [hp]; simp⟩
 simp [List.getD,h]
theorem ze1 {p:UInt8→Bool}{l:List UInt8}{k:Nat}(h:l.length≤k) (ha:(l.take k).all p=true):l.all p=true:=by
 rw [List.take_of_length_le h] at ha; exact ha
theorem zii {c:UInt8}{n:Nat}(hn:n < 256):(c.toNat:Int)=(n:Int)↔c=UInt8.ofNat n:=by
 constructor
 ·intro h
  have h:c.toNat=n:=by omega
  apply UInt8.toNat_inj.1
  rw [h,UInt8.toNat_ofNat_of_lt' hn]
 ·rintro rfl
  rw [UInt8.toNat_ofNat_of_lt' hn]
theorem digit_ok {w0:World}{base:Nat}{H:List Seg}(c:UInt8) :
  SCalls Tryz.prog 103 [.int .u8 (c.toNat:Int)] w0 base (H) (fun v H' => v = .bool (decide (48≤(c.toNat:Int)∧(c.toNat:Int)≤57))∧H' = H):=by
 refine SCalls.of_walk (n:=9) Tryz.func103 Z Z Z fun cs => ?_
 refine zc<|za<|AtL.assign zg0 Z Z<|AtL.done<|zc<|za ?_
 refine zb zg0 Z Z<|zbu zg0 Z Z Z<|zb zg0 Z Z<|zy 3 (E':=[(8,.bool (decide ((48≤(c.toNat:Int))∧((c.toNat:Int)≤57))))]) (fun J => ?_) ?_
 ·refine zD (t:=5) Z ?_ ?_
  ·intro hs5
   refine zb (.inr ⟨_,_,_,Z,Z,Z,Z⟩) Z Z<|zbd (.inr ⟨_,_,_,Z,Z,Z,Z⟩) Z Z Z<|zn zg0 Z Z Z ?_
   exact J _ (by exact ⟨(zw (by clear J; first | (simp [hs5]; done) | (simp_all; done) | grind)),trivial⟩)
  ·intro hs5
   refine ze Z Z Z Z Z Z<|ze Z Z Z Z Z Z<|zm zg0 Z Z Z ?_
   exact J _ (by exact ⟨(zw (by clear J; first | (simp [hs5]; done) | (simp_all; done) | grind)),trivial⟩)
 ·refine AtL.assign zg0 Z Z<|AtL.done ?_
  exact zt Tryz.func103 Z Z (⟨congrArg Value.bool (decide_eq_decide.2 (by omega)),Z⟩)
theorem blank_ok {w0:World}{base:Nat}{H:List Seg}(c:UInt8) :
  SCalls Tryz.prog 112 [.int .u8 (c.toNat:Int)] w0 base (H) (fun v H' => v = .bool (decide ((c.toNat:Int)=9∨(c.toNat:Int)=32))∧H' = H):=by
 refine SCalls.of_walk (n:=9) Tryz.func112 Z Z Z fun cs => ?_
 refine zc<|za<|AtL.assign zg0 Z Z<|AtL.done<|zc<|za ?_
 refine zb zg0 Z Z<|zW zg0 Z Z Z<|zb zg0 Z Z<|zy 3 (E':=[(8,.bool (decide (((c.toNat:Int)=9)∨((c.toNat:Int)=32))))]) (fun J => ?_) ?_
 ·refine zD (t:=5) Z ?_ ?_
  ·intro hs5
   refine ze Z Z Z Z Z Z<|ze Z Z Z Z Z Z<|zn zg0 Z Z Z ?_
   exact J _ (by exact ⟨(zw (by clear J; first | (simp [hs5]; done) | (simp_all; done) | grind)),trivial⟩)
  ·intro hs5
   refine zb (.inr ⟨_,_,_,Z,Z,Z,Z⟩) Z Z<|zW (.inr ⟨_,_,_,Z,Z,Z,Z⟩) Z Z Z<|zm zg0 Z Z Z ?_
   exact J _ (by exact ⟨(zw (by clear J; first | (simp [hs5]; done) | (simp_all; done) | grind)),trivial⟩)
 ·refine AtL.assign zg0 Z Z<|AtL.done ?_
  exact zt Tryz.func112 Z Z (⟨congrArg Value.bool (decide_eq_decide.2 (by omega)),Z⟩)
def tgtCh (c:UInt8):Bool:=decide (33≤c.toNat∧c.toNat≤126)
theorem tgtCh_yes {c:UInt8}(h:¬ ((c.toNat:Int) < 33∨126 < (c.toNat:Int))):tgtCh c=true:=decide_eq_true (by omega)
theorem tgtCh_no {c:UInt8}(h:(c.toNat:Int) < 33∨126 < (c.toNat:Int)):tgtCh c=false:=decide_eq_false (by omega)
theorem zgL (l:List UInt8):zeX l=(decide (l.head? = some 47) && l.all tgtCh):=rfl
theorem head_47 (l:List UInt8):(l.head? = some 47)↔(l≠[]∧((l.getD 0 0).toNat:Int)=47):=by
 cases l with
 | nil => simp
 | cons c l =>
  simp only [List.head?_cons,Option.some.injEq,ne_eq,reduceCtorEq,not_false_eq_true,true_and]
  exact (zii (c:=c) (n:=47) (by omega)).symm
theorem valCh_yes {c:UInt8}(h:¬ (¬ (c.toNat:Int)=9∧((c.toNat:Int) < 32∨(c.toNat:Int)=127))):zku c=true:=by
 have h9:=zii (c:=c) (n:=9) (by omega)
 have h127:=zii (c:=c) (n:=127) (by omega)
 have hlt:c < 32↔(c.toNat:Int) < 32:=by
  constructor
  ·intro h; have:c.toNat < 32:=h; omega
  ·intro h; show c.toNat < 32; omega
 simp only [zku,Bool.and_eq_true,Bool.not_eq_true',Bool.and_eq_false_iff,decide_eq_false_iff_not,decide_eq_true_eq,ne_eq,Decidable.not_not,hlt]
 by_cases h1:(c.toNat:Int)=9
 ·have:c=9:=h9.1 h1
  subst this; exact ⟨.inl rfl,by decide⟩
 ·refine ⟨.inr (fun h2 => h ⟨h1,.inl h2⟩),fun h2 => h ⟨h1,.inr (h127.2 h2)⟩⟩
theorem valCh_no {c:UInt8}(h:¬ (c.toNat:Int)=9∧((c.toNat:Int) < 32∨(c.toNat:Int)=127)):zku c=false:=by
 have h9:=zii (c:=c) (n:=9) (by omega)
 have h127:=zii (c:=c) (n:=127) (by omega)
 have hlt:c < 32↔(c.toNat:Int) < 32:=by
  constructor
  ·intro h; have:c.toNat < 32:=h; omega
  ·intro h; show c.toNat < 32; omega
 have h1:¬ c=9:=fun h2 => h.1 (h9.2 h2)
 rcases h.2 with h2 | h2
 ·simp only [zku,ne_eq,h1,not_false_eq_true,decide_true,hlt.2 h2,Bool.and_self,Bool.not_true,Bool.false_and]
 ·have:c=127:=h127.1 h2
  subst this; decide
theorem valueF_is (l:List UInt8) (h:l.all zku=true):zeP l=decide (l=[]∨(¬ (((l.getD 0 0).toNat:Int)=9∨((l.getD 0 0).toNat:Int)=32)∧¬ (((l.getD (Int.toNat ((l.length:Int) - 1)) 0).toNat:Int)=9∨((l.getD (Int.toNat ((l.length:Int) - 1)) 0).toNat:Int)=32))):=by
 have key:∀ c:UInt8,zbl c=false↔¬ ((c.toNat:Int)=9∨(c.toNat:Int)=32):=by
  intro c
  have h9:=zii (c:=c) (n:=9) (by omega)
  have h32:=zii (c:=c) (n:=32) (by omega)
  simp only [zbl,Bool.or_eq_false_iff,decide_eq_false_iff_not,not_or]
  exact and_congr (not_congr h9.symm) (not_congr h32.symm)
 rw [show Int.toNat ((l.length:Int) - 1)=l.length - 1 by omega,zeP,h,Bool.true_and]
 exact decide_eq_decide.2 ((trim_same l).trans (by rw [key,key]))
theorem target_ok {w0:World}{base:Nat}{H:List Seg}{l:List UInt8}(hl:l.length≤140737488355000) :
  SCalls Tryz.prog 81 [str l] w0 base (H) (fun v H' => v = .bool (zeX l)∧H' = H):=by
 refine SCalls.of_walk (n:=26) Tryz.func81 Z Z Z fun cs => ?_
 refine zc<|za<|AtL.assign zg0 Z Z<|AtL.done<|zc<|zc ?_
 refine za<|zb zg0 Z Z ?_
 refine zdh (l:=l) Tryz.underlying9 Tryz.underlying34 Tryz.underlying5 (by first | omega | (simp only [List.length_append,List.length_cons,List.length_nil]; omega) | (simp; done) | (simp; omega)) zg0 Z Z ?_
 intro A1 C2 s3 n5 o4
 refine zC Tryz.underlying34 zg0 Z Z<|zb zg0 Z Z<|AtL.done<|At.block<|zcF (fun (k:Nat) => [(0,str l),(6,.slice A1 l.length C2),(7,V (l.length:Int)),(8,V (k:Int))]) (fun (k:Nat) => s3::H) (fun (k:Nat) => k≤l.length∧(l.take k).all tgtCh=true) (fun (k:Nat) => l.length - k) 0 (⟨Nat.zero_le _,Z⟩) ⟨Z,Z,Z,Z,trivial⟩ Z ?_
 rintro k ⟨hk,ha⟩ ihL1
 refine zc<|za<|zA zg0 Z Z Z<|AtL.done<|zc<|zq Z ?_ ?_
 ·intro hc1
  refine zj<|zc<|At.block<|zc<|za ?_
  refine zF k (o4.rd (i:=0) Z) Tryz.underlying34 zQ zg0 Z Z Z Z (by omega) ?_
  refine zh (v:=.int .u8 ((l.getD k 0).toNat:Int)) zS zg0 Z Z (zH (o4.rd (i:=0) Z) (zz 0 (by omega)) Z)<|AtL.assign zg0 Z Z<|AtL.done<|zc<|za<|zb zg0 Z Z ?_
  refine zA zg0 Z Z Z<|zb zg0 Z Z<|zy 3 (E':=[(17,.bool (decide ((((l.getD k 0).toNat:Int) < 33)∨(126 < ((l.getD k 0).toNat:Int))))),(0,str l),(6,.slice A1 l.length C2),(7,V (l.length:Int)),(8,V (k:Int))]) (fun J => ?_) ?_
  ·refine zD (t:=14) Z ?_ ?_
   ·intro hs14
    refine ze Z Z Z Z Z Z<|ze Z Z Z Z Z Z<|zn zg0 Z Z Z ?_
    exact J _ (by exact ⟨(zw (by clear J; first | (simp [hs14]; done) | (simp_all; done) | grind)),Z,Z,Z,Z,trivial⟩)
   ·intro hs14
    refine zb (.inr ⟨_,_,_,Z,Z,Z,Z⟩) Z Z<|zai (.inr ⟨_,_,_,Z,Z,Z,Z⟩) Z Z Z<|zm zg0 Z Z Z ?_
    exact J _ (by exact ⟨(zw (by clear J; first | (simp [hs14]; done) | (simp_all; done) | grind)),Z,Z,Z,Z,trivial⟩)
  ·refine AtL.done<|zq Z ?_ ?_
   ·intro hc2
    refine zc<|za<|AtL.assign zg0 Z Z<|AtL.done<|At.pick [] 1 Z Z ?_
    exact zt Tryz.func81 Z Z (⟨congrArg Value.bool (by rw [zgL,ziT (by omega) (tgtCh_no hc2),Bool.and_false]),Z⟩)
   ·intro hc2
    refine zj<|zp<|za ?_
    refine AtL.add (z:=(k:Int) + 1) zg0 Z Z Z (w64 (by omega) (by omega))<|zb zg0 Z Z<|AtL.done ?_
    refine ihL1 (k + 1) (⟨by omega,zds (by omega) ha (tgtCh_yes hc2)⟩) (by omega) _ ?_
    exact ⟨Z,Z,Z,(by first | rfl | exact zaf (by simp []) | exact zah (by omega) | exact zah (by simp []) | exact zaf (by simp []; omega)),trivial⟩
 ·intro hc1
  refine zau Z<|zc<|za<|zb zg0 Z Z<|zf0 (a:=l) (b:=[]) zg0 Z Z Z<|zb zg0 Z Z ?_
  refine zy 4 (E':=[(25,.bool (decide ((¬ (l=[]))∧(((l.getD 0 0).toNat:Int)=47))))]) (fun J => ?_) ?_
  ·refine zY (t:=21) Z ?_ ?_
   ·intro hs21
    have hs21:¬ (l=[]):=of_decide_eq_false (zO hs21)
    have hpos:=List.length_pos_iff.2 hs21
    refine zb (.inr ⟨_,_,_,Z,Z,Z,Z⟩) Z Z ?_
    refine zcj (l:=l) 0 Z (by omega) Tryz.underlying9 (.inr ⟨_,_,_,Z,Z,Z,Z⟩) Z Z Z<|zW (.inr ⟨_,_,_,Z,Z,Z,Z⟩) Z Z Z<|zn zg0 Z Z Z ?_
    exact J _ (by exact ⟨(zw (by clear J; first | (simp [hs21]; done) | (simp_all; done) | grind)),trivial⟩)
   ·intro hs21
    have hs21:l=[]:=of_decide_eq_true (zJ hs21)
    refine ze Z Z Z Z Z Z<|ze Z Z Z Z Z Z<|ze Z Z Z Z Z Z<|zm zg0 Z Z Z ?_
    exact J _ (by exact ⟨(zw (by clear J; first | (simp [hs21]; done) | (simp_all; done) | grind)),trivial⟩)
  ·refine AtL.assign zg0 Z Z<|AtL.done<|At.pick [] 1 Z Z ?_
   exact zt Tryz.func81 Z Z (⟨congrArg Value.bool (by rw [zgL,ze1 (by omega) ha,Bool.and_true]; exact decide_eq_decide.2 (head_47 l).symm),Z⟩)
theorem value_ok {w0:World}{base:Nat}{H:List Seg}{l:List UInt8}(hl:l.length≤140737488355000) :
  SCalls Tryz.prog 84 [str l] w0 base (H) (fun v H' => v = .bool (zeP l)∧H' = H):=by
 refine SCalls.of_walk (n:=40) Tryz.func84 Z Z Z fun cs => ?_
 refine zc<|za<|AtL.assign zg0 Z Z<|AtL.done<|zc<|zc ?_
 refine za<|zb zg0 Z Z ?_
 refine zdh (l:=l) Tryz.underlying9 Tryz.underlying34 Tryz.underlying5 (by first | omega | (simp only [List.length_append,List.length_cons,List.length_nil]; omega) | (simp; done) | (simp; omega)) zg0 Z Z ?_
 intro A1 C2 s3 n5 o4
 refine zC Tryz.underlying34 zg0 Z Z<|zb zg0 Z Z<|AtL.done<|At.block<|zcF (fun (k:Nat) => [(0,str l),(6,.slice A1 l.length C2),(7,V (l.length:Int)),(8,V (k:Int))]) (fun (k:Nat) => s3::H) (fun (k:Nat) => k≤l.length∧(l.take k).all zku=true) (fun (k:Nat) => l.length - k) 0 (⟨Nat.zero_le _,Z⟩) ⟨Z,Z,Z,Z,trivial⟩ Z ?_
 rintro k ⟨hk,ha⟩ ihL1
 refine zc<|za<|zA zg0 Z Z Z<|AtL.done<|zc<|zq Z ?_ ?_
 ·intro hc1
  refine zj<|zc<|At.block<|zc<|za ?_
  refine zF k (o4.rd (i:=0) Z) Tryz.underlying34 zQ zg0 Z Z Z Z (by omega) ?_
  refine zh (v:=.int .u8 ((l.getD k 0).toNat:Int)) zS zg0 Z Z (zH (o4.rd (i:=0) Z) (zz 0 (by omega)) Z)<|AtL.assign zg0 Z Z<|AtL.done<|zc<|za<|zb zg0 Z Z ?_
  refine zT zg0 Z Z Z<|zb zg0 Z Z<|zy 7 (E':=[(21,.bool (decide ((¬ (((l.getD k 0).toNat:Int)=9))∧((((l.getD k 0).toNat:Int) < 32)∨(((l.getD k 0).toNat:Int)=127))))),(0,str l),(6,.slice A1 l.length C2),(7,V (l.length:Int)),(8,V (k:Int))]) (fun J => ?_) ?_
  ·refine zY (t:=14) Z ?_ ?_
   ·intro hs14
    have hs14:¬ (((l.getD k 0).toNat:Int)=9):=of_decide_eq_false (zO hs14)
    refine zb (.inr ⟨_,_,_,Z,Z,Z,Z⟩) Z Z<|zA (.inr ⟨_,_,_,Z,Z,Z,Z⟩) Z Z Z<|zb (.inr ⟨_,_,_,Z,Z,Z,Z⟩) Z Z<|zy 3 (E':=[(20,.bool (decide ((((l.getD k 0).toNat:Int) < 32)∨(((l.getD k 0).toNat:Int)=127)))),(0,str l),(6,.slice A1 l.length C2),(7,V (l.length:Int)),(8,V (k:Int)),(14,.bool true)]) (fun J => ?_) ?_
    ·refine zD (t:=17) Z ?_ ?_
     ·intro hs17
      refine ze Z Z Z Z Z Z<|ze Z Z Z Z Z Z<|zn (.inr ⟨_,_,_,Z,Z,Z,Z⟩) Z Z Z ?_
      exact J _ (by exact ⟨(zw (by clear J; first | (simp [hs17]; done) | (simp_all; done) | grind)),Z,Z,Z,Z,Z,trivial⟩)
     ·intro hs17
      refine zb (.inr ⟨_,_,_,Z,Z,Z,Z⟩) Z Z<|zW (.inr ⟨_,_,_,Z,Z,Z,Z⟩) Z Z Z<|zm (.inr ⟨_,_,_,Z,Z,Z,Z⟩) Z Z Z ?_
      exact J _ (by exact ⟨(zw (by clear J; first | (simp [hs17]; done) | (simp_all; done) | grind)),Z,Z,Z,Z,Z,trivial⟩)
    ·refine zn zg0 Z Z Z ?_
     exact J _ (by exact ⟨(zw (by clear J; first | (simp [hs14]; done) | (simp_all; done) | grind)),Z,Z,Z,Z,trivial⟩)
   ·intro hs14
    have hs14:((l.getD k 0).toNat:Int)=9:=of_decide_eq_true (zJ hs14)
    refine ze Z Z Z Z Z Z<|ze Z Z Z Z Z Z<|ze Z Z Z Z Z Z<|zaa Z Z Z Z Z<|zaa Z Z Z Z Z<|ze Z Z Z Z Z Z ?_
    refine zm zg0 Z Z Z ?_
    exact J _ (by exact ⟨(zw (by clear J; first | (simp [hs14]; done) | (simp_all; done) | grind)),Z,Z,Z,Z,trivial⟩)
  ·refine AtL.done<|zq Z ?_ ?_
   ·intro hc2
    refine zc<|za<|AtL.assign zg0 Z Z<|AtL.done<|At.pick [] 1 Z Z ?_
    exact zt Tryz.func84 Z Z (⟨congrArg Value.bool (by rw [zeP,ziT (by omega) (valCh_no hc2),Bool.false_and]),Z⟩)
   ·intro hc2
    refine zj<|zp<|za ?_
    refine AtL.add (z:=(k:Int) + 1) zg0 Z Z Z (w64 (by omega) (by omega))<|zb zg0 Z Z<|AtL.done ?_
    refine ihL1 (k + 1) (⟨by omega,zds (by omega) ha (valCh_yes hc2)⟩) (by omega) _ ?_
    exact ⟨Z,Z,Z,(by first | rfl | exact zaf (by simp []) | exact zah (by omega) | exact zah (by simp []) | exact zaf (by simp []; omega)),trivial⟩
 ·intro hc1
  refine zau Z<|zc<|za<|zb zg0 Z Z<|zcT (a:=l) (b:=[]) zg0 Z Z Z<|zb zg0 Z Z ?_
  refine zy 14 (E':=[(39,.bool (decide ((l=[])∨((¬ (((l.getD 0 0).toNat:Int)=9∨((l.getD 0 0).toNat:Int)=32))∧(¬ (((l.getD (Int.toNat ((l.length:Int) - 1)) 0).toNat:Int)=9∨((l.getD (Int.toNat ((l.length:Int) - 1)) 0).toNat:Int)=32))))))]) (fun J => ?_) ?_
  ·refine zD (t:=25) Z ?_ ?_
   ·intro hs25
    refine ze Z Z Z Z Z Z<|ze Z Z Z Z Z Z<|ze Z Z Z Z Z Z<|ze Z Z Z Z Z Z<|ze Z Z Z Z Z Z<|zaa Z Z Z Z Z ?_
    refine zaa Z Z Z Z Z<|zaa Z Z Z Z Z<|zaa Z Z Z Z Z<|zaa Z Z Z Z Z<|zaa Z Z Z Z Z<|zaa Z Z Z Z Z ?_
    refine ze Z Z Z Z Z Z<|zn zg0 Z Z Z ?_
    exact J _ (by exact ⟨(zw (by clear J; first | (simp [hs25]; done) | (simp_all; done) | grind)),trivial⟩)
   ·intro hs25
    have hpos:=List.length_pos_iff.2 hs25
    refine zb (.inr ⟨_,_,_,Z,Z,Z,Z⟩) Z Z ?_
    refine zcj (l:=l) 0 Z (by omega) Tryz.underlying9 (.inr ⟨_,_,_,Z,Z,Z,Z⟩) Z Z Z<|zk zhU (.inr ⟨_,_,_,Z,Z,Z,Z⟩) Z Z (blank_ok (l.getD 0 0)) ?_
    rintro _ _ ⟨rfl,rfl⟩
    refine zag (.inr ⟨_,_,_,Z,Z,Z,Z⟩) Z Z<|zb (.inr ⟨_,_,_,Z,Z,Z,Z⟩) Z Z<|zy 8 (E':=[(38,.bool (decide ((¬ (((l.getD 0 0).toNat:Int)=9∨((l.getD 0 0).toNat:Int)=32))∧(¬ (((l.getD (Int.toNat ((l.length:Int) - 1)) 0).toNat:Int)=9∨((l.getD (Int.toNat ((l.length:Int) - 1)) 0).toNat:Int)=32))))),(25,.bool false)]) (fun J => ?_) ?_
    ·refine zY (t:=30) Z ?_ ?_
     ·intro hs30
      have hs30:¬ (((l.getD 0 0).toNat:Int)=9∨((l.getD 0 0).toNat:Int)=32):=of_decide_eq_false (zO hs30)
      refine zb (.inr ⟨_,_,_,Z,Z,Z,Z⟩) Z Z<|zb (.inr ⟨_,_,_,Z,Z,Z,Z⟩) Z Z<|zb7 (l:=l) Tryz.underlying9 (.inr ⟨_,_,_,Z,Z,Z,Z⟩) Z Z ?_
      refine AtL.sub (z:=(l.length:Int) - 1) (.inr ⟨_,_,_,Z,Z,Z,Z⟩) Z Z Z (w64 (by omega) (by omega)) ?_
      refine zcj (l:=l) (Int.toNat ((l.length:Int) - 1)) (by omega) (by omega) Tryz.underlying9 (.inr ⟨_,_,_,Z,Z,Z,Z⟩) Z Z Z<|zk zhU (.inr ⟨_,_,_,Z,Z,Z,Z⟩) Z Z (blank_ok (l.getD (Int.toNat ((l.length:Int) - 1)) 0)) ?_
      rintro _ _ ⟨rfl,rfl⟩
      refine zag (.inr ⟨_,_,_,Z,Z,Z,Z⟩) Z Z<|zn (.inr ⟨_,_,_,Z,Z,Z,Z⟩) Z Z Z ?_
      exact J _ (by exact ⟨(zw (by clear J; first | (simp [hs30]; done) | (simp_all; done) | grind)),Z,trivial⟩)
     ·intro hs30
      have hs30:((l.getD 0 0).toNat:Int)=9∨((l.getD 0 0).toNat:Int)=32:=of_decide_eq_true (zJ hs30)
      refine ze Z Z Z Z Z Z<|ze Z Z Z Z Z Z<|ze Z Z Z Z Z Z<|ze Z Z Z Z Z Z<|ze Z Z Z Z Z Z<|ze Z Z Z Z Z Z ?_
      refine ze Z Z Z Z Z Z<|zm (.inr ⟨_,_,_,Z,Z,Z,Z⟩) Z Z Z ?_
      exact J _ (by exact ⟨(zw (by clear J; first | (simp [hs30]; done) | (simp_all; done) | grind)),Z,trivial⟩)
    ·refine zm zg0 Z Z Z ?_
     exact J _ (by exact ⟨(zw (by clear J; first | (simp [hs25]; done) | (simp_all; done) | grind)),trivial⟩)
  ·refine AtL.assign zg0 Z Z<|AtL.done<|At.pick [] 1 Z Z ?_
   exact zt Tryz.func84 Z Z (⟨congrArg Value.bool (by rw [valueF_is l (ze1 (by omega) ha)]),Z⟩)
def letA (l:List UInt8):List Bool:=(List.range 256).map fun i => l.contains (UInt8.ofNat i)
theorem zb6 (l:List UInt8):(letA l).length=256:=by simp [letA]
theorem letA_nil:List.replicate 256 false=letA []:=by
 apply List.ext_getElem (by rw [zb6,List.length_replicate])
 intro i h1 h2
 rw [List.getElem_replicate]
 simp only [letA,List.getElem_map]
 rfl
theorem ziE (l:List UInt8) (c:UInt8):(letA l).getD c.toNat false=l.contains c:=by
 have h:=c.toNat_lt
 simp [letA,List.getD,h,UInt8.ofNat_toNat]
theorem letA_set (l:List UInt8) (c:UInt8):(letA l).set c.toNat true=letA (l++[c]):=by
 apply List.ext_getElem (by simp [letA])
 intro i h1 h2
 have hi:i < 256:=by simpa [letA] using h2
 rw [List.getElem_set]
 by_cases h:c.toNat=i
 ·subst h
  simp [letA,UInt8.ofNat_toNat]
 ·have hne:¬ (UInt8.ofNat i=c):=by
   intro h3; apply h; rw [← h3,UInt8.toNat_ofNat_of_lt' hi]
  simp [letA,h,hne]
theorem letters_ok {w0:World}{base:Nat}{H:List Seg}{l:List UInt8}(hl:l.length≤140737488355000) :
  SCalls Tryz.prog 102 [str l] w0 base (H) (fun v H' => v = .agg (tyBool.cells (letA l)).toArray∧H' = H):=by
 refine SCalls.of_walk (n:=16) Tryz.func102 Z Z Z fun cs => ?_
 refine zc<|za ?_
 refine zdv tyBool (l:=List.replicate 256 false) zhB zhE (by simp) zg0 Z ?_
 intro b1 s2 o3
 rw [List.length_replicate] at o3
 refine AtL.done<|zc<|zc<|za<|zb zg0 Z Z ?_
 refine zdh (l:=l) Tryz.underlying9 Tryz.underlying34 Tryz.underlying5 (by first | omega | (simp only [List.length_append,List.length_cons,List.length_nil]; omega) | (simp; done) | (simp; omega)) zg0 Z Z ?_
 intro A4 C5 s6 n8 o7
 refine zC Tryz.underlying34 zg0 Z Z<|zb zg0 Z Z<|AtL.done<|At.block<|zcI (fun (k:Nat) (s2:Seg) => [(2,B b1),(6,.slice A4 l.length C5),(7,V (l.length:Int)),(8,V (k:Int))]) (fun (k:Nat) (s2:Seg) => s6::s2::H) (fun (k:Nat) (s2:Seg) => k≤l.length∧Own tyBool 195 (some ⟨b1,0,none⟩) 256 (letA (l.take k)) s2) (fun (k:Nat) (s2:Seg) => l.length - k) 0 s2 (⟨Nat.zero_le _,by rw [List.take_zero,← letA_nil]; exact o3⟩) ⟨Z,Z,Z,Z,trivial⟩ Z ?_
 rintro k s2 ⟨hk,ho⟩ ihL1
 have hlen:=zb6 (l.take k)
 have hlt:=(l.getD k 0).toNat_lt
 have hle:=zab ho
 refine zc<|za<|zA zg0 Z Z Z<|AtL.done<|zc<|zq Z ?_ ?_
 ·intro hc1
  refine zj<|zc<|At.block<|zc<|za ?_
  refine zF k (o7.rd (i:=0) Z) Tryz.underlying34 zQ zg0 Z Z Z Z (by omega) ?_
  refine zh (v:=.int .u8 ((l.getD k 0).toNat:Int)) zS zg0 Z Z (zH (o7.rd (i:=0) Z) (zz 0 (by omega)) Z)<|AtL.assign zg0 Z Z<|AtL.done<|za<|zb zg0 Z Z ?_
  refine zat ((l.getD k 0).toNat) Tryz.underlying195 za0 zg0 Z Z Z Z (by omega) ?_
  refine zeN (u:=true) 1 ((l.getD k 0).toNat) za0 Z ho (by omega) zg0 Z Z ?_
  intro s9 o10
  refine AtL.done<|zp<|za ?_
  refine AtL.add (z:=(k:Int) + 1) zg0 Z Z Z (w64 (by omega) (by omega))<|zb zg0 Z Z<|AtL.done ?_
  refine ihL1 (k + 1) s9 (⟨by omega,by rw [zgM l k (by omega),← letA_set]; exact o10⟩) (by omega) _ ?_
  exact ⟨(by first | rfl | exact zaf (by simp []) | exact zah (by omega) | exact zah (by simp []) | exact zaf (by simp []; omega)),Z,Z,(by first | rfl | exact zaf (by simp []) | exact zah (by omega) | exact zah (by simp []) | exact zaf (by simp []; omega)),trivial⟩
 ·intro hc1
  refine zau Z<|zc<|za ?_
  refine zhl (ho.rd (i:=1) Z) zjA (by simp [zal,tyBool,zb6]) zg0 Z Z ?_
  refine zdu (T:=tyBool) (l':=letA (l.take k)) 1 tf_sz195 Z ho Z Z (by simp [zal,tyBool,zb6]) zg0 Z Z ?_
  intro s11 o12
  refine AtL.done ?_
  exact zaZ (vs:=[.agg (tyBool.cells (letA (l.take k))).toArray]) [] 2 Z Z Tryz.func102 Z ⟨⟨_,Z,LoadsTo.arr (o12.rd (i:=1) Z) zjA (by simp [zal,tyBool,zb6])⟩,trivial⟩ (⟨by rw [List.take_of_length_le (show l.length≤k by omega)]; rfl,Z⟩)
theorem word_no {s:List UInt8}{k:Nat}{most:Int}(hk:k < s.length) (h:(letA LET).getD (s.getD k 0).toNat false=false):zd1 s most=false:=by
 rw [ziE,← let_eq] at h
 rw [zd1,ziT hk h,Bool.and_false]
theorem word_yes {s:List UInt8}{most:Int}(h:s.all zgW=true):zd1 s most=decide (¬ s=[]∧(s.length:Int)≤most):=by
 rw [zd1,h,Bool.and_true]
 apply decide_eq_decide.2
 have:=List.length_pos_iff (l:=s)
 constructor
 ·rintro ⟨h1,h2⟩; exact ⟨this.1 (by omega),h2⟩
 ·rintro ⟨h1,h2⟩; exact ⟨this.2 h1,h2⟩
theorem word_ok {w0:World}{base:Nat}{H:List Seg}{l:List UInt8}(hl:l.length≤140737488355000) (most:Int) :
  SCalls Tryz.prog 79 [str l,V most] w0 base (H) (fun v H' => v = .bool (zd1 l most)∧H' = H):=by
 refine SCalls.of_walk (n:=29) Tryz.func79 Z Z Z fun cs => ?_
 refine zc<|za<|AtL.assign zg0 Z Z<|AtL.done<|zc<|za ?_
 refine zk tf_body102 zg0 Z Z (letters_ok (l:=LET) (by decide)) ?_
 rintro _ _ ⟨rfl,hHq⟩
 obtain rfl:=hHq.symm
 refine zdv tyBool (l:=List.replicate 256 false) zhB zhE (by simp) zg0 Z ?_
 intro b1 s2 o3
 rw [List.length_replicate] at o3
 refine zdu (T:=tyBool) (l':=letA LET) 0 tf_sz195 Z o3 (by simp [zb6]) Z (by simp [zal,tyBool,zb6]) zg0 Z Z ?_
 intro s4 o5
 refine AtL.done<|zc<|zc<|za<|zb zg0 Z Z ?_
 refine zdh (l:=l) Tryz.underlying9 Tryz.underlying34 Tryz.underlying5 (by first | omega | (simp only [List.length_append,List.length_cons,List.length_nil]; omega) | (simp; done) | (simp; omega)) zg0 Z Z ?_
 intro A6 C7 s8 n10 o9
 refine zC Tryz.underlying34 zg0 Z Z<|zb zg0 Z Z<|AtL.done<|At.block<|zcF (fun (k:Nat) => [(0,str l),(1,V most),(5,B b1),(10,.slice A6 l.length C7),(11,V (l.length:Int)),(12,V (k:Int))]) (fun (k:Nat) => s8::s4::H) (fun (k:Nat) => k≤l.length∧(l.take k).all zgW=true) (fun (k:Nat) => l.length - k) 0 (⟨Nat.zero_le _,Z⟩) ⟨Z,Z,Z,Z,Z,Z,trivial⟩ Z ?_
 rintro k ⟨hk,ha⟩ ihL1
 have hlt:=(l.getD k 0).toNat_lt
 have hlen:=zb6 LET
 refine zc<|za<|zA zg0 Z Z Z<|AtL.done<|zc<|zq Z ?_ ?_
 ·intro hc1
  refine zj<|zc<|At.block<|zc<|za ?_
  refine zF k (o9.rd (i:=0) Z) Tryz.underlying34 zQ zg0 Z Z Z Z (by omega) ?_
  refine zh (v:=.int .u8 ((l.getD k 0).toNat:Int)) zS zg0 Z Z (zH (o9.rd (i:=0) Z) (zz 0 (by omega)) Z)<|AtL.assign zg0 Z Z<|AtL.done<|zc<|za<|zb zg0 Z Z ?_
  refine zat ((l.getD k 0).toNat) Tryz.underlying195 za0 zg0 Z Z Z Z (by omega)<|zh (v:=.bool ((letA LET).getD ((l.getD k 0).toNat) false)) zR zg0 Z Z (zH (o5.rd (i:=1) Z) (zz false (show (l.getD k 0).toNat < (letA LET).length by omega)) Z)<|zag zg0 Z Z<|AtL.done<|zae Z ?_ ?_
  ·intro hc2
   have hc2:((letA LET).getD ((l.getD k 0).toNat) false)=false:=zO hc2
   refine zc<|za<|AtL.assign zg0 Z Z<|AtL.done<|At.pick [] 2 Z Z ?_
   exact zt Tryz.func79 Z Z (⟨congrArg Value.bool (by rw [word_no (k:=k) (by omega) (by simpa using hc2)]),Z⟩)
  ·intro hc2
   have hc2:((letA LET).getD ((l.getD k 0).toNat) false)=true:=zJ hc2
   refine zj<|zp<|za ?_
   refine AtL.add (z:=(k:Int) + 1) zg0 Z Z Z (w64 (by omega) (by omega))<|zb zg0 Z Z<|AtL.done ?_
   refine ihL1 (k + 1) (⟨by omega,zds (by omega) ha (by rw [let_eq,← ziE]; simpa using hc2)⟩) (by omega) _ ?_
   exact ⟨Z,Z,Z,Z,Z,(by first | rfl | exact zaf (by simp []) | exact zah (by omega) | exact zah (by simp []) | exact zaf (by simp []; omega)),trivial⟩
 ·intro hc1
  refine zau Z<|zc<|za<|zb zg0 Z Z<|zf0 (a:=l) (b:=[]) zg0 Z Z Z<|zb zg0 Z Z ?_
  refine zy 5 (E':=[(28,.bool (decide ((¬ (l=[]))∧((l.length:Int)≤most))))]) (fun J => ?_) ?_
  ·refine zY (t:=23) Z ?_ ?_
   ·intro hs23
    have hs23:¬ (l=[]):=of_decide_eq_false (zO hs23)
    refine zb (.inr ⟨_,_,_,Z,Z,Z,Z⟩) Z Z<|zb7 (l:=l) Tryz.underlying9 (.inr ⟨_,_,_,Z,Z,Z,Z⟩) Z Z<|zb (.inr ⟨_,_,_,Z,Z,Z,Z⟩) Z Z<|zbd (.inr ⟨_,_,_,Z,Z,Z,Z⟩) Z Z Z<|zn zg0 Z Z Z ?_
    exact J _ (by exact ⟨(zw (by clear J; first | (simp [hs23]; done) | (simp_all; done) | grind)),trivial⟩)
   ·intro hs23
    have hs23:l=[]:=of_decide_eq_true (zJ hs23)
    refine ze Z Z Z Z Z Z<|ze Z Z Z Z Z Z<|ze Z Z Z Z Z Z<|ze Z Z Z Z Z Z<|zm zg0 Z Z Z ?_
    exact J _ (by exact ⟨(zw (by clear J; first | (simp [hs23]; done) | (simp_all; done) | grind)),trivial⟩)
  ·refine AtL.assign zg0 Z Z<|AtL.done<|At.pick [] 2 Z Z ?_
   exact zt Tryz.func79 Z Z (⟨congrArg Value.bool (by rw [word_yes (ze1 (by omega) ha)]),Z⟩)
theorem ver_no {l:List UInt8}(h:¬ ((l.length:Int)=8∧subl l 0 5=[72,84,84,80,47]∧(48≤((l.getD 5 0).toNat:Int)∧((l.getD 5 0).toNat:Int)≤57)∧((l.getD 6 0).toNat:Int)=46∧(48≤((l.getD 7 0).toNat:Int)∧((l.getD 7 0).toNat:Int)≤57))):verF l=false:=by
 rw [← Bool.not_eq_true]
 intro hv
 apply h
 simp only [verF,Bool.and_eq_true,decide_eq_true_eq,UInt8.le_iff_toNat_le] at hv
 obtain ⟨⟨⟨⟨h1,h2⟩,h3⟩,h4⟩,h5⟩:=hv
 have e1:(48:UInt8).toNat=48:=rfl
 have e2:(57:UInt8).toNat=57:=rfl
 rw [e1,e2] at h3 h5
 exact ⟨by omega,by rw [show subl l 0 5=l.take 5 by simp [subl]]; exact h2,by omega,(zii (c:=l.getD 6 0) (n:=46) (by omega)).2 h4,by omega⟩
theorem ver_yes {l:List UInt8}(h1:(l.length:Int)=8) (h2:subl l 0 5=[72,84,84,80,47]) (h3:48≤((l.getD 5 0).toNat:Int)∧((l.getD 5 0).toNat:Int)≤57) (h4:((l.getD 6 0).toNat:Int)=46) (h5:48≤((l.getD 7 0).toNat:Int)∧((l.getD 7 0).toNat:Int)≤57):verF l=true:=by
 have e1:(48:UInt8).toNat=48:=rfl
 have e2:(57:UInt8).toNat=57:=rfl
 simp only [verF,Bool.and_eq_true,decide_eq_true_eq,UInt8.le_iff_toNat_le,e1,e2]
 exact ⟨⟨⟨⟨by omega,by rw [show subl l 0 5=l.take 5 by simp [subl]] at h2; exact h2⟩,by omega⟩,(zii (c:=l.getD 6 0) (n:=46) (by omega)).1 h4⟩,by omega⟩
theorem sub48 {c:UInt8}(h:48≤(c.toNat:Int)∧(c.toNat:Int)≤57):IntKind.u8.wrap ((c.toNat:Int) - 48)=(((c - 48:UInt8)).toNat:Int):=by
 have h1:(c - 48).toNat=c.toNat - 48:=by
  rw [UInt8.toNat_sub_of_le]
  ·rfl
  ·show (48:UInt8).toNat≤c.toNat
   have:(48:UInt8).toNat=48:=rfl
   omega
 rw [h1]
 have h2:((c.toNat - 48:Nat):Int)=(c.toNat:Int) - 48:=by omega
 rw [h2]
 exact w8 (by omega) (by omega)
theorem zhz {w0:World}{base:Nat}{H:List Seg}{l:List UInt8}(hl:l.length≤140737488355000) :
  SCalls Tryz.prog 80 [str l] w0 base (H) (fun v H' => (verF l=false∧v = .tuple #[.int .u8 0,.int .u8 0,.bool false]∧H' = H)∨(verF l=true∧l.length=8∧v = .tuple #[.int .u8 ((l.getD 5 0 - 48).toNat:Int),.int .u8 ((l.getD 7 0 - 48).toNat:Int),.bool true]∧H' = H)):=by
 refine SCalls.of_walk (n:=36) Tryz.func80 Z Z Z fun cs => ?_
 refine zc<|za<|AtL.assign zg0 Z Z<|AtL.assign zg0 Z Z<|AtL.assign zg0 Z Z<|AtL.done ?_
 refine zc<|zc<|za<|zb zg0 Z Z<|zb7 (l:=l) Tryz.underlying9 zg0 Z Z<|zT zg0 Z Z Z ?_
 refine zb zg0 Z Z<|zy 4 (E':=[(12,.bool (decide ((¬ ((l.length:Int)=8))∨(¬ (subl l 0 5=[72,84,84,80,47]))))),(0,str l)]) (fun J => ?_) ?_
 ·refine zY (t:=8) Z ?_ ?_
  ·intro hs8
   have hs8:¬ ((l.length:Int)=8):=of_decide_eq_false (zO hs8)
   refine ze Z Z Z Z Z Z<|ze Z Z Z Z Z Z<|ze Z Z Z Z Z Z<|zn zg0 Z Z Z ?_
   exact J _ (by exact ⟨(zw (by clear J; first | (simp [hs8]; done) | (simp_all; done) | grind)),Z,trivial⟩)
  ·intro hs8
   have hs8:(l.length:Int)=8:=of_decide_eq_true (zJ hs8)
   refine zb (.inr ⟨_,_,_,Z,Z,Z,Z⟩) Z Z ?_
   refine zfY (l:=l) 0 5 Z (zI Z Z) (by omega) (by omega) Tryz.underlying9 (.inr ⟨_,_,_,Z,Z,Z,Z⟩) Z Z<|zf0 (a:=subl l 0 5) (b:=[72,84,84,80,47]) (.inr ⟨_,_,_,Z,Z,Z,Z⟩) Z Z Z<|zm zg0 Z Z Z ?_
   exact J _ (by exact ⟨(zw (by clear J; first | (simp [hs8]; done) | (simp_all; done) | grind)),Z,trivial⟩)
 ·refine zb zg0 Z Z<|zy 5 (E':=[(18,.bool (decide (((¬ ((l.length:Int)=8))∨(¬ (subl l 0 5=[72,84,84,80,47])))∨(¬ (48≤((l.getD 5 0).toNat:Int)∧((l.getD 5 0).toNat:Int)≤57))))),(0,str l)]) (fun J => ?_) ?_
  ·refine zD (t:=13) Z ?_ ?_
   ·intro hs13
    refine ze Z Z Z Z Z Z<|ze Z Z Z Z Z Z<|ze Z Z Z Z Z Z<|ze Z Z Z Z Z Z<|zn zg0 Z Z Z ?_
    exact J _ (by exact ⟨(zw (by clear J; first | (simp [hs13]; done) | (simp_all; done) | grind)),Z,trivial⟩)
   ·intro hs13
    refine zb (.inr ⟨_,_,_,Z,Z,Z,Z⟩) Z Z ?_
    refine zcj (l:=l) 5 Z (by omega) Tryz.underlying9 (.inr ⟨_,_,_,Z,Z,Z,Z⟩) Z Z Z<|zk zhV (.inr ⟨_,_,_,Z,Z,Z,Z⟩) Z Z (digit_ok (l.getD 5 0)) ?_
    rintro _ _ ⟨rfl,hHq⟩
    obtain rfl:=hHq.symm
    refine zag (.inr ⟨_,_,_,Z,Z,Z,Z⟩) Z Z<|zm zg0 Z Z Z ?_
    exact J _ (by exact ⟨(zw (by clear J; first | (simp [hs13]; done) | (simp_all; done) | grind)),Z,trivial⟩)
  ·refine zb zg0 Z Z<|zy 4 (E':=[(23,.bool (decide ((((¬ ((l.length:Int)=8))∨(¬ (subl l 0 5=[72,84,84,80,47])))∨(¬ (48≤((l.getD 5 0).toNat:Int)∧((l.getD 5 0).toNat:Int)≤57)))∨(¬ (((l.getD 6 0).toNat:Int)=46))))),(0,str l)]) (fun J => ?_) ?_
   ·refine zD (t:=19) Z ?_ ?_
    ·intro hs19
     refine ze Z Z Z Z Z Z<|ze Z Z Z Z Z Z<|ze Z Z Z Z Z Z<|zn zg0 Z Z Z ?_
     exact J _ (by exact ⟨(zw (by clear J; first | (simp [hs19]; done) | (simp_all; done) | grind)),Z,trivial⟩)
    ·intro hs19
     refine zb (.inr ⟨_,_,_,Z,Z,Z,Z⟩) Z Z ?_
     refine zcj (l:=l) 6 Z (by omega) Tryz.underlying9 (.inr ⟨_,_,_,Z,Z,Z,Z⟩) Z Z Z<|zT (.inr ⟨_,_,_,Z,Z,Z,Z⟩) Z Z Z<|zm zg0 Z Z Z ?_
     exact J _ (by exact ⟨(zw (by clear J; first | (simp [hs19]; done) | (simp_all; done) | grind)),Z,trivial⟩)
   ·refine zb zg0 Z Z<|zy 5 (E':=[(29,.bool (decide (((((¬ ((l.length:Int)=8))∨(¬ (subl l 0 5=[72,84,84,80,47])))∨(¬ (48≤((l.getD 5 0).toNat:Int)∧((l.getD 5 0).toNat:Int)≤57)))∨(¬ (((l.getD 6 0).toNat:Int)=46)))∨(¬ (48≤((l.getD 7 0).toNat:Int)∧((l.getD 7 0).toNat:Int)≤57))))),(0,str l)]) (fun J => ?_) ?_
    ·refine zD (t:=24) Z ?_ ?_
     ·intro hs24
      refine ze Z Z Z Z Z Z<|ze Z Z Z Z Z Z<|ze Z Z Z Z Z Z<|ze Z Z Z Z Z Z<|zn zg0 Z Z Z ?_
      exact J _ (by exact ⟨(zw (by clear J; first | (simp [hs24]; done) | (simp_all; done) | grind)),Z,trivial⟩)
     ·intro hs24
      refine zb (.inr ⟨_,_,_,Z,Z,Z,Z⟩) Z Z ?_
      refine zcj (l:=l) 7 Z (by omega) Tryz.underlying9 (.inr ⟨_,_,_,Z,Z,Z,Z⟩) Z Z Z<|zk zhV (.inr ⟨_,_,_,Z,Z,Z,Z⟩) Z Z (digit_ok (l.getD 7 0)) ?_
      rintro _ _ ⟨rfl,hHq⟩
      obtain rfl:=hHq.symm
      refine zag (.inr ⟨_,_,_,Z,Z,Z,Z⟩) Z Z<|zm zg0 Z Z Z ?_
      exact J _ (by exact ⟨(zw (by clear J; first | (simp [hs24]; done) | (simp_all; done) | grind)),Z,trivial⟩)
    ·refine AtL.done<|zq Z ?_ ?_
     ·intro hc1
      refine zc<|za<|AtL.assign zg0 Z Z<|AtL.assign zg0 Z Z<|AtL.assign zg0 Z Z<|AtL.done ?_
      exact zt Tryz.func80 Z Z (Or.inl ⟨ver_no (by rintro ⟨a,b,c,d,e⟩; rcases hc1 with (((h | h) | h) | h) | h <;> contradiction),Z,Z⟩)
     ·intro hc1
      simp only [not_or,Decidable.not_not] at hc1
      obtain ⟨⟨⟨⟨v1,v2⟩,v3⟩,v4⟩,v5⟩:=hc1
      refine zj<|zc ?_
      refine zac (es:=[]) (pv:=[(0,str l),(1,.int .u8 ((l.getD 5 0).toNat:Int)),(2,.int .u8 ((l.getD 5 0 - 48:UInt8).toNat:Int)),(3,str l),(4,.int .u8 ((l.getD 7 0).toNat:Int)),(5,.int .u8 ((l.getD 7 0 - 48:UInt8).toNat:Int)),(6,.int .u8 ((l.getD 5 0 - 48:UInt8).toNat:Int)),(7,.int .u8 ((l.getD 7 0 - 48:UInt8).toNat:Int)),(8,.bool true)]) zV (by kernel_rfl) (by kernel_rfl) (by kernel_rfl) ?_
      refine ⟨⟨zpr Z Z Z (zi Z),zpr Z Z Z (zhf (l:=l) 5 Z (by omega) Tryz.underlying9 Z Z),zpr Z Z Z (Do.sub (z:=((l.getD 5 0 - 48:UInt8).toNat:Int)) Z Z (sub48 v3)),zpr Z Z Z (zi Z),zpr Z Z Z (zhf (l:=l) 7 Z (by omega) Tryz.underlying9 Z Z),zpr Z Z Z (Do.sub (z:=((l.getD 7 0 - 48:UInt8).toNat:Int)) Z Z (sub48 v5)),zpr Z Z Z (Do.assign Z),zpr Z Z Z (Do.assign Z),zpr Z Z Z (Do.assign Z),trivial⟩,by kernel_rfl,?_⟩
      refine At.mono (E':=[(2,.int .u8 ((l.getD 5 0 - 48:UInt8).toNat:Int)),(3,.int .u8 ((l.getD 7 0 - 48:UInt8).toNat:Int)),(4,.bool true)]) ⟨Z,Z,Z,trivial⟩ ?_
      exact zt Tryz.func80 Z Z (Or.inr ⟨ver_yes v1 v2 v3 v4 v5,by omega,Z,Z⟩)
end Go.Proofs.YtbfabhdfmoiabaaGreatDoor
namespace Go.Proofs.YtbfabhdfmoiabaaGreatDoor
set_option linter.unusedVariables false
set_option linter.unusedSimpArgs false
set_option maxRecDepth 100000
theorem zkf (fs:List Fld) (k:Nat) (h:k < fs.length) (nm:List UInt8):allF (fs.take (k + 1)) nm=allF (fs.take k) nm++(if zbC (fs.getD k ([],[])).1=zbC nm then [(fs.getD k ([],[])).2] else []):=by
 have h1:fs.take (k + 1)=fs.take k++[fs.getD k ([],[])]:=by rw [List.take_succ_eq_append_getElem h]; simp [List.getD,h]
 rw [h1,allF,allF,List.filter_append,List.map_append]
 congr 1
 by_cases h2:zbC (fs.getD k ([],[])).1=zbC nm
 ·rw [if_pos h2]; simp only [List.filter_cons,h2,decide_true,if_true,List.filter_nil,List.map_cons,List.map_nil]
 ·rw [if_neg h2]; simp only [List.filter_cons,h2,decide_false,Bool.false_eq_true,if_false,List.filter_nil,List.map_nil]
theorem headD_getD (l:List (List UInt8)):l.headD []=l.getD 0 []:=by cases l <;> rfl
theorem allF_len (fs:List Fld) (nm:List UInt8):(allF fs nm).length≤fs.length:=by
 simp only [allF,List.length_map]
 exact List.length_filter_le _ _
theorem all_ok {w0:World}{base:Nat}{H:List Seg}{m t:List UInt8}{minor:Int}{A:Option Addr}{C:Nat}{fs:List (List UInt8×List UInt8)}(h:Rd zbE w0 base H A C fs) {nm:List UInt8}(hnm:nm.length≤140737488355000) (hfl:fs.length≤1000) (hb:∀ f ∈ fs,f.1.length≤140737488355000∧f.2.length≤140737488355000) :
  SCalls Tryz.prog 86 [.agg #[str m,str t,V minor,.slice A fs.length C],str nm] w0 base (H) (fun v H' => ∃ x:Sl tyS 9,x.l=allF fs nm∧v = .slice x.A x.l.length x.C∧H' = x.s::H):=by
 have hle0:=h.le
 have hcap0:=h.cap
 refine SCalls.of_walk (n:=28) Tryz.func86 Z Z Z fun cs => ?_
 refine zc<|za<|zbe (cs:=#[str m,str t,V minor,.slice A fs.length C]) Z zg0 Z Z ?_
 intro b1
 refine AtL.assign zg0 Z Z<|AtL.done<|zc<|za<|AtL.assign zg0 Z Z<|AtL.done ?_
 refine zc<|zc<|za<|zd zfc zg0 Z Z Z<|zh zgz zg0 Z Z (Cell.own 0 0 Z Z Z)<|zC Tryz.underlying40 zg0 Z Z ?_
 refine zb zg0 Z Z<|AtL.done<|At.block<|At.nil<|At.pick (H':=[]::H) [0] 2 Z Z<|zcI (fun (k:Nat) (x:Sl tyS 9) => [(1,str nm),(5,.slice x.A x.l.length x.C),(9,.slice A fs.length C),(10,V (fs.length:Int)),(11,V (k:Int))]) (fun (k:Nat) (x:Sl tyS 9) => x.s::H) (fun (k:Nat) (x:Sl tyS 9) => k≤fs.length∧x.l=allF (fs.take k) nm) (fun (k:Nat) (x:Sl tyS 9) => fs.length - k) 0 Sl.nil (⟨Nat.zero_le _,Z⟩) ⟨Z,Z,Z,Z,Z,trivial⟩ Z ?_
 rintro k x ⟨hk,hx⟩ ihL1
 have hcap:=z7 x.own
 have hle:=zab x.own
 have hxl:=allF_len (fs.take k) nm
 rw [← hx,List.length_take] at hxl
 refine zc<|za<|zA zg0 Z Z Z<|AtL.done<|zc<|zq Z ?_ ?_
 ·intro hc1
  have hbk:=hb _ (zbh (l:=fs) (i:=k) (d:=(([],[]):List UInt8×List UInt8)) (by omega))
  refine zj<|zc<|At.block<|zc<|za ?_
  refine zF k (Rd.skip 1 h) Tryz.underlying40 zin zg0 Z Z Z Z (by omega) ?_
  refine zhk (n:=0) (Rd.skip 1 h) (zz (([],[]):List UInt8×List UInt8) (by omega)) Z tf_agg173 zg0 Z Z<|AtL.alloc zhC (cs:=#[str [],str []]) Z zg0 Z ?_
  intro b2
  refine zr (H':=[(b2,.cells #[str ((fs.getD k (([],[]):List UInt8×List UInt8)).1),str ((fs.getD k (([],[]):List UInt8×List UInt8)).2)] 173 (0,0))]::x.s::H) 0 0 zin zg0 Z Z Z Z Z Z Z Z Z<|AtL.done<|zc<|za<|zd tf_fo173_0 zg0 Z Z Z<|zh zaK zg0 Z Z (Cell.own 0 0 Z Z Z) ?_
  refine zk zgC zg0 Z Z (ziC (l:=(fs.getD k (([],[]):List UInt8×List UInt8)).1) (by first | omega | (simp only [List.length_append,List.length_cons,List.length_nil]; omega) | (simp; done) | (simp; omega))) ?_
  rintro _ _ ⟨rfl,rfl⟩
  refine zb zg0 Z Z ?_
  refine zk zgC zg0 Z Z (ziC (l:=nm) (by first | omega | (simp only [List.length_append,List.length_cons,List.length_nil]; omega) | (simp; done) | (simp; omega))) ?_
  rintro _ _ ⟨rfl,rfl⟩
  refine zcT (a:=zbC ((fs.getD k (([],[]):List UInt8×List UInt8)).1)) (b:=zbC nm) zg0 Z Z Z<|AtL.done<|zq Z ?_ ?_
  ·intro hc2
   refine za<|zb zg0 Z Z<|zd tf_fo173_1 zg0 Z Z Z<|zh zaK zg0 Z Z (Cell.own 0 0 Z Z Z)<|zG (cs:=[str ((fs.getD k (([],[]):List UInt8×List UInt8)).2)]) Tryz.underlying161 tf_zero9 zbY Z Z zg0 Z Z Z ?_
   intro b3
   refine zaD tyS (l:=([(fs.getD k (([],[]):List UInt8×List UInt8)).2]:List (List UInt8))) Z Z (by first | decide | simp) ?_
   intro s4 o5
   refine zam (l:=x.l) (news:=[(fs.getD k (([],[]):List UInt8×List UInt8)).2]) 2 tf_el161 Z x.own (o5.rd (i:=0) Z) (by first | omega | (simp only [List.length_append,List.length_cons,List.length_nil]; omega) | (simp; done) | (simp; omega)) zg0 Z Z Z ?_
   intro A6 C7 s8 o9
   refine AtL.assign zg0 Z Z<|AtL.done<|zp<|za ?_
   refine AtL.add (z:=(k:Int) + 1) zg0 Z Z Z (w64 (by omega) (by omega))<|zb zg0 Z Z<|AtL.done<|At.pick (H':=s8::H) [2] 3 Z Z ?_
   refine ihL1 (k + 1) (⟨A6,C7,x.l++([(fs.getD k (([],[]):List UInt8×List UInt8)).2]),s8,o9⟩) (⟨by omega,by rw [zkf _ _ (by omega),if_pos hc2,← hx]⟩) (by omega) _ ?_
   exact ⟨Z,(by first | rfl | exact zaf (by simp []) | exact zah (by omega) | exact zah (by simp []) | exact zaf (by simp []; omega)),Z,Z,(by first | rfl | exact zaf (by simp []) | exact zah (by omega) | exact zah (by simp []) | exact zaf (by simp []; omega)),trivial⟩
  ·intro hc2
   refine zj<|zp<|za ?_
   refine AtL.add (z:=(k:Int) + 1) zg0 Z Z Z (w64 (by omega) (by omega))<|zb zg0 Z Z<|AtL.done<|At.pick (H':=x.s::H) [1] 2 Z Z ?_
   refine ihL1 (k + 1) x (⟨by omega,by rw [zkf _ _ (by omega),if_neg hc2,List.append_nil,← hx]⟩) (by omega) _ ?_
   exact ⟨Z,(by first | rfl | exact zaf (by simp []) | exact zah (by omega) | exact zah (by simp []) | exact zaf (by simp []; omega)),Z,Z,(by first | rfl | exact zaf (by simp []) | exact zah (by omega) | exact zah (by simp []) | exact zaf (by simp []; omega)),trivial⟩
 ·intro hc1
  refine zau Z<|zc<|za<|zb zg0 Z Z<|AtL.assign zg0 Z Z<|AtL.done ?_
  exact zt Tryz.func86 Z Z (⟨x,by rw [List.take_of_length_le (show fs.length≤k by omega)] at hx; exact hx,Z,Z⟩)
theorem ziM {w0:World}{base:Nat}{H:List Seg}{m t:List UInt8}{minor:Int}{A:Option Addr}{C:Nat}{fs:List (List UInt8×List UInt8)}(h:Rd zbE w0 base H A C fs) {nm:List UInt8}(hnm:nm.length≤140737488355000) (hfl:fs.length≤1000) (hb:∀ f ∈ fs,f.1.length≤140737488355000∧f.2.length≤140737488355000) :
  SCalls Tryz.prog 56 [.agg #[str m,str t,V minor,.slice A fs.length C],str nm] w0 base (H) (fun v H' => v = .tuple #[str (zbA fs nm).1,int ((zbA fs nm).2:Int)]∧H' = H):=by
 refine SCalls.of_walk (n:=18) Tryz.func56 Z Z Z fun cs => ?_
 refine zc<|za<|zbe (cs:=#[str m,str t,V minor,.slice A fs.length C]) Z zg0 Z Z ?_
 intro b1
 refine AtL.assign zg0 Z Z<|AtL.assign zg0 Z Z<|AtL.done<|zc<|za<|zay (cs:=[str m,str t,V minor,.slice A fs.length C]) zaU zg0 Z Z Z (zad 0 0 0 Z Z Z) ?_
 refine zb zg0 Z Z ?_
 refine zk zgD zg0 Z Z (all_ok (fs:=fs) (Rd.skip 1 h) (nm:=nm) (by first | omega | decide) hfl hb) ?_
 rintro _ _ ⟨⟨A2,C3,l4,s5,o6⟩,hx7,rfl,rfl⟩
 obtain rfl:allF fs nm=l4:=hx7.symm
 refine AtL.assign zg0 Z Z<|AtL.done<|zc<|zc<|za<|zb zg0 Z Z ?_
 refine zC Tryz.underlying161 zg0 Z Z<|zW zg0 Z Z Z<|AtL.done<|zae Z ?_ ?_
 ·intro hc1
  have hc1:((allF fs nm).length:Int)=0:=of_decide_eq_true hc1
  have hnil:allF fs nm=[]:=List.eq_nil_of_length_eq_zero (by omega)
  refine zc<|za<|AtL.assign zg0 Z Z<|AtL.assign zg0 Z Z<|AtL.done<|At.pick (H':=H) [] 2 Z Z ?_
  exact zt Tryz.func56 Z Z (⟨by rw [zbA,hnil]; rfl,Z⟩)
 ·intro hc1
  have hc1:¬ (((allF fs nm).length:Int)=0):=of_decide_eq_false hc1
  have hcons:0 < (allF fs nm).length:=by omega
  refine zj<|zc<|za<|zb zg0 Z Z ?_
  refine zF 0 (o6.rd (i:=0) Z) Tryz.underlying161 zbY zg0 Z Z Z Z (by omega) ?_
  refine zh (v:=str ((allF fs nm).getD 0 [])) zaK zg0 Z Z (zH (o6.rd (i:=0) Z) (zz [] (by omega)) Z)<|zb zg0 Z Z<|zC Tryz.underlying161 zg0 Z Z<|AtL.assign zg0 Z Z<|AtL.assign zg0 Z Z<|AtL.done ?_
  refine At.pick (H':=H) [] 2 Z Z ?_
  exact zt Tryz.func56 Z Z (⟨by rw [zbA,headD_getD]; rfl,Z⟩)
theorem hosts_ok {w0:World}{base:Nat}{H:List Seg}{m t:List UInt8}{minor:Int}{A:Option Addr}{C:Nat}{fs:List (List UInt8×List UInt8)}(h:Rd zbE w0 base H A C fs) (hfl:fs.length≤1000) (hb:∀ f ∈ fs,f.1.length≤140737488355000∧f.2.length≤140737488355000) :
  SCalls Tryz.prog 85 [.agg #[str m,str t,V minor,.slice A fs.length C]] w0 base (H) (fun v H' => v = .bool (zgX fs minor)∧H' = H):=by
 refine SCalls.of_walk (n:=21) Tryz.func85 Z Z Z fun cs => ?_
 refine zc<|za<|zbe (cs:=#[str m,str t,V minor,.slice A fs.length C]) Z zg0 Z Z ?_
 intro b1
 refine AtL.assign zg0 Z Z<|AtL.done<|zc<|za<|zay (cs:=[str m,str t,V minor,.slice A fs.length C]) zaU zg0 Z Z Z (zad 0 0 0 Z Z Z) ?_
 refine zk zgF zg0 Z Z (ziM (fs:=fs) (Rd.skip 1 h) (nm:=[104,111,115,116]) (by first | omega | decide) hfl hb) ?_
 rintro _ _ ⟨rfl,rfl⟩
 refine zb zg0 Z Z<|AtL.extract zg0 Z Z Z<|AtL.extract zg0 Z Z Z<|AtL.assign zg0 Z Z<|AtL.assign zg0 Z Z<|AtL.done ?_
 refine zc<|za<|zb zg0 Z Z<|zW zg0 Z Z Z<|zb zg0 Z Z<|zy 8 (E':=[(20,.bool (decide ((((zbA fs [104,111,115,116]).2:Int)=1)∨((((zbA fs [104,111,115,116]).2:Int)=0)∧((minor:Int)=0)))))]) (fun J => ?_) ?_
 ·refine zD (t:=12) Z ?_ ?_
  ·intro hs12
   refine ze Z Z Z Z Z Z<|ze Z Z Z Z Z Z<|ze Z Z Z Z Z Z<|zaa Z Z Z Z Z<|zaa Z Z Z Z Z<|zaa Z Z Z Z Z ?_
   refine ze Z Z Z Z Z Z<|zn zg0 Z Z Z ?_
   exact J _ (by exact ⟨(zw (by clear J; first | (simp [hs12]; done) | (simp_all; done) | grind)),trivial⟩)
  ·intro hs12
   refine zb (.inr ⟨_,_,_,Z,Z,Z,Z⟩) Z Z<|zW (.inr ⟨_,_,_,Z,Z,Z,Z⟩) Z Z Z<|zb (.inr ⟨_,_,_,Z,Z,Z,Z⟩) Z Z<|zy 4 (E':=[(19,.bool (decide ((((zbA fs [104,111,115,116]).2:Int)=0)∧((minor:Int)=0)))),(12,.bool false)]) (fun J => ?_) ?_
   ·refine zD (t:=15) Z ?_ ?_
    ·intro hs15
     refine zd zjh (.inr ⟨_,_,_,Z,Z,Z,Z⟩) Z Z Z<|zh zo (.inr ⟨_,_,_,Z,Z,Z,Z⟩) Z Z (Cell.own 0 0 Z Z Z)<|zW (.inr ⟨_,_,_,Z,Z,Z,Z⟩) Z Z Z<|zn (.inr ⟨_,_,_,Z,Z,Z,Z⟩) Z Z Z ?_
     exact J _ (by exact ⟨(zw (by clear J; first | (simp [hs15]; done) | (simp_all; done) | grind)),Z,trivial⟩)
    ·intro hs15
     refine ze Z Z Z Z Z Z<|ze Z Z Z Z Z Z<|ze Z Z Z Z Z Z<|zm (.inr ⟨_,_,_,Z,Z,Z,Z⟩) Z Z Z ?_
     exact J _ (by exact ⟨(zw (by clear J; first | (simp [hs15]; done) | (simp_all; done) | grind)),Z,trivial⟩)
   ·refine zm zg0 Z Z Z ?_
    exact J _ (by exact ⟨(zw (by clear J; first | (simp [hs12]; done) | (simp_all; done) | grind)),trivial⟩)
 ·refine AtL.assign zg0 Z Z<|AtL.done<|At.pick [] 1 Z Z ?_
  exact zt Tryz.func85 Z Z (⟨congrArg Value.bool (by rw [zgX]; exact decide_eq_decide.2 (by show _↔((zbA fs [104,111,115,116]).2=1∨((zbA fs [104,111,115,116]).2=0∧minor=0)); omega)),Z⟩)
end Go.Proofs.YtbfabhdfmoiabaaGreatDoor
namespace Go.Proofs.YtbfabhdfmoiabaaGreatDoor
set_option linter.unusedVariables false
set_option linter.unusedSimpArgs false
set_option maxRecDepth 100000
structure Tabs (w0:World) (base:Nat):Prop where
  lt:3 < base
  lt2:4 < base
  first:∀ c,c < 256→w0.cell? ⟨3,c,none⟩=some (.int .u8 (Lib.firstT c))
  lt0:0 < base
  max:∃ m:Int,w0.cell? ⟨0,0,none⟩=some (int m)
  acc:∀ i,i < 16→w0.cell? ⟨4,2 * i,none⟩=some (.int .u8 (Lib.accLo i))∧w0.cell? ⟨4,2 * i + 1,none⟩=some (.int .u8 (Lib.accHi i))
theorem Tabs.two {w0:World}{base:Nat}{H:List Seg}(T:Tabs w0 base) (i:Nat) (hi:i < 16) {lo hi' : Int}(h1:(Lib.accLo i:Int)=lo) (h2:(Lib.accHi i:Int)=hi'):∀ j v,([.int .u8 lo,.int .u8 hi']:List Value)[j]? = some v→Cell w0 base H ((za3 (some ⟨4,0,none⟩) (i * 2)).add j) v:=by
 intro j v hj
 obtain ⟨a1,a2⟩:=T.acc i hi
 have e:za3 (some ⟨4,0,none⟩) (i * 2)=⟨4,2 * i,none⟩:=by simp [za3,zbj]; omega
 rw [e,zbj]
 match j,hj with
 | 0,hj => cases hj; rw [← h1]; exact Cell.below T.lt2 a1
 | 1,hj => cases hj; rw [← h2]; exact Cell.below T.lt2 a2
theorem Tabs.one {w0:World}{base:Nat}{H:List Seg}(T:Tabs w0 base) (u:UInt8) {x:Int}(h:(Lib.firstT u.toNat:Int)=x):Cell w0 base H (za3 (some ⟨3,0,none⟩) (u.toNat * 1)) (.int .u8 x):=by
 rw [← h]
 exact Cell.tab T.lt (T.first _ u.toNat_lt)
def zhw (l:List UInt8) (r:Int) (n:Nat):Prop:=1≤n∧n≤l.length∧(∀ i,1≤i→i < n→128≤(l.getD i 0).toNat)∧(r=65533∨n=2∨(n=3∧2048≤r∧r≤65535)∨(n=4∧2048≤r∧r≤2147483647))
end Go.Proofs.YtbfabhdfmoiabaaGreatDoor
namespace Go.Proofs
open Go.Shelf
def zgm:Go.Shelf.Ren:=⟨fun | 160 => 83 | 232 => 106 | 231 => 105 | 227 => 107 | 234 => 109 | 233 => 108 | 236 => 111 | 235 => 110 | 228 => 122 | 271 => 125 | 151 => 124 | 197 => 123 | 120 => 145 | 152 => 144 | 260 => 143 | 137 => 154 | 119 => 150 | 224 => 74 | 225 => 138 | 217 => 141 | 266 => 132 | n => n,fun | 9 => 9 | 4 => 4 | 3 => 3 | 5 => 5 | 117 => 200 | 116 => 199 | 0 => 0 | 124 => 203 | 21 => 21 | 105 => 211 | 46 => 138 | 119 => 238 | 139 => 241 | 138 => 240 | n => n,fun | 3 => 3 | 4 => 4 | n => n⟩
theorem zkh:Go.Proofs.Lays.n160 Tryz.prog zgm:={
 mixed:=by kernel_rfl
 f119:=Tryz.func150.trans (congrArg some (by kernel_rfl))
 f120:=Tryz.func145.trans (congrArg some (by kernel_rfl))
 f137:=Tryz.func154.trans (congrArg some (by kernel_rfl))
 f151:=Tryz.func124.trans (congrArg some (by kernel_rfl))
 f152:=Tryz.func144.trans (congrArg some (by kernel_rfl))
 f160:=Tryz.func83.trans (congrArg some (by kernel_rfl))
 f197:=Tryz.func123.trans (congrArg some (by kernel_rfl))
 f217:=Tryz.func141.trans (congrArg some (by kernel_rfl))
 f224:=Tryz.func74.trans (congrArg some (by kernel_rfl))
 f225:=Tryz.func138.trans (congrArg some (by kernel_rfl))
 f227:=Tryz.func107.trans (congrArg some (by kernel_rfl))
 f228:=Tryz.func122.trans (congrArg some (by kernel_rfl))
 f231:=Tryz.func105.trans (congrArg some (by kernel_rfl))
 f232:=Tryz.func106.trans (congrArg some (by kernel_rfl))
 f233:=Tryz.func108.trans (congrArg some (by kernel_rfl))
 f234:=Tryz.func109.trans (congrArg some (by kernel_rfl))
 f235:=Tryz.func110.trans (congrArg some (by kernel_rfl))
 f236:=Tryz.func111.trans (congrArg some (by kernel_rfl))
 f260:=Tryz.func143.trans (congrArg some (by kernel_rfl))
 f266:=Tryz.func132.trans (congrArg some (by kernel_rfl))
 f271:=Tryz.func125.trans (congrArg some (by kernel_rfl))
 t0:=Tryz.underlying0
 a0:=Tryz.isAgg0
 z0:=Tryz.sizeOf0
 v0:=Tryz.zeroValue0
 t3:=Tryz.underlying3
 a3:=Tryz.isAgg3
 z3:=Tryz.sizeOf3
 v3:=Tryz.zeroValue3
 t4:=Tryz.underlying4
 a4:=Tryz.isAgg4
 z4:=Tryz.sizeOf4
 v4:=Tryz.zeroValue4
 t5:=Tryz.underlying5
 a5:=Tryz.isAgg5
 z5:=Tryz.sizeOf5
 v5:=Tryz.zeroValue5
 t9:=Tryz.underlying9
 a9:=Tryz.isAgg9
 z9:=Tryz.sizeOf9
 v9:=Tryz.zeroValue9
 t21:=Tryz.underlying21
 a21:=Tryz.isAgg21
 z21:=Tryz.sizeOf21
 v21:=Tryz.zeroValue21
 t46:=Tryz.underlying138
 a46:=Tryz.isAgg138
 z46:=Tryz.sizeOf138
 v46:=Tryz.zeroValue138
 t105:=Tryz.underlying211
 a105:=Tryz.isAgg211
 z105:=Tryz.sizeOf211
 v105:=Tryz.zeroValue211
 t116:=Tryz.underlying199
 a116:=Tryz.isAgg199
 z116:=Tryz.sizeOf199
 t117:=Tryz.underlying200
 a117:=Tryz.isAgg200
 z117:=Tryz.sizeOf200
 v117:=Tryz.zeroValue200
 t119:=Tryz.underlying238
 a119:=Tryz.isAgg238
 z119:=Tryz.sizeOf238
 t124:=Tryz.underlying203
 a124:=Tryz.isAgg203
 z124:=Tryz.sizeOf203
 v124:=Tryz.zeroValue203
 t138:=Tryz.underlying240
 a138:=Tryz.isAgg240
 z138:=Tryz.sizeOf240
 v138:=Tryz.zeroValue240
 t139:=Tryz.underlying241
 a139:=Tryz.isAgg241
 z139:=Tryz.sizeOf241
 v139:=Tryz.zeroValue241
 g3:=by kernel_rfl
 g4:=by kernel_rfl }
open Go.RowKit in
def zgo:Go.Shelf.Ren:=⟨fun | 145 => 82 | 220 => 104 | 219 => 121 | 217 => 141 | 225 => 138 | 224 => 74 | 267 => 142 | 266 => 132 | 314 => 153 | n => n,fun | 9 => 9 | 4 => 4 | 59 => 169 | 3 => 3 | 5 => 5 | 46 => 138 | 146 => 189 | 51 => 156 | n => n,fun | 1 => 0 | n => n⟩
theorem zki:Go.Proofs.Lays.n145 Tryz.prog zgo:={
 mixed:=by kernel_rfl
 f145:=Tryz.func82.trans (congrArg some (by kernel_rfl))
 f217:=Tryz.func141.trans (congrArg some (by kernel_rfl))
 f219:=Tryz.func121.trans (congrArg some (by kernel_rfl))
 f220:=Tryz.func104.trans (congrArg some (by kernel_rfl))
 f224:=Tryz.func74.trans (congrArg some (by kernel_rfl))
 f225:=Tryz.func138.trans (congrArg some (by kernel_rfl))
 f266:=Tryz.func132.trans (congrArg some (by kernel_rfl))
 f267:=Tryz.func142.trans (congrArg some (by kernel_rfl))
 f314:=Tryz.func153.trans (congrArg some (by kernel_rfl))
 t3:=Tryz.underlying3
 a3:=Tryz.isAgg3
 z3:=Tryz.sizeOf3
 v3:=Tryz.zeroValue3
 t4:=Tryz.underlying4
 a4:=Tryz.isAgg4
 z4:=Tryz.sizeOf4
 v4:=Tryz.zeroValue4
 t5:=Tryz.underlying5
 a5:=Tryz.isAgg5
 z5:=Tryz.sizeOf5
 v5:=Tryz.zeroValue5
 t9:=Tryz.underlying9
 a9:=Tryz.isAgg9
 z9:=Tryz.sizeOf9
 v9:=Tryz.zeroValue9
 t46:=Tryz.underlying138
 a46:=Tryz.isAgg138
 z46:=Tryz.sizeOf138
 v46:=Tryz.zeroValue138
 t51:=Tryz.underlying156
 a51:=Tryz.isAgg156
 z51:=Tryz.sizeOf156
 v51:=Tryz.zeroValue156
 t59:=Tryz.underlying169
 a59:=Tryz.isAgg169
 z59:=Tryz.sizeOf169
 v59:=Tryz.zeroValue169
 t146:=Tryz.underlying189
 a146:=Tryz.isAgg189
 z146:=Tryz.sizeOf189
 v146:=Tryz.zeroValue189
 g1:=by kernel_rfl }
open Go.RowKit Go.Lib in
theorem Tryz.strings_Cut (s sep:ByteArray) (m:Int) (w:World) (hs:s.size < 4294967281) (hm:w.cell? ⟨0,0,none⟩=some (.int .i64 m)) :
  Calls Tryz.prog 82 #[.string s,.string sep] w fun e w' => e = .returned (.tuple #[.string ⟨(Lib.cut s.data.toList sep.data.toList).1.toArray⟩,.string ⟨(Lib.cut s.data.toList sep.data.toList).2.1.toArray⟩,.bool (Lib.cut s.data.toList sep.data.toList).2.2])∧∃ n,w' = w.drewN n:=Any.strings_Cut zki s sep m w hs hm
def zgn:Go.Shelf.Ren:=⟨fun | 146 => 78 | 221 => 101 | 268 => 118 | 138 => 119 | 143 => 120 | 195 => 139 | 197 => 123 | 218 => 140 | 219 => 121 | 260 => 143 | 217 => 141 | 225 => 138 | 224 => 74 | 267 => 142 | 266 => 132 | 314 => 153 | n => n,fun | 9 => 9 | 31 => 161 | 3 => 3 | 4 => 4 | 0 => 0 | 105 => 211 | 21 => 21 | 5 => 5 | 46 => 138 | 119 => 238 | 139 => 241 | 138 => 240 | 146 => 189 | 51 => 156 | n => n,fun | 1 => 0 | 3 => 3 | 4 => 4 | n => n⟩
theorem zgc:Go.Proofs.Lays.n146 Tryz.prog zgn:={
 mixed:=by kernel_rfl
 f138:=Tryz.func119.trans (congrArg some (by kernel_rfl))
 f143:=Tryz.func120.trans (congrArg some (by kernel_rfl))
 f146:=Tryz.func78.trans (congrArg some (by kernel_rfl))
 f195:=Tryz.func139.trans (congrArg some (by kernel_rfl))
 f197:=Tryz.func123.trans (congrArg some (by kernel_rfl))
 f217:=Tryz.func141.trans (congrArg some (by kernel_rfl))
 f218:=Tryz.func140.trans (congrArg some (by kernel_rfl))
 f219:=Tryz.func121.trans (congrArg some (by kernel_rfl))
 f221:=Tryz.func101.trans (congrArg some (by kernel_rfl))
 f224:=Tryz.func74.trans (congrArg some (by kernel_rfl))
 f225:=Tryz.func138.trans (congrArg some (by kernel_rfl))
 f260:=Tryz.func143.trans (congrArg some (by kernel_rfl))
 f266:=Tryz.func132.trans (congrArg some (by kernel_rfl))
 f267:=Tryz.func142.trans (congrArg some (by kernel_rfl))
 f268:=Tryz.func118.trans (congrArg some (by kernel_rfl))
 f314:=Tryz.func153.trans (congrArg some (by kernel_rfl))
 t0:=Tryz.underlying0
 a0:=Tryz.isAgg0
 z0:=Tryz.sizeOf0
 v0:=Tryz.zeroValue0
 t3:=Tryz.underlying3
 a3:=Tryz.isAgg3
 z3:=Tryz.sizeOf3
 v3:=Tryz.zeroValue3
 t4:=Tryz.underlying4
 a4:=Tryz.isAgg4
 z4:=Tryz.sizeOf4
 v4:=Tryz.zeroValue4
 t5:=Tryz.underlying5
 a5:=Tryz.isAgg5
 z5:=Tryz.sizeOf5
 v5:=Tryz.zeroValue5
 t9:=Tryz.underlying9
 a9:=Tryz.isAgg9
 z9:=Tryz.sizeOf9
 v9:=Tryz.zeroValue9
 t21:=Tryz.underlying21
 a21:=Tryz.isAgg21
 z21:=Tryz.sizeOf21
 v21:=Tryz.zeroValue21
 t31:=Tryz.underlying161
 a31:=Tryz.isAgg161
 z31:=Tryz.sizeOf161
 v31:=Tryz.zeroValue161
 t46:=Tryz.underlying138
 a46:=Tryz.isAgg138
 z46:=Tryz.sizeOf138
 v46:=Tryz.zeroValue138
 t51:=Tryz.underlying156
 a51:=Tryz.isAgg156
 z51:=Tryz.sizeOf156
 v51:=Tryz.zeroValue156
 t105:=Tryz.underlying211
 a105:=Tryz.isAgg211
 z105:=Tryz.sizeOf211
 v105:=Tryz.zeroValue211
 t119:=Tryz.underlying238
 a119:=Tryz.isAgg238
 z119:=Tryz.sizeOf238
 t138:=Tryz.underlying240
 a138:=Tryz.isAgg240
 z138:=Tryz.sizeOf240
 v138:=Tryz.zeroValue240
 t139:=Tryz.underlying241
 a139:=Tryz.isAgg241
 z139:=Tryz.sizeOf241
 v139:=Tryz.zeroValue241
 t146:=Tryz.underlying189
 a146:=Tryz.isAgg189
 z146:=Tryz.sizeOf189
 v146:=Tryz.zeroValue189
 g1:=by kernel_rfl
 g3:=by kernel_rfl
 g4:=by kernel_rfl }
open Go.RowKit Go.Lib in
theorem Tryz.strings_Split (s sep:ByteArray) (m:Int) (w:World) (hs:s.size < 4294967281) (hm:w.cell? ⟨0,0,none⟩=some (.int .i64 m)) (h1:1≤sep.size) :
  Calls Tryz.prog 78 #[.string s,.string sep] w fun e w' =>
   e = .returned (.slice (some ⟨w.heap.size,0,none⟩) (Lib.countB s sep + 1) (Lib.countB s sep + 1))∧w' = w.alloc (.cells ((Lib.splitB sep 0 (Lib.countB s sep) s).map Value.string).toArray 9):=Any.strings_Split zgc (by kernel_rfl) s sep m w hs hm h1
def zgk:Go.Shelf.Ren:=⟨fun | 185 => 53 | 187 => 71 | 115 => 72 | 253 => 73 | 224 => 74 | 254 => 75 | 255 => 97 | 291 => 98 | n => n,fun | 37 => 34 | 3 => 3 | 4 => 4 | 0 => 0 | 5 => 5 | 46 => 138 | 9 => 9 | 146 => 189 | 51 => 156 | n => n,fun | 1 => 0 | n => n⟩
theorem zgb:Go.Proofs.Lays.n185 Tryz.prog zgk:={
 mixed:=by kernel_rfl
 f115:=Tryz.func72.trans (congrArg some (by kernel_rfl))
 f185:=Tryz.func53.trans (congrArg some (by kernel_rfl))
 f187:=Tryz.func71.trans (congrArg some (by kernel_rfl))
 f224:=Tryz.func74.trans (congrArg some (by kernel_rfl))
 f253:=Tryz.func73.trans (congrArg some (by kernel_rfl))
 f254:=Tryz.func75.trans (congrArg some (by kernel_rfl))
 f255:=Tryz.func97.trans (congrArg some (by kernel_rfl))
 f291:=Tryz.func98.trans (congrArg some (by kernel_rfl))
 t0:=Tryz.underlying0
 a0:=Tryz.isAgg0
 z0:=Tryz.sizeOf0
 v0:=Tryz.zeroValue0
 t3:=Tryz.underlying3
 a3:=Tryz.isAgg3
 z3:=Tryz.sizeOf3
 v3:=Tryz.zeroValue3
 t4:=Tryz.underlying4
 a4:=Tryz.isAgg4
 z4:=Tryz.sizeOf4
 v4:=Tryz.zeroValue4
 t5:=Tryz.underlying5
 a5:=Tryz.isAgg5
 z5:=Tryz.sizeOf5
 v5:=Tryz.zeroValue5
 t9:=Tryz.underlying9
 a9:=Tryz.isAgg9
 z9:=Tryz.sizeOf9
 v9:=Tryz.zeroValue9
 t37:=Tryz.underlying34
 a37:=Tryz.isAgg34
 z37:=Tryz.sizeOf34
 v37:=Tryz.zeroValue34
 t46:=Tryz.underlying138
 a46:=Tryz.isAgg138
 z46:=Tryz.sizeOf138
 v46:=Tryz.zeroValue138
 t51:=Tryz.underlying156
 a51:=Tryz.isAgg156
 z51:=Tryz.sizeOf156
 v51:=Tryz.zeroValue156
 t146:=Tryz.underlying189
 a146:=Tryz.isAgg189
 z146:=Tryz.sizeOf189
 v146:=Tryz.zeroValue189
 g1:=by kernel_rfl }
open Go.Proofs Go.RowKit Go.Lib in
theorem Tryz.bytes_Index_at (a1 a2:Addr) (n c1 k c2:Nat) (xs ys:List Int) (m:Int) (w:World) (hx:xs.length=n) (hy:ys.length=k) (hr1:∀ x ∈ xs,0≤x∧x < 256) (hr2:∀ y ∈ ys,0≤y∧y < 256) (hc1:∀ i,i < n→w.cell? (a1.add i)=some (.int .u8 (xs.getD i 0))) (hc2:∀ i,i < k→w.cell? (a2.add i)=some (.int .u8 (ys.getD i 0))) (hcap:n≤c1) (hs:n < 4294967281) (hk:k≤9223372036854775807) (hm:w.cell? ⟨0,0,none⟩=some (.int .i64 m)) :
  Calls Tryz.prog 53 #[.slice (some a1) n c1,.slice (some a2) k c2] w fun e w' => e = .returned (.int .i64 (Lib.index (Lib.bytesOf xs) (Lib.bytesOf ys)))∧∃ q,w' = w.drewN q:=Any.bytes_Index_at zgb a1 a2 n c1 k c2 xs ys m w hx hy hr1 hr2 hc1 hc2 hcap hs hk hm
open Go.Proofs Go.RowKit Go.Lib in
theorem Tryz.bytes_Index_nil (p2:Option Addr) (k c2:Nat) (w:World) (hk:k≤9223372036854775807) (h1:k=1→∃ b2 o2 cv,p2=some ⟨b2,o2,none⟩∧w.cell? ⟨b2,o2,none⟩=some (.int .u8 cv)) :
  Calls Tryz.prog 53 #[.slice none 0 0,.slice p2 k c2] w fun e w' => e = .returned (.int .i64 (if k=0 then 0 else -1))∧w' = w:=Any.bytes_Index_nil zgb p2 k c2 w hk h1
end Go.Proofs
namespace Go.Proofs.YtbfabhdfmoiabaaGreatDoor
set_option linter.unusedVariables false
set_option linter.unusedSimpArgs false
set_option maxRecDepth 100000
def nums (l:List UInt8):List Int:=l.map fun u => (u.toNat:Int)
theorem zhY (l:List UInt8):Lib.bytesOf (nums l)=l:=by
 unfold Lib.bytesOf nums
 rw [List.map_map]
 conv => rhs; rw [← List.map_id l]
 apply List.map_congr_left
 intro x _
 simp
theorem nums_rng (l:List UInt8):∀ x ∈ nums l,0≤x∧x < 256:=by
 intro x hx
 obtain ⟨u,_,rfl⟩:=List.mem_map.1 hx
 have:=u.toNat_lt
 omega
theorem nums_get (l:List UInt8) (i:Nat) (h:i < l.length):(nums l).getD i 0=((l.getD i 0).toNat:Int):=by
 simp [nums,List.getD,h]
theorem Rd.byte {w0:World}{base:Nat}{H:List Seg}{A:Addr}{C:Nat}{l:List UInt8}(h:Rd tyB w0 base H (some A) C l) {w:World}(S:Sep w0 base w H) (i:Nat) (hi:i < l.length):w.cell? (A.add i)=some (.int .u8 ((nums l).getD i 0)):=by
 obtain ⟨b,off,hA,hc⟩:=h.cells (by rintro rfl; simp at hi)
 cases hA
 rw [zbj,nums_get l i hi]
 refine hc w S i _ ?_
 rw [zgw]
 simp [hi,byt,List.getD]
theorem index_ok {w0:World}{base:Nat}{H:List Seg}{A A2:Option Addr}{C C2:Nat}{l l2:List UInt8}(h:Rd tyB w0 base H A C l) (h2:Rd tyB w0 base H A2 C2 l2) (hl:l.length < 4294967281) (h3:2≤l2.length) (T:Tabs w0 base) :
  SCalls Tryz.prog 53 [.slice A l.length C,.slice A2 l2.length C2] w0 base H (fun v H' => v=int (Lib.index l l2)∧H' = H):=by
 obtain ⟨m,hm⟩:=T.max
 have hc2:=h2.cap
 have hl2:=h2.le
 cases A with
 | none =>
  have hC:=h.nil rfl
  have hle:=h.le
  obtain rfl:l=[]:=List.eq_nil_of_length_eq_zero (by omega)
  subst hC
  refine zeS fun w S => ?_
  have:=Tryz.bytes_Index_nil A2 l2.length C2 w (by omega) (by omega)
  rw [if_neg (by omega)] at this
  have e:Lib.index [] l2 = -1:=by
   cases l2 with
   | nil => simp at h3
   | cons c l2 => rfl
  rw [e]
  exact this
 | some a =>
  cases A2 with
  | none => have:=h2.nil rfl; omega
  | some a2 =>
   refine zeq fun w S => ?_
   have:=Tryz.bytes_Index_at a a2 l.length C l2.length C2 (nums l) (nums l2) m w (by simp [nums]) (by simp [nums]) (nums_rng _) (nums_rng _) (fun i hi => h.byte S i hi) (fun i hi => h2.byte S i hi) h.le hl (by omega) (S.cellBelow T.lt0 hm)
   rw [zhY,zhY] at this
   exact this
theorem cut_c (c:UInt8) (x:List UInt8):cutC c x=if (Lib.cut x [c]).2.2=true then some ((Lib.cut x [c]).1,(Lib.cut x [c]).2.1) else none:=by
 induction x with
 | nil => rfl
 | cons a x ih =>
  have hg:=Lib.index_ge x [c]
  unfold cutC
  by_cases h:a=c
  ·subst h
   rw [if_pos rfl]
   have e:Lib.index (a::x) [a]=0:=by unfold Lib.index; simp [List.isPrefixOf]
   simp [Lib.cut,e]
  ·rw [if_neg h,ih]
   have hp:List.isPrefixOf [c] (a::x)=false:=by
    simp only [List.isPrefixOf,Bool.and_true]
    simpa using fun h1:c=a => h h1.symm
   have e:Lib.index (a::x) [c]=if Lib.index x [c] = -1 then -1 else Lib.index x [c] + 1:=by
    rw [Lib.index,hp]
    by_cases h3:Lib.index x [c] = -1 <;> simp [h3]
   unfold Lib.cut
   rw [e]
   by_cases h3:Lib.index x [c] = -1
   ·simp [h3]
   ·have h4:0≤Lib.index x [c]:=by omega
    have h5:0≤Lib.index x [c] + 1:=by omega
    have h6:(Lib.index x [c] + 1).toNat=(Lib.index x [c]).toNat + 1:=by omega
    simp [h3,h4,h5,h6,Nat.add_right_comm]
theorem cut_le (c:UInt8) (x:List UInt8):(Lib.cut x [c]).1.length≤x.length∧(Lib.cut x [c]).2.1.length≤x.length:=by
 unfold Lib.cut
 split <;> simp; omega
theorem cut_ok {w0:World}{base:Nat}{H:List Seg}{x:List UInt8}(c:UInt8) (hx:x.length < 4294967281) (T:Tabs w0 base) :
  SCalls Tryz.prog 82 [str x,str [c]] w0 base H (fun v H' => v = .tuple #[str (Lib.cut x [c]).1,str (Lib.cut x [c]).2.1,.bool (Lib.cut x [c]).2.2]∧H' = H):=by
 obtain ⟨m,hm⟩:=T.max
 refine zeq fun w S => ?_
 exact Tryz.strings_Cut ⟨⟨x⟩⟩ ⟨⟨[c]⟩⟩ m w (by rw [zcr]; omega) (S.cellBelow T.lt0 hm)
theorem spF_len (c:UInt8) (l:List UInt8):(spF c l).length=l.count c + 1:=by
 induction l with
 | nil => rfl
 | cons a l ih =>
  unfold spF
  by_cases h:a=c
  ·subst h; simp [ih]
  ·have:(spF c l)≠[]:=zjF c l
   cases hs:spF c l with
   | nil => exact absurd hs this
   | cons y ys =>
    rw [hs] at ih
    simp at ih
    rw [List.count_cons]
    simp [h,ih]
theorem split_ok {w0:World}{base:Nat}{H:List Seg}{x:List UInt8}(c:UInt8) (hx:x.length < 4294967281) (T:Tabs w0 base) :
  SCalls Tryz.prog 78 [str x,str [c]] w0 base H (fun v H' => ∃ y:Sl tyS 9,y.l=spF c x∧v = .slice y.A y.l.length y.C∧H' = y.s::H):=by
 obtain ⟨m,hm⟩:=T.max
 have hk:Lib.countB ⟨⟨x⟩⟩ ⟨⟨[c]⟩⟩=x.count c:=by
  exact count_c c _ x (Nat.lt_succ_self _)
 have hb:(Lib.splitB ⟨⟨[c]⟩⟩ 0 (Lib.countB ⟨⟨x⟩⟩ ⟨⟨[c]⟩⟩) ⟨⟨x⟩⟩).map (fun b => b.data.toList)=spF c x:=by
  rw [Lib.splitB_data,hk]
  exact splitK_sp c x
 have hcells:((Lib.splitB ⟨⟨[c]⟩⟩ 0 (Lib.countB ⟨⟨x⟩⟩ ⟨⟨[c]⟩⟩) ⟨⟨x⟩⟩).map Value.string).toArray=(tyS.cells (spF c x)).toArray:=by
  rw [← hb]
  congr 1
  rw [show tyS.cells=fun l => l.map str from funext fun l => by simp [Ty.cells,tyS,str,Value.cells,List.flatMap_singleton',List.map_eq_flatMap]]
  simp only [List.map_map]
  rfl
 have hc:=zhc (P:=Tryz.prog) (f:=78) (args:=[str x,str [c]]) (w0:=w0) (base:=base) (H:=H) (v:=fun b => .slice (some ⟨b,0,none⟩) (x.count c + 1) (x.count c + 1)) (o:=.cells (tyS.cells (spF c x)).toArray 9) fun w S => by
  have:=Tryz.strings_Split ⟨⟨x⟩⟩ ⟨⟨[c]⟩⟩ m w (by rw [zcr]; omega) (S.cellBelow T.lt0 hm) (Nat.le_refl 1)
  rw [hcells,hk] at this
  exact this.mono fun e w' ⟨h1,h2⟩ => ⟨h1,0,h2⟩
 refine hc.mono ?_
 rintro v H' ⟨b,rfl,rfl⟩
 have hle:(spF c x).length≤x.length + 1:=by rw [spF_len]; have:=List.count_le_length (a:=c) (l:=x); omega
 obtain ⟨s,hs,ho⟩:=zkG tyS 9 b (spF c x) (spF c x).length _ rfl rfl (by omega)
 subst hs
 exact ⟨⟨_,_,_,_,ho⟩,Z,by simp only [spF_len],Z⟩
theorem zkw {w0:World}{base:Nat}{H:List Seg}{x cs:List UInt8}(hx:x.length≤9223372036854775807) (hcs:cs.length < 4294967281) (ha:cs.all (fun b => decide (b.toNat < 128))=true) :
  SCalls Tryz.prog 83 [str x,str cs] w0 base H (fun v H' => v=str (Lib.trimS x cs)∧H' = H):=by
 refine zer fun w S => ?_
 exact Any.strings_Trim_laid zkh (by kernel_rfl) ⟨⟨x⟩⟩ ⟨⟨cs⟩⟩ w (by rw [zcr]; omega) (by rw [zcr]; omega) (fun j b hb => of_decide_eq_true (List.all_eq_true.1 ha b (List.mem_iff_getElem?.2 ⟨j,hb⟩)))
end Go.Proofs.YtbfabhdfmoiabaaGreatDoor
