/- The parts of the proof that this law needs, in the order of their texts: the logic of walks, the plain laws, the walks. -/
import Derived.Test.YtbfabhdfmoiabaaGreatDoorQFG
namespace Go.Proofs.YtbfabhdfmoiabaaGreatDoor
set_option maxHeartbeats 400000
set_option linter.unusedVariables false
set_option linter.unusedSimpArgs false
set_option maxRecDepth 100000
set_option maxHeartbeats 1000000 in
theorem finish_str {w0:World}{base:Nat}{H:List Seg}{c mb:Nat}{most idle buffer last:Int}{kvs:List (Int×Lk×Nat)}{mn:Nat}{x:Str}{i:Int}(hm:¬ most=0) (hat:atG i kvs=some (.str x)) (hwb:(x.wait.l.length:Int)≤x.buffer) (hbf:x.buffer≤1048576) :
  SCalls Tryz.prog 26 [B c,V i] w0 base (O0 c most idle buffer last mb::[(mb,mapG kyI Lk.v kvs mn)]::O4 x.b x.ch.v x.sd x.client x.wh x.buffer x.wait.A x.wait.l.length x.wait.C x.closing false x.r::x.ch.s::x.wait.s::H) (fun v H' => ∃ (ch9:Chn) (wt:Sl tyB 5) (clo cl:Bool),ch9.y.l=x.ch.y.l∧wt.l.length≤1300000∧(cl=false→(wt.l.length:Int)≤x.buffer)∧v=int 0∧H' = (O0 c most idle buffer last mb)::[(mb,mapG kyI Lk.v (if cl=true then delG i kvs else kvs) mn)]::[((⟨x.b,ch9,x.sd,x.client,x.wh,x.buffer,wt,clo,x.r,x.y,x.off,x.lr,x.e,x.br⟩:Str).b,.cells #[((⟨x.b,ch9,x.sd,x.client,x.wh,x.buffer,wt,clo,x.r,x.y,x.off,x.lr,x.e,x.br⟩:Str).ch).v,.bool ((⟨x.b,ch9,x.sd,x.client,x.wh,x.buffer,wt,clo,x.r,x.y,x.off,x.lr,x.e,x.br⟩:Str).sd),V ((⟨x.b,ch9,x.sd,x.client,x.wh,x.buffer,wt,clo,x.r,x.y,x.off,x.lr,x.e,x.br⟩:Str).client),V ((⟨x.b,ch9,x.sd,x.client,x.wh,x.buffer,wt,clo,x.r,x.y,x.off,x.lr,x.e,x.br⟩:Str).wh),V ((⟨x.b,ch9,x.sd,x.client,x.wh,x.buffer,wt,clo,x.r,x.y,x.off,x.lr,x.e,x.br⟩:Str).buffer),.slice ((⟨x.b,ch9,x.sd,x.client,x.wh,x.buffer,wt,clo,x.r,x.y,x.off,x.lr,x.e,x.br⟩:Str).wait.A) ((⟨x.b,ch9,x.sd,x.client,x.wh,x.buffer,wt,clo,x.r,x.y,x.off,x.lr,x.e,x.br⟩:Str).wait.l).length ((⟨x.b,ch9,x.sd,x.client,x.wh,x.buffer,wt,clo,x.r,x.y,x.off,x.lr,x.e,x.br⟩:Str).wait.C),.bool ((⟨x.b,ch9,x.sd,x.client,x.wh,x.buffer,wt,clo,x.r,x.y,x.off,x.lr,x.e,x.br⟩:Str).closing),.bool cl,.pointer (some ⟨(⟨x.b,ch9,x.sd,x.client,x.wh,x.buffer,wt,clo,x.r,x.y,x.off,x.lr,x.e,x.br⟩:Str).r,0,none⟩)] 108 (0,0))]::ch9.s::wt.s::H):=by
 have hcw:=z7 x.wait.own
 refine SCalls.of_walk (n:=33) Tryz.func26 Z Z Z fun cs => ?_
 refine zc<|za<|AtL.assign zg0 Z Z<|AtL.done<|zc<|za ?_
 refine zb zg0 Z Z<|zb zg0 Z Z<|zk zaM zg0 Z Z (zbi (lk:=Lk.str x) i hm hat) ?_
 rintro _ _ ⟨rfl,rfl⟩
 refine zb zg0 Z Z<|AtL.extract zg0 Z Z Z<|AtL.extract zg0 Z Z Z<|AtL.assign zg0 Z Z<|AtL.assign zg0 Z Z<|AtL.done ?_
 refine zc<|zc<|za<|zb zg0 Z Z<|zT zg0 Z Z Z<|AtL.done ?_
 refine zB Z<|zj<|zc<|za<|zb zg0 Z Z<|zb zg0 Z Z ?_
 refine zb4 Z zg0 Z Z Z<|AtL.done<|zc<|zc<|za<|zb zg0 Z Z ?_
 refine zZ zaF zg0 Z Z Z (fun w => by kernel_rfl) (zdi (b:=x.b)) ?_
 rintro _ _ ⟨rfl,rfl⟩
 refine AtL.assign zg0 Z Z<|AtL.done<|zc<|za<|zb zg0 Z Z<|zf zg0 Z Z ?_
 refine zd zaS zg0 Z Z Z<|zh zR zg0 Z Z (Cell.own 2 0 Z Z Z)<|zag zg0 Z Z<|zb zg0 Z Z<|zY (t:=26) Z ?_ ?_
 ·intro hs26
  have hs26:x.closing=false:=zO hs26
  refine zb (.inr ⟨_,_,_,Z,Z,Z,Z⟩) Z Z<|zZ tf_body231 (.inr ⟨_,_,_,Z,Z,Z,Z⟩) Z Z Z (fun w => by kernel_rfl) (sfinish_ok (b:=x.b)) ?_
  rintro _ _ ⟨rfl,rfl⟩
  refine zag (.inr ⟨_,_,_,Z,Z,Z,Z⟩) Z Z<|zn zg0 Z Z Z<|AtL.done<|zX Z<|za<|zb zg0 Z Z ?_
  refine AtL.pick (H':=x.wait.s::x.ch.s::O4 x.b x.ch.v x.sd x.client x.wh x.buffer x.wait.A x.wait.l.length x.wait.C x.closing false x.r::O0 c most idle buffer last mb::[(mb,mapG kyI Lk.v kvs mn)]::H) [4,3,2,0,1] 5 Z Z ?_
  refine zk zgG zg0 Z Z (closes_str (y:=x.wait) (x:=x.ch) (by omega)) ?_
  rintro _ _ ⟨z1,ch2,cl3,hz4,hp5,hc6,hcl7,rfl,rfl⟩
  refine AtL.done<|zc<|za<|AtL.assign zg0 Z Z<|AtL.done<|zaJ Z ?_
  refine Un.pick (H':=O0 c most idle buffer last mb::[(mb,mapG kyI Lk.v kvs mn)]::O4 x.b ch2.v x.sd x.client x.wh x.buffer z1.A z1.l.length z1.C true cl3 x.r::z1.s::ch2.s::H) [3,4,2,0,1] 5 Z Z<|zaH zav Z Z (zbJ (cl:=cl3) (kvs:=kvs) i hat) ?_
  rintro _ _ ⟨rfl,rfl⟩
  exact zap (vs:=[V 0]) [0,1,2,4,3] 5 Z Z Tryz.func26 Z ⟨Z,trivial⟩ (⟨ch2,z1,true,cl3,(by rw [chn_kc hp5]),(by rw [hz4,List.length_append]; have h9:=zb8 x.ch.p; omega),(fun h9 => by have h8:=hcl7; rw [h9] at h8; simp at h8; first | omega | (dsimp only; omega)),Z,Z⟩)
 ·intro hs26
  have hs26:x.closing=true:=zJ hs26
  refine ze Z Z Z Z Z Z<|ze Z Z Z Z Z Z<|ze Z Z Z Z Z Z<|zm zg0 Z Z Z<|AtL.done<|zB Z ?_
  refine zj<|zc<|za<|AtL.assign zg0 Z Z<|AtL.done<|zaJ Z ?_
  refine zaH zav Z Z (zbJ (cl:=false) (kvs:=kvs) i hat) ?_
  rintro _ _ ⟨rfl,rfl⟩
  exact zap (vs:=[V 0]) [0,1,2,3,4] 5 Z Z Tryz.func26 Z ⟨Z,trivial⟩ (⟨x.ch,x.wait,x.closing,false,Z,(by omega),(fun _ => hwb),Z,Z⟩)
set_option maxHeartbeats 1000000 in
theorem finish_req {w0:World}{base:Nat}{H:List Seg}{c mb:Nat}{most idle buffer last:Int}{kvs:List (Int×Lk×Nat)}{mn:Nat}{x:Req}{i:Int}(hm:¬ most=0) (hat:atG i kvs=some (.req x)) (hw:1≤x.first∧x.first≤x.next∧x.next≤x.first + 16∧x.first≤1000000) (hwb:(x.wait.l.length:Int)≤x.buffer) (hbf:x.buffer≤1048576) :
  SCalls Tryz.prog 26 [B c,V i] w0 base (O0 c most idle buffer last mb::[(mb,mapG kyI Lk.v kvs mn)]::O2 x.b x.ch.v x.sd x.client x.wh x.buffer x.wait.A x.wait.l.length x.wait.C x.closing false x.hr x.wb x.last x.behind::O3 x.wb 16 x.first x.next x.mb::x.ch.s::x.wait.s::H) (fun v H' => ∃ (ch9:Chn) (wt:Sl tyB 5) (clo cl:Bool) (bh9:Int),ch9.y.l=x.ch.y.l∧wt.l.length≤1300000∧(cl=false→(wt.l.length:Int)≤x.buffer)∧v=int 0∧H' = (O0 c most idle buffer last mb)::[(mb,mapG kyI Lk.v (if cl=true then delG i kvs else kvs) mn)]::[((⟨x.b,ch9,x.sd,x.client,x.wh,x.buffer,wt,clo,x.hr,x.hs,x.wb,x.mb,x.first,x.next,x.dn,x.n,x.last,bh9⟩:Req).b,.cells #[((⟨x.b,ch9,x.sd,x.client,x.wh,x.buffer,wt,clo,x.hr,x.hs,x.wb,x.mb,x.first,x.next,x.dn,x.n,x.last,bh9⟩:Req).ch).v,.bool ((⟨x.b,ch9,x.sd,x.client,x.wh,x.buffer,wt,clo,x.hr,x.hs,x.wb,x.mb,x.first,x.next,x.dn,x.n,x.last,bh9⟩:Req).sd),V ((⟨x.b,ch9,x.sd,x.client,x.wh,x.buffer,wt,clo,x.hr,x.hs,x.wb,x.mb,x.first,x.next,x.dn,x.n,x.last,bh9⟩:Req).client),V ((⟨x.b,ch9,x.sd,x.client,x.wh,x.buffer,wt,clo,x.hr,x.hs,x.wb,x.mb,x.first,x.next,x.dn,x.n,x.last,bh9⟩:Req).wh),V ((⟨x.b,ch9,x.sd,x.client,x.wh,x.buffer,wt,clo,x.hr,x.hs,x.wb,x.mb,x.first,x.next,x.dn,x.n,x.last,bh9⟩:Req).buffer),.slice ((⟨x.b,ch9,x.sd,x.client,x.wh,x.buffer,wt,clo,x.hr,x.hs,x.wb,x.mb,x.first,x.next,x.dn,x.n,x.last,bh9⟩:Req).wait.A) ((⟨x.b,ch9,x.sd,x.client,x.wh,x.buffer,wt,clo,x.hr,x.hs,x.wb,x.mb,x.first,x.next,x.dn,x.n,x.last,bh9⟩:Req).wait.l).length ((⟨x.b,ch9,x.sd,x.client,x.wh,x.buffer,wt,clo,x.hr,x.hs,x.wb,x.mb,x.first,x.next,x.dn,x.n,x.last,bh9⟩:Req).wait.C),.bool ((⟨x.b,ch9,x.sd,x.client,x.wh,x.buffer,wt,clo,x.hr,x.hs,x.wb,x.mb,x.first,x.next,x.dn,x.n,x.last,bh9⟩:Req).closing),.bool cl,.pointer (some ⟨(⟨x.b,ch9,x.sd,x.client,x.wh,x.buffer,wt,clo,x.hr,x.hs,x.wb,x.mb,x.first,x.next,x.dn,x.n,x.last,bh9⟩:Req).hr,0,none⟩),.pointer (some ⟨(⟨x.b,ch9,x.sd,x.client,x.wh,x.buffer,wt,clo,x.hr,x.hs,x.wb,x.mb,x.first,x.next,x.dn,x.n,x.last,bh9⟩:Req).wb,0,none⟩),V ((⟨x.b,ch9,x.sd,x.client,x.wh,x.buffer,wt,clo,x.hr,x.hs,x.wb,x.mb,x.first,x.next,x.dn,x.n,x.last,bh9⟩:Req).last),V ((⟨x.b,ch9,x.sd,x.client,x.wh,x.buffer,wt,clo,x.hr,x.hs,x.wb,x.mb,x.first,x.next,x.dn,x.n,x.last,bh9⟩:Req).behind)] 116 (0,0))]::[((⟨x.b,ch9,x.sd,x.client,x.wh,x.buffer,wt,clo,x.hr,x.hs,x.wb,x.mb,x.first,x.next,x.dn,x.n,x.last,bh9⟩:Req).wb,.cells #[V 16,V ((⟨x.b,ch9,x.sd,x.client,x.wh,x.buffer,wt,clo,x.hr,x.hs,x.wb,x.mb,x.first,x.next,x.dn,x.n,x.last,bh9⟩:Req).first),V ((⟨x.b,ch9,x.sd,x.client,x.wh,x.buffer,wt,clo,x.hr,x.hs,x.wb,x.mb,x.first,x.next,x.dn,x.n,x.last,bh9⟩:Req).next),.map (some (⟨x.b,ch9,x.sd,x.client,x.wh,x.buffer,wt,clo,x.hr,x.hs,x.wb,x.mb,x.first,x.next,x.dn,x.n,x.last,bh9⟩:Req).mb)] 128 (0,0))]::ch9.s::wt.s::H):=by
 have hcw:=z7 x.wait.own
 refine SCalls.of_walk (n:=33) Tryz.func26 Z Z Z fun cs => ?_
 refine zc<|za<|AtL.assign zg0 Z Z<|AtL.done<|zc<|za ?_
 refine zb zg0 Z Z<|zb zg0 Z Z<|zk zaM zg0 Z Z (zbi (lk:=Lk.req x) i hm hat) ?_
 rintro _ _ ⟨rfl,rfl⟩
 refine zb zg0 Z Z<|AtL.extract zg0 Z Z Z<|AtL.extract zg0 Z Z Z<|AtL.assign zg0 Z Z<|AtL.assign zg0 Z Z<|AtL.done ?_
 refine zc<|zc<|za<|zb zg0 Z Z<|zT zg0 Z Z Z<|AtL.done ?_
 refine zB Z<|zj<|zc<|za<|zb zg0 Z Z<|zb zg0 Z Z ?_
 refine zb4 Z zg0 Z Z Z<|AtL.done<|zc<|zc<|za<|zb zg0 Z Z ?_
 refine zZ zaF zg0 Z Z Z (fun w => by kernel_rfl) (zdi (b:=x.b)) ?_
 rintro _ _ ⟨rfl,rfl⟩
 refine AtL.assign zg0 Z Z<|AtL.done<|zc<|za<|zb zg0 Z Z<|zf zg0 Z Z ?_
 refine zd zaS zg0 Z Z Z<|zh zR zg0 Z Z (Cell.own 2 0 Z Z Z)<|zag zg0 Z Z<|zb zg0 Z Z<|zY (t:=26) Z ?_ ?_
 ·intro hs26
  have hs26:x.closing=false:=zO hs26
  refine zb (.inr ⟨_,_,_,Z,Z,Z,Z⟩) Z Z<|AtL.pick (H':=O2 x.b x.ch.v x.sd x.client x.wh x.buffer x.wait.A x.wait.l.length x.wait.C x.closing false x.hr x.wb x.last x.behind::O3 x.wb 16 x.first x.next x.mb::O0 c most idle buffer last mb::[(mb,mapG kyI Lk.v kvs mn)]::x.ch.s::x.wait.s::H) [2,3,0,1,4,5] 6 Z Z<|zZ tf_body239 (.inr ⟨_,_,_,Z,Z,Z,Z⟩) Z Z Z (fun w => by kernel_rfl) (qfinish_ok hw) ?_
  rintro _ _ ⟨zf1,bh2,rfl,rfl⟩
  refine zag (.inr ⟨_,_,_,Z,Z,Z,Z⟩) Z Z<|zn zg0 Z Z Z<|AtL.done<|zae Z ?_ ?_
  ·intro hc2
   have hc2:zf1=false:=zO hc2
   refine za<|zb zg0 Z Z<|AtL.pick (H':=x.wait.s::x.ch.s::O2 x.b x.ch.v x.sd x.client x.wh x.buffer x.wait.A x.wait.l.length x.wait.C x.closing false x.hr x.wb x.last bh2::O3 x.wb 16 x.first x.next x.mb::O0 c most idle buffer last mb::[(mb,mapG kyI Lk.v kvs mn)]::H) [5,4,0,1,2,3] 6 Z Z ?_
   refine zk zgG zg0 Z Z (zh5 (y:=x.wait) (x:=x.ch) (by omega)) ?_
   rintro _ _ ⟨z3,ch4,cl5,hz6,hp7,hc8,hcl9,rfl,rfl⟩
   refine AtL.done<|zc<|za<|AtL.assign zg0 Z Z<|AtL.done<|zaJ Z ?_
   refine Un.pick (H':=O0 c most idle buffer last mb::[(mb,mapG kyI Lk.v kvs mn)]::O2 x.b ch4.v x.sd x.client x.wh x.buffer z3.A z3.l.length z3.C true cl5 x.hr x.wb x.last bh2::z3.s::ch4.s::O3 x.wb 16 x.first x.next x.mb::H) [4,5,2,0,1,3] 6 Z Z<|zaH zav Z Z (zbc (cl:=cl5) (kvs:=kvs) i hat) ?_
   rintro _ _ ⟨rfl,rfl⟩
   exact zap (vs:=[V 0]) [0,1,2,5,4,3] 6 Z Z Tryz.func26 Z ⟨Z,trivial⟩ (⟨ch4,z3,true,cl5,bh2,(by rw [chn_kc hp7]),(by rw [hz6,List.length_append]; have h9:=zb8 x.ch.p; omega),(fun h9 => by have h8:=hcl9; rw [h9] at h8; simp at h8; first | omega | (dsimp only; omega)),Z,Z⟩)
  ·intro hc2
   have hc2:zf1=true:=zJ hc2
   refine zj<|zc<|za<|AtL.assign zg0 Z Z<|AtL.done<|zaJ Z ?_
   refine Un.pick (H':=O0 c most idle buffer last mb::[(mb,mapG kyI Lk.v kvs mn)]::O2 x.b x.ch.v x.sd x.client x.wh x.buffer x.wait.A x.wait.l.length x.wait.C x.closing false x.hr x.wb x.last bh2::O3 x.wb 16 x.first x.next x.mb::x.ch.s::x.wait.s::H) [2,3,0,1,4,5] 6 Z Z<|zaH zav Z Z (zbc (cl:=false) (kvs:=kvs) i hat) ?_
   rintro _ _ ⟨rfl,rfl⟩
   exact zap (vs:=[V 0]) [0,1,2,3,4,5] 6 Z Z Tryz.func26 Z ⟨Z,trivial⟩ (⟨x.ch,x.wait,x.closing,false,bh2,Z,(by omega),(fun _ => hwb),Z,Z⟩)
 ·intro hs26
  have hs26:x.closing=true:=zJ hs26
  refine ze Z Z Z Z Z Z<|ze Z Z Z Z Z Z<|ze Z Z Z Z Z Z<|zm zg0 Z Z Z<|AtL.done<|zB Z ?_
  refine zj<|zc<|za<|AtL.assign zg0 Z Z<|AtL.done<|zaJ Z ?_
  refine zaH zav Z Z (zbc (cl:=false) (kvs:=kvs) i hat) ?_
  rintro _ _ ⟨rfl,rfl⟩
  exact zap (vs:=[V 0]) [0,1,2,3,4,5] 6 Z Z Tryz.func26 Z ⟨Z,trivial⟩ (⟨x.ch,x.wait,x.closing,false,x.behind,Z,(by omega),(fun _ => hwb),Z,Z⟩)
set_option maxHeartbeats 1000000 in
theorem info_str {w0:World}{base:Nat}{H:List Seg}{c mb:Nat}{most idle buffer last:Int}{kvs:List (Int×Lk×Nat)}{mn:Nat}{x:Str}{i:Int}(hm:¬ most=0) (hat:atG i kvs=some (.str x)) :
  SCalls Tryz.prog 25 [B c,V i] w0 base (O0 c most idle buffer last mb::[(mb,mapG kyI Lk.v kvs mn)]::O4 x.b x.ch.v x.sd x.client x.wh x.buffer x.wait.A x.wait.l.length x.wait.C x.closing false x.r::H) (fun v H' => ∃ (k9:Int) (s9:Bool) (c9:Int) (l9:Bool),v = .tuple #[.agg #[int k9,.bool s9,int c9,int (x.wait.l.length:Int),int 0,.bool l9],.bool true]∧H' = (O0 c most idle buffer last mb)::[(mb,mapG kyI Lk.v kvs mn)]::O4 x.b x.ch.v x.sd x.client x.wh x.buffer x.wait.A x.wait.l.length x.wait.C x.closing false x.r::H):=by
 refine SCalls.of_walk (n:=51) Tryz.func25 Z Z Z fun cs => ?_
 refine zc<|za<|AtL.alloc zc5 (cs:=#[V 0,.bool false,V 0,V 0,V 0,.bool false]) Z zg0 Z ?_
 intro b1
 refine AtL.assign zg0 Z Z<|AtL.done<|zc<|za<|zb zg0 Z Z<|zb zg0 Z Z ?_
 refine AtL.pick (H':=O0 c most idle buffer last mb::[(mb,mapG kyI Lk.v kvs mn)]::O5 b1 0 false 0 0 0 false::O4 x.b x.ch.v x.sd x.client x.wh x.buffer x.wait.A x.wait.l.length x.wait.C x.closing false x.r::H) [1,2,0,3] 4 Z Z<|zk zaM zg0 Z Z (zbi (lk:=Lk.str x) i hm hat) ?_
 rintro _ _ ⟨rfl,rfl⟩
 refine zb zg0 Z Z<|AtL.extract zg0 Z Z Z<|AtL.extract zg0 Z Z Z<|AtL.assign zg0 Z Z<|AtL.assign zg0 Z Z<|AtL.done ?_
 refine zc<|zc<|za<|zb zg0 Z Z<|zT zg0 Z Z Z<|AtL.done ?_
 refine zB Z<|zj<|zc<|za<|zb zg0 Z Z<|zZ zaF zg0 Z Z Z (fun w => by kernel_rfl) (zdi (b:=x.b)) ?_
 rintro _ _ ⟨rfl,rfl⟩
 refine AtL.assign zg0 Z Z<|AtL.done<|zc ?_
 cases hcg:x.closing with
 | true =>
  refine At.pick (H':=O4 x.b x.ch.v x.sd x.client x.wh x.buffer x.wait.A x.wait.l.length x.wait.C true false x.r::O0 c most idle buffer last mb::[(mb,mapG kyI Lk.v kvs mn)]::O5 b1 0 false 0 0 0 false::H) [3,0,1,2] 4 Z Z ?_
  refine zac (es:=[22,23]) (pv:=[(0,B x.b),(1,B x.b),(2,.pointer (some ⟨x.b,1,none⟩)),(3,.bool x.sd),(4,B x.b),(5,B x.b),(6,.pointer (some ⟨x.b,2,none⟩)),(7,V x.client),(8,B x.b),(9,B x.b),(10,.pointer (some ⟨x.b,5,none⟩)),(11,.slice x.wait.A x.wait.l.length x.wait.C),(12,V (x.wait.l.length:Int)),(13,B x.b),(14,B x.b),(15,.pointer (some ⟨x.b,6,none⟩)),(16,.bool true),(17,.bool true),(18,undef),(19,undef),(20,.bool true),(21,.agg #[V 0,.bool x.sd,V x.client,V (x.wait.l.length:Int),V 0,.bool true])]) zV (by kernel_rfl) (by kernel_rfl) (by kernel_rfl) ?_
  refine ⟨⟨zpr Z Z Z (zi Z),zpr Z Z Z (zl Z),zpr Z Z Z (zg zb1 Z Z),zpr Z Z Z (zu zR Z (Cell.own 0 0 Z Z Z)),zpr Z Z Z (zi Z),zpr Z Z Z (zl Z),zpr Z Z Z (zg zcL Z Z),zpr Z Z Z (zu zo Z (Cell.own 0 0 Z Z Z)),zpr Z Z Z (zi Z),zpr Z Z Z (zl Z),zpr Z Z Z (zg zaq Z Z),zpr Z Z Z (zu zE Z (Cell.own 0 0 Z Z Z)),zpr Z Z Z (zbt Tryz.underlying34 Z),zpr Z Z Z (zi Z),zpr Z Z Z (zl Z),zpr Z Z Z (zg zaS Z Z),zpr Z Z Z (zu zR Z (Cell.own 0 0 Z Z Z)),zpr Z Z Z (zi Z),.inr ⟨_,Z,Z,.inr ⟨⟨_,_,_,Z,Z,Z,Z⟩,Z⟩⟩,.inr ⟨_,Z,Z,.inr ⟨⟨_,_,_,Z,Z,Z,Z⟩,Z⟩⟩,zpr Z Z Z (za4 Z Z),zpr Z Z Z (zbx (cs:=[V 0,.bool x.sd,V x.client,V (x.wait.l.length:Int),V 0,.bool true]) zdj Z Z),trivial⟩,Z,Z,by kernel_rfl,_,Z,Z,Z,_,Do.alloc zc5 (cs:=#[V 0,.bool false,V 0,V 0,V 0,.bool false]) Z,?_⟩
  rintro _ _ ⟨b2,rfl,rfl⟩
  refine ⟨[],Z,?_⟩
  refine ⟨⟨zpr Z Z Z (zi Z),zpr Z Z Z (zl Z),zpr Z Z Z (zg zb1 Z Z),zpr Z Z Z (zu zR Z (Cell.own 1 0 Z Z Z)),zpr Z Z Z (zi Z),zpr Z Z Z (zl Z),zpr Z Z Z (zg zcL Z Z),zpr Z Z Z (zu zo Z (Cell.own 1 0 Z Z Z)),zpr Z Z Z (zi Z),zpr Z Z Z (zl Z),zpr Z Z Z (zg zaq Z Z),zpr Z Z Z (zu zE Z (Cell.own 1 0 Z Z Z)),zpr Z Z Z (zbt Tryz.underlying34 Z),zpr Z Z Z (zi Z),zpr Z Z Z (zl Z),zpr Z Z Z (zg zaS Z Z),zpr Z Z Z (zu zR Z (Cell.own 1 0 Z Z Z)),zpr Z Z Z (zi Z),.inr ⟨_,Z,Z,.inr ⟨⟨_,_,_,Z,Z,Z,Z⟩,Z⟩⟩,.inr ⟨_,Z,Z,.inr ⟨⟨_,_,_,Z,Z,Z,Z⟩,Z⟩⟩,zpr Z Z Z (za4 Z Z),zpr Z Z Z (zbx (cs:=[V 0,.bool x.sd,V x.client,V (x.wait.l.length:Int),V 0,.bool true]) zdj Z Z),trivial⟩,Z,Z,by kernel_rfl,_,Z,Z,Z,_,zbF (H':=O5 b2 0 x.sd x.client (x.wait.l.length:Int) 0 true::O4 x.b x.ch.v x.sd x.client x.wh x.buffer x.wait.A x.wait.l.length x.wait.C true false x.r::O0 c most idle buffer last mb::[(mb,mapG kyI Lk.v kvs mn)]::O5 b1 0 false 0 0 0 false::H) 0 0 zdP Z Z Z Z Z Z Z Z Z,?_⟩
  rintro _ _ ⟨rfl,rfl⟩
  refine ⟨[],Z,?_⟩
  refine ⟨⟨.inl (by kernel_rfl),.inl (by kernel_rfl),.inl (by kernel_rfl),.inl (by kernel_rfl),.inl (by kernel_rfl),.inl (by kernel_rfl),.inl (by kernel_rfl),.inl (by kernel_rfl),.inl (by kernel_rfl),.inl (by kernel_rfl),.inl (by kernel_rfl),.inl (by kernel_rfl),.inl (by kernel_rfl),.inl (by kernel_rfl),.inl (by kernel_rfl),.inl (by kernel_rfl),.inl (by kernel_rfl),.inl (by kernel_rfl),.inl (by kernel_rfl),.inl (by kernel_rfl),.inl (by kernel_rfl),.inl (by kernel_rfl),trivial⟩,by kernel_rfl,?_⟩
  refine At.mono (E':=[(4,B b1),(6,.iface 106 (B x.b)),(9,B b2)]) ⟨Z,Z,Z,trivial⟩<|zc<|za<|zb zg0 Z Z<|zZ zhM zg0 Z Z Z (fun w => by kernel_rfl) (skind_ok (b:=x.b)) ?_
  rintro _ _ ⟨rfl,rfl⟩
  refine zb zg0 Z Z<|AtL.extract zg0 Z Z Z<|AtL.extract zg0 Z Z Z<|zd ze9 zg0 Z Z Z<|zr (H':=O5 b2 1 x.sd x.client (x.wait.l.length:Int) 0 true::O4 x.b x.ch.v x.sd x.client x.wh x.buffer x.wait.A x.wait.l.length x.wait.C true false x.r::O0 c most idle buffer last mb::[(mb,mapG kyI Lk.v kvs mn)]::O5 b1 0 false 0 0 0 false::H) 0 0 zaB zg0 Z Z Z Z Z Z Z Z Z<|zd zcM zg0 Z Z Z ?_
  refine zr (H':=O5 b2 1 x.sd x.client (x.wait.l.length:Int) 0 true::O4 x.b x.ch.v x.sd x.client x.wh x.buffer x.wait.A x.wait.l.length x.wait.C true false x.r::O0 c most idle buffer last mb::[(mb,mapG kyI Lk.v kvs mn)]::O5 b1 0 false 0 0 0 false::H) 0 0 zaB zg0 Z Z Z Z Z Z Z Z Z<|AtL.done<|zc<|za<|zay (cs:=[V 1,.bool x.sd,V x.client,V (x.wait.l.length:Int),V 0,.bool true]) zdk zg0 Z Z Z (zad 0 0 0 Z Z Z)<|zr (H':=O5 b2 1 x.sd x.client (x.wait.l.length:Int) 0 true::O4 x.b x.ch.v x.sd x.client x.wh x.buffer x.wait.A x.wait.l.length x.wait.C true false x.r::O0 c most idle buffer last mb::[(mb,mapG kyI Lk.v kvs mn)]::O5 b1 1 x.sd x.client (x.wait.l.length:Int) 0 true::H) 4 0 zdP zg0 Z Z Z Z Z Z Z Z Z ?_
  refine AtL.assign zg0 Z Z<|AtL.done ?_
  exact zaZ (vs:=[.agg #[V 1,.bool x.sd,V x.client,V (x.wait.l.length:Int),V 0,.bool true],.bool true]) [2,3,1] 5 Z Z Tryz.func25 Z ⟨⟨_,Z,LoadsTo.agg (cs:=[V 1,.bool x.sd,V x.client,V (x.wait.l.length:Int),V 0,.bool true]) zdk Z (zad 4 0 0 Z Z Z)⟩,Z,trivial⟩ (⟨1,x.sd,x.client,true,Z,Z⟩)
 | false =>
  refine At.pick (H':=O4 x.b x.ch.v x.sd x.client x.wh x.buffer x.wait.A x.wait.l.length x.wait.C false false x.r::O0 c most idle buffer last mb::[(mb,mapG kyI Lk.v kvs mn)]::O5 b1 0 false 0 0 0 false::H) [3,0,1,2] 4 Z Z ?_
  refine zac (es:=[22,23]) (pv:=[(0,B x.b),(1,B x.b),(2,.pointer (some ⟨x.b,1,none⟩)),(3,.bool x.sd),(4,B x.b),(5,B x.b),(6,.pointer (some ⟨x.b,2,none⟩)),(7,V x.client),(8,B x.b),(9,B x.b),(10,.pointer (some ⟨x.b,5,none⟩)),(11,.slice x.wait.A x.wait.l.length x.wait.C),(12,V (x.wait.l.length:Int)),(13,B x.b),(14,B x.b),(15,.pointer (some ⟨x.b,6,none⟩)),(16,.bool false),(17,.bool false),(18,.iface 106 (B x.b)),(19,.bool false),(20,.bool false),(21,.agg #[V 0,.bool x.sd,V x.client,V (x.wait.l.length:Int),V 0,.bool false])]) zV (by kernel_rfl) (by kernel_rfl) (by kernel_rfl) ?_
  refine ⟨⟨zpr Z Z Z (zi Z),zpr Z Z Z (zl Z),zpr Z Z Z (zg zb1 Z Z),zpr Z Z Z (zu zR Z (Cell.own 0 0 Z Z Z)),zpr Z Z Z (zi Z),zpr Z Z Z (zl Z),zpr Z Z Z (zg zcL Z Z),zpr Z Z Z (zu zo Z (Cell.own 0 0 Z Z Z)),zpr Z Z Z (zi Z),zpr Z Z Z (zl Z),zpr Z Z Z (zg zaq Z Z),zpr Z Z Z (zu zE Z (Cell.own 0 0 Z Z Z)),zpr Z Z Z (zbt Tryz.underlying34 Z),zpr Z Z Z (zi Z),zpr Z Z Z (zl Z),zpr Z Z Z (zg zaS Z Z),zpr Z Z Z (zu zR Z (Cell.own 0 0 Z Z Z)),zpr Z Z Z (zi Z),zpr Z Z ⟨_,_,_,Z,Z,Z,Z⟩ (zi Z),zpr Z Z ⟨_,_,_,Z,Z,Z,Z⟩ (zdX zdF Z Z (fun w => by kernel_rfl) (zfh (b:=x.b))),zpr Z Z Z (zak Z Z),zpr Z Z Z (zbx (cs:=[V 0,.bool x.sd,V x.client,V (x.wait.l.length:Int),V 0,.bool false]) zdj Z Z),trivial⟩,Z,Z,by kernel_rfl,_,Z,Z,Z,_,Do.alloc zc5 (cs:=#[V 0,.bool false,V 0,V 0,V 0,.bool false]) Z,?_⟩
  rintro _ _ ⟨b4,rfl,rfl⟩
  refine ⟨[],Z,?_⟩
  refine ⟨⟨zpr Z Z Z (zi Z),zpr Z Z Z (zl Z),zpr Z Z Z (zg zb1 Z Z),zpr Z Z Z (zu zR Z (Cell.own 1 0 Z Z Z)),zpr Z Z Z (zi Z),zpr Z Z Z (zl Z),zpr Z Z Z (zg zcL Z Z),zpr Z Z Z (zu zo Z (Cell.own 1 0 Z Z Z)),zpr Z Z Z (zi Z),zpr Z Z Z (zl Z),zpr Z Z Z (zg zaq Z Z),zpr Z Z Z (zu zE Z (Cell.own 1 0 Z Z Z)),zpr Z Z Z (zbt Tryz.underlying34 Z),zpr Z Z Z (zi Z),zpr Z Z Z (zl Z),zpr Z Z Z (zg zaS Z Z),zpr Z Z Z (zu zR Z (Cell.own 1 0 Z Z Z)),zpr Z Z Z (zi Z),zpr Z Z ⟨_,_,_,Z,Z,Z,Z⟩ (zi Z),zpr Z Z ⟨_,_,_,Z,Z,Z,Z⟩ (zdX zdF Z Z (fun w => by kernel_rfl) (zfh (b:=x.b))),zpr Z Z Z (zak Z Z),zpr Z Z Z (zbx (cs:=[V 0,.bool x.sd,V x.client,V (x.wait.l.length:Int),V 0,.bool false]) zdj Z Z),trivial⟩,Z,Z,by kernel_rfl,_,Z,Z,Z,_,zbF (H':=O5 b4 0 x.sd x.client (x.wait.l.length:Int) 0 false::O4 x.b x.ch.v x.sd x.client x.wh x.buffer x.wait.A x.wait.l.length x.wait.C false false x.r::O0 c most idle buffer last mb::[(mb,mapG kyI Lk.v kvs mn)]::O5 b1 0 false 0 0 0 false::H) 0 0 zdP Z Z Z Z Z Z Z Z Z,?_⟩
  rintro _ _ ⟨rfl,rfl⟩
  refine ⟨[],Z,?_⟩
  refine ⟨⟨.inl (by kernel_rfl),.inl (by kernel_rfl),.inl (by kernel_rfl),.inl (by kernel_rfl),.inl (by kernel_rfl),.inl (by kernel_rfl),.inl (by kernel_rfl),.inl (by kernel_rfl),.inl (by kernel_rfl),.inl (by kernel_rfl),.inl (by kernel_rfl),.inl (by kernel_rfl),.inl (by kernel_rfl),.inl (by kernel_rfl),.inl (by kernel_rfl),.inl (by kernel_rfl),.inl (by kernel_rfl),.inl (by kernel_rfl),.inl (by kernel_rfl),.inl (by kernel_rfl),.inl (by kernel_rfl),.inl (by kernel_rfl),trivial⟩,by kernel_rfl,?_⟩
  refine At.mono (E':=[(4,B b1),(6,.iface 106 (B x.b)),(9,B b4)]) ⟨Z,Z,Z,trivial⟩<|zc<|za<|zb zg0 Z Z<|zZ zhM zg0 Z Z Z (fun w => by kernel_rfl) (skind_ok (b:=x.b)) ?_
  rintro _ _ ⟨rfl,rfl⟩
  refine zb zg0 Z Z<|AtL.extract zg0 Z Z Z<|AtL.extract zg0 Z Z Z<|zd ze9 zg0 Z Z Z<|zr (H':=O5 b4 1 x.sd x.client (x.wait.l.length:Int) 0 false::O4 x.b x.ch.v x.sd x.client x.wh x.buffer x.wait.A x.wait.l.length x.wait.C false false x.r::O0 c most idle buffer last mb::[(mb,mapG kyI Lk.v kvs mn)]::O5 b1 0 false 0 0 0 false::H) 0 0 zaB zg0 Z Z Z Z Z Z Z Z Z<|zd zcM zg0 Z Z Z ?_
  refine zr (H':=O5 b4 1 x.sd x.client (x.wait.l.length:Int) 0 false::O4 x.b x.ch.v x.sd x.client x.wh x.buffer x.wait.A x.wait.l.length x.wait.C false false x.r::O0 c most idle buffer last mb::[(mb,mapG kyI Lk.v kvs mn)]::O5 b1 0 false 0 0 0 false::H) 0 0 zaB zg0 Z Z Z Z Z Z Z Z Z<|AtL.done<|zc<|za<|zay (cs:=[V 1,.bool x.sd,V x.client,V (x.wait.l.length:Int),V 0,.bool false]) zdk zg0 Z Z Z (zad 0 0 0 Z Z Z)<|zr (H':=O5 b4 1 x.sd x.client (x.wait.l.length:Int) 0 false::O4 x.b x.ch.v x.sd x.client x.wh x.buffer x.wait.A x.wait.l.length x.wait.C false false x.r::O0 c most idle buffer last mb::[(mb,mapG kyI Lk.v kvs mn)]::O5 b1 1 x.sd x.client (x.wait.l.length:Int) 0 false::H) 4 0 zdP zg0 Z Z Z Z Z Z Z Z Z ?_
  refine AtL.assign zg0 Z Z<|AtL.done ?_
  exact zaZ (vs:=[.agg #[V 1,.bool x.sd,V x.client,V (x.wait.l.length:Int),V 0,.bool false],.bool true]) [2,3,1] 5 Z Z Tryz.func25 Z ⟨⟨_,Z,LoadsTo.agg (cs:=[V 1,.bool x.sd,V x.client,V (x.wait.l.length:Int),V 0,.bool false]) zdk Z (zad 4 0 0 Z Z Z)⟩,Z,trivial⟩ (⟨1,x.sd,x.client,false,Z,Z⟩)
set_option maxHeartbeats 1000000 in
theorem info_req {w0:World}{base:Nat}{H:List Seg}{c mb:Nat}{most idle buffer last:Int}{kvs:List (Int×Lk×Nat)}{mn:Nat}{x:Req}{i:Int}(hm:¬ most=0) (hat:atG i kvs=some (.req x)) (hw:1≤x.first∧x.first≤x.next∧x.next≤x.first + 16∧x.first≤1000000) :
  SCalls Tryz.prog 25 [B c,V i] w0 base (O0 c most idle buffer last mb::[(mb,mapG kyI Lk.v kvs mn)]::O2 x.b x.ch.v x.sd x.client x.wh x.buffer x.wait.A x.wait.l.length x.wait.C x.closing false x.hr x.wb x.last x.behind::O3 x.wb 16 x.first x.next x.mb::H) (fun v H' => ∃ (k9:Int) (s9:Bool) (c9:Int) (l9:Bool),v = .tuple #[.agg #[int k9,.bool s9,int c9,int (x.wait.l.length:Int),int (x.next - x.first),.bool l9],.bool true]∧H' = (O0 c most idle buffer last mb)::[(mb,mapG kyI Lk.v kvs mn)]::O2 x.b x.ch.v x.sd x.client x.wh x.buffer x.wait.A x.wait.l.length x.wait.C x.closing false x.hr x.wb x.last x.behind::O3 x.wb 16 x.first x.next x.mb::H):=by
 refine SCalls.of_walk (n:=51) Tryz.func25 Z Z Z fun cs => ?_
 refine zc<|za<|AtL.alloc zc5 (cs:=#[V 0,.bool false,V 0,V 0,V 0,.bool false]) Z zg0 Z ?_
 intro b1
 refine AtL.assign zg0 Z Z<|AtL.done<|zc<|za<|zb zg0 Z Z<|zb zg0 Z Z ?_
 refine AtL.pick (H':=O0 c most idle buffer last mb::[(mb,mapG kyI Lk.v kvs mn)]::O5 b1 0 false 0 0 0 false::O2 x.b x.ch.v x.sd x.client x.wh x.buffer x.wait.A x.wait.l.length x.wait.C x.closing false x.hr x.wb x.last x.behind::O3 x.wb 16 x.first x.next x.mb::H) [1,2,0,3,4] 5 Z Z<|zk zaM zg0 Z Z (zbi (lk:=Lk.req x) i hm hat) ?_
 rintro _ _ ⟨rfl,rfl⟩
 refine zb zg0 Z Z<|AtL.extract zg0 Z Z Z<|AtL.extract zg0 Z Z Z<|AtL.assign zg0 Z Z<|AtL.assign zg0 Z Z<|AtL.done ?_
 refine zc<|zc<|za<|zb zg0 Z Z<|zT zg0 Z Z Z<|AtL.done ?_
 refine zB Z<|zj<|zc<|za<|zb zg0 Z Z<|zZ zaF zg0 Z Z Z (fun w => by kernel_rfl) (zdi (b:=x.b)) ?_
 rintro _ _ ⟨rfl,rfl⟩
 refine AtL.assign zg0 Z Z<|AtL.done<|zc ?_
 cases hcg:x.closing with
 | true =>
  refine At.pick (H':=O2 x.b x.ch.v x.sd x.client x.wh x.buffer x.wait.A x.wait.l.length x.wait.C true false x.hr x.wb x.last x.behind::O3 x.wb 16 x.first x.next x.mb::O0 c most idle buffer last mb::[(mb,mapG kyI Lk.v kvs mn)]::O5 b1 0 false 0 0 0 false::H) [3,4,0,1,2] 5 Z Z ?_
  refine zac (es:=[22,23]) (pv:=[(0,B x.b),(1,B x.b),(2,.pointer (some ⟨x.b,1,none⟩)),(3,.bool x.sd),(4,B x.b),(5,B x.b),(6,.pointer (some ⟨x.b,2,none⟩)),(7,V x.client),(8,B x.b),(9,B x.b),(10,.pointer (some ⟨x.b,5,none⟩)),(11,.slice x.wait.A x.wait.l.length x.wait.C),(12,V (x.wait.l.length:Int)),(13,B x.b),(14,B x.b),(15,.pointer (some ⟨x.b,6,none⟩)),(16,.bool true),(17,.bool true),(18,undef),(19,undef),(20,.bool true),(21,.agg #[V 0,.bool x.sd,V x.client,V (x.wait.l.length:Int),V 0,.bool true])]) zV (by kernel_rfl) (by kernel_rfl) (by kernel_rfl) ?_
  refine ⟨⟨zpr Z Z Z (zi Z),zpr Z Z Z (zl Z),zpr Z Z Z (zg zb1 Z Z),zpr Z Z Z (zu zR Z (Cell.own 0 0 Z Z Z)),zpr Z Z Z (zi Z),zpr Z Z Z (zl Z),zpr Z Z Z (zg zcL Z Z),zpr Z Z Z (zu zo Z (Cell.own 0 0 Z Z Z)),zpr Z Z Z (zi Z),zpr Z Z Z (zl Z),zpr Z Z Z (zg zaq Z Z),zpr Z Z Z (zu zE Z (Cell.own 0 0 Z Z Z)),zpr Z Z Z (zbt Tryz.underlying34 Z),zpr Z Z Z (zi Z),zpr Z Z Z (zl Z),zpr Z Z Z (zg zaS Z Z),zpr Z Z Z (zu zR Z (Cell.own 0 0 Z Z Z)),zpr Z Z Z (zi Z),.inr ⟨_,Z,Z,.inr ⟨⟨_,_,_,Z,Z,Z,Z⟩,Z⟩⟩,.inr ⟨_,Z,Z,.inr ⟨⟨_,_,_,Z,Z,Z,Z⟩,Z⟩⟩,zpr Z Z Z (za4 Z Z),zpr Z Z Z (zbx (cs:=[V 0,.bool x.sd,V x.client,V (x.wait.l.length:Int),V 0,.bool true]) zdj Z Z),trivial⟩,Z,Z,by kernel_rfl,_,Z,Z,Z,_,Do.alloc zc5 (cs:=#[V 0,.bool false,V 0,V 0,V 0,.bool false]) Z,?_⟩
  rintro _ _ ⟨b2,rfl,rfl⟩
  refine ⟨[],Z,?_⟩
  refine ⟨⟨zpr Z Z Z (zi Z),zpr Z Z Z (zl Z),zpr Z Z Z (zg zb1 Z Z),zpr Z Z Z (zu zR Z (Cell.own 1 0 Z Z Z)),zpr Z Z Z (zi Z),zpr Z Z Z (zl Z),zpr Z Z Z (zg zcL Z Z),zpr Z Z Z (zu zo Z (Cell.own 1 0 Z Z Z)),zpr Z Z Z (zi Z),zpr Z Z Z (zl Z),zpr Z Z Z (zg zaq Z Z),zpr Z Z Z (zu zE Z (Cell.own 1 0 Z Z Z)),zpr Z Z Z (zbt Tryz.underlying34 Z),zpr Z Z Z (zi Z),zpr Z Z Z (zl Z),zpr Z Z Z (zg zaS Z Z),zpr Z Z Z (zu zR Z (Cell.own 1 0 Z Z Z)),zpr Z Z Z (zi Z),.inr ⟨_,Z,Z,.inr ⟨⟨_,_,_,Z,Z,Z,Z⟩,Z⟩⟩,.inr ⟨_,Z,Z,.inr ⟨⟨_,_,_,Z,Z,Z,Z⟩,Z⟩⟩,zpr Z Z Z (za4 Z Z),zpr Z Z Z (zbx (cs:=[V 0,.bool x.sd,V x.client,V (x.wait.l.length:Int),V 0,.bool true]) zdj Z Z),trivial⟩,Z,Z,by kernel_rfl,_,Z,Z,Z,_,zbF (H':=O5 b2 0 x.sd x.client (x.wait.l.length:Int) 0 true::O2 x.b x.ch.v x.sd x.client x.wh x.buffer x.wait.A x.wait.l.length x.wait.C true false x.hr x.wb x.last x.behind::O3 x.wb 16 x.first x.next x.mb::O0 c most idle buffer last mb::[(mb,mapG kyI Lk.v kvs mn)]::O5 b1 0 false 0 0 0 false::H) 0 0 zdP Z Z Z Z Z Z Z Z Z,?_⟩
  rintro _ _ ⟨rfl,rfl⟩
  refine ⟨[],Z,?_⟩
  refine ⟨⟨.inl (by kernel_rfl),.inl (by kernel_rfl),.inl (by kernel_rfl),.inl (by kernel_rfl),.inl (by kernel_rfl),.inl (by kernel_rfl),.inl (by kernel_rfl),.inl (by kernel_rfl),.inl (by kernel_rfl),.inl (by kernel_rfl),.inl (by kernel_rfl),.inl (by kernel_rfl),.inl (by kernel_rfl),.inl (by kernel_rfl),.inl (by kernel_rfl),.inl (by kernel_rfl),.inl (by kernel_rfl),.inl (by kernel_rfl),.inl (by kernel_rfl),.inl (by kernel_rfl),.inl (by kernel_rfl),.inl (by kernel_rfl),trivial⟩,by kernel_rfl,?_⟩
  refine At.mono (E':=[(4,B b1),(6,.iface 112 (B x.b)),(9,B b2)]) ⟨Z,Z,Z,trivial⟩<|zc<|za<|zb zg0 Z Z<|AtL.pick (H':=O2 x.b x.ch.v x.sd x.client x.wh x.buffer x.wait.A x.wait.l.length x.wait.C true false x.hr x.wb x.last x.behind::O3 x.wb 16 x.first x.next x.mb::O5 b2 0 x.sd x.client (x.wait.l.length:Int) 0 true::O0 c most idle buffer last mb::[(mb,mapG kyI Lk.v kvs mn)]::O5 b1 0 false 0 0 0 false::H) [1,2,0,3,4,5] 6 Z Z<|zZ zhL zg0 Z Z Z (fun w => by kernel_rfl) (qkind_ok hw) ?_
  rintro _ _ ⟨rfl,rfl⟩
  refine zb zg0 Z Z<|AtL.extract zg0 Z Z Z<|AtL.extract zg0 Z Z Z<|zd ze9 zg0 Z Z Z<|zr (H':=O2 x.b x.ch.v x.sd x.client x.wh x.buffer x.wait.A x.wait.l.length x.wait.C true false x.hr x.wb x.last x.behind::O3 x.wb 16 x.first x.next x.mb::O5 b2 2 x.sd x.client (x.wait.l.length:Int) 0 true::O0 c most idle buffer last mb::[(mb,mapG kyI Lk.v kvs mn)]::O5 b1 0 false 0 0 0 false::H) 2 0 zaB zg0 Z Z Z Z Z Z Z Z Z<|zd zcM zg0 Z Z Z ?_
  refine zr (H':=O2 x.b x.ch.v x.sd x.client x.wh x.buffer x.wait.A x.wait.l.length x.wait.C true false x.hr x.wb x.last x.behind::O3 x.wb 16 x.first x.next x.mb::O5 b2 2 x.sd x.client (x.wait.l.length:Int) (x.next - x.first) true::O0 c most idle buffer last mb::[(mb,mapG kyI Lk.v kvs mn)]::O5 b1 0 false 0 0 0 false::H) 2 0 zaB zg0 Z Z Z Z Z Z Z Z Z<|AtL.done<|zc<|za<|zay (cs:=[V 2,.bool x.sd,V x.client,V (x.wait.l.length:Int),V (x.next - x.first),.bool true]) zdk zg0 Z Z Z (zad 2 0 0 Z Z Z)<|zr (H':=O2 x.b x.ch.v x.sd x.client x.wh x.buffer x.wait.A x.wait.l.length x.wait.C true false x.hr x.wb x.last x.behind::O3 x.wb 16 x.first x.next x.mb::O5 b2 2 x.sd x.client (x.wait.l.length:Int) (x.next - x.first) true::O0 c most idle buffer last mb::[(mb,mapG kyI Lk.v kvs mn)]::O5 b1 2 x.sd x.client (x.wait.l.length:Int) (x.next - x.first) true::H) 5 0 zdP zg0 Z Z Z Z Z Z Z Z Z ?_
  refine AtL.assign zg0 Z Z<|AtL.done ?_
  exact zaZ (vs:=[.agg #[V 2,.bool x.sd,V x.client,V (x.wait.l.length:Int),V (x.next - x.first),.bool true],.bool true]) [3,4,0,1] 6 Z Z Tryz.func25 Z ⟨⟨_,Z,LoadsTo.agg (cs:=[V 2,.bool x.sd,V x.client,V (x.wait.l.length:Int),V (x.next - x.first),.bool true]) zdk Z (zad 5 0 0 Z Z Z)⟩,Z,trivial⟩ (⟨2,x.sd,x.client,true,Z,Z⟩)
 | false =>
  refine At.pick (H':=O2 x.b x.ch.v x.sd x.client x.wh x.buffer x.wait.A x.wait.l.length x.wait.C false false x.hr x.wb x.last x.behind::O3 x.wb 16 x.first x.next x.mb::O0 c most idle buffer last mb::[(mb,mapG kyI Lk.v kvs mn)]::O5 b1 0 false 0 0 0 false::H) [3,4,0,1,2] 5 Z Z ?_
  refine zac (es:=[22,23]) (pv:=[(0,B x.b),(1,B x.b),(2,.pointer (some ⟨x.b,1,none⟩)),(3,.bool x.sd),(4,B x.b),(5,B x.b),(6,.pointer (some ⟨x.b,2,none⟩)),(7,V x.client),(8,B x.b),(9,B x.b),(10,.pointer (some ⟨x.b,5,none⟩)),(11,.slice x.wait.A x.wait.l.length x.wait.C),(12,V (x.wait.l.length:Int)),(13,B x.b),(14,B x.b),(15,.pointer (some ⟨x.b,6,none⟩)),(16,.bool false),(17,.bool false),(18,.iface 112 (B x.b)),(19,.bool (decide (0 < x.behind))),(20,.bool (decide (0 < x.behind))),(21,.agg #[V 0,.bool x.sd,V x.client,V (x.wait.l.length:Int),V 0,.bool (decide (0 < x.behind))])]) zV (by kernel_rfl) (by kernel_rfl) (by kernel_rfl) ?_
  refine ⟨⟨zpr Z Z Z (zi Z),zpr Z Z Z (zl Z),zpr Z Z Z (zg zb1 Z Z),zpr Z Z Z (zu zR Z (Cell.own 0 0 Z Z Z)),zpr Z Z Z (zi Z),zpr Z Z Z (zl Z),zpr Z Z Z (zg zcL Z Z),zpr Z Z Z (zu zo Z (Cell.own 0 0 Z Z Z)),zpr Z Z Z (zi Z),zpr Z Z Z (zl Z),zpr Z Z Z (zg zaq Z Z),zpr Z Z Z (zu zE Z (Cell.own 0 0 Z Z Z)),zpr Z Z Z (zbt Tryz.underlying34 Z),zpr Z Z Z (zi Z),zpr Z Z Z (zl Z),zpr Z Z Z (zg zaS Z Z),zpr Z Z Z (zu zR Z (Cell.own 0 0 Z Z Z)),zpr Z Z Z (zi Z),zpr Z Z ⟨_,_,_,Z,Z,Z,Z⟩ (zi Z),zpr Z Z ⟨_,_,_,Z,Z,Z,Z⟩ (zdX zdE Z Z (fun w => by kernel_rfl) zfk),zpr Z Z Z (zak Z Z),zpr Z Z Z (zbx (cs:=[V 0,.bool x.sd,V x.client,V (x.wait.l.length:Int),V 0,.bool (decide (0 < x.behind))]) zdj Z Z),trivial⟩,Z,Z,by kernel_rfl,_,Z,Z,Z,_,Do.alloc zc5 (cs:=#[V 0,.bool false,V 0,V 0,V 0,.bool false]) Z,?_⟩
  rintro _ _ ⟨b4,rfl,rfl⟩
  refine ⟨[],Z,?_⟩
  refine ⟨⟨zpr Z Z Z (zi Z),zpr Z Z Z (zl Z),zpr Z Z Z (zg zb1 Z Z),zpr Z Z Z (zu zR Z (Cell.own 1 0 Z Z Z)),zpr Z Z Z (zi Z),zpr Z Z Z (zl Z),zpr Z Z Z (zg zcL Z Z),zpr Z Z Z (zu zo Z (Cell.own 1 0 Z Z Z)),zpr Z Z Z (zi Z),zpr Z Z Z (zl Z),zpr Z Z Z (zg zaq Z Z),zpr Z Z Z (zu zE Z (Cell.own 1 0 Z Z Z)),zpr Z Z Z (zbt Tryz.underlying34 Z),zpr Z Z Z (zi Z),zpr Z Z Z (zl Z),zpr Z Z Z (zg zaS Z Z),zpr Z Z Z (zu zR Z (Cell.own 1 0 Z Z Z)),zpr Z Z Z (zi Z),zpr Z Z ⟨_,_,_,Z,Z,Z,Z⟩ (zi Z),zpr Z Z ⟨_,_,_,Z,Z,Z,Z⟩ (Does.quiet (H':=O2 x.b x.ch.v x.sd x.client x.wh x.buffer x.wait.A x.wait.l.length x.wait.C false false x.hr x.wb x.last x.behind::O5 b4 0 false 0 0 0 false::O3 x.wb 16 x.first x.next x.mb::O0 c most idle buffer last mb::[(mb,mapG kyI Lk.v kvs mn)]::O5 b1 0 false 0 0 0 false::H) [1,0,2,3,4,5] 6 Z Z [1,0,2,3,4,5] Z Z (zdX zdE Z Z (fun w => by kernel_rfl) zfk)),zpr Z Z Z (zak Z Z),zpr Z Z Z (zbx (cs:=[V 0,.bool x.sd,V x.client,V (x.wait.l.length:Int),V 0,.bool (decide (0 < x.behind))]) zdj Z Z),trivial⟩,Z,Z,by kernel_rfl,_,Z,Z,Z,_,zbF (H':=O5 b4 0 x.sd x.client (x.wait.l.length:Int) 0 (decide (0 < x.behind))::O2 x.b x.ch.v x.sd x.client x.wh x.buffer x.wait.A x.wait.l.length x.wait.C false false x.hr x.wb x.last x.behind::O3 x.wb 16 x.first x.next x.mb::O0 c most idle buffer last mb::[(mb,mapG kyI Lk.v kvs mn)]::O5 b1 0 false 0 0 0 false::H) 0 0 zdP Z Z Z Z Z Z Z Z Z,?_⟩
  rintro _ _ ⟨rfl,rfl⟩
  refine ⟨[],Z,?_⟩
  refine ⟨⟨.inl (by kernel_rfl),.inl (by kernel_rfl),.inl (by kernel_rfl),.inl (by kernel_rfl),.inl (by kernel_rfl),.inl (by kernel_rfl),.inl (by kernel_rfl),.inl (by kernel_rfl),.inl (by kernel_rfl),.inl (by kernel_rfl),.inl (by kernel_rfl),.inl (by kernel_rfl),.inl (by kernel_rfl),.inl (by kernel_rfl),.inl (by kernel_rfl),.inl (by kernel_rfl),.inl (by kernel_rfl),.inl (by kernel_rfl),.inl (by kernel_rfl),.inl (by kernel_rfl),.inl (by kernel_rfl),.inl (by kernel_rfl),trivial⟩,by kernel_rfl,?_⟩
  refine At.mono (E':=[(4,B b1),(6,.iface 112 (B x.b)),(9,B b4)]) ⟨Z,Z,Z,trivial⟩<|zc<|za<|zb zg0 Z Z<|AtL.pick (H':=O2 x.b x.ch.v x.sd x.client x.wh x.buffer x.wait.A x.wait.l.length x.wait.C false false x.hr x.wb x.last x.behind::O3 x.wb 16 x.first x.next x.mb::O5 b4 0 x.sd x.client (x.wait.l.length:Int) 0 (decide (0 < x.behind))::O0 c most idle buffer last mb::[(mb,mapG kyI Lk.v kvs mn)]::O5 b1 0 false 0 0 0 false::H) [1,2,0,3,4,5] 6 Z Z<|zZ zhL zg0 Z Z Z (fun w => by kernel_rfl) (qkind_ok hw) ?_
  rintro _ _ ⟨rfl,rfl⟩
  refine zb zg0 Z Z<|AtL.extract zg0 Z Z Z<|AtL.extract zg0 Z Z Z<|zd ze9 zg0 Z Z Z<|zr (H':=O2 x.b x.ch.v x.sd x.client x.wh x.buffer x.wait.A x.wait.l.length x.wait.C false false x.hr x.wb x.last x.behind::O3 x.wb 16 x.first x.next x.mb::O5 b4 2 x.sd x.client (x.wait.l.length:Int) 0 (decide (0 < x.behind))::O0 c most idle buffer last mb::[(mb,mapG kyI Lk.v kvs mn)]::O5 b1 0 false 0 0 0 false::H) 2 0 zaB zg0 Z Z Z Z Z Z Z Z Z<|zd zcM zg0 Z Z Z ?_
  refine zr (H':=O2 x.b x.ch.v x.sd x.client x.wh x.buffer x.wait.A x.wait.l.length x.wait.C false false x.hr x.wb x.last x.behind::O3 x.wb 16 x.first x.next x.mb::O5 b4 2 x.sd x.client (x.wait.l.length:Int) (x.next - x.first) (decide (0 < x.behind))::O0 c most idle buffer last mb::[(mb,mapG kyI Lk.v kvs mn)]::O5 b1 0 false 0 0 0 false::H) 2 0 zaB zg0 Z Z Z Z Z Z Z Z Z<|AtL.done<|zc<|za<|zay (cs:=[V 2,.bool x.sd,V x.client,V (x.wait.l.length:Int),V (x.next - x.first),.bool (decide (0 < x.behind))]) zdk zg0 Z Z Z (zad 2 0 0 Z Z Z)<|zr (H':=O2 x.b x.ch.v x.sd x.client x.wh x.buffer x.wait.A x.wait.l.length x.wait.C false false x.hr x.wb x.last x.behind::O3 x.wb 16 x.first x.next x.mb::O5 b4 2 x.sd x.client (x.wait.l.length:Int) (x.next - x.first) (decide (0 < x.behind))::O0 c most idle buffer last mb::[(mb,mapG kyI Lk.v kvs mn)]::O5 b1 2 x.sd x.client (x.wait.l.length:Int) (x.next - x.first) (decide (0 < x.behind))::H) 5 0 zdP zg0 Z Z Z Z Z Z Z Z Z ?_
  refine AtL.assign zg0 Z Z<|AtL.done ?_
  exact zaZ (vs:=[.agg #[V 2,.bool x.sd,V x.client,V (x.wait.l.length:Int),V (x.next - x.first),.bool (decide (0 < x.behind))],.bool true]) [3,4,0,1] 6 Z Z Tryz.func25 Z ⟨⟨_,Z,LoadsTo.agg (cs:=[V 2,.bool x.sd,V x.client,V (x.wait.l.length:Int),V (x.next - x.first),.bool (decide (0 < x.behind))]) zdk Z (zad 5 0 0 Z Z Z)⟩,Z,trivial⟩ (⟨2,x.sd,x.client,decide (0 < x.behind),Z,Z⟩)
theorem ziz {w0:World}{base:Nat}{H:List Seg}{c mb:Nat}{most idle buffer last:Int}{kvs:List (Int×Lk×Nat)}{mn:Nat}{x:Str}{i:Int}(hm:¬ most=0) (hat:atG i kvs=some (.str x)) {now:Int}{A:Option Addr}{C:Nat}{l:List UInt8}(hT:¬ inT now) :
  SCalls Tryz.prog 14 [B c,V i,.slice A l.length C,V now] w0 base (O0 c most idle buffer last mb::[(mb,mapG kyI Lk.v kvs mn)]::O4 x.b x.ch.v x.sd x.client x.wh x.buffer x.wait.A x.wait.l.length x.wait.C x.closing false x.r::H) (fun v H' => v = .tuple #[.slice none 0 0,int 2]∧H' = (O0 c most idle buffer last mb)::[(mb,mapG kyI Lk.v kvs mn)]::O4 x.b x.ch.v x.sd x.client x.wh x.buffer x.wait.A x.wait.l.length x.wait.C x.closing false x.r::H):=by
 refine SCalls.of_walk (n:=91) Tryz.func14 Z Z Z fun cs => ?_
 refine zc<|za<|AtL.assign zg0 Z Z<|AtL.assign zg0 Z Z<|AtL.done<|zc ?_
 refine za<|zb zg0 Z Z<|zb zg0 Z Z<|zk zaM zg0 Z Z (zbi (lk:=Lk.str x) i hm hat) ?_
 rintro _ _ ⟨rfl,rfl⟩
 refine zb zg0 Z Z<|AtL.extract zg0 Z Z Z<|AtL.extract zg0 Z Z Z<|AtL.assign zg0 Z Z<|AtL.assign zg0 Z Z<|AtL.done ?_
 refine zc<|zc<|za<|zb zg0 Z Z<|zT zg0 Z Z Z<|AtL.done ?_
 refine zB Z<|zj<|zc<|za<|zb zg0 Z Z<|zZ zaF zg0 Z Z Z (fun w => by kernel_rfl) (zdi (b:=x.b)) ?_
 rintro _ _ ⟨rfl,rfl⟩
 refine AtL.assign zg0 Z Z<|AtL.done<|zc<|At.block<|zc<|za ?_
 refine zb zg0 Z Z<|zk za7 zg0 Z Z (zgt hT) ?_
 rintro _ _ ⟨rfl,rfl⟩
 refine zag zg0 Z Z<|zb zg0 Z Z<|ze Z Z Z Z Z Z<|ze Z Z Z Z Z Z<|ze Z Z Z Z Z Z<|zn zg0 Z Z Z ?_
 refine AtL.assign zg0 Z Z<|AtL.done<|zX Z<|zc<|za<|AtL.assign zg0 Z Z ?_
 refine AtL.assign zg0 Z Z<|AtL.done ?_
 exact zt Tryz.func14 Z Z (⟨Z,Z⟩)
theorem zht {w0:World}{base:Nat}{H:List Seg}{c mb:Nat}{most idle buffer last:Int}{kvs:List (Int×Lk×Nat)}{mn:Nat}{x:Str}{i:Int}(hm:¬ most=0) (hat:atG i kvs=some (.str x)) {now:Int}{A:Option Addr}{C:Nat}{l:List UInt8}(hT:inT now) (hl:l.length≤70000) (hcl:x.closing=true) :
  SCalls Tryz.prog 14 [B c,V i,.slice A l.length C,V now] w0 base (O0 c most idle buffer last mb::[(mb,mapG kyI Lk.v kvs mn)]::O4 x.b x.ch.v x.sd x.client x.wh x.buffer x.wait.A x.wait.l.length x.wait.C x.closing false x.r::H) (fun v H' => v = .tuple #[.slice none 0 0,int 9]∧H' = (O0 c most idle buffer last mb)::[(mb,mapG kyI Lk.v kvs mn)]::O4 x.b x.ch.v x.sd x.client x.wh x.buffer x.wait.A x.wait.l.length x.wait.C x.closing false x.r::H):=by
 refine SCalls.of_walk (n:=91) Tryz.func14 Z Z Z fun cs => ?_
 refine zc<|za<|AtL.assign zg0 Z Z<|AtL.assign zg0 Z Z<|AtL.done<|zc ?_
 refine za<|zb zg0 Z Z<|zb zg0 Z Z<|zk zaM zg0 Z Z (zbi (lk:=Lk.str x) i hm hat) ?_
 rintro _ _ ⟨rfl,rfl⟩
 refine zb zg0 Z Z<|AtL.extract zg0 Z Z Z<|AtL.extract zg0 Z Z Z<|AtL.assign zg0 Z Z<|AtL.assign zg0 Z Z<|AtL.done ?_
 refine zc<|zc<|za<|zb zg0 Z Z<|zT zg0 Z Z Z<|AtL.done ?_
 refine zB Z<|zj<|zc<|za<|zb zg0 Z Z<|zZ zaF zg0 Z Z Z (fun w => by kernel_rfl) (zdi (b:=x.b)) ?_
 rintro _ _ ⟨rfl,rfl⟩
 refine AtL.assign zg0 Z Z<|AtL.done<|zc<|At.block<|zc<|za ?_
 refine zb zg0 Z Z<|zk za7 zg0 Z Z (zbL hT) ?_
 rintro _ _ ⟨rfl,rfl⟩
 refine zag zg0 Z Z<|zb zg0 Z Z<|zb (.inr ⟨_,_,_,Z,Z,Z,Z⟩) Z Z<|zC Tryz.underlying34 (.inr ⟨_,_,_,Z,Z,Z,Z⟩) Z Z<|zai (.inr ⟨_,_,_,Z,Z,Z,Z⟩) Z Z Z<|zm zg0 Z Z Z ?_
 refine AtL.assign zg0 Z Z<|AtL.done ?_
 refine zU false Z (decide_eq_false (by omega))<|zc<|za<|zb zg0 Z Z<|zf zg0 Z Z<|zd zaS zg0 Z Z Z ?_
 refine zh zR zg0 Z Z (Cell.own 2 0 Z Z Z)<|zb zg0 Z Z<|zy 3 (E':=[(44,.bool x.closing),(0,B c),(1,V i),(2,.slice A l.length C),(3,V now),(10,.iface 106 (B x.b)),(12,B x.b)]) (fun J => ?_) ?_
 ·refine zY (t:=41) Z ?_ ?_
  ·intro hs41
   have hs41:x.closing=true:=hs41
   refine ze Z Z Z Z Z Z<|ze Z Z Z Z Z Z<|zn zg0 Z Z Z ?_
   exact J _ (by exact ⟨(zw (by clear J; first | (simp [hs41]; done) | (simp_all; done) | grind)),Z,Z,Z,Z,Z,Z,trivial⟩)
  ·intro hs41
   have hs41:x.closing=false:=hs41
   refine zb (.inr ⟨_,_,_,Z,Z,Z,Z⟩) Z Z<|zZ zdF (.inr ⟨_,_,_,Z,Z,Z,Z⟩) Z Z Z (fun w => by kernel_rfl) (zfh (b:=x.b)) ?_
   rintro _ _ ⟨rfl,rfl⟩
   refine zm zg0 Z Z Z ?_
   exact J _ (by exact ⟨(zw (by clear J; first | (simp [hs41]; done) | (simp_all; done) | grind)),Z,Z,Z,Z,Z,Z,trivial⟩)
 ·refine AtL.assign zg0 Z Z<|AtL.done<|zae Z ?_ ?_
  ·intro hc3
   have hc3:x.closing=true:=hc3
   refine zc<|za<|AtL.assign zg0 Z Z<|AtL.assign zg0 Z Z<|AtL.done ?_
   exact zt Tryz.func14 Z Z (⟨Z,Z⟩)
  ·intro hc3
   have hc3:x.closing=false:=hc3
   exfalso; first | (exact hc3 hcl) | (simp_all; done) | (rcases hcl with h9 | h9 <;> simp_all)
theorem zjC {w0:World}{base:Nat}{H:List Seg}{c mb:Nat}{most idle buffer last:Int}{kvs:List (Int×Lk×Nat)}{mn:Nat}{x:Str}{i:Int}(hm:¬ most=0) (hat:atG i kvs=some (.str x)) {m now:Int}(hb:m < 0∨¬ inT now) :
  SCalls Tryz.prog 16 [B c,V i,V m,V now] w0 base (O0 c most idle buffer last mb::[(mb,mapG kyI Lk.v kvs mn)]::O4 x.b x.ch.v x.sd x.client x.wh x.buffer x.wait.A x.wait.l.length x.wait.C x.closing false x.r::H) (fun v H' => v = .tuple #[.slice none 0 0,int 2]∧H' = (O0 c most idle buffer last mb)::[(mb,mapG kyI Lk.v kvs mn)]::O4 x.b x.ch.v x.sd x.client x.wh x.buffer x.wait.A x.wait.l.length x.wait.C x.closing false x.r::H):=by
 refine SCalls.of_walk (n:=87) Tryz.func16 Z Z Z fun cs => ?_
 refine zc<|za<|AtL.assign zg0 Z Z<|AtL.assign zg0 Z Z<|AtL.done<|zc ?_
 refine za<|zb zg0 Z Z<|zb zg0 Z Z<|zk zaM zg0 Z Z (zbi (lk:=Lk.str x) i hm hat) ?_
 rintro _ _ ⟨rfl,rfl⟩
 refine zb zg0 Z Z<|AtL.extract zg0 Z Z Z<|AtL.extract zg0 Z Z Z<|AtL.assign zg0 Z Z<|AtL.assign zg0 Z Z<|AtL.done ?_
 refine zc<|At.block<|zc<|za<|zb zg0 Z Z<|zT zg0 Z Z Z ?_
 refine AtL.assign zg0 Z Z<|AtL.done<|zB Z<|zc<|za<|zb zg0 Z Z ?_
 refine zA zg0 Z Z Z<|zb zg0 Z Z<|zy 4 (E':=[(32,.bool (decide (((m:Int) < 0)∨(¬ (inT now))))),(0,B c),(1,V i),(2,V m),(3,V now),(10,.iface 106 (B x.b))]) (fun J => ?_) ?_
 ·refine zD (t:=28) Z ?_ ?_
  ·intro hs28
   refine ze Z Z Z Z Z Z<|ze Z Z Z Z Z Z<|ze Z Z Z Z Z Z<|zn zg0 Z Z Z ?_
   exact J _ (by exact ⟨(zw (by clear J; first | (simp [hs28]; done) | (simp_all; done) | grind)),Z,Z,Z,Z,Z,trivial⟩)
  ·intro hs28
   refine zb (.inr ⟨_,_,_,Z,Z,Z,Z⟩) Z Z<|zk za7 (.inr ⟨_,_,_,Z,Z,Z,Z⟩) Z Z (zd2 now) ?_
   rintro _ _ ⟨rfl,rfl⟩
   refine zag (.inr ⟨_,_,_,Z,Z,Z,Z⟩) Z Z<|zm zg0 Z Z Z ?_
   exact J _ (by exact ⟨(zw (by clear J; first | (simp [hs28]; done) | (simp_all; done) | grind)),Z,Z,Z,Z,Z,trivial⟩)
 ·refine AtL.assign zg0 Z Z<|AtL.done<|zq Z ?_ ?_
  ·intro hc2
   refine zc<|za<|AtL.assign zg0 Z Z<|AtL.assign zg0 Z Z<|AtL.done ?_
   exact zt Tryz.func16 Z Z (⟨Z,Z⟩)
  ·intro hc2
   exfalso; exact hc2 hb
theorem ziA {w0:World}{base:Nat}{H:List Seg}{c mb:Nat}{most idle buffer last:Int}{kvs:List (Int×Lk×Nat)}{mn:Nat}{x:Req}{i:Int}(hm:¬ most=0) (hat:atG i kvs=some (.req x)) {now:Int}{A:Option Addr}{C:Nat}{l:List UInt8}(hT:¬ inT now) :
  SCalls Tryz.prog 14 [B c,V i,.slice A l.length C,V now] w0 base (O0 c most idle buffer last mb::[(mb,mapG kyI Lk.v kvs mn)]::O2 x.b x.ch.v x.sd x.client x.wh x.buffer x.wait.A x.wait.l.length x.wait.C x.closing false x.hr x.wb x.last x.behind::H) (fun v H' => v = .tuple #[.slice none 0 0,int 2]∧H' = (O0 c most idle buffer last mb)::[(mb,mapG kyI Lk.v kvs mn)]::O2 x.b x.ch.v x.sd x.client x.wh x.buffer x.wait.A x.wait.l.length x.wait.C x.closing false x.hr x.wb x.last x.behind::H):=by
 refine SCalls.of_walk (n:=91) Tryz.func14 Z Z Z fun cs => ?_
 refine zc<|za<|AtL.assign zg0 Z Z<|AtL.assign zg0 Z Z<|AtL.done<|zc ?_
 refine za<|zb zg0 Z Z<|zb zg0 Z Z<|zk zaM zg0 Z Z (zbi (lk:=Lk.req x) i hm hat) ?_
 rintro _ _ ⟨rfl,rfl⟩
 refine zb zg0 Z Z<|AtL.extract zg0 Z Z Z<|AtL.extract zg0 Z Z Z<|AtL.assign zg0 Z Z<|AtL.assign zg0 Z Z<|AtL.done ?_
 refine zc<|zc<|za<|zb zg0 Z Z<|zT zg0 Z Z Z<|AtL.done ?_
 refine zB Z<|zj<|zc<|za<|zb zg0 Z Z<|zZ zaF zg0 Z Z Z (fun w => by kernel_rfl) (zdi (b:=x.b)) ?_
 rintro _ _ ⟨rfl,rfl⟩
 refine AtL.assign zg0 Z Z<|AtL.done<|zc<|At.block<|zc<|za ?_
 refine zb zg0 Z Z<|zk za7 zg0 Z Z (zgt hT) ?_
 rintro _ _ ⟨rfl,rfl⟩
 refine zag zg0 Z Z<|zb zg0 Z Z<|ze Z Z Z Z Z Z<|ze Z Z Z Z Z Z<|ze Z Z Z Z Z Z<|zn zg0 Z Z Z ?_
 refine AtL.assign zg0 Z Z<|AtL.done<|zX Z<|zc<|za<|AtL.assign zg0 Z Z ?_
 refine AtL.assign zg0 Z Z<|AtL.done ?_
 exact zt Tryz.func14 Z Z (⟨Z,Z⟩)
theorem zhu {w0:World}{base:Nat}{H:List Seg}{c mb:Nat}{most idle buffer last:Int}{kvs:List (Int×Lk×Nat)}{mn:Nat}{x:Req}{i:Int}(hm:¬ most=0) (hat:atG i kvs=some (.req x)) {now:Int}{A:Option Addr}{C:Nat}{l:List UInt8}(hT:inT now) (hl:l.length≤70000) (hcl:x.closing=true∨0 < x.behind) :
  SCalls Tryz.prog 14 [B c,V i,.slice A l.length C,V now] w0 base (O0 c most idle buffer last mb::[(mb,mapG kyI Lk.v kvs mn)]::O2 x.b x.ch.v x.sd x.client x.wh x.buffer x.wait.A x.wait.l.length x.wait.C x.closing false x.hr x.wb x.last x.behind::H) (fun v H' => v = .tuple #[.slice none 0 0,int 9]∧H' = (O0 c most idle buffer last mb)::[(mb,mapG kyI Lk.v kvs mn)]::O2 x.b x.ch.v x.sd x.client x.wh x.buffer x.wait.A x.wait.l.length x.wait.C x.closing false x.hr x.wb x.last x.behind::H):=by
 refine SCalls.of_walk (n:=91) Tryz.func14 Z Z Z fun cs => ?_
 refine zc<|za<|AtL.assign zg0 Z Z<|AtL.assign zg0 Z Z<|AtL.done<|zc ?_
 refine za<|zb zg0 Z Z<|zb zg0 Z Z<|zk zaM zg0 Z Z (zbi (lk:=Lk.req x) i hm hat) ?_
 rintro _ _ ⟨rfl,rfl⟩
 refine zb zg0 Z Z<|AtL.extract zg0 Z Z Z<|AtL.extract zg0 Z Z Z<|AtL.assign zg0 Z Z<|AtL.assign zg0 Z Z<|AtL.done ?_
 refine zc<|zc<|za<|zb zg0 Z Z<|zT zg0 Z Z Z<|AtL.done ?_
 refine zB Z<|zj<|zc<|za<|zb zg0 Z Z<|zZ zaF zg0 Z Z Z (fun w => by kernel_rfl) (zdi (b:=x.b)) ?_
 rintro _ _ ⟨rfl,rfl⟩
 refine AtL.assign zg0 Z Z<|AtL.done<|zc<|At.block<|zc<|za ?_
 refine zb zg0 Z Z<|zk za7 zg0 Z Z (zbL hT) ?_
 rintro _ _ ⟨rfl,rfl⟩
 refine zag zg0 Z Z<|zb zg0 Z Z<|zb (.inr ⟨_,_,_,Z,Z,Z,Z⟩) Z Z<|zC Tryz.underlying34 (.inr ⟨_,_,_,Z,Z,Z,Z⟩) Z Z<|zai (.inr ⟨_,_,_,Z,Z,Z,Z⟩) Z Z Z<|zm zg0 Z Z Z ?_
 refine AtL.assign zg0 Z Z<|AtL.done ?_
 refine zU false Z (decide_eq_false (by omega))<|zc<|za<|zb zg0 Z Z<|zf zg0 Z Z<|zd zaS zg0 Z Z Z ?_
 refine zh zR zg0 Z Z (Cell.own 2 0 Z Z Z)<|zb zg0 Z Z<|zy 3 (E':=[(44,.bool (decide ((x.closing=true)∨(0 < x.behind)))),(0,B c),(1,V i),(2,.slice A l.length C),(3,V now),(10,.iface 112 (B x.b)),(12,B x.b)]) (fun J => ?_) ?_
 ·refine zY (t:=41) Z ?_ ?_
  ·intro hs41
   have hs41:x.closing=true:=hs41
   refine ze Z Z Z Z Z Z<|ze Z Z Z Z Z Z<|zn zg0 Z Z Z ?_
   exact J _ (by exact ⟨(zw (by clear J; first | (simp [hs41]; done) | (simp_all; done) | grind)),Z,Z,Z,Z,Z,Z,trivial⟩)
  ·intro hs41
   have hs41:x.closing=false:=hs41
   refine zb (.inr ⟨_,_,_,Z,Z,Z,Z⟩) Z Z<|AtL.pick (H':=O2 x.b x.ch.v x.sd x.client x.wh x.buffer x.wait.A x.wait.l.length x.wait.C x.closing false x.hr x.wb x.last x.behind::O0 c most idle buffer last mb::[(mb,mapG kyI Lk.v kvs mn)]::H) [2,0,1] 3 Z Z<|zZ zdE (.inr ⟨_,_,_,Z,Z,Z,Z⟩) Z Z Z (fun w => by kernel_rfl) zfk ?_
   rintro _ _ ⟨rfl,rfl⟩
   refine zm zg0 Z Z Z<|AtL.pick (H':=O0 c most idle buffer last mb::[(mb,mapG kyI Lk.v kvs mn)]::O2 x.b x.ch.v x.sd x.client x.wh x.buffer x.wait.A x.wait.l.length x.wait.C x.closing false x.hr x.wb x.last x.behind::H) [1,2,0] 3 Z Z ?_
   exact J _ (by exact ⟨(zw (by clear J; first | (simp [hs41]; done) | (simp_all; done) | grind)),Z,Z,Z,Z,Z,Z,trivial⟩)
 ·refine AtL.assign zg0 Z Z<|AtL.done<|zq Z ?_ ?_
  ·intro hc3
   refine zc<|za<|AtL.assign zg0 Z Z<|AtL.assign zg0 Z Z<|AtL.done ?_
   exact zt Tryz.func14 Z Z (⟨Z,Z⟩)
  ·intro hc3
   exfalso; first | (exact hc3 hcl) | (simp_all; done) | (rcases hcl with h9 | h9 <;> simp_all)
theorem zjD {w0:World}{base:Nat}{H:List Seg}{c mb:Nat}{most idle buffer last:Int}{kvs:List (Int×Lk×Nat)}{mn:Nat}{x:Req}{i:Int}(hm:¬ most=0) (hat:atG i kvs=some (.req x)) {m now:Int}(hb:m < 0∨¬ inT now) :
  SCalls Tryz.prog 16 [B c,V i,V m,V now] w0 base (O0 c most idle buffer last mb::[(mb,mapG kyI Lk.v kvs mn)]::O2 x.b x.ch.v x.sd x.client x.wh x.buffer x.wait.A x.wait.l.length x.wait.C x.closing false x.hr x.wb x.last x.behind::H) (fun v H' => v = .tuple #[.slice none 0 0,int 2]∧H' = (O0 c most idle buffer last mb)::[(mb,mapG kyI Lk.v kvs mn)]::O2 x.b x.ch.v x.sd x.client x.wh x.buffer x.wait.A x.wait.l.length x.wait.C x.closing false x.hr x.wb x.last x.behind::H):=by
 refine SCalls.of_walk (n:=87) Tryz.func16 Z Z Z fun cs => ?_
 refine zc<|za<|AtL.assign zg0 Z Z<|AtL.assign zg0 Z Z<|AtL.done<|zc ?_
 refine za<|zb zg0 Z Z<|zb zg0 Z Z<|zk zaM zg0 Z Z (zbi (lk:=Lk.req x) i hm hat) ?_
 rintro _ _ ⟨rfl,rfl⟩
 refine zb zg0 Z Z<|AtL.extract zg0 Z Z Z<|AtL.extract zg0 Z Z Z<|AtL.assign zg0 Z Z<|AtL.assign zg0 Z Z<|AtL.done ?_
 refine zc<|At.block<|zc<|za<|zb zg0 Z Z<|zT zg0 Z Z Z ?_
 refine AtL.assign zg0 Z Z<|AtL.done<|zB Z<|zc<|za<|zb zg0 Z Z ?_
 refine zA zg0 Z Z Z<|zb zg0 Z Z<|zy 4 (E':=[(32,.bool (decide (((m:Int) < 0)∨(¬ (inT now))))),(0,B c),(1,V i),(2,V m),(3,V now),(10,.iface 112 (B x.b))]) (fun J => ?_) ?_
 ·refine zD (t:=28) Z ?_ ?_
  ·intro hs28
   refine ze Z Z Z Z Z Z<|ze Z Z Z Z Z Z<|ze Z Z Z Z Z Z<|zn zg0 Z Z Z ?_
   exact J _ (by exact ⟨(zw (by clear J; first | (simp [hs28]; done) | (simp_all; done) | grind)),Z,Z,Z,Z,Z,trivial⟩)
  ·intro hs28
   refine zb (.inr ⟨_,_,_,Z,Z,Z,Z⟩) Z Z<|zk za7 (.inr ⟨_,_,_,Z,Z,Z,Z⟩) Z Z (zd2 now) ?_
   rintro _ _ ⟨rfl,rfl⟩
   refine zag (.inr ⟨_,_,_,Z,Z,Z,Z⟩) Z Z<|zm zg0 Z Z Z ?_
   exact J _ (by exact ⟨(zw (by clear J; first | (simp [hs28]; done) | (simp_all; done) | grind)),Z,Z,Z,Z,Z,trivial⟩)
 ·refine AtL.assign zg0 Z Z<|AtL.done<|zq Z ?_ ?_
  ·intro hc2
   refine zc<|za<|AtL.assign zg0 Z Z<|AtL.assign zg0 Z Z<|AtL.done ?_
   exact zt Tryz.func16 Z Z (⟨Z,Z⟩)
  ·intro hc2
   exfalso; exact hc2 hb
theorem tick_time {w0:World}{base:Nat}{H:List Seg}{c mb:Nat}{most idle buffer last:Int}{kvs:List (Int×Lk×Nat)}{mn:Nat}{now:Int}(hm:¬ most=0) (hT:¬ inT now) :
  SCalls Tryz.prog 19 [B c,V now] w0 base (O0 c most idle buffer last mb::[(mb,mapG kyI Lk.v kvs mn)]::H) (fun v H' => v = .slice none 0 0∧H' = (O0 c most idle buffer last mb)::[(mb,mapG kyI Lk.v kvs mn)]::H):=by
 refine SCalls.of_walk (n:=50) Tryz.func19 Z Z Z fun cs => ?_
 refine zc<|za<|AtL.assign zg0 Z Z<|AtL.done<|zc<|zc ?_
 refine za<|zb zg0 Z Z<|zk zb2 zg0 Z Z (zcH hm) ?_
 rintro _ _ ⟨rfl,rfl⟩
 refine zb zg0 Z Z<|zb (.inr ⟨_,_,_,Z,Z,Z,Z⟩) Z Z<|zk za7 (.inr ⟨_,_,_,Z,Z,Z,Z⟩) Z Z (zgt hT) ?_
 rintro _ _ ⟨rfl,rfl⟩
 refine zag (.inr ⟨_,_,_,Z,Z,Z,Z⟩) Z Z<|zm zg0 Z Z Z<|AtL.done<|zX Z<|zc<|za ?_
 refine AtL.assign zg0 Z Z<|AtL.done ?_
 exact zt Tryz.func19 Z Z (⟨Z,Z⟩)
theorem open_bad {w0:World}{base:Nat}{H:List Seg}{c mb:Nat}{most idle buffer last:Int}{kvs:List (Int×Lk×Nat)}{mn:Nat}{k client now:Int}{sd:Bool}(hm:¬ most=0) (hb:(¬ k=1∧¬ k=2)∨¬ inT now) :
  SCalls Tryz.prog 10 [B c,V k,.bool sd,V client,V now] w0 base (O0 c most idle buffer last mb::[(mb,mapG kyI Lk.v kvs mn)]::H) (fun v H' => v = .tuple #[int 0,int 2]∧H' = (O0 c most idle buffer last mb)::[(mb,mapG kyI Lk.v kvs mn)]::H):=by
 refine SCalls.of_walk (n:=67) Tryz.func10 Z Z Z fun cs => ?_
 refine zc<|za<|AtL.assign zg0 Z Z<|AtL.assign zg0 Z Z<|AtL.done<|zc ?_
 refine At.block<|zc<|za<|zb zg0 Z Z<|zk zb2 zg0 Z Z (zcH hm) ?_
 rintro _ _ ⟨rfl,rfl⟩
 refine AtL.assign zg0 Z Z<|AtL.done<|zB Z<|zc<|za<|zb zg0 Z Z ?_
 refine zT zg0 Z Z Z<|zb zg0 Z Z<|zy 3 (E':=[(21,.bool (decide ((¬ ((k:Int)=1))∧(¬ ((k:Int)=2))))),(0,B c),(1,V k),(2,.bool sd),(3,V client),(4,V now)]) (fun J => ?_) ?_
 ·refine zY (t:=18) Z ?_ ?_
  ·intro hs18
   have hs18:¬ ((k:Int)=1):=of_decide_eq_false (zO hs18)
   refine zb (.inr ⟨_,_,_,Z,Z,Z,Z⟩) Z Z<|zT (.inr ⟨_,_,_,Z,Z,Z,Z⟩) Z Z Z<|zn zg0 Z Z Z ?_
   exact J _ (by exact ⟨(zw (by clear J; first | (simp [hs18]; done) | (simp_all; done) | grind)),Z,Z,Z,Z,Z,trivial⟩)
  ·intro hs18
   have hs18:(k:Int)=1:=of_decide_eq_true (zJ hs18)
   refine ze Z Z Z Z Z Z<|ze Z Z Z Z Z Z<|zm zg0 Z Z Z ?_
   exact J _ (by exact ⟨(zw (by clear J; first | (simp [hs18]; done) | (simp_all; done) | grind)),Z,Z,Z,Z,Z,trivial⟩)
 ·refine zb zg0 Z Z<|zy 4 (E':=[(26,.bool (decide (((¬ ((k:Int)=1))∧(¬ ((k:Int)=2)))∨(¬ (inT now))))),(0,B c),(1,V k),(2,.bool sd),(3,V client),(4,V now)]) (fun J => ?_) ?_
  ·refine zD (t:=22) Z ?_ ?_
   ·intro hs22
    refine ze Z Z Z Z Z Z<|ze Z Z Z Z Z Z<|ze Z Z Z Z Z Z<|zn zg0 Z Z Z ?_
    exact J _ (by exact ⟨(zw (by clear J; first | (simp [hs22]; done) | (simp_all; done) | grind)),Z,Z,Z,Z,Z,trivial⟩)
   ·intro hs22
    refine zb (.inr ⟨_,_,_,Z,Z,Z,Z⟩) Z Z<|zk za7 (.inr ⟨_,_,_,Z,Z,Z,Z⟩) Z Z (zd2 now) ?_
    rintro _ _ ⟨rfl,rfl⟩
    refine zag (.inr ⟨_,_,_,Z,Z,Z,Z⟩) Z Z<|zm zg0 Z Z Z ?_
    exact J _ (by exact ⟨(zw (by clear J; first | (simp [hs22]; done) | (simp_all; done) | grind)),Z,Z,Z,Z,Z,trivial⟩)
  ·refine AtL.assign zg0 Z Z<|AtL.done<|zq Z ?_ ?_
   ·intro hc2
    refine zc<|za<|AtL.assign zg0 Z Z<|AtL.assign zg0 Z Z<|AtL.done ?_
    exact zt Tryz.func10 Z Z (⟨Z,Z⟩)
   ·intro hc2
    exfalso; exact hc2 hb
set_option maxRecDepth 100000
inductive LkI (bf:Int) (N M:Nat):Lk→Prop
  | str {x:Str}(hk:x.ok) (hb:x.buffer=bf) (hw:(x.wait.l.length:Int)≤bf) (hs:x.ch.y.l.length + x.y.l.length≤N):LkI bf N M (.str x)
  | req {x:Req}{ph:Rph}{y:Sl tyB 5}{g:Nat→Value}{kb:List UInt8}{ov:Bool}(hs:x.hs=(ph.s++(y.s++rdC x.hr ph y (.slice none 0 0) g))) (hr:RdOk ph y kb ov) (hb:x.buffer=bf) (hw:(x.wait.l.length:Int)≤bf) (hn:kb.length + x.ch.y.l.length≤N)
      (hwin:1≤x.first∧x.first≤x.next∧x.next≤x.first + 16∧x.first≤1 + 16 * (M:Int)) (hd:DnOk x.first x.next N x.dn x.n):LkI bf N M (.req x)
theorem LkI.mono {bf:Int}{N M N2 M2:Nat}{lk:Lk}(h:LkI bf N M lk) (hN:N≤N2) (hM:M≤M2):LkI bf N2 M2 lk:=by
 cases h with
 | str hk hb hw hs => exact .str hk hb hw (by omega)
 | req hs hr hb hw hn hwin hd => exact .req hs hr hb hw (by omega) ⟨hwin.1,hwin.2.1,hwin.2.2.1,by omega⟩ ⟨fun e he => ⟨(hd.all e he).1,(hd.all e he).2.1,by have:=(hd.all e he).2.2.1; omega,(hd.all e he).2.2.2⟩,hd.keys,hd.stamps⟩
structure KvI (kvs:List (Int×Lk×Nat)) (mn:Nat) (last bf:Int) (N M:Nat):Prop where
  ok:KvOk kvs mn last
  all:∀ e ∈ kvs,LkI bf N M e.2.1
theorem kv_mem {kvs:List (Int×Lk×Nat)}{i:Int}{lk:Lk}(h:atG i kvs=some lk):∃ n,(i,lk,n) ∈ kvs:=by
 induction kvs with
 | nil => cases h
 | cons p r ih =>
  rw [atG] at h
  split at h
  ·rename_i q; cases h; exact ⟨p.2.2,by subst q; exact List.mem_cons_self ..⟩
  ·obtain ⟨n,hn⟩:=ih h; exact ⟨n,List.mem_cons_of_mem _ hn⟩
theorem KvI.at_ {kvs:List (Int×Lk×Nat)}{mn N M:Nat}{last bf i:Int}{lk:Lk}(h:KvI kvs mn last bf N M) (hat:atG i kvs=some lk):LkI bf N M lk∧inT lk.wh:=by
 obtain ⟨n,hn⟩:=kv_mem hat
 exact ⟨h.all _ hn,h.ok.wh _ hn⟩
theorem KvI.mono {kvs:List (Int×Lk×Nat)}{mn N M N2 M2:Nat}{last bf:Int}(h:KvI kvs mn last bf N M) (hN:N≤N2) (hM:M≤M2):KvI kvs mn last bf N2 M2:=⟨h.ok,fun e he => (h.all e he).mono hN hM⟩
theorem KvI.del {kvs:List (Int×Lk×Nat)}{mn N M:Nat}{last bf:Int}(h:KvI kvs mn last bf N M) (i:Int):KvI (delG i kvs) mn last bf N M:=⟨h.ok.sub (zg2 _ _),fun e he => h.all e ((zg2 _ _).subset he)⟩
theorem zdr {w0:World}{base:Nat}{H:List Seg}{c mb:Nat}{most idle buffer last:Int}{kvs:List (Int×Lk×Nat)}{mn:Nat}{N M N2 M2:Nat}{bf i:Int}{lk lk' : Lk}(hc:KvI kvs mn last bf N M) (hat:atG i kvs=some lk) (hvv:lk'.v=lk.v) (hN:N≤N2) (hM:M≤M2) (hwh:inT lk'.wh) {cl:Bool}(hg:cl=false→LkI bf N2 M2 lk') (pre:Seg) (Gr:List Seg) (hF:cl=false→Gr.flatten.Perm lk'.s) :
  ∃ K,KvI K mn last bf N2 M2∧(K.map fun e => e.1).Sublist (kvs.map fun e => e.1)∧∀ w,Sep w0 base w (pre::O0 c most idle buffer last mb::[(mb,mapG kyI Lk.v (if cl=true then delG i kvs else kvs) mn)]::(Gr++(zv (delG i kvs)::H)))→Sep w0 base w (pre::O0 c most idle buffer last mb::[(mb,mapG kyI Lk.v K mn)]::zv K::H):=by
 cases cl with
 | true =>
  refine ⟨delG i kvs,(hc.del i).mono hN hM,(zg2 i kvs).map _,fun w S => ?_⟩
  have S1:=S.flat (H':=(pre++[(c,.cells #[.int .i64 most,.int .i64 idle,.int .i64 buffer,.int .i64 last,.map (some mb)] 64 (0,0))]++[(mb,mapG kyI Lk.v (delG i kvs) mn)])::Gr.flatten::zv (delG i kvs)::H) (List.Perm.of_eq (by simp [List.append_assoc]))
  exact (S1.pick [0,2] 3 Z).flat (List.Perm.of_eq (by show (_::zv (delG i kvs)::H).flatten=_; simp [List.append_assoc]))
 | false =>
  refine ⟨setG i lk' kvs,⟨hc.ok.set i hwh,fun e he => ?_⟩,by rw [(set_keys i lk' kvs).1]; exact List.Sublist.refl _,fun w S => ?_⟩
  ·rcases mem_set he with h9 | h9
   ·exact (hc.all e h9).mono hN hM
   ·rw [h9]; exact hg rfl
  ·refine S.flat ?_
   rw [mapG_set hat hvv]
   simp only [List.flatten_cons,List.flatten_append]
   refine List.Perm.append_left _ (List.Perm.append_left _ (List.Perm.append_left _ ?_))
   rw [← List.append_assoc]
   exact (((hF Z).append_right _).trans (zjS hat).symm).append_right _
theorem zct {kvs:List (Int×Lk×Nat)}{i:Int}{x:Str}(h:atG i kvs=some (.str x)):(zv kvs).Perm ([[(x.b,.cells #[x.ch.v,.bool x.sd,.int .i64 x.client,.int .i64 x.wh,.int .i64 x.buffer,.slice x.wait.A x.wait.l.length x.wait.C,.bool x.closing,.bool false,.pointer (some ⟨x.r,0,none⟩)] 108 (0,0))],[(x.r,.cells #[.int .i64 65535,.bool x.br,.slice x.y.A x.y.l.length x.y.C,.int .i64 (x.off:Int),.int .i8 x.lr,.int .i64 x.e] 125 (0,0))],x.ch.s,x.wait.s,x.y.s,zv (delG i kvs)]:List Seg).flatten:=(zef h).trans (zc9 x _)
theorem zcu {kvs:List (Int×Lk×Nat)}{i:Int}{x:Req}{ph:Rph}{y:Sl tyB 5}{g:Nat→Value}(h:atG i kvs=some (.req x)) (hs:x.hs=(ph.s++(y.s++rdC x.hr ph y (.slice none 0 0) g))):(zv kvs).Perm ([[(x.b,.cells #[x.ch.v,.bool x.sd,.int .i64 x.client,.int .i64 x.wh,.int .i64 x.buffer,.slice x.wait.A x.wait.l.length x.wait.C,.bool x.closing,.bool false,.pointer (some ⟨x.hr,0,none⟩),.pointer (some ⟨x.wb,0,none⟩),.int .i64 x.last,.int .i64 x.behind] 116 (0,0))],[(x.wb,.cells #[.int .i64 16,.int .i64 x.first,.int .i64 x.next,.map (some x.mb)] 128 (0,0))],[(x.mb,mapG kyI tvB x.dn x.n)],x.ch.s,x.wait.s,ph.s,y.s,rdC x.hr ph y (.slice none 0 0) g,dnS x.dn,zv (delG i kvs)]:List Seg).flatten :=
 (zef h).trans ((zgR x _).trans (List.Perm.of_eq (by rw [hs]; simp [dnS])))
theorem zir (x:Str):([[(x.b,.cells #[x.ch.v,.bool x.sd,.int .i64 x.client,.int .i64 x.wh,.int .i64 x.buffer,.slice x.wait.A x.wait.l.length x.wait.C,.bool x.closing,.bool false,.pointer (some ⟨x.r,0,none⟩)] 108 (0,0))],[(x.r,.cells #[.int .i64 65535,.bool x.br,.slice x.y.A x.y.l.length x.y.C,.int .i64 (x.off:Int),.int .i8 x.lr,.int .i64 x.e] 125 (0,0))],x.ch.s,x.wait.s,x.y.s]:List Seg).flatten.Perm (Lk.str x).s:=List.Perm.of_eq (by show _=(Str.H x false).flatten; rfl)
theorem ziu {x:Req}{ph:Rph}{y:Sl tyB 5}{g:Nat→Value}(hs:x.hs=(ph.s++(y.s++rdC x.hr ph y (.slice none 0 0) g))):([[(x.b,.cells #[x.ch.v,.bool x.sd,.int .i64 x.client,.int .i64 x.wh,.int .i64 x.buffer,.slice x.wait.A x.wait.l.length x.wait.C,.bool x.closing,.bool false,.pointer (some ⟨x.hr,0,none⟩),.pointer (some ⟨x.wb,0,none⟩),.int .i64 x.last,.int .i64 x.behind] 116 (0,0))],[(x.wb,.cells #[.int .i64 16,.int .i64 x.first,.int .i64 x.next,.map (some x.mb)] 128 (0,0))],[(x.mb,mapG kyI tvB x.dn x.n)],x.ch.s,x.wait.s,ph.s,y.s,rdC x.hr ph y (.slice none 0 0) g,dnS x.dn]:List Seg).flatten.Perm (Lk.req x).s:=List.Perm.of_eq (by show _=(Req.H x false).flatten; simp [Req.H,hs,dnS])
theorem ziB {a b:Int}(h1:inT a) (h2:inT b):inT (max a b):=by
 have h3:0≤a∧a≤1099511627776:=h1
 have h4:0≤b∧b≤1099511627776:=h2
 show 0≤max a b∧max a b≤1099511627776
 omega
theorem zis {w0:World}{base:Nat}{H:List Seg}{c mb:Nat}{most idle buffer last:Int}{kvs:List (Int×Lk×Nat)}{mn:Nat}{f:FuncId}{args:List Value}{i:Int}{x:Str}{v:Value}(h:atG i kvs=some (.str x)) (hcall:∀ G,SCalls Tryz.prog f args w0 base (O0 c most idle buffer last mb::[(mb,mapG kyI Lk.v kvs mn)]::O4 x.b x.ch.v x.sd x.client x.wh x.buffer x.wait.A x.wait.l.length x.wait.C x.closing false x.r::G) (fun u H' => u=v∧H' = (O0 c most idle buffer last mb)::[(mb,mapG kyI Lk.v kvs mn)]::O4 x.b x.ch.v x.sd x.client x.wh x.buffer x.wait.A x.wait.l.length x.wait.C x.closing false x.r::G)):SCalls Tryz.prog f args w0 base (O0 c most idle buffer last mb::[(mb,mapG kyI Lk.v kvs mn)]::zv kvs::H) (fun u H' => u=v∧H' = (O0 c most idle buffer last mb)::[(mb,mapG kyI Lk.v kvs mn)]::zv kvs::H):=by
 refine SCalls.flatR (SCalls.flat (zaW [(O4 x.b x.ch.v x.sd x.client x.wh x.buffer x.wait.A x.wait.l.length x.wait.C x.closing false x.r),(O1 x.r 65535 x.br x.y.A x.y.l.length x.y.C (x.off:Int) x.lr x.e),x.ch.s,x.wait.s,x.y.s,zv (delG i kvs)] (zct h)) (hcall (_))) ?_
 rintro u H1 ⟨rfl,rfl⟩
 exact ⟨_,(zaW [(O4 x.b x.ch.v x.sd x.client x.wh x.buffer x.wait.A x.wait.l.length x.wait.C x.closing false x.r),(O1 x.r 65535 x.br x.y.A x.y.l.length x.y.C (x.off:Int) x.lr x.e),x.ch.s,x.wait.s,x.y.s,zv (delG i kvs)] (zct h)).symm,Z,Z⟩
theorem zit {w0:World}{base:Nat}{H:List Seg}{c mb:Nat}{most idle buffer last:Int}{kvs:List (Int×Lk×Nat)}{mn:Nat}{f:FuncId}{args:List Value}{i:Int}{x:Req}{ph:Rph}{y:Sl tyB 5}{g:Nat→Value}{v:Value}(h:atG i kvs=some (.req x)) (hs:x.hs=(ph.s++(y.s++rdC x.hr ph y (.slice none 0 0) g))) (hcall:∀ G,SCalls Tryz.prog f args w0 base (O0 c most idle buffer last mb::[(mb,mapG kyI Lk.v kvs mn)]::O2 x.b x.ch.v x.sd x.client x.wh x.buffer x.wait.A x.wait.l.length x.wait.C x.closing false x.hr x.wb x.last x.behind::G) (fun u H' => u=v∧H' = (O0 c most idle buffer last mb)::[(mb,mapG kyI Lk.v kvs mn)]::O2 x.b x.ch.v x.sd x.client x.wh x.buffer x.wait.A x.wait.l.length x.wait.C x.closing false x.hr x.wb x.last x.behind::G)):SCalls Tryz.prog f args w0 base (O0 c most idle buffer last mb::[(mb,mapG kyI Lk.v kvs mn)]::zv kvs::H) (fun u H' => u=v∧H' = (O0 c most idle buffer last mb)::[(mb,mapG kyI Lk.v kvs mn)]::zv kvs::H):=by
 refine SCalls.flatR (SCalls.flat (zaW [(O2 x.b x.ch.v x.sd x.client x.wh x.buffer x.wait.A x.wait.l.length x.wait.C x.closing false x.hr x.wb x.last x.behind),(O3 x.wb 16 x.first x.next x.mb),[(x.mb,mapG kyI tvB x.dn x.n)],x.ch.s,x.wait.s,ph.s,y.s,rdC x.hr ph y (.slice none 0 0) g,dnS x.dn,zv (delG i kvs)] (zcu h hs)) (hcall _)) ?_
 rintro u H1 ⟨rfl,rfl⟩
 exact ⟨_,(zaW [(O2 x.b x.ch.v x.sd x.client x.wh x.buffer x.wait.A x.wait.l.length x.wait.C x.closing false x.hr x.wb x.last x.behind),(O3 x.wb 16 x.first x.next x.mb),[(x.mb,mapG kyI tvB x.dn x.n)],x.ch.s,x.wait.s,ph.s,y.s,rdC x.hr ph y (.slice none 0 0) g,dnS x.dn,zv (delG i kvs)] (zcu h hs)).symm,Z,Z⟩
theorem ipush {w0:World}{base:Nat}{H:List Seg}{c mb:Nat}{most idle buffer last:Int}{kvs:List (Int×Lk×Nat)}{mn:Nat}{N M:Nat}{i now:Int}{A:Option Addr}{C:Nat}{l:List UInt8}(hm:¬ most=0) (hc:KvI kvs mn last buffer N M) (h:Rd tyB w0 base H A C l) (hl:N + l.length≤9000) (hM:M≤60) (T:Tabs w0 base) :
  SCalls Tryz.prog 14 [(B c),int i,.slice A l.length C,int now] w0 base (O0 c most idle buffer last mb::[(mb,mapG kyI Lk.v kvs mn)]::zv kvs::H) (fun v H' => ∃ (A9:Option Addr) (n9 C9:Nat) (e9:Int) (s9:Seg) (K:List (Int×Lk×Nat)),KvI K mn last buffer (N + l.length) M∧(K.map fun e => e.1).Sublist (kvs.map fun e => e.1)∧(atG i kvs=none→e9=6∧n9=0)∧v = .tuple #[.slice A9 n9 C9,int e9]∧H' = s9::O0 c most idle buffer last mb::[(mb,mapG kyI Lk.v K mn)]::zv K::H):=by
 have keep:KvI kvs mn last buffer (N + l.length) M:=hc.mono (Nat.le_add_right _ _) (Nat.le_refl _)
 cases hat:atG i kvs with
 | none =>
  refine SCalls.flatR (zh2 (A:=A) (C:=C) (l:=l) (now:=now) (H:=zv kvs::H) hm hat) ?_
  rintro u H1 ⟨rfl,rfl⟩
  exact ⟨[]::O0 c most idle buffer last mb::[(mb,mapG kyI Lk.v kvs mn)]::zv kvs::H,by simp,none,0,0,6,[],kvs,keep,List.Sublist.refl _,fun _ => ⟨Z,Z⟩,Z,Z⟩
 | some lk =>
  obtain ⟨hI,hwh⟩:=hc.at_ hat
  cases hI with
  | str hk hb hw hs =>
   rename_i x
   have no:∀ {e9:Int}{n9:Nat},some (Lk.str x)=none→e9=6∧n9=0:=fun h9 => by cases h9
   by_cases hT:inT now
   ·cases hcl:x.closing with
    | true =>
     refine SCalls.flatR (zis hat (fun G => zht (A:=A) (C:=C) (l:=l) (H:=G) hm hat hT (by omega) hcl)) ?_
     rintro u H1 ⟨rfl,rfl⟩
     exact ⟨[]::O0 c most idle buffer last mb::[(mb,mapG kyI Lk.v kvs mn)]::zv kvs::H,by simp,none,0,0,9,[],kvs,keep,List.Sublist.refl _,no,Z,Z⟩
    | false =>
     refine SCalls.sepR (SCalls.flat (zaW [(O4 x.b x.ch.v x.sd x.client x.wh x.buffer x.wait.A x.wait.l.length x.wait.C x.closing false x.r),(O1 x.r 65535 x.br x.y.A x.y.l.length x.y.C (x.off:Int) x.lr x.e),x.ch.s,x.wait.s,x.y.s,zv (delG i kvs)] (zct hat)) (by rw [hcl]; exact push_str (H:=zv (delG i kvs)::H) hm hat hk (h.up _) hT (by omega) hcl (by omega))) ?_
     rintro v H1 ⟨o,ys,x',cl,h1,h2,h3,h4,h5,h6,h7,rfl,rfl⟩
     have e1:x'.buffer=x.buffer:=congrArg StrV.buffer h3
     have e2:x'.wait.l=x.wait.l:=congrArg StrV.wait h3
     have e3:x'.wh=max x.wh now:=congrArg StrV.wh h3
     obtain ⟨K,hK,hsub,hS⟩:=zdr (w0:=w0) (base:=base) (H:=H) (most:=most) (idle:=idle) (buffer:=buffer) (c:=c) (mb:=mb) (N2:=N + l.length) (M2:=M) (lk':=.str x') (cl:=cl) hc hat (by show Value.iface _ x'.ptr=Value.iface _ x.ptr; rw [Str.ptr,Str.ptr,h6]) (Nat.le_add_right _ _) (Nat.le_refl _) (by show inT x'.wh; rw [e3]; exact ziB hwh hT) (fun _ => .str h5 (by rw [e1]; exact hb) (by rw [e2]; exact hw) (by omega)) (o.s++zas ys) [[(x'.b,.cells #[x'.ch.v,.bool x'.sd,.int .i64 x'.client,.int .i64 x'.wh,.int .i64 x'.buffer,.slice x'.wait.A x'.wait.l.length x'.wait.C,.bool x'.closing,.bool cl,.pointer (some ⟨x'.r,0,none⟩)] 108 (0,0))],[(x'.r,.cells #[.int .i64 65535,.bool x'.br,.slice x'.y.A x'.y.l.length x'.y.C,.int .i64 (x'.off:Int),.int .i8 x'.lr,.int .i64 x'.e] 125 (0,0))],x'.ch.s,x'.wait.s,x'.y.s] (fun hcl9 => by subst hcl9; exact zir x')
     refine ⟨_,fun w S9 => hS w (S9.flat ?_),_,_,_,_,o.s++zas ys,K,hK,hsub,no,Z,Z⟩
     simp [List.append_assoc]
   ·refine SCalls.flatR (zis hat (fun G => ziz (A:=A) (C:=C) (l:=l) (H:=G) hm hat hT)) ?_
    rintro u H1 ⟨rfl,rfl⟩
    exact ⟨[]::O0 c most idle buffer last mb::[(mb,mapG kyI Lk.v kvs mn)]::zv kvs::H,by simp,none,0,0,2,[],kvs,keep,List.Sublist.refl _,no,Z,Z⟩
  | req hs hr hb hw hn hwin hd =>
   rename_i x ph y g kb ov
   have no:∀ {e9:Int}{n9:Nat},some (Lk.req x)=none→e9=6∧n9=0:=fun h9 => by cases h9
   by_cases hT:inT now
   ·by_cases hcl:x.closing=true∨0 < x.behind
    ·refine SCalls.flatR (zit hat hs (fun G => zhu (A:=A) (C:=C) (l:=l) (H:=G) hm hat hT (by omega) hcl)) ?_
     rintro u H1 ⟨rfl,rfl⟩
     exact ⟨[]::O0 c most idle buffer last mb::[(mb,mapG kyI Lk.v kvs mn)]::zv kvs::H,by simp,none,0,0,9,[],kvs,keep,List.Sublist.refl _,no,Z,Z⟩
    ·have hcl1:x.closing=false:=by cases hq:x.closing with | false => rfl | true => exact absurd (.inl hq) hcl
     have hcl2:¬ 0 < x.behind:=fun h9 => hcl (.inr h9)
     refine SCalls.sepR (SCalls.flat (zaW [(O2 x.b x.ch.v x.sd x.client x.wh x.buffer x.wait.A x.wait.l.length x.wait.C x.closing false x.hr x.wb x.last x.behind),(O3 x.wb 16 x.first x.next x.mb),[(x.mb,mapG kyI tvB x.dn x.n)],x.ch.s,x.wait.s,ph.s,y.s,rdC x.hr ph y (.slice none 0 0) g,dnS x.dn,zv (delG i kvs)] (zcu hat hs)) (SCalls.pick (H':=O0 c most idle buffer last mb::[(mb,mapG kyI Lk.v kvs mn)]::O2 x.b x.ch.v x.sd x.client x.wh x.buffer x.wait.A x.wait.l.length x.wait.C false false x.hr x.wb x.last x.behind::O3 x.wb 16 x.first x.next x.mb::x.ch.s::ph.s::y.s::rdC x.hr ph y (.slice none 0 0) g::[(x.mb,mapG kyI tvB x.dn x.n)]::x.wait.s::dnS x.dn::zv (delG i kvs)::H) [0,1,2,3,5,7,8,9,4,6,10,11] 12 Z (by rw [hcl1]; rfl) (push_req (H:=[(x.mb,mapG kyI tvB x.dn x.n)]::x.wait.s::dnS x.dn::zv (delG i kvs)::H) hm hat ⟨hwin.1,hwin.2.1,hwin.2.2.1,by omega⟩ hr ((((h.up _).up _).up _).up _) hT (by omega) hcl1 hcl2 (by omega) T))) ?_
     rintro v H1 ⟨A9,n9,C9,e9,s9,x',cl,ph',y',g',kb',ov',h1,h2,h3,⟨ch9,wh9,nx9,la9,bh9,h4⟩,h5,rfl,rfl⟩
     subst h4
     dsimp only at h2 h5
     obtain ⟨K,hK,hsub,hS⟩:=zdr (w0:=w0) (base:=base) (H:=H) (most:=most) (idle:=idle) (buffer:=buffer) (c:=c) (mb:=mb) (N2:=N + l.length) (M2:=M) (lk':=.req (⟨x.b,ch9,x.sd,x.client,wh9,x.buffer,x.wait,false,x.hr,(ph'.s++(y'.s++rdC x.hr ph' y' (.slice none 0 0) g')),x.wb,x.mb,x.first,nx9,x.dn,x.n,la9,bh9⟩:Req)) (cl:=cl) hc hat rfl (Nat.le_add_right _ _) (Nat.le_refl _) (by show inT wh9; rw [show wh9=max x.wh now from h3]; exact ziB hwh hT)
      (fun _ => .req (ph:=ph') (y:=y') (g:=g') (kb:=kb') (ov:=ov') Z h1 hb hw (by dsimp only; omega) ⟨hwin.1,by dsimp only; omega,by dsimp only; omega,hwin.2.2.2⟩ ⟨fun e he => ⟨(hd.all e he).1,by have:=(hd.all e he).2.1; dsimp only; omega,by have:=(hd.all e he).2.2.1; omega,(hd.all e he).2.2.2⟩,hd.keys,hd.stamps⟩) s9 [[((⟨x.b,ch9,x.sd,x.client,wh9,x.buffer,x.wait,false,x.hr,(ph'.s++(y'.s++rdC x.hr ph' y' (.slice none 0 0) g')),x.wb,x.mb,x.first,nx9,x.dn,x.n,la9,bh9⟩:Req).b,.cells #[((⟨x.b,ch9,x.sd,x.client,wh9,x.buffer,x.wait,false,x.hr,(ph'.s++(y'.s++rdC x.hr ph' y' (.slice none 0 0) g')),x.wb,x.mb,x.first,nx9,x.dn,x.n,la9,bh9⟩:Req).ch).v,.bool ((⟨x.b,ch9,x.sd,x.client,wh9,x.buffer,x.wait,false,x.hr,(ph'.s++(y'.s++rdC x.hr ph' y' (.slice none 0 0) g')),x.wb,x.mb,x.first,nx9,x.dn,x.n,la9,bh9⟩:Req).sd),V ((⟨x.b,ch9,x.sd,x.client,wh9,x.buffer,x.wait,false,x.hr,(ph'.s++(y'.s++rdC x.hr ph' y' (.slice none 0 0) g')),x.wb,x.mb,x.first,nx9,x.dn,x.n,la9,bh9⟩:Req).client),V ((⟨x.b,ch9,x.sd,x.client,wh9,x.buffer,x.wait,false,x.hr,(ph'.s++(y'.s++rdC x.hr ph' y' (.slice none 0 0) g')),x.wb,x.mb,x.first,nx9,x.dn,x.n,la9,bh9⟩:Req).wh),V ((⟨x.b,ch9,x.sd,x.client,wh9,x.buffer,x.wait,false,x.hr,(ph'.s++(y'.s++rdC x.hr ph' y' (.slice none 0 0) g')),x.wb,x.mb,x.first,nx9,x.dn,x.n,la9,bh9⟩:Req).buffer),.slice ((⟨x.b,ch9,x.sd,x.client,wh9,x.buffer,x.wait,false,x.hr,(ph'.s++(y'.s++rdC x.hr ph' y' (.slice none 0 0) g')),x.wb,x.mb,x.first,nx9,x.dn,x.n,la9,bh9⟩:Req).wait.A) ((⟨x.b,ch9,x.sd,x.client,wh9,x.buffer,x.wait,false,x.hr,(ph'.s++(y'.s++rdC x.hr ph' y' (.slice none 0 0) g')),x.wb,x.mb,x.first,nx9,x.dn,x.n,la9,bh9⟩:Req).wait.l).length ((⟨x.b,ch9,x.sd,x.client,wh9,x.buffer,x.wait,false,x.hr,(ph'.s++(y'.s++rdC x.hr ph' y' (.slice none 0 0) g')),x.wb,x.mb,x.first,nx9,x.dn,x.n,la9,bh9⟩:Req).wait.C),.bool ((⟨x.b,ch9,x.sd,x.client,wh9,x.buffer,x.wait,false,x.hr,(ph'.s++(y'.s++rdC x.hr ph' y' (.slice none 0 0) g')),x.wb,x.mb,x.first,nx9,x.dn,x.n,la9,bh9⟩:Req).closing),.bool cl,.pointer (some ⟨(⟨x.b,ch9,x.sd,x.client,wh9,x.buffer,x.wait,false,x.hr,(ph'.s++(y'.s++rdC x.hr ph' y' (.slice none 0 0) g')),x.wb,x.mb,x.first,nx9,x.dn,x.n,la9,bh9⟩:Req).hr,0,none⟩),.pointer (some ⟨(⟨x.b,ch9,x.sd,x.client,wh9,x.buffer,x.wait,false,x.hr,(ph'.s++(y'.s++rdC x.hr ph' y' (.slice none 0 0) g')),x.wb,x.mb,x.first,nx9,x.dn,x.n,la9,bh9⟩:Req).wb,0,none⟩),V ((⟨x.b,ch9,x.sd,x.client,wh9,x.buffer,x.wait,false,x.hr,(ph'.s++(y'.s++rdC x.hr ph' y' (.slice none 0 0) g')),x.wb,x.mb,x.first,nx9,x.dn,x.n,la9,bh9⟩:Req).last),V ((⟨x.b,ch9,x.sd,x.client,wh9,x.buffer,x.wait,false,x.hr,(ph'.s++(y'.s++rdC x.hr ph' y' (.slice none 0 0) g')),x.wb,x.mb,x.first,nx9,x.dn,x.n,la9,bh9⟩:Req).behind)] 116 (0,0))],[((⟨x.b,ch9,x.sd,x.client,wh9,x.buffer,x.wait,false,x.hr,(ph'.s++(y'.s++rdC x.hr ph' y' (.slice none 0 0) g')),x.wb,x.mb,x.first,nx9,x.dn,x.n,la9,bh9⟩:Req).wb,.cells #[V 16,V ((⟨x.b,ch9,x.sd,x.client,wh9,x.buffer,x.wait,false,x.hr,(ph'.s++(y'.s++rdC x.hr ph' y' (.slice none 0 0) g')),x.wb,x.mb,x.first,nx9,x.dn,x.n,la9,bh9⟩:Req).first),V ((⟨x.b,ch9,x.sd,x.client,wh9,x.buffer,x.wait,false,x.hr,(ph'.s++(y'.s++rdC x.hr ph' y' (.slice none 0 0) g')),x.wb,x.mb,x.first,nx9,x.dn,x.n,la9,bh9⟩:Req).next),.map (some (⟨x.b,ch9,x.sd,x.client,wh9,x.buffer,x.wait,false,x.hr,(ph'.s++(y'.s++rdC x.hr ph' y' (.slice none 0 0) g')),x.wb,x.mb,x.first,nx9,x.dn,x.n,la9,bh9⟩:Req).mb)] 128 (0,0))],[((⟨x.b,ch9,x.sd,x.client,wh9,x.buffer,x.wait,false,x.hr,(ph'.s++(y'.s++rdC x.hr ph' y' (.slice none 0 0) g')),x.wb,x.mb,x.first,nx9,x.dn,x.n,la9,bh9⟩:Req).mb,mapG kyI tvB (⟨x.b,ch9,x.sd,x.client,wh9,x.buffer,x.wait,false,x.hr,(ph'.s++(y'.s++rdC x.hr ph' y' (.slice none 0 0) g')),x.wb,x.mb,x.first,nx9,x.dn,x.n,la9,bh9⟩:Req).dn (⟨x.b,ch9,x.sd,x.client,wh9,x.buffer,x.wait,false,x.hr,(ph'.s++(y'.s++rdC x.hr ph' y' (.slice none 0 0) g')),x.wb,x.mb,x.first,nx9,x.dn,x.n,la9,bh9⟩:Req).n)],(⟨x.b,ch9,x.sd,x.client,wh9,x.buffer,x.wait,false,x.hr,(ph'.s++(y'.s++rdC x.hr ph' y' (.slice none 0 0) g')),x.wb,x.mb,x.first,nx9,x.dn,x.n,la9,bh9⟩:Req).ch.s,(⟨x.b,ch9,x.sd,x.client,wh9,x.buffer,x.wait,false,x.hr,(ph'.s++(y'.s++rdC x.hr ph' y' (.slice none 0 0) g')),x.wb,x.mb,x.first,nx9,x.dn,x.n,la9,bh9⟩:Req).wait.s,ph'.s,y'.s,rdC (⟨x.b,ch9,x.sd,x.client,wh9,x.buffer,x.wait,false,x.hr,(ph'.s++(y'.s++rdC x.hr ph' y' (.slice none 0 0) g')),x.wb,x.mb,x.first,nx9,x.dn,x.n,la9,bh9⟩:Req).hr ph' y' (.slice none 0 0) g',dnS (⟨x.b,ch9,x.sd,x.client,wh9,x.buffer,x.wait,false,x.hr,(ph'.s++(y'.s++rdC x.hr ph' y' (.slice none 0 0) g')),x.wb,x.mb,x.first,nx9,x.dn,x.n,la9,bh9⟩:Req).dn] (fun hcl9 => by subst hcl9; exact ziu Z)
     exact ⟨_,fun w S9 => hS w (S9.pick [0,1,2,3,4,9,5,10,6,7,8,11,12] 13 Z),_,_,_,_,s9,K,hK,hsub,no,Z,Z⟩
   ·refine SCalls.flatR (zit hat hs (fun G => ziA (A:=A) (C:=C) (l:=l) (H:=G) hm hat hT)) ?_
    rintro u H1 ⟨rfl,rfl⟩
    exact ⟨[]::O0 c most idle buffer last mb::[(mb,mapG kyI Lk.v kvs mn)]::zv kvs::H,by simp,none,0,0,2,[],kvs,keep,List.Sublist.refl _,no,Z,Z⟩
set_option maxRecDepth 100000
theorem itake {w0:World}{base:Nat}{H:List Seg}{c mb:Nat}{most idle buffer last:Int}{kvs:List (Int×Lk×Nat)}{mn:Nat}{N M:Nat}{i m now:Int}(hm:¬ most=0) (hc:KvI kvs mn last buffer N M) (hbf:buffer≤1048576) :
  SCalls Tryz.prog 16 [(B c),int i,int m,int now] w0 base (O0 c most idle buffer last mb::[(mb,mapG kyI Lk.v kvs mn)]::zv kvs::H) (fun v H' => ∃ (A9:Option Addr) (n9 C9:Nat) (e9:Int) (s9:Seg) (K:List (Int×Lk×Nat)),KvI K mn last buffer N M∧(K.map fun e => e.1).Sublist (kvs.map fun e => e.1)∧(atG i kvs=none→e9=6∧n9=0)∧(n9:Int)≤max m 0∧v = .tuple #[.slice A9 n9 C9,int e9]∧H' = s9::O0 c most idle buffer last mb::[(mb,mapG kyI Lk.v K mn)]::zv K::H):=by
 have h0:((0:Nat):Int)≤max m 0:=by omega
 cases hat:atG i kvs with
 | none =>
  refine SCalls.flatR (ctake_none (m:=m) (now:=now) (H:=zv kvs::H) hm hat) ?_
  rintro u H1 ⟨rfl,rfl⟩
  exact ⟨[]::O0 c most idle buffer last mb::[(mb,mapG kyI Lk.v kvs mn)]::zv kvs::H,by simp,none,0,0,6,[],kvs,hc,List.Sublist.refl _,(fun _ => ⟨Z,Z⟩),h0,Z,Z⟩
 | some lk =>
  obtain ⟨hI,hwh⟩:=hc.at_ hat
  have no:∀ {e9:Int}{n9:Nat},some lk=none→e9=6∧n9=0:=fun h9 => by cases h9
  cases hI with
  | str hk hb hw hs =>
   rename_i x
   by_cases hbad:m < 0∨¬ inT now
   ·refine SCalls.flatR (zis hat (fun G => zjC (H:=G) hm hat hbad)) ?_
    rintro u H1 ⟨rfl,rfl⟩
    exact ⟨[]::O0 c most idle buffer last mb::[(mb,mapG kyI Lk.v kvs mn)]::zv kvs::H,by simp,none,0,0,2,[],kvs,hc,List.Sublist.refl _,no,h0,Z,Z⟩
   ·have hT:inT now:=Decidable.byContradiction fun h9 => hbad (.inr h9)
    obtain ⟨k,rfl⟩:∃ k:Nat,m=(k:Int):=⟨m.toNat,by omega⟩
    refine SCalls.sepR (SCalls.flat (zaW [(O4 x.b x.ch.v x.sd x.client x.wh x.buffer x.wait.A x.wait.l.length x.wait.C x.closing false x.r),(O1 x.r 65535 x.br x.y.A x.y.l.length x.y.C (x.off:Int) x.lr x.e),x.ch.s,x.wait.s,x.y.s,zv (delG i kvs)] (zct hat)) (take_str (H:=zv (delG i kvs)::H) hm hat hk k hT (by omega))) ?_
    rintro v H1 ⟨o,x',cl,h1,h2,h3,h4,⟨h5,h6⟩,rfl,rfl⟩
    have e1:x'.buffer=x.buffer:=congrArg StrV.buffer h3
    have e2:x'.wait.l=x.wait.l.drop k:=congrArg StrV.wait h3
    have e3:x'.wh=if 0 < min k x.p.wait.length then max x.wh now else x.wh:=congrArg StrV.wh h3
    have e4:x'.ch.y.l=x.ch.y.l:=congrArg (fun v => v.ch.k) h3
    obtain ⟨K,hK,hsub,hS⟩:=zdr (w0:=w0) (base:=base) (H:=H) (most:=most) (idle:=idle) (buffer:=buffer) (c:=c) (mb:=mb) (N2:=N) (M2:=M) (lk':=.str x') (cl:=cl) hc hat (by show Value.iface _ x'.ptr=Value.iface _ x.ptr; rw [Str.ptr,Str.ptr,h5]) (Nat.le_refl _) (Nat.le_refl _) (by show inT x'.wh; rw [e3]; split; exact ziB hwh hT; exact hwh) (fun _ => .str h2 (by rw [e1]; exact hb) (by rw [e2,List.length_drop]; omega) (by rw [e4,h6]; exact hs)) o.s [[(x'.b,.cells #[x'.ch.v,.bool x'.sd,.int .i64 x'.client,.int .i64 x'.wh,.int .i64 x'.buffer,.slice x'.wait.A x'.wait.l.length x'.wait.C,.bool x'.closing,.bool cl,.pointer (some ⟨x'.r,0,none⟩)] 108 (0,0))],[(x'.r,.cells #[.int .i64 65535,.bool x'.br,.slice x'.y.A x'.y.l.length x'.y.C,.int .i64 (x'.off:Int),.int .i8 x'.lr,.int .i64 x'.e] 125 (0,0))],x'.ch.s,x'.wait.s,x'.y.s] (fun hcl9 => by subst hcl9; exact zir x')
    exact ⟨_,hS,o.A,o.l.length,o.C,0,o.s,K,hK,hsub,no,by rw [h1]; show ((x.wait.l.take k).length:Int)≤_; rw [List.length_take]; omega,Z,Z⟩
  | req hs hr hb hw hn hwin hd =>
   rename_i x ph y g kb ov
   by_cases hbad:m < 0∨¬ inT now
   ·refine SCalls.flatR (zit hat hs (fun G => zjD (H:=G) hm hat hbad)) ?_
    rintro u H1 ⟨rfl,rfl⟩
    exact ⟨[]::O0 c most idle buffer last mb::[(mb,mapG kyI Lk.v kvs mn)]::zv kvs::H,by simp,none,0,0,2,[],kvs,hc,List.Sublist.refl _,no,h0,Z,Z⟩
   ·have hT:inT now:=Decidable.byContradiction fun h9 => hbad (.inr h9)
    obtain ⟨k,rfl⟩:∃ k:Nat,m=(k:Int):=⟨m.toNat,by omega⟩
    refine SCalls.sepR (SCalls.flat (zaW [(O2 x.b x.ch.v x.sd x.client x.wh x.buffer x.wait.A x.wait.l.length x.wait.C x.closing false x.hr x.wb x.last x.behind),(O3 x.wb 16 x.first x.next x.mb),[(x.mb,mapG kyI tvB x.dn x.n)],x.ch.s,x.wait.s,ph.s,y.s,rdC x.hr ph y (.slice none 0 0) g,dnS x.dn,zv (delG i kvs)] (zcu hat hs)) (SCalls.pick (H':=O0 c most idle buffer last mb::[(mb,mapG kyI Lk.v kvs mn)]::O2 x.b x.ch.v x.sd x.client x.wh x.buffer x.wait.A x.wait.l.length x.wait.C x.closing false x.hr x.wb x.last x.behind::x.wait.s::O3 x.wb 16 x.first x.next x.mb::[(x.mb,mapG kyI tvB x.dn x.n)]::x.ch.s::ph.s::y.s::rdC x.hr ph y (.slice none 0 0) g::dnS x.dn::zv (delG i kvs)::H) [0,1,2,6,3,4,5,7,8,9,10,11] 12 Z Z (take_req (H:=O3 x.wb 16 x.first x.next x.mb::[(x.mb,mapG kyI tvB x.dn x.n)]::x.ch.s::ph.s::y.s::rdC x.hr ph y (.slice none 0 0) g::dnS x.dn::zv (delG i kvs)::H) hm hat k hT (by omega)))) ?_
    rintro v H1 ⟨o,wt,wh9,cl,h1,h2,h3,rfl,rfl⟩
    obtain ⟨K,hK,hsub,hS⟩:=zdr (w0:=w0) (base:=base) (H:=H) (most:=most) (idle:=idle) (buffer:=buffer) (c:=c) (mb:=mb) (N2:=N) (M2:=M) (lk':=.req (⟨x.b,x.ch,x.sd,x.client,wh9,x.buffer,wt,x.closing,x.hr,x.hs,x.wb,x.mb,x.first,x.next,x.dn,x.n,x.last,x.behind⟩:Req)) (cl:=cl) hc hat rfl (Nat.le_refl _) (Nat.le_refl _) (by show inT wh9; rcases h3 with h9 | h9; rw [h9]; exact hwh; rw [h9]; exact ziB hwh hT) (fun _ => .req (ph:=ph) (y:=y) (g:=g) (kb:=kb) (ov:=ov) hs hr hb (by dsimp only; omega) hn hwin hd) o.s [[((⟨x.b,x.ch,x.sd,x.client,wh9,x.buffer,wt,x.closing,x.hr,x.hs,x.wb,x.mb,x.first,x.next,x.dn,x.n,x.last,x.behind⟩:Req).b,.cells #[((⟨x.b,x.ch,x.sd,x.client,wh9,x.buffer,wt,x.closing,x.hr,x.hs,x.wb,x.mb,x.first,x.next,x.dn,x.n,x.last,x.behind⟩:Req).ch).v,.bool ((⟨x.b,x.ch,x.sd,x.client,wh9,x.buffer,wt,x.closing,x.hr,x.hs,x.wb,x.mb,x.first,x.next,x.dn,x.n,x.last,x.behind⟩:Req).sd),.int .i64 ((⟨x.b,x.ch,x.sd,x.client,wh9,x.buffer,wt,x.closing,x.hr,x.hs,x.wb,x.mb,x.first,x.next,x.dn,x.n,x.last,x.behind⟩:Req).client),.int .i64 ((⟨x.b,x.ch,x.sd,x.client,wh9,x.buffer,wt,x.closing,x.hr,x.hs,x.wb,x.mb,x.first,x.next,x.dn,x.n,x.last,x.behind⟩:Req).wh),.int .i64 ((⟨x.b,x.ch,x.sd,x.client,wh9,x.buffer,wt,x.closing,x.hr,x.hs,x.wb,x.mb,x.first,x.next,x.dn,x.n,x.last,x.behind⟩:Req).buffer),.slice ((⟨x.b,x.ch,x.sd,x.client,wh9,x.buffer,wt,x.closing,x.hr,x.hs,x.wb,x.mb,x.first,x.next,x.dn,x.n,x.last,x.behind⟩:Req).wait.A) ((⟨x.b,x.ch,x.sd,x.client,wh9,x.buffer,wt,x.closing,x.hr,x.hs,x.wb,x.mb,x.first,x.next,x.dn,x.n,x.last,x.behind⟩:Req).wait.l).length ((⟨x.b,x.ch,x.sd,x.client,wh9,x.buffer,wt,x.closing,x.hr,x.hs,x.wb,x.mb,x.first,x.next,x.dn,x.n,x.last,x.behind⟩:Req).wait.C),.bool ((⟨x.b,x.ch,x.sd,x.client,wh9,x.buffer,wt,x.closing,x.hr,x.hs,x.wb,x.mb,x.first,x.next,x.dn,x.n,x.last,x.behind⟩:Req).closing),.bool cl,.pointer (some ⟨(⟨x.b,x.ch,x.sd,x.client,wh9,x.buffer,wt,x.closing,x.hr,x.hs,x.wb,x.mb,x.first,x.next,x.dn,x.n,x.last,x.behind⟩:Req).hr,0,none⟩),.pointer (some ⟨(⟨x.b,x.ch,x.sd,x.client,wh9,x.buffer,wt,x.closing,x.hr,x.hs,x.wb,x.mb,x.first,x.next,x.dn,x.n,x.last,x.behind⟩:Req).wb,0,none⟩),.int .i64 ((⟨x.b,x.ch,x.sd,x.client,wh9,x.buffer,wt,x.closing,x.hr,x.hs,x.wb,x.mb,x.first,x.next,x.dn,x.n,x.last,x.behind⟩:Req).last),.int .i64 ((⟨x.b,x.ch,x.sd,x.client,wh9,x.buffer,wt,x.closing,x.hr,x.hs,x.wb,x.mb,x.first,x.next,x.dn,x.n,x.last,x.behind⟩:Req).behind)] 116 (0,0))],[((⟨x.b,x.ch,x.sd,x.client,wh9,x.buffer,wt,x.closing,x.hr,x.hs,x.wb,x.mb,x.first,x.next,x.dn,x.n,x.last,x.behind⟩:Req).wb,.cells #[.int .i64 16,.int .i64 ((⟨x.b,x.ch,x.sd,x.client,wh9,x.buffer,wt,x.closing,x.hr,x.hs,x.wb,x.mb,x.first,x.next,x.dn,x.n,x.last,x.behind⟩:Req).first),.int .i64 ((⟨x.b,x.ch,x.sd,x.client,wh9,x.buffer,wt,x.closing,x.hr,x.hs,x.wb,x.mb,x.first,x.next,x.dn,x.n,x.last,x.behind⟩:Req).next),.map (some (⟨x.b,x.ch,x.sd,x.client,wh9,x.buffer,wt,x.closing,x.hr,x.hs,x.wb,x.mb,x.first,x.next,x.dn,x.n,x.last,x.behind⟩:Req).mb)] 128 (0,0))],[((⟨x.b,x.ch,x.sd,x.client,wh9,x.buffer,wt,x.closing,x.hr,x.hs,x.wb,x.mb,x.first,x.next,x.dn,x.n,x.last,x.behind⟩:Req).mb,mapG kyI tvB (⟨x.b,x.ch,x.sd,x.client,wh9,x.buffer,wt,x.closing,x.hr,x.hs,x.wb,x.mb,x.first,x.next,x.dn,x.n,x.last,x.behind⟩:Req).dn (⟨x.b,x.ch,x.sd,x.client,wh9,x.buffer,wt,x.closing,x.hr,x.hs,x.wb,x.mb,x.first,x.next,x.dn,x.n,x.last,x.behind⟩:Req).n)],(⟨x.b,x.ch,x.sd,x.client,wh9,x.buffer,wt,x.closing,x.hr,x.hs,x.wb,x.mb,x.first,x.next,x.dn,x.n,x.last,x.behind⟩:Req).ch.s,(⟨x.b,x.ch,x.sd,x.client,wh9,x.buffer,wt,x.closing,x.hr,x.hs,x.wb,x.mb,x.first,x.next,x.dn,x.n,x.last,x.behind⟩:Req).wait.s,ph.s,y.s,rdC (⟨x.b,x.ch,x.sd,x.client,wh9,x.buffer,wt,x.closing,x.hr,x.hs,x.wb,x.mb,x.first,x.next,x.dn,x.n,x.last,x.behind⟩:Req).hr ph y (.slice none 0 0) g,dnS (⟨x.b,x.ch,x.sd,x.client,wh9,x.buffer,wt,x.closing,x.hr,x.hs,x.wb,x.mb,x.first,x.next,x.dn,x.n,x.last,x.behind⟩:Req).dn] (fun hcl9 => by subst hcl9; exact ziu hs)
    exact ⟨_,fun w S9 => hS w (S9.pick [0,1,2,3,5,6,7,4,8,9,10,11,12] 13 Z),o.A,o.l.length,o.C,0,o.s,K,hK,hsub,no,by rw [h1,List.length_take]; omega,Z,Z⟩
theorem zk4 {x:StrV}{slot:Int}{l:List UInt8}(h:(x.answer slot l).2.1=false) (hw:(x.wait.length:Int)≤x.buffer):((x.answer slot l).2.2.wait.length:Int)≤x.buffer:=by
 unfold StrV.answer at h ⊢
 split
 ·rename_i h9
  rw [if_pos h9] at h
  have:=of_decide_eq_false h
  dsimp only
  omega
 ·exact hw
theorem answer_buf (x:StrV) (slot:Int) (l:List UInt8):(x.answer slot l).2.2.buffer=x.buffer:=by
 rw [StrV.answer]; split <;> rfl
theorem ianswer {w0:World}{base:Nat}{H:List Seg}{c mb:Nat}{most idle buffer last:Int}{kvs:List (Int×Lk×Nat)}{mn:Nat}{N M:Nat}{i slot:Int}{A:Option Addr}{C:Nat}{l:List UInt8}(hm:¬ most=0) (hc:KvI kvs mn last buffer N M) (hbf:buffer≤1048576) (h:Rd tyB w0 base H A C l) (hl:N + l.length≤9000) (hM:M≤60) :
  SCalls Tryz.prog 15 [(B c),int i,int slot,.slice A l.length C] w0 base (O0 c most idle buffer last mb::[(mb,mapG kyI Lk.v kvs mn)]::zv kvs::H) (fun v H' => ∃ (e9:Int) (s9:Seg) (K:List (Int×Lk×Nat)),KvI K mn last buffer (N + l.length) (M + 1)∧(K.map fun e => e.1).Sublist (kvs.map fun e => e.1)∧v=int e9∧H' = s9::O0 c most idle buffer last mb::[(mb,mapG kyI Lk.v K mn)]::zv K::H):=by
 have keep:KvI kvs mn last buffer (N + l.length) (M + 1):=hc.mono (Nat.le_add_right _ _) (Nat.le_succ _)
 cases hat:atG i kvs with
 | none =>
  refine SCalls.flatR (zj9 (s:=slot) (A:=A) (C:=C) (l:=l) (H:=zv kvs::H) hm hat) ?_
  rintro u H1 ⟨rfl,rfl⟩
  exact ⟨[]::O0 c most idle buffer last mb::[(mb,mapG kyI Lk.v kvs mn)]::zv kvs::H,by simp,6,[],kvs,keep,List.Sublist.refl _,Z,Z⟩
 | some lk =>
  obtain ⟨hI,hwh⟩:=hc.at_ hat
  cases hI with
  | str hk hb hw hs =>
   rename_i x
   refine SCalls.sepR (SCalls.flat (zaW [(O4 x.b x.ch.v x.sd x.client x.wh x.buffer x.wait.A x.wait.l.length x.wait.C x.closing false x.r),(O1 x.r 65535 x.br x.y.A x.y.l.length x.y.C (x.off:Int) x.lr x.e),x.ch.s,x.wait.s,x.y.s,zv (delG i kvs)] (zct hat)) (zie (H:=zv (delG i kvs)::H) hm hat hk slot (h.up _) (by omega) (by omega))) ?_
   rintro v H1 ⟨x',cl,h1,h2,h3,⟨h4,h6⟩,rfl,rfl⟩
   have e1:x'.buffer=x.buffer:=(congrArg StrV.buffer h2).trans (answer_buf _ _ _)
   have e3:x'.wh=x.wh:=(congrArg StrV.wh h2).trans (zke _ _ _)
   have e4:x'.ch.y.l=x.ch.y.l:=(congrArg (fun v => v.ch.k) h2).trans (answer_k _ _ _)
   obtain ⟨K,hK,hsub,hS⟩:=zdr (w0:=w0) (base:=base) (H:=H) (most:=most) (idle:=idle) (buffer:=buffer) (c:=c) (mb:=mb) (N2:=N + l.length) (M2:=M + 1) (lk':=.str x') (cl:=cl) hc hat (by show Value.iface _ x'.ptr=Value.iface _ x.ptr; rw [Str.ptr,Str.ptr,h4]) (Nat.le_add_right _ _) (Nat.le_succ _) (by show inT x'.wh; rw [e3]; exact hwh) (fun hcl9 => .str h1 (by rw [e1]; exact hb) (by rw [show x'.wait.l=x'.p.wait from rfl,h2,← hb]; exact zk4 (h3.symm.trans hcl9) (by rw [show x.p.buffer=x.buffer from rfl,hb]; exact hw)) (by rw [e4,h6]; omega)) [] [[(x'.b,.cells #[x'.ch.v,.bool x'.sd,.int .i64 x'.client,.int .i64 x'.wh,.int .i64 x'.buffer,.slice x'.wait.A x'.wait.l.length x'.wait.C,.bool x'.closing,.bool cl,.pointer (some ⟨x'.r,0,none⟩)] 108 (0,0))],[(x'.r,.cells #[.int .i64 65535,.bool x'.br,.slice x'.y.A x'.y.l.length x'.y.C,.int .i64 (x'.off:Int),.int .i8 x'.lr,.int .i64 x'.e] 125 (0,0))],x'.ch.s,x'.wait.s,x'.y.s] (fun hcl9 => by subst hcl9; exact zir x')
   exact ⟨_,fun w S9 => hS w S9.nil,_,[],K,hK,hsub,Z,Z⟩
  | req hs hr hb hw hn hwin hd =>
   rename_i x ph y g kb ov
   have hd2:DnOk x.first x.next (N + l.length) x.dn x.n:=⟨fun e he => ⟨(hd.all e he).1,(hd.all e he).2.1,by have:=(hd.all e he).2.2.1; omega,(hd.all e he).2.2.2⟩,hd.keys,hd.stamps⟩
   refine SCalls.sepR (SCalls.flat (zaW [(O2 x.b x.ch.v x.sd x.client x.wh x.buffer x.wait.A x.wait.l.length x.wait.C x.closing false x.hr x.wb x.last x.behind),(O3 x.wb 16 x.first x.next x.mb),[(x.mb,mapG kyI tvB x.dn x.n)],x.ch.s,x.wait.s,ph.s,y.s,rdC x.hr ph y (.slice none 0 0) g,dnS x.dn,zv (delG i kvs)] (zcu hat hs)) (SCalls.pick (H':=O0 c most idle buffer last mb::[(mb,mapG kyI Lk.v kvs mn)]::O2 x.b x.ch.v x.sd x.client x.wh x.buffer x.wait.A x.wait.l.length x.wait.C x.closing false x.hr x.wb x.last x.behind::O3 x.wb 16 x.first x.next x.mb::[(x.mb,mapG kyI tvB x.dn x.n)]::x.ch.s::x.wait.s::dnS x.dn::ph.s::y.s::rdC x.hr ph y (.slice none 0 0) g::zv (delG i kvs)::H) [0,1,2,3,4,5,6,10,7,8,9,11] 12 Z Z (answer_req (H:=ph.s::y.s::rdC x.hr ph y (.slice none 0 0) g::zv (delG i kvs)::H) hm hat ⟨hwin.1,hwin.2.1,hwin.2.2.1,by omega⟩ hd2 (by omega) (by omega) (by omega) ((((h.up _).up _).up _).up _) (by omega) (by omega) (by omega)))) ?_
   rintro v H1 ⟨e9,ch9,wt,clo,cl,fi',dn',dnn',h1,h2,h3,h4,h5,h6,rfl,rfl⟩
   obtain ⟨K,hK,hsub,hS⟩:=zdr (w0:=w0) (base:=base) (H:=H) (most:=most) (idle:=idle) (buffer:=buffer) (c:=c) (mb:=mb) (N2:=N + l.length) (M2:=M + 1) (lk':=.req (⟨x.b,ch9,x.sd,x.client,x.wh,x.buffer,wt,clo,x.hr,x.hs,x.wb,x.mb,fi',x.next,dn',dnn',x.last,x.behind⟩:Req)) (cl:=cl) hc hat rfl (Nat.le_add_right _ _) (Nat.le_succ _) hwh (fun hcl9 => .req (ph:=ph) (y:=y) (g:=g) (kb:=kb) (ov:=ov) hs hr hb (by have h9:=h3 hcl9; dsimp only; omega) (by dsimp only; rw [h1]; omega) ⟨by dsimp only; omega,by dsimp only; omega,by dsimp only; omega,by dsimp only; omega⟩ h4) [] [[((⟨x.b,ch9,x.sd,x.client,x.wh,x.buffer,wt,clo,x.hr,x.hs,x.wb,x.mb,fi',x.next,dn',dnn',x.last,x.behind⟩:Req).b,.cells #[((⟨x.b,ch9,x.sd,x.client,x.wh,x.buffer,wt,clo,x.hr,x.hs,x.wb,x.mb,fi',x.next,dn',dnn',x.last,x.behind⟩:Req).ch).v,.bool ((⟨x.b,ch9,x.sd,x.client,x.wh,x.buffer,wt,clo,x.hr,x.hs,x.wb,x.mb,fi',x.next,dn',dnn',x.last,x.behind⟩:Req).sd),.int .i64 ((⟨x.b,ch9,x.sd,x.client,x.wh,x.buffer,wt,clo,x.hr,x.hs,x.wb,x.mb,fi',x.next,dn',dnn',x.last,x.behind⟩:Req).client),.int .i64 ((⟨x.b,ch9,x.sd,x.client,x.wh,x.buffer,wt,clo,x.hr,x.hs,x.wb,x.mb,fi',x.next,dn',dnn',x.last,x.behind⟩:Req).wh),.int .i64 ((⟨x.b,ch9,x.sd,x.client,x.wh,x.buffer,wt,clo,x.hr,x.hs,x.wb,x.mb,fi',x.next,dn',dnn',x.last,x.behind⟩:Req).buffer),.slice ((⟨x.b,ch9,x.sd,x.client,x.wh,x.buffer,wt,clo,x.hr,x.hs,x.wb,x.mb,fi',x.next,dn',dnn',x.last,x.behind⟩:Req).wait.A) ((⟨x.b,ch9,x.sd,x.client,x.wh,x.buffer,wt,clo,x.hr,x.hs,x.wb,x.mb,fi',x.next,dn',dnn',x.last,x.behind⟩:Req).wait.l).length ((⟨x.b,ch9,x.sd,x.client,x.wh,x.buffer,wt,clo,x.hr,x.hs,x.wb,x.mb,fi',x.next,dn',dnn',x.last,x.behind⟩:Req).wait.C),.bool ((⟨x.b,ch9,x.sd,x.client,x.wh,x.buffer,wt,clo,x.hr,x.hs,x.wb,x.mb,fi',x.next,dn',dnn',x.last,x.behind⟩:Req).closing),.bool cl,.pointer (some ⟨(⟨x.b,ch9,x.sd,x.client,x.wh,x.buffer,wt,clo,x.hr,x.hs,x.wb,x.mb,fi',x.next,dn',dnn',x.last,x.behind⟩:Req).hr,0,none⟩),.pointer (some ⟨(⟨x.b,ch9,x.sd,x.client,x.wh,x.buffer,wt,clo,x.hr,x.hs,x.wb,x.mb,fi',x.next,dn',dnn',x.last,x.behind⟩:Req).wb,0,none⟩),.int .i64 ((⟨x.b,ch9,x.sd,x.client,x.wh,x.buffer,wt,clo,x.hr,x.hs,x.wb,x.mb,fi',x.next,dn',dnn',x.last,x.behind⟩:Req).last),.int .i64 ((⟨x.b,ch9,x.sd,x.client,x.wh,x.buffer,wt,clo,x.hr,x.hs,x.wb,x.mb,fi',x.next,dn',dnn',x.last,x.behind⟩:Req).behind)] 116 (0,0))],[((⟨x.b,ch9,x.sd,x.client,x.wh,x.buffer,wt,clo,x.hr,x.hs,x.wb,x.mb,fi',x.next,dn',dnn',x.last,x.behind⟩:Req).wb,.cells #[.int .i64 16,.int .i64 ((⟨x.b,ch9,x.sd,x.client,x.wh,x.buffer,wt,clo,x.hr,x.hs,x.wb,x.mb,fi',x.next,dn',dnn',x.last,x.behind⟩:Req).first),.int .i64 ((⟨x.b,ch9,x.sd,x.client,x.wh,x.buffer,wt,clo,x.hr,x.hs,x.wb,x.mb,fi',x.next,dn',dnn',x.last,x.behind⟩:Req).next),.map (some (⟨x.b,ch9,x.sd,x.client,x.wh,x.buffer,wt,clo,x.hr,x.hs,x.wb,x.mb,fi',x.next,dn',dnn',x.last,x.behind⟩:Req).mb)] 128 (0,0))],[((⟨x.b,ch9,x.sd,x.client,x.wh,x.buffer,wt,clo,x.hr,x.hs,x.wb,x.mb,fi',x.next,dn',dnn',x.last,x.behind⟩:Req).mb,mapG kyI tvB (⟨x.b,ch9,x.sd,x.client,x.wh,x.buffer,wt,clo,x.hr,x.hs,x.wb,x.mb,fi',x.next,dn',dnn',x.last,x.behind⟩:Req).dn (⟨x.b,ch9,x.sd,x.client,x.wh,x.buffer,wt,clo,x.hr,x.hs,x.wb,x.mb,fi',x.next,dn',dnn',x.last,x.behind⟩:Req).n)],(⟨x.b,ch9,x.sd,x.client,x.wh,x.buffer,wt,clo,x.hr,x.hs,x.wb,x.mb,fi',x.next,dn',dnn',x.last,x.behind⟩:Req).ch.s,(⟨x.b,ch9,x.sd,x.client,x.wh,x.buffer,wt,clo,x.hr,x.hs,x.wb,x.mb,fi',x.next,dn',dnn',x.last,x.behind⟩:Req).wait.s,ph.s,y.s,rdC (⟨x.b,ch9,x.sd,x.client,x.wh,x.buffer,wt,clo,x.hr,x.hs,x.wb,x.mb,fi',x.next,dn',dnn',x.last,x.behind⟩:Req).hr ph y (.slice none 0 0) g,dnS (⟨x.b,ch9,x.sd,x.client,x.wh,x.buffer,wt,clo,x.hr,x.hs,x.wb,x.mb,fi',x.next,dn',dnn',x.last,x.behind⟩:Req).dn] (fun hcl9 => by subst hcl9; exact ziu hs)
   exact ⟨_,fun w S9 => hS w (S9.nil.pick [0,1,2,3,4,5,6,7,9,10,11,8,12] 13 Z),_,[],K,hK,hsub,Z,Z⟩
theorem ifinish {w0:World}{base:Nat}{H:List Seg}{c mb:Nat}{most idle buffer last:Int}{kvs:List (Int×Lk×Nat)}{mn:Nat}{N M:Nat}{i:Int}(hm:¬ most=0) (hc:KvI kvs mn last buffer N M) (hbf:buffer≤1048576) (hM:M≤60) :
  SCalls Tryz.prog 26 [(B c),int i] w0 base (O0 c most idle buffer last mb::[(mb,mapG kyI Lk.v kvs mn)]::zv kvs::H) (fun v H' => ∃ (e9:Int) (s9:Seg) (K:List (Int×Lk×Nat)),KvI K mn last buffer N M∧(K.map fun e => e.1).Sublist (kvs.map fun e => e.1)∧v=int e9∧H' = s9::O0 c most idle buffer last mb::[(mb,mapG kyI Lk.v K mn)]::zv K::H):=by
 cases hat:atG i kvs with
 | none =>
  refine SCalls.flatR (zj7 (H:=zv kvs::H) hm hat) ?_
  rintro u H1 ⟨rfl,rfl⟩
  exact ⟨[]::O0 c most idle buffer last mb::[(mb,mapG kyI Lk.v kvs mn)]::zv kvs::H,by simp,6,[],kvs,hc,List.Sublist.refl _,Z,Z⟩
 | some lk =>
  obtain ⟨hI,hwh⟩:=hc.at_ hat
  cases hI with
  | str hk hb hw hs =>
   rename_i x
   refine SCalls.sepR (SCalls.flat (zaW [(O4 x.b x.ch.v x.sd x.client x.wh x.buffer x.wait.A x.wait.l.length x.wait.C x.closing false x.r),(O1 x.r 65535 x.br x.y.A x.y.l.length x.y.C (x.off:Int) x.lr x.e),x.ch.s,x.wait.s,x.y.s,zv (delG i kvs)] (zct hat)) (SCalls.pick (H':=O0 c most idle buffer last mb::[(mb,mapG kyI Lk.v kvs mn)]::O4 x.b x.ch.v x.sd x.client x.wh x.buffer x.wait.A x.wait.l.length x.wait.C x.closing false x.r::x.ch.s::x.wait.s::O1 x.r 65535 x.br x.y.A x.y.l.length x.y.C (x.off:Int) x.lr x.e::x.y.s::zv (delG i kvs)::H) [0,1,2,4,5,3,6,7] 8 Z Z (finish_str (H:=O1 x.r 65535 x.br x.y.A x.y.l.length x.y.C (x.off:Int) x.lr x.e::x.y.s::zv (delG i kvs)::H) hm hat (by omega) (by omega)))) ?_
   rintro v H1 ⟨ch9,wt,clo,cl,h1,h2,h3,rfl,rfl⟩
   obtain ⟨K,hK,hsub,hS⟩:=zdr (w0:=w0) (base:=base) (H:=H) (most:=most) (idle:=idle) (buffer:=buffer) (c:=c) (mb:=mb) (N2:=N) (M2:=M) (lk':=.str (⟨x.b,ch9,x.sd,x.client,x.wh,x.buffer,wt,clo,x.r,x.y,x.off,x.lr,x.e,x.br⟩:Str)) (cl:=cl) hc hat rfl (Nat.le_refl _) (Nat.le_refl _) hwh (fun hcl9 => .str ⟨hk.off,hk.e⟩ hb (by have h9:=h3 hcl9; dsimp only; omega) (by dsimp only; rw [h1]; exact hs)) [] [[((⟨x.b,ch9,x.sd,x.client,x.wh,x.buffer,wt,clo,x.r,x.y,x.off,x.lr,x.e,x.br⟩:Str).b,.cells #[((⟨x.b,ch9,x.sd,x.client,x.wh,x.buffer,wt,clo,x.r,x.y,x.off,x.lr,x.e,x.br⟩:Str).ch).v,.bool ((⟨x.b,ch9,x.sd,x.client,x.wh,x.buffer,wt,clo,x.r,x.y,x.off,x.lr,x.e,x.br⟩:Str).sd),.int .i64 ((⟨x.b,ch9,x.sd,x.client,x.wh,x.buffer,wt,clo,x.r,x.y,x.off,x.lr,x.e,x.br⟩:Str).client),.int .i64 ((⟨x.b,ch9,x.sd,x.client,x.wh,x.buffer,wt,clo,x.r,x.y,x.off,x.lr,x.e,x.br⟩:Str).wh),.int .i64 ((⟨x.b,ch9,x.sd,x.client,x.wh,x.buffer,wt,clo,x.r,x.y,x.off,x.lr,x.e,x.br⟩:Str).buffer),.slice ((⟨x.b,ch9,x.sd,x.client,x.wh,x.buffer,wt,clo,x.r,x.y,x.off,x.lr,x.e,x.br⟩:Str).wait.A) ((⟨x.b,ch9,x.sd,x.client,x.wh,x.buffer,wt,clo,x.r,x.y,x.off,x.lr,x.e,x.br⟩:Str).wait.l).length ((⟨x.b,ch9,x.sd,x.client,x.wh,x.buffer,wt,clo,x.r,x.y,x.off,x.lr,x.e,x.br⟩:Str).wait.C),.bool ((⟨x.b,ch9,x.sd,x.client,x.wh,x.buffer,wt,clo,x.r,x.y,x.off,x.lr,x.e,x.br⟩:Str).closing),.bool cl,.pointer (some ⟨(⟨x.b,ch9,x.sd,x.client,x.wh,x.buffer,wt,clo,x.r,x.y,x.off,x.lr,x.e,x.br⟩:Str).r,0,none⟩)] 108 (0,0))],[((⟨x.b,ch9,x.sd,x.client,x.wh,x.buffer,wt,clo,x.r,x.y,x.off,x.lr,x.e,x.br⟩:Str).r,.cells #[.int .i64 65535,.bool ((⟨x.b,ch9,x.sd,x.client,x.wh,x.buffer,wt,clo,x.r,x.y,x.off,x.lr,x.e,x.br⟩:Str).br),.slice ((⟨x.b,ch9,x.sd,x.client,x.wh,x.buffer,wt,clo,x.r,x.y,x.off,x.lr,x.e,x.br⟩:Str).y.A) ((⟨x.b,ch9,x.sd,x.client,x.wh,x.buffer,wt,clo,x.r,x.y,x.off,x.lr,x.e,x.br⟩:Str).y.l).length ((⟨x.b,ch9,x.sd,x.client,x.wh,x.buffer,wt,clo,x.r,x.y,x.off,x.lr,x.e,x.br⟩:Str).y.C),.int .i64 ((⟨x.b,ch9,x.sd,x.client,x.wh,x.buffer,wt,clo,x.r,x.y,x.off,x.lr,x.e,x.br⟩:Str).off:Int),.int .i8 ((⟨x.b,ch9,x.sd,x.client,x.wh,x.buffer,wt,clo,x.r,x.y,x.off,x.lr,x.e,x.br⟩:Str).lr),.int .i64 ((⟨x.b,ch9,x.sd,x.client,x.wh,x.buffer,wt,clo,x.r,x.y,x.off,x.lr,x.e,x.br⟩:Str).e)] 125 (0,0))],(⟨x.b,ch9,x.sd,x.client,x.wh,x.buffer,wt,clo,x.r,x.y,x.off,x.lr,x.e,x.br⟩:Str).ch.s,(⟨x.b,ch9,x.sd,x.client,x.wh,x.buffer,wt,clo,x.r,x.y,x.off,x.lr,x.e,x.br⟩:Str).wait.s,(⟨x.b,ch9,x.sd,x.client,x.wh,x.buffer,wt,clo,x.r,x.y,x.off,x.lr,x.e,x.br⟩:Str).y.s] (fun hcl9 => by subst hcl9; exact zir _)
   exact ⟨_,fun w S9 => hS w (S9.nil.pick [0,1,2,3,6,4,5,7,8] 9 Z),_,[],K,hK,hsub,Z,Z⟩
  | req hs hr hb hw hn hwin hd =>
   rename_i x ph y g kb ov
   refine SCalls.sepR (SCalls.flat (zaW [(O2 x.b x.ch.v x.sd x.client x.wh x.buffer x.wait.A x.wait.l.length x.wait.C x.closing false x.hr x.wb x.last x.behind),(O3 x.wb 16 x.first x.next x.mb),[(x.mb,mapG kyI tvB x.dn x.n)],x.ch.s,x.wait.s,ph.s,y.s,rdC x.hr ph y (.slice none 0 0) g,dnS x.dn,zv (delG i kvs)] (zcu hat hs)) (SCalls.pick (H':=O0 c most idle buffer last mb::[(mb,mapG kyI Lk.v kvs mn)]::O2 x.b x.ch.v x.sd x.client x.wh x.buffer x.wait.A x.wait.l.length x.wait.C x.closing false x.hr x.wb x.last x.behind::O3 x.wb 16 x.first x.next x.mb::x.ch.s::x.wait.s::[(x.mb,mapG kyI tvB x.dn x.n)]::ph.s::y.s::rdC x.hr ph y (.slice none 0 0) g::dnS x.dn::zv (delG i kvs)::H) [0,1,2,3,5,6,4,7,8,9,10,11] 12 Z Z (finish_req (H:=[(x.mb,mapG kyI tvB x.dn x.n)]::ph.s::y.s::rdC x.hr ph y (.slice none 0 0) g::dnS x.dn::zv (delG i kvs)::H) hm hat ⟨hwin.1,hwin.2.1,hwin.2.2.1,by omega⟩ (by omega) (by omega)))) ?_
   rintro v H1 ⟨ch9,wt,clo,cl,bh9,h1,h2,h3,rfl,rfl⟩
   obtain ⟨K,hK,hsub,hS⟩:=zdr (w0:=w0) (base:=base) (H:=H) (most:=most) (idle:=idle) (buffer:=buffer) (c:=c) (mb:=mb) (N2:=N) (M2:=M) (lk':=.req (⟨x.b,ch9,x.sd,x.client,x.wh,x.buffer,wt,clo,x.hr,x.hs,x.wb,x.mb,x.first,x.next,x.dn,x.n,x.last,bh9⟩:Req)) (cl:=cl) hc hat rfl (Nat.le_refl _) (Nat.le_refl _) hwh (fun hcl9 => .req (ph:=ph) (y:=y) (g:=g) (kb:=kb) (ov:=ov) hs hr hb (by have h9:=h3 hcl9; dsimp only; omega) (by dsimp only; rw [h1]; exact hn) hwin hd) [] [[((⟨x.b,ch9,x.sd,x.client,x.wh,x.buffer,wt,clo,x.hr,x.hs,x.wb,x.mb,x.first,x.next,x.dn,x.n,x.last,bh9⟩:Req).b,.cells #[((⟨x.b,ch9,x.sd,x.client,x.wh,x.buffer,wt,clo,x.hr,x.hs,x.wb,x.mb,x.first,x.next,x.dn,x.n,x.last,bh9⟩:Req).ch).v,.bool ((⟨x.b,ch9,x.sd,x.client,x.wh,x.buffer,wt,clo,x.hr,x.hs,x.wb,x.mb,x.first,x.next,x.dn,x.n,x.last,bh9⟩:Req).sd),.int .i64 ((⟨x.b,ch9,x.sd,x.client,x.wh,x.buffer,wt,clo,x.hr,x.hs,x.wb,x.mb,x.first,x.next,x.dn,x.n,x.last,bh9⟩:Req).client),.int .i64 ((⟨x.b,ch9,x.sd,x.client,x.wh,x.buffer,wt,clo,x.hr,x.hs,x.wb,x.mb,x.first,x.next,x.dn,x.n,x.last,bh9⟩:Req).wh),.int .i64 ((⟨x.b,ch9,x.sd,x.client,x.wh,x.buffer,wt,clo,x.hr,x.hs,x.wb,x.mb,x.first,x.next,x.dn,x.n,x.last,bh9⟩:Req).buffer),.slice ((⟨x.b,ch9,x.sd,x.client,x.wh,x.buffer,wt,clo,x.hr,x.hs,x.wb,x.mb,x.first,x.next,x.dn,x.n,x.last,bh9⟩:Req).wait.A) ((⟨x.b,ch9,x.sd,x.client,x.wh,x.buffer,wt,clo,x.hr,x.hs,x.wb,x.mb,x.first,x.next,x.dn,x.n,x.last,bh9⟩:Req).wait.l).length ((⟨x.b,ch9,x.sd,x.client,x.wh,x.buffer,wt,clo,x.hr,x.hs,x.wb,x.mb,x.first,x.next,x.dn,x.n,x.last,bh9⟩:Req).wait.C),.bool ((⟨x.b,ch9,x.sd,x.client,x.wh,x.buffer,wt,clo,x.hr,x.hs,x.wb,x.mb,x.first,x.next,x.dn,x.n,x.last,bh9⟩:Req).closing),.bool cl,.pointer (some ⟨(⟨x.b,ch9,x.sd,x.client,x.wh,x.buffer,wt,clo,x.hr,x.hs,x.wb,x.mb,x.first,x.next,x.dn,x.n,x.last,bh9⟩:Req).hr,0,none⟩),.pointer (some ⟨(⟨x.b,ch9,x.sd,x.client,x.wh,x.buffer,wt,clo,x.hr,x.hs,x.wb,x.mb,x.first,x.next,x.dn,x.n,x.last,bh9⟩:Req).wb,0,none⟩),.int .i64 ((⟨x.b,ch9,x.sd,x.client,x.wh,x.buffer,wt,clo,x.hr,x.hs,x.wb,x.mb,x.first,x.next,x.dn,x.n,x.last,bh9⟩:Req).last),.int .i64 ((⟨x.b,ch9,x.sd,x.client,x.wh,x.buffer,wt,clo,x.hr,x.hs,x.wb,x.mb,x.first,x.next,x.dn,x.n,x.last,bh9⟩:Req).behind)] 116 (0,0))],[((⟨x.b,ch9,x.sd,x.client,x.wh,x.buffer,wt,clo,x.hr,x.hs,x.wb,x.mb,x.first,x.next,x.dn,x.n,x.last,bh9⟩:Req).wb,.cells #[.int .i64 16,.int .i64 ((⟨x.b,ch9,x.sd,x.client,x.wh,x.buffer,wt,clo,x.hr,x.hs,x.wb,x.mb,x.first,x.next,x.dn,x.n,x.last,bh9⟩:Req).first),.int .i64 ((⟨x.b,ch9,x.sd,x.client,x.wh,x.buffer,wt,clo,x.hr,x.hs,x.wb,x.mb,x.first,x.next,x.dn,x.n,x.last,bh9⟩:Req).next),.map (some (⟨x.b,ch9,x.sd,x.client,x.wh,x.buffer,wt,clo,x.hr,x.hs,x.wb,x.mb,x.first,x.next,x.dn,x.n,x.last,bh9⟩:Req).mb)] 128 (0,0))],[((⟨x.b,ch9,x.sd,x.client,x.wh,x.buffer,wt,clo,x.hr,x.hs,x.wb,x.mb,x.first,x.next,x.dn,x.n,x.last,bh9⟩:Req).mb,mapG kyI tvB (⟨x.b,ch9,x.sd,x.client,x.wh,x.buffer,wt,clo,x.hr,x.hs,x.wb,x.mb,x.first,x.next,x.dn,x.n,x.last,bh9⟩:Req).dn (⟨x.b,ch9,x.sd,x.client,x.wh,x.buffer,wt,clo,x.hr,x.hs,x.wb,x.mb,x.first,x.next,x.dn,x.n,x.last,bh9⟩:Req).n)],(⟨x.b,ch9,x.sd,x.client,x.wh,x.buffer,wt,clo,x.hr,x.hs,x.wb,x.mb,x.first,x.next,x.dn,x.n,x.last,bh9⟩:Req).ch.s,(⟨x.b,ch9,x.sd,x.client,x.wh,x.buffer,wt,clo,x.hr,x.hs,x.wb,x.mb,x.first,x.next,x.dn,x.n,x.last,bh9⟩:Req).wait.s,ph.s,y.s,rdC (⟨x.b,ch9,x.sd,x.client,x.wh,x.buffer,wt,clo,x.hr,x.hs,x.wb,x.mb,x.first,x.next,x.dn,x.n,x.last,bh9⟩:Req).hr ph y (.slice none 0 0) g,dnS (⟨x.b,ch9,x.sd,x.client,x.wh,x.buffer,wt,clo,x.hr,x.hs,x.wb,x.mb,x.first,x.next,x.dn,x.n,x.last,bh9⟩:Req).dn] (fun hcl9 => by subst hcl9; exact ziu hs)
   exact ⟨_,fun w S9 => hS w (S9.nil.pick [0,1,2,3,4,7,5,6,8,9,10,11,12] 13 Z),_,[],K,hK,hsub,Z,Z⟩
theorem KvOk.keysNd {kvs:List (Int×Lk×Nat)}{mn:Nat}{last:Int}(h:KvOk kvs mn last):(kvs.map fun e => e.1).Nodup:=h.sorted.imp fun q => by omega
theorem del_no {i:Int}{kvs:List (Int×Lk×Nat)}(hk:(kvs.map fun e => e.1).Nodup):∀ e ∈ delG i kvs,e.1≠i:=by
 induction kvs with
 | nil => intro e he; cases he
 | cons p r ih =>
  rw [List.map_cons,List.nodup_cons] at hk
  intro e he
  rw [delG] at he
  split at he
  ·rename_i q
   intro q2
   exact hk.1 (List.mem_map.2 ⟨e,he,by rw [q2,q]⟩)
  ·rename_i q
   rcases List.mem_cons.1 he with rfl | he
   ·exact fun q2 => q q2.symm
   ·exact ih hk.2 e he
theorem none_no {i:Int}{kvs:List (Int×Lk×Nat)}(h:atG i kvs=none):∀ e ∈ kvs,e.1≠i:=by
 induction kvs with
 | nil => intro e he; cases he
 | cons p r ih =>
  rw [atG] at h
  split at h
  ·cases h
  ·rename_i q
   intro e he
   rcases List.mem_cons.1 he with rfl | he
   ·exact fun q2 => q q2.symm
   ·exact ih h e he
theorem iend {w0:World}{base:Nat}{H:List Seg}{c mb:Nat}{most idle buffer last:Int}{kvs:List (Int×Lk×Nat)}{mn:Nat}{N M:Nat}{i:Int}(hm:¬ most=0) (hc:KvI kvs mn last buffer N M) :
  SCalls Tryz.prog 23 [(B c),int i] w0 base (O0 c most idle buffer last mb::[(mb,mapG kyI Lk.v kvs mn)]::zv kvs::H) (fun v H' => ∃ (e9:Int) (K:List (Int×Lk×Nat)),KvI K mn last buffer N M∧(K.map fun e => e.1).Sublist (kvs.map fun e => e.1)∧(atG i kvs=none→e9=6)∧((atG i kvs).isSome=true→e9=0)∧(∀ e ∈ K,e.1≠i)∧v=int e9∧H' = (O0 c most idle buffer last mb)::[(mb,mapG kyI Lk.v K mn)]::zv K::H):=by
 cases hat:atG i kvs with
 | none =>
  refine (zj8 (H:=zv kvs::H) hm hat).mono ?_
  rintro u H1 ⟨rfl,rfl⟩
  exact ⟨6,kvs,hc,List.Sublist.refl _,fun _ => Z,(fun h9 => by cases h9),none_no hat,Z,Z⟩
 | some lk =>
  have fin:KvI (delG i kvs) mn last buffer N M∧((delG i kvs).map fun e => e.1).Sublist (kvs.map fun e => e.1):=⟨hc.del i,(zg2 i kvs).map _⟩
  obtain ⟨hI,hwh⟩:=hc.at_ hat
  cases hI with
  | str hk hb hw hs =>
   rename_i x
   refine SCalls.sepR (SCalls.flat (zaW [(O4 x.b x.ch.v x.sd x.client x.wh x.buffer x.wait.A x.wait.l.length x.wait.C x.closing false x.r),(O1 x.r 65535 x.br x.y.A x.y.l.length x.y.C (x.off:Int) x.lr x.e)++x.ch.s++x.wait.s++x.y.s++zv (delG i kvs)] ((zct hat).trans (List.Perm.of_eq (by simp)))) (end_str (H:=((O1 x.r 65535 x.br x.y.A x.y.l.length x.y.C (x.off:Int) x.lr x.e)++x.ch.s++x.wait.s++x.y.s++zv (delG i kvs))::H) hm hat)) ?_
   rintro u H1 ⟨rfl,rfl⟩
   exact ⟨_,fun w S9 => sep_two S9,0,delG i kvs,fin.1,fin.2,(fun h9 => by cases h9),fun _ => Z,del_no hc.ok.keysNd,Z,Z⟩
  | req hs hr hb hw hn hwin hd =>
   rename_i x ph y g kb ov
   refine SCalls.sepR (SCalls.flat (zaW [(O2 x.b x.ch.v x.sd x.client x.wh x.buffer x.wait.A x.wait.l.length x.wait.C x.closing false x.hr x.wb x.last x.behind),[(O3 x.wb 16 x.first x.next x.mb),[(x.mb,mapG kyI tvB x.dn x.n)],x.ch.s,x.wait.s,ph.s,y.s,rdC x.hr ph y (.slice none 0 0) g,dnS x.dn].flatten++zv (delG i kvs)] ((zcu hat hs).trans (List.Perm.of_eq (by simp)))) (end_req (H:=([(O3 x.wb 16 x.first x.next x.mb),[(x.mb,mapG kyI tvB x.dn x.n)],x.ch.s,x.wait.s,ph.s,y.s,rdC x.hr ph y (.slice none 0 0) g,dnS x.dn].flatten++zv (delG i kvs))::H) hm hat)) ?_
   rintro u H1 ⟨rfl,rfl⟩
   exact ⟨_,fun w S9 => sep_two S9,0,delG i kvs,fin.1,fin.2,(fun h9 => by cases h9),fun _ => Z,del_no hc.ok.keysNd,Z,Z⟩
theorem itick {w0:World}{base:Nat}{H:List Seg}{c mb:Nat}{most idle buffer last:Int}{kvs:List (Int×Lk×Nat)}{mn:Nat}{N M:Nat}{now:Int}(hm:¬ most=0) (hc:KvI kvs mn last buffer N M) (hid:0≤idle∧idle≤1073741824) :
  SCalls Tryz.prog 19 [(B c),int now] w0 base (O0 c most idle buffer last mb::[(mb,mapG kyI Lk.v kvs mn)]::zv kvs::H) (fun v H' => ∃ (A9:Option Addr) (n9 C9:Nat) (s9:Seg) (K:List (Int×Lk×Nat)),KvI K mn last buffer N M∧(K.map fun e => e.1).Sublist (kvs.map fun e => e.1)∧v = .slice A9 n9 C9∧H' = s9::O0 c most idle buffer last mb::[(mb,mapG kyI Lk.v K mn)]::zv K::H):=by
 by_cases hT:inT now
 ·refine (ctick_ok now hm hc.ok hT hid).sepR ?_
  rintro v H1 ⟨o,ho,rfl,rfl⟩
  refine ⟨_,fun w S => ?_,_,_,_,o.s,kvs.filter (zcO now idle),⟨hc.ok.sub (List.filter_sublist ..),fun e he => hc.all e (List.mem_filter.1 he).1⟩,(List.filter_sublist ..).map _,Z,Z⟩
  have hp:(zv kvs).Perm (zv (kvs.filter (zcO now idle))++zv (kvs.filter fun e => !zcO now idle e)):=by
   rw [zv,zv,zv,← List.flatMap_append]
   exact (List.filter_append_perm _ _).symm.flatMap_right _
  have S1:=S.flat (H':=(o.s++[(c,.cells #[.int .i64 most,.int .i64 idle,.int .i64 buffer,.int .i64 last,.map (some mb)] 64 (0,0))]++[(mb,mapG kyI Lk.v (kvs.filter (zcO now idle)) mn)]++zv (kvs.filter (zcO now idle)))::zv (kvs.filter fun e => !zcO now idle e)::H) (by
   simp only [List.flatten_cons,List.append_assoc]
   refine List.Perm.append_left _ (List.Perm.append_left _ (List.Perm.append_left _ ?_))
   rw [← List.append_assoc]
   exact hp.append_right _)
  exact (S1.pick [0] 2 Z).flat (List.Perm.of_eq (by show (_::H).flatten=_; simp [List.append_assoc]))
 ·refine SCalls.flatR (tick_time (H:=zv kvs::H) hm hT) ?_
  rintro u H1 ⟨rfl,rfl⟩
  exact ⟨[]::O0 c most idle buffer last mb::[(mb,mapG kyI Lk.v kvs mn)]::zv kvs::H,by simp,none,0,0,[],kvs,hc,List.Sublist.refl _,Z,Z⟩
theorem iinfo {w0:World}{base:Nat}{H:List Seg}{c mb:Nat}{most idle buffer last:Int}{kvs:List (Int×Lk×Nat)}{mn:Nat}{N M:Nat}{i:Int}{lk:Lk}(hm:¬ most=0) (hc:KvI kvs mn last buffer N M) (hM:M≤60) (hat:atG i kvs=some lk) :
  SCalls Tryz.prog 25 [(B c),int i] w0 base (O0 c most idle buffer last mb::[(mb,mapG kyI Lk.v kvs mn)]::zv kvs::H) (fun v H' => ∃ (k9:Int) (b9:Bool) (c9 w9 l9:Int) (g9:Bool),w9≤buffer∧l9≤16∧v = .tuple #[.agg #[int k9,.bool b9,int c9,int w9,int l9,.bool g9],.bool true]∧H' = (O0 c most idle buffer last mb)::[(mb,mapG kyI Lk.v kvs mn)]::zv kvs::H):=by
 obtain ⟨hI,hwh⟩:=hc.at_ hat
 cases hI with
 | str hk hb hw hs =>
  rename_i x
  refine SCalls.flatR (SCalls.flat (zaW [(O4 x.b x.ch.v x.sd x.client x.wh x.buffer x.wait.A x.wait.l.length x.wait.C x.closing false x.r),(O1 x.r 65535 x.br x.y.A x.y.l.length x.y.C (x.off:Int) x.lr x.e),x.ch.s,x.wait.s,x.y.s,zv (delG i kvs)] (zct hat)) (info_str (H:=O1 x.r 65535 x.br x.y.A x.y.l.length x.y.C (x.off:Int) x.lr x.e::x.ch.s::x.wait.s::x.y.s::zv (delG i kvs)::H) hm hat)) ?_
  rintro v H1 ⟨k9,b9,c9,g9,rfl,rfl⟩
  exact ⟨_,(zaW [(O4 x.b x.ch.v x.sd x.client x.wh x.buffer x.wait.A x.wait.l.length x.wait.C x.closing false x.r),(O1 x.r 65535 x.br x.y.A x.y.l.length x.y.C (x.off:Int) x.lr x.e),x.ch.s,x.wait.s,x.y.s,zv (delG i kvs)] (zct hat)).symm,k9,b9,c9,_,0,g9,hw,by omega,Z,Z⟩
 | req hs hr hb hw hn hwin hd =>
  rename_i x ph y g kb ov
  refine SCalls.flatR (SCalls.flat (zaW [(O2 x.b x.ch.v x.sd x.client x.wh x.buffer x.wait.A x.wait.l.length x.wait.C x.closing false x.hr x.wb x.last x.behind),(O3 x.wb 16 x.first x.next x.mb),[(x.mb,mapG kyI tvB x.dn x.n)],x.ch.s,x.wait.s,ph.s,y.s,rdC x.hr ph y (.slice none 0 0) g,dnS x.dn,zv (delG i kvs)] (zcu hat hs)) (info_req (H:=[(x.mb,mapG kyI tvB x.dn x.n)]::x.ch.s::x.wait.s::ph.s::y.s::rdC x.hr ph y (.slice none 0 0) g::dnS x.dn::zv (delG i kvs)::H) hm hat ⟨hwin.1,hwin.2.1,hwin.2.2.1,by omega⟩)) ?_
  rintro v H1 ⟨k9,b9,c9,g9,rfl,rfl⟩
  exact ⟨_,(zaW [(O2 x.b x.ch.v x.sd x.client x.wh x.buffer x.wait.A x.wait.l.length x.wait.C x.closing false x.hr x.wb x.last x.behind),(O3 x.wb 16 x.first x.next x.mb),[(x.mb,mapG kyI tvB x.dn x.n)],x.ch.s,x.wait.s,ph.s,y.s,rdC x.hr ph y (.slice none 0 0) g,dnS x.dn,zv (delG i kvs)] (zcu hat hs)).symm,k9,b9,c9,_,_,g9,hw,by omega,Z,Z⟩
theorem iopen {w0:World}{base:Nat}{H:List Seg}{c mb:Nat}{most idle buffer last:Int}{kvs:List (Int×Lk×Nat)}{mn:Nat}{N M:Nat}{k client now:Int}{sd:Bool}(hm:¬ most=0) (hc:KvI kvs mn last buffer N M) (h256:most≤256) (hbf:0≤buffer) (hl:last≤1000) :
  SCalls Tryz.prog 10 [(B c),int k,.bool sd,int client,int now] w0 base (O0 c most idle buffer last mb::[(mb,mapG kyI Lk.v kvs mn)]::zv kvs::H) (fun v H' => ∃ (n9 e9:Int) (K:List (Int×Lk×Nat)) (mn9:Nat) (last9:Int),KvI K mn9 last9 buffer N M∧((e9=0∧n9=last + 1∧last9=last + 1∧(kvs.length:Int) < most∧(K.map fun e => e.1)=(kvs.map fun e => e.1)++[last + 1])∨(¬ e9=0∧n9=0∧last9=last∧K=kvs))∧v = .tuple #[int n9,int e9]∧H' = (O0 c most idle buffer last9 mb)::[(mb,mapG kyI Lk.v K mn9)]::zv K::H):=by
 by_cases hbad:(¬ k=1∧¬ k=2)∨¬ inT now
 ·refine (open_bad (H:=zv kvs::H) hm hbad).mono ?_
  rintro u H1 ⟨rfl,rfl⟩
  exact ⟨0,2,kvs,mn,last,hc,.inr ⟨by decide,Z,Z,Z⟩,Z,Z⟩
 ·have hT:inT now:=Decidable.byContradiction fun h9 => hbad (.inr h9)
  have hk:k=1∨k=2:=Decidable.byContradiction fun h9 => hbad (.inl ⟨fun h8 => h9 (.inl h8),fun h8 => h9 (.inr h8)⟩)
  by_cases hf:(kvs.length:Int) < most
  ·rcases hk with rfl | rfl
   ·refine (zj2 (H:=zv kvs::H) hm hc.ok hf hT (by omega)).flatR ?_
    rintro v H1 ⟨x,hp,hk,hy,rfl,rfl⟩
    have e1:x.buffer=buffer:=congrArg StrV.buffer hp
    have e2:x.wait.l=[]:=congrArg StrV.wait hp
    have e3:x.wh=now:=congrArg StrV.wh hp
    have e4:x.ch.y.l=[]:=congrArg (fun v => v.ch.k) hp
    refine ⟨_,zfq (s:=zv (kvs++[(last + 1,Lk.str x,mn)])) [(O4 x.b x.ch.v x.sd x.client x.wh x.buffer x.wait.A x.wait.l.length x.wait.C x.closing false x.r),(O1 x.r 65535 x.br x.y.A x.y.l.length x.y.C (x.off:Int) x.lr x.e),x.ch.s,x.wait.s,x.y.s,zv kvs] ((zeJ _ _).trans (zc9 x _)),last + 1,0,_,mn + 1,last + 1,⟨hc.ok.snoc (lk:=.str x) (by show inT x.wh; rw [e3]; exact hT) (by omega),fun e he => ?_⟩,.inl ⟨Z,Z,Z,hf,by simp⟩,Z,Z⟩
    rcases List.mem_append.1 he with h9 | h9
    ·exact hc.all e h9
    ·rw [List.mem_singleton.1 h9]; exact .str hk e1 (by rw [e2]; exact hbf) (by rw [e4,hy]; exact Nat.zero_le _)
   ·refine (zj3 (H:=zv kvs::H) hm hc.ok hf hT (by omega)).flatR ?_
    rintro v H1 ⟨x,ph,y,g,hs,hr,h1,h2,h3,h4,h5,⟨h6,h7,h8,h9,h10,h11,h12⟩,rfl,rfl⟩
    refine ⟨_,zfq (s:=zv (kvs++[(last + 1,Lk.req x,mn)])) [(O2 x.b x.ch.v x.sd x.client x.wh x.buffer x.wait.A x.wait.l.length x.wait.C x.closing false x.hr x.wb x.last x.behind),(O3 x.wb 16 x.first x.next x.mb),[(x.mb,mapG kyI tvB x.dn x.n)],x.ch.s,x.wait.s,x.hs,(x.dn.flatMap fun e => e.2.1.s),zv kvs] ((zeJ _ _).trans (zgR x _)),last + 1,0,_,mn + 1,last + 1,⟨hc.ok.snoc (lk:=.req x) (by show inT x.wh; rw [h4]; exact hT) (by omega),fun e he => ?_⟩,.inl ⟨Z,Z,Z,hf,by simp⟩,Z,Z⟩
    rcases List.mem_append.1 he with h13 | h13
    ·exact hc.all e h13
    ·rw [List.mem_singleton.1 h13]; exact .req hs hr h5 (by rw [h6]; exact hbf) (by rw [show x.ch.y.l=[] from congrArg ChV.k h1]; exact Nat.zero_le _) ⟨by omega,by omega,by omega,by omega⟩ (by rw [h10]; exact ⟨(fun e he => by cases he),List.nodup_nil,List.nodup_nil⟩)
  ·refine (zh4 (H:=zv kvs::H) hk hm (by omega) hT).mono ?_
   rintro u H1 ⟨rfl,rfl⟩
   exact ⟨0,8,kvs,mn,last,hc,.inr ⟨by decide,Z,Z,Z⟩,Z,Z⟩
set_option maxRecDepth 100000
def zkv:Ty (Int×Int×Int×Bool×Int×Int×Int×Int×Vs UInt8):={ val:=fun x => .agg #[int x.1,int x.2.1,int x.2.2.1,.bool x.2.2.2.1,int x.2.2.2.2.1,int x.2.2.2.2.2.1,int x.2.2.2.2.2.2.1,int x.2.2.2.2.2.2.2.1,.slice x.2.2.2.2.2.2.2.2.A x.2.2.2.2.2.2.2.2.l.length x.2.2.2.2.2.2.2.2.C],sz:=9,ok:=fun _ => rfl,plain:=fun x c hc => by simp [int,Value.cells] at hc; rcases hc with rfl | rfl | rfl | rfl | rfl | rfl | rfl | rfl | rfl <;> rfl }
def lenA (l:List (Int×Int×Int×Bool×Int×Int×Int×Int×Vs UInt8)):Nat:=(l.map fun x => x.2.2.2.2.2.2.2.2.l.length).sum
theorem long28_ok {w0:World}{base:Nat}{H:List Seg}{A:Option Addr}{C:Nat}{l:List (Int×Int×Int×Bool×Int×Int×Int×Int×Vs UInt8)}(h:Rd zkv w0 base H A C l) (hb:∀ x ∈ l,x.2.2.2.2.2.2.2.2.l.length≤140737488351232) :
  SCalls Tryz.prog 24 [.slice A l.length C] w0 base (H) (fun v H' => ∃ z:Bool,(z=false→l.length≤60∧lenA l≤9000)∧v = .bool z∧H' = H):=by
 have hle0:=h.le
 have hcap0:=h.cap
 refine SCalls.of_walk (n:=30) Tryz.func24 Z Z Z fun cs => ?_
 refine zc<|za<|AtL.assign zg0 Z Z<|AtL.done<|zc<|za ?_
 refine AtL.assign zg0 Z Z<|AtL.done<|zc<|zc<|za<|AtL.assign zg0 Z Z ?_
 refine AtL.done<|At.block<|zcI (fun (i:Nat) (n:Nat) => [(0,.slice A l.length C),(3,V (n:Int)),(4,V (i:Int))]) (fun (i:Nat) (n:Nat) => H) (fun (i:Nat) (n:Nat) => i≤l.length∧n≤140737488390000∧n=lenA (l.take i)) (fun (i:Nat) (n:Nat) => l.length - i) 0 0 (⟨Nat.zero_le _,by omega,Z⟩) ⟨Z,Z,Z,trivial⟩ Z ?_
 rintro i n ⟨hi,hn,hs⟩ ihL1
 refine zc<|zc<|za<|zb zg0 Z Z<|zb zg0 Z Z<|zC Tryz.underlying61 zg0 Z Z ?_
 refine zA zg0 Z Z Z<|zb zg0 Z Z<|zy 3 (E':=[(12,.bool (decide (((i:Int) < (l.length:Int))∧((n:Int)≤9000)))),(0,.slice A l.length C),(3,V (n:Int)),(4,V (i:Int))]) (fun J => ?_) ?_
 ·refine zD (t:=9) Z ?_ ?_
  ·intro hs9
   refine zb (.inr ⟨_,_,_,Z,Z,Z,Z⟩) Z Z<|zbd (.inr ⟨_,_,_,Z,Z,Z,Z⟩) Z Z Z<|zn zg0 Z Z Z ?_
   exact J _ (by exact ⟨(zw (by clear J; first | (simp [hs9]; done) | (simp_all; done) | grind)),Z,Z,Z,trivial⟩)
  ·intro hs9
   refine ze Z Z Z Z Z Z<|ze Z Z Z Z Z Z<|zm zg0 Z Z Z ?_
   exact J _ (by exact ⟨(zw (by clear J; first | (simp [hs9]; done) | (simp_all; done) | grind)),Z,Z,Z,trivial⟩)
 ·refine AtL.done<|zq Z ?_ ?_
  ·intro hc1
   have hb1:=hb _ (zbh (l:=l) (i:=i) (d:=zA0) (by omega))
   refine zj<|zc<|At.block<|za<|zb zg0 Z Z<|zb zg0 Z Z ?_
   refine zb zg0 Z Z ?_
   refine zF i h Tryz.underlying61 zky zg0 Z Z Z Z (by omega)<|zi4 zd5 zg0 Z Z ?_
   refine zh (v:=.slice ((l.getD i zA0).2.2.2.2.2.2.2.2.A) ((l.getD i zA0).2.2.2.2.2.2.2.2.l).length ((l.getD i zA0).2.2.2.2.2.2.2.2.C)) zE zg0 Z Z (Rd.cell_at h (j:=8) (zz zA0 (by omega)) Z)<|zC Tryz.underlying34 zg0 Z Z ?_
   refine AtL.add (z:=(n:Int) + (((l.getD i zA0).2.2.2.2.2.2.2.2.l).length:Int)) zg0 Z Z Z (w64 (by omega) (by omega))<|AtL.assign zg0 Z Z<|AtL.done<|zp<|za<|zb zg0 Z Z ?_
   refine AtL.add (z:=(i:Int) + 1) zg0 Z Z Z (w64 (by omega) (by omega))<|AtL.assign zg0 Z Z<|AtL.done ?_
   refine ihL1 (i + 1) (n + (((l.getD i zA0).2.2.2.2.2.2.2.2.l).length)) (⟨by omega,by omega,by rw [List.take_succ_eq_append_getElem (by omega),lenA,List.map_append,List.sum_append]; simp [List.getD,hs,lenA,show i < l.length by omega]⟩) (by omega) _ ?_
   exact ⟨Z,(by first | rfl | exact zaf (by simp []) | exact zah (by omega) | exact zah (by simp []) | exact zaf (by simp []; omega)),(by first | rfl | exact zaf (by simp []) | exact zah (by omega) | exact zah (by simp []) | exact zaf (by simp []; omega)),trivial⟩
  ·intro hc1
   refine zau Z<|zc<|za<|zb zg0 Z Z<|zC Tryz.underlying61 zg0 Z Z<|zai zg0 Z Z Z ?_
   refine zb zg0 Z Z<|zy 3 (E':=[(29,.bool (decide ((60 < (l.length:Int))∨(9000 < (n:Int)))))]) (fun J => ?_) ?_
   ·refine zD (t:=26) Z ?_ ?_
    ·intro hs26
     refine ze Z Z Z Z Z Z<|ze Z Z Z Z Z Z<|zn zg0 Z Z Z ?_
     exact J _ (by exact ⟨(zw (by clear J; first | (simp [hs26]; done) | (simp_all; done) | grind)),trivial⟩)
    ·intro hs26
     refine zb (.inr ⟨_,_,_,Z,Z,Z,Z⟩) Z Z<|zai (.inr ⟨_,_,_,Z,Z,Z,Z⟩) Z Z Z<|zm zg0 Z Z Z ?_
     exact J _ (by exact ⟨(zw (by clear J; first | (simp [hs26]; done) | (simp_all; done) | grind)),trivial⟩)
   ·refine AtL.assign zg0 Z Z<|AtL.done ?_
    exact zt Tryz.func24 Z Z (⟨_,fun hz => by have hz2:=of_decide_eq_false hz; refine ⟨by omega,?_⟩; rcases Nat.lt_or_ge i l.length with h9 | h9; (exfalso; omega); rw [List.take_of_length_le h9] at hs; omega,Z,Z⟩)
end Go.Proofs.YtbfabhdfmoiabaaGreatDoor
