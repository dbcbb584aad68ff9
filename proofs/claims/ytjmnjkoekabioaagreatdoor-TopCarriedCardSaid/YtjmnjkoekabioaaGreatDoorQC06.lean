/- Parts of the proof. -/
import Derived.Test.YtjmnjkoekabioaaGreatDoorQC05
namespace Go.Proofs.YtjmnjkoekabioaaGreatDoor
set_option maxHeartbeats 4000000
set_option linter.unusedVariables false
set_option linter.unusedSimpArgs false
open Go.RowKit (Below)
set_option maxRecDepth 100000
variable {kp:Bool}{age f flags id:Int}{K:KM}{o:List yB}{T:List (yB×Int×Nat)}{qs:List Qn3}{l y:List Rc5}{H:List Seg}{a b out w:yB}{C Ca Cn Cq Cr base k m n nn p:Nat}{A Aa An Aq Ar:Option Addr}{d x:Rc5}{s:Seg}{α β:Type}{c0 c1 c2 c3 c4 c5:Value}{w0:World}
theorem zfP {X:Pt}{E:Env}{t e sz b o r:Nat}{x ix:Operand}{kk:IntKind}{i:Int}(j:Nat) (hu:X.P.underlying t=some (.array n e)) (hs:za5 X.P e sz=true) (hx:ev E x=some (.pointer (some ⟨b,o,none⟩))) (hi:ev E ix=some (.int kk i)) (hij:i=(j:Int)) (hj:Nat.blt j n=true) (hr:o + j * sz=r) :
  Does X E H (.indexAddr t x ix) (Is (.pointer (some ⟨b,r,none⟩)) H):=by
 subst hr
 have:=zjv (X:=X) (E:=E) (H:=H) j hu hs hx hi hij (zdr hj)
 simpa [zdt,zaO] using this
theorem zyH:ElemOk Tryz.prog 22 77 tyQn rD3 32:=ElemOk.of Tryz.underlying22 kW kW rfl
theorem zhd:ElemOk Tryz.prog 23 51 tyRec rD5 56:=ElemOk.of Tryz.underlying23 kW kW rfl
theorem zBV {f:Nat}:
  DCalls Tryz.prog 33 [pB f,pB m] w0 base (O4 f 0 0::[(m,.cells #[c0,c1,c2,c3,c4,c5] 25 (0,0))]::H) .returning (fun m' H' => m' = .returning∧H' = (O4 f 0 0)::[(m,.cells #[c0,c1,c2,c3,c4,c5] 25 (0,0))]::H):=by
 refine DCalls.of_walk (n:=6) Tryz.func33 Z Z Z fun fr cs => ?_
 refine a8 ?_
 refine zhF Z ?_
 exact zed (vs:=[]) Tryz.func33 Z trivial (⟨Z,Z⟩)
theorem zqs {an ns ar:List Rc5}(h:Rd tyB w0 base H A C b) (hM:MOk id flags qs an ns ar) (hA:MAt b id flags qs an ns ar) :
  SCalls Tryz.prog 9 [.slice A b.length C] w0 base (H) (fun v H' => ∃ (xq:Sl tyQn 77) (xa xn xr:Sl tyRec 51),xq.l=qs∧xa.l=an∧xn.l=ns∧xr.l=ar∧v = .tuple #[.agg #[int id,int flags,.slice xq.A xq.l.length xq.C,.slice xa.A xa.l.length xa.C,.slice xn.A xn.l.length xn.C,.slice xr.A xr.l.length xr.C],.agg #[int 0,int 0]]∧H' = xq.s::xa.s::xn.s::xr.s::H):=by
 have hle0:=h.le
 have hcap0:=h.cap
 have hb65:=hA.1
 have hb:b.length≤140737488355328:=by omega
 have hp:=zws hA.2.1
 have hb12:=hA.2.1.2
 rw [zja] at hb12
 obtain ⟨p1,p2,p3,hA1,hA2,hA3,hA4⟩:=hA.2.2
 have hM1:=hM.1; have hM2:=hM.2.1; have hM3:=hM.2.2.1
 refine zaa (n:=116) Tryz.func9 Z Z Z fun cs => ?_
 refine a2 ?_
 refine AtL.alloc ziF (cs:=#[vV 0,vV 0,.slice none 0 0,.slice none 0 0,.slice none 0 0,.slice none 0 0]) Z zg0 Z ?_
 intro b1
 refine AtL.alloc zaH (cs:=#[vV 0,vV 0]) Z zg0 Z ?_
 intro b2
 refine a3 ?_
 refine zbV zg0 Z Z Z<|zfU Z zg0 Z Z Z<|a10 ?_
 refine zao false Z (zDl kQ)<|a7 ?_
 refine zao false Z (zDl kQ)<|a4 ?_
 refine AtL.alloc zrm (cs:=#[vV 0,vV 0,vV 0,vV 0,vV 0,vV 0]) Z zg0 Z ?_
 intro b3
 refine a11 ?_
 refine zcj<|a18 ?_
 refine zca Z (zbJ (l:=b) (Rd.skip 3 h) 0 hp.1 hM1 hb) ?_
 rintro _ _ ⟨rfl,rfl⟩
 refine a4 ?_
 refine zbf 0 Z zbp zg0 Z Z Z Z Z Z<|a5 ?_
 refine AtL.add (z:=1) zg0 Z Z Z kE<|a21 ?_
 refine zca Z (zbJ (l:=b) (Rd.skip 3 h) 2 hp.2.1 hM2 hb) ?_
 rintro _ _ ⟨rfl,rfl⟩
 refine a4 ?_
 refine zbf 1 Z zbp zg0 Z Z Z Z Z Z<|a5 ?_
 refine AtL.add (z:=2) zg0 Z Z Z kE<|a21 ?_
 refine zca Z (zbJ (l:=b) (Rd.skip 3 h) 4 hp.2.2.1 kQ hb) ?_
 rintro _ _ ⟨rfl,rfl⟩
 refine a4 ?_
 refine zbf 2 Z zbp zg0 Z Z Z Z Z Z<|a5 ?_
 refine AtL.add (z:=3) zg0 Z Z Z kE<|a21 ?_
 refine zca Z (zbJ (l:=b) (Rd.skip 3 h) 6 hp.2.2.2.1 kQ hb) ?_
 rintro _ _ ⟨rfl,rfl⟩
 refine a4 ?_
 refine zbf 3 Z zbp zg0 Z Z Z Z Z Z<|a5 ?_
 refine AtL.add (z:=4) zg0 Z Z Z kE<|a21 ?_
 refine zca Z (zbJ (l:=b) (Rd.skip 3 h) 8 hp.2.2.2.2.1 kQ hb) ?_
 rintro _ _ ⟨rfl,rfl⟩
 refine a4 ?_
 refine zbf 4 Z zbp zg0 Z Z Z Z Z Z<|a5 ?_
 refine AtL.add (z:=5) zg0 Z Z Z kE<|a21 ?_
 refine zca Z (zbJ (l:=b) (Rd.skip 3 h) 10 hp.2.2.2.2.2 kQ hb) ?_
 rintro _ _ ⟨rfl,rfl⟩
 refine a4 ?_
 refine zbf 5 Z zbp zg0 Z Z Z Z Z Z<|a5 ?_
 refine AtL.add (z:=6) zg0 Z Z Z kE<|a11 ?_
 refine zaN (es:=[5,7]) (pv:=[(0,pB b3),(1,vV id),(2,.pointer (some ⟨b3,1,none⟩)),(3,vV flags),(4,pB b1)]) zaz kW kW kW ?_
 refine ⟨⟨zpr Z Z Z (zfP 0 Z zbp Z Z Z Z Z),zjz<|⟨zpr Z Z Z (zfP 1 Z zbp Z Z Z Z Z),zj2<|trivial⟩⟩,Z,Z,by kernel_rfl,_,Z,Z,Z,_,zaS (H':=[(b3,.cells #[vV id,vV flags,vV (qs.length:Int),vV (an.length:Int),vV (ns.length:Int),vV (ar.length:Int)] 88 (0,0))]::O4 b2 0 0::O1 b1 id 0 none 0 0 none 0 0 none 0 0 none 0 0::H) 2 0 zbp Z Z Z Z Z Z Z Z Z,?_⟩
 rintro _ _ ⟨rfl,rfl⟩
 refine ⟨[(6,.pointer (some ⟨b1,1,none⟩))],Z,?_⟩
 refine ⟨zjz<|zjk<|zjk<|⟨zpr Z Z Z (zfP 1 Z zbp Z Z Z Z Z),zjz<|zjk<|trivial⟩,Z,Z,by kernel_rfl,_,Z,Z,Z,_,zaS (H':=[(b3,.cells #[vV id,vV flags,vV (qs.length:Int),vV (an.length:Int),vV (ns.length:Int),vV (ar.length:Int)] 88 (0,0))]::O4 b2 0 0::O1 b1 id flags none 0 0 none 0 0 none 0 0 none 0 0::H) 2 0 zbp Z Z Z Z Z Z Z Z Z,?_⟩
 rintro _ _ ⟨rfl,rfl⟩
 refine ⟨[],Z,?_⟩
 refine ⟨zk4<|zjk<|zjk<|trivial,by kernel_rfl,?_⟩
 refine At.mono (E':=[(0,.slice A b.length C),(2,pB b1),(3,pB b2),(4,pB b3),(5,vV 12)]) ⟨Z,Z,Z,Z,Z,trivial⟩<|a3 ?_
 refine zbf 2 Z zbp zg0 Z Z Z Z Z Z<|a4 ?_
 refine At.nil<|zpk [0,3,2,1] 4 ?_
 refine zcd (fun (jq:Nat) (atq:Nat) (xq:Sl tyQn 77) => [(0,.slice A b.length C),(2,pB b1),(3,pB b2),(4,pB b3),(5,vV (atq:Int)),(50,vV (qs.length:Int)),(51,vV (jq:Int))]) (fun jq atq xq => xq.s::O1 b1 id flags xq.A xq.l.length xq.C none 0 0 none 0 0 none 0 0::O4 b2 0 0::[(b3,.cells #[vV id,vV flags,vV (qs.length:Int),vV (an.length:Int),vV (ns.length:Int),vV (ar.length:Int)] 88 (0,0))]::H) (fun jq atq xq => jq≤qs.length∧xq.l=qs.take jq∧LAt QAt b atq (qs.drop jq) p1∧atq≤b.length) (fun jq atq xq => qs.length - jq) 0 12 Sl.nil (⟨zDq _,Z,hA1,kQ⟩) ⟨Z,Z,Z,Z,Z,Z,Z,trivial⟩ Z ?_
 rintro jq atq xq ⟨hjq,hxq,hlq,hbq⟩ ihL2
 have hcapq:=Own.cap_le xq.own
 have hxlq:=zDh List.length hxq
 rw [zDs] at hxlq
 refine a5 ?_
 refine zac Z ?_ ?_
 ·intro hc4
  try dsimp only at hc4
  refine a4 ?_
  obtain ⟨nxq,hlq1,hlq2⟩:=LAt.cons (d:=rD3) hlq kQ
  have hle9:=hlq1.le
  refine a3 ?_
  refine zca Z (znw (Rd.skip 4 h) hb atq (hM.2.2.2.1 _ (zaA (l:=qs) (i:=jq) (d:=rD3) kQ)) hlq1) ?_
  rintro _ _ ⟨rfl,rfl⟩
  refine a4 ?_
  refine AtL.alloc zev (cs:=#[str [],vV 0,vV 0]) Z zg0 Z ?_
  intro b4
  refine AtL.alloc zaH (cs:=#[vV 0,vV 0]) Z zg0 Z ?_
  intro b5
  refine a17 ?_
  refine zae (cs:=[str ((qs.getD jq rD3).1),vV ((qs.getD jq rD3).2.1),vV ((qs.getD jq rD3).2.2)]) Z zev zfp Z Z zg0 Z Z Z ?_
  intro b6
  refine zau tyQn (l:=([((qs.getD jq rD3).1,(qs.getD jq rD3).2.1,(qs.getD jq rD3).2.2)]:List (yB×Int×Int))) Z Z kT ?_
  intro s7 o8
  refine zap (l:=xq.l) (news:=[((qs.getD jq rD3).1,(qs.getD jq rD3).2.1,(qs.getD jq rD3).2.2)]) 3 zyH Z xq.own (o8.rd (i:=0) Z) (by first | omega | (simp only [zC6,zC7,zC8]; omega) | (simp; done) | (simp; omega)) zg0 Z Z Z ?_
  intro A9 C10 s11 o12
  refine a10 ?_
  refine zpk [3,4,5,6] 7 ?_
  refine ihL2 (jq + 1) nxq (⟨A9,C10,xq.l++([((qs.getD jq rD3).1,(qs.getD jq rD3).2.1,(qs.getD jq rD3).2.2)]),s11,o12⟩) (⟨by omega,(by dsimp only; rw [hxq,zcQ (d:=rD3) kQ]),hlq2,hlq1.le.2⟩) kQ _ ?_
  exact zen
 ·intro hc4
  try dsimp only at hc4
  refine a4 ?_
  refine zpk [1,0,2,3] 4 ?_
  refine zca Z zll ?_
  rintro _ _ ⟨rfl,rfl⟩
  refine a3 ?_
  refine zcj<|a12 ?_
  refine zai (zb1 (v:=.pointer (some ⟨b1,3,none⟩)) Z Z (fun w => by kernel_rfl)) zg0 Z<|a6 ?_
  refine AtL.add (z:=3) zg0 Z Z Z kE<|zbf 3 Z zbp zg0 Z Z Z Z Z Z<|a4 ?_
  have hendq:atq=p1:=by have h9:=hlq; rw [zDn kQ] at h9; exact h9
  refine At.nil<|zpk [0,2,1,3,4] 5 ?_
  refine zcd (fun (ja:Nat) (ata:Nat) (xa:Sl tyRec 51) => [(0,.slice A b.length C),(2,pB b1),(3,pB b2),(4,pB b3),(5,vV (ata:Int)),(11,.pointer (some ⟨b1,3,none⟩)),(73,.agg #[.pointer (some ⟨b1,3,none⟩),.pointer (some ⟨b1,4,none⟩),.pointer (some ⟨b1,5,none⟩)]),(74,vV 0),(81,vV (an.length:Int)),(82,vV (ja:Int))]) (fun ja ata xa => xa.s::xq.s::O1 b1 id flags xq.A xq.l.length xq.C xa.A xa.l.length xa.C none 0 0 none 0 0::O4 b2 0 0::[(b3,.cells #[vV id,vV flags,vV (qs.length:Int),vV (an.length:Int),vV (ns.length:Int),vV (ar.length:Int)] 88 (0,0))]::H) (fun ja ata xa => ja≤an.length∧xa.l=an.take ja∧LAt RAt b ata (an.drop ja) p2∧ata≤b.length) (fun ja ata xa => an.length - ja) 0 atq Sl.nil (⟨zDq _,Z,(by rw [hendq]; exact hA2),hbq⟩) ⟨Z,Z,Z,Z,Z,Z,Z,Z,Z,Z,trivial⟩ Z ?_
  rintro ja ata xa ⟨hja,hxa,hla,hba⟩ ihL4
  have hcapa:=Own.cap_le xa.own
  have hxla:=zDh List.length hxa
  rw [zDs] at hxla
  refine a5 ?_
  refine zac Z ?_ ?_
  ·intro hc7
   try dsimp only at hc7
   refine a4 ?_
   obtain ⟨nxa,hla1,hla2⟩:=LAt.cons (d:=rD5) hla kQ
   have hle9:=hla1.le
   refine a3 ?_
   refine zca Z (zhh (Rd.skip 5 h) hb ata (hM.2.2.2.2.1 _ (zaA (l:=an) (i:=ja) (d:=rD5) kQ)) hla1) ?_
   rintro _ _ ⟨rfl,rfl⟩
   refine a4 ?_
   refine AtL.alloc zbg (cs:=#[str [],vV 0,vV 0,vV 0,str []]) Z zg0 Z ?_
   intro b13
   refine AtL.alloc zaH (cs:=#[vV 0,vV 0]) Z zg0 Z ?_
   intro b14
   refine a13 ?_
   refine zaN (es:=[5,6,9]) (pv:=[(0,.pointer (some ⟨b1,3,none⟩)),(1,.pointer (some ⟨b1,3,none⟩)),(2,.pointer (some ⟨b1,3,none⟩)),(3,.slice xa.A xa.l.length xa.C),(4,.agg #[str ((an.getD ja rD5).1),vV ((an.getD ja rD5).2.1),vV ((an.getD ja rD5).2.2.1),vV ((an.getD ja rD5).2.2.2.1),str ((an.getD ja rD5).2.2.2.2)]),(7,vV (nxa:Int))]) zaz kW kW kW ?_
   refine ⟨zj4<|⟨zpr Z Z Z (ze8 (cs:=[str ((an.getD ja rD5).1),vV ((an.getD ja rD5).2.1),vV ((an.getD ja rD5).2.2.1),vV ((an.getD ja rD5).2.2.2.1),str ((an.getD ja rD5).2.2.2.2)]) zbF Z Z (zaw 1 0 0 Z Z Z)),zjz<|trivial⟩,Z,Z,by kernel_rfl,_,Z,Z,Z,_,ze6 tyRec (l:=([((an.getD ja rD5).1,(an.getD ja rD5).2.1,(an.getD ja rD5).2.2.1,(an.getD ja rD5).2.2.2.1,(an.getD ja rD5).2.2.2.2)]:List (yB×Int×Int×Int×yB))) (za2 (cs:=[str ((an.getD ja rD5).1),vV ((an.getD ja rD5).2.1),vV ((an.getD ja rD5).2.2.1),vV ((an.getD ja rD5).2.2.2.1),str ((an.getD ja rD5).2.2.2.2)]) Z zbg zbs Z Z Z Z) Z Z kT,?_⟩
   rintro _ _ ⟨b15,s16,o17,rfl,rfl⟩
   refine ⟨[],Z,?_⟩
   refine ⟨zj4<|zjk<|zjz<|trivial,Z,Z,by kernel_rfl,_,Z,Z,Z,_,zc1 (l:=xa.l) (news:=[((an.getD ja rD5).1,(an.getD ja rD5).2.1,(an.getD ja rD5).2.2.1,(an.getD ja rD5).2.2.2.1,(an.getD ja rD5).2.2.2.2)]) 3 zhd Z xa.own (o17.rd (i:=0) Z) (by first | omega | (simp only [zC6,zC7,zC8]; omega) | (simp; done) | (simp; omega)) Z Z,?_⟩
   rintro _ _ ⟨A18,C19,s20,o21,rfl,rfl⟩
   refine ⟨[(8,.pointer (some ⟨b1,3,none⟩))],Z,?_⟩
   refine ⟨zj2<|zk4<|zjz<|trivial,Z,Z,by kernel_rfl,_,Z,Z,Z,_,zaS (H':=s16::O4 b14 0 0::O5 b13 (str ((an.getD ja rD5).1)) ((an.getD ja rD5).2.1) ((an.getD ja rD5).2.2.1) ((an.getD ja rD5).2.2.2.1) (str ((an.getD ja rD5).2.2.2.2))::s20::xq.s::[(b1,.cells #[vV id,vV flags,.slice xq.A xq.l.length xq.C,.slice A18 (xa.l++([((an.getD ja rD5).1,(an.getD ja rD5).2.1,(an.getD ja rD5).2.2.1,(an.getD ja rD5).2.2.2.1,(an.getD ja rD5).2.2.2.2)])).length C19,.slice none 0 0,.slice none 0 0] 25 (0,0))]::O4 b2 0 0::[(b3,.cells #[vV id,vV flags,vV (qs.length:Int),vV (an.length:Int),vV (ns.length:Int),vV (ar.length:Int)] 88 (0,0))]::H) 5 0 znn Z Z Z Z Z Z Z Z Z,?_⟩
   rintro _ _ ⟨rfl,rfl⟩
   refine ⟨[(10,vV (nxa:Int))],Z,?_⟩
   refine ⟨zjz<|zk4<|zjk<|zjk<|zjz<|trivial,by kernel_rfl,?_⟩
   refine At.mono (E':=[(0,.slice A b.length C),(2,pB b1),(3,pB b2),(4,pB b3),(5,vV (nxa:Int)),(11,.pointer (some ⟨b1,3,none⟩)),(73,.agg #[.pointer (some ⟨b1,3,none⟩),.pointer (some ⟨b1,4,none⟩),.pointer (some ⟨b1,5,none⟩)]),(74,vV 0),(81,vV (an.length:Int)),(82,vV (ja:Int))]) ⟨Z,Z,Z,Z,Z,Z,Z,Z,Z,Z,trivial⟩<|a5 ?_
   refine zpk [3,4,5,6,7] 8 ?_
   refine ihL4 (ja + 1) nxa (⟨A18,C19,xa.l++([((an.getD ja rD5).1,(an.getD ja rD5).2.1,(an.getD ja rD5).2.2.1,(an.getD ja rD5).2.2.2.1,(an.getD ja rD5).2.2.2.2)]),s20,o21⟩) (⟨by omega,(by dsimp only; rw [hxa,zcQ (d:=rD5) kQ]),hla2,hla1.le.2⟩) kQ _ ?_
   exact zen
  ·intro hc7
   try dsimp only at hc7
   refine a3 ?_
   refine AtL.add (z:=1) zg0 Z Z Z kE<|a15 ?_
   refine zai (zb1 (v:=.pointer (some ⟨b1,4,none⟩)) Z Z (fun w => by kernel_rfl)) zg0 Z<|a6 ?_
   refine AtL.add (z:=4) zg0 Z Z Z kE<|zbf 4 Z zbp zg0 Z Z Z Z Z Z<|a4 ?_
   have henda:ata=p2:=by have h9:=hla; rw [zDn kQ] at h9; exact h9
   refine At.nil<|zpk [0,2,1,3,4,5] 6 ?_
   refine zcd (fun (jn:Nat) (atn:Nat) (xn:Sl tyRec 51) => [(0,.slice A b.length C),(2,pB b1),(3,pB b2),(4,pB b3),(5,vV (atn:Int)),(11,.pointer (some ⟨b1,4,none⟩)),(73,.agg #[.pointer (some ⟨b1,3,none⟩),.pointer (some ⟨b1,4,none⟩),.pointer (some ⟨b1,5,none⟩)]),(74,vV 1),(81,vV (ns.length:Int)),(82,vV (jn:Int))]) (fun jn atn xn => xn.s::xq.s::xa.s::O1 b1 id flags xq.A xq.l.length xq.C xa.A xa.l.length xa.C xn.A xn.l.length xn.C none 0 0::O4 b2 0 0::[(b3,.cells #[vV id,vV flags,vV (qs.length:Int),vV (an.length:Int),vV (ns.length:Int),vV (ar.length:Int)] 88 (0,0))]::H) (fun jn atn xn => jn≤ns.length∧xn.l=ns.take jn∧LAt RAt b atn (ns.drop jn) p3∧atn≤b.length) (fun jn atn xn => ns.length - jn) 0 ata Sl.nil (⟨zDq _,Z,(by rw [henda]; exact hA3),hba⟩) ⟨Z,Z,Z,Z,Z,Z,Z,Z,Z,Z,trivial⟩ Z ?_
   rintro jn atn xn ⟨hjn,hxn,hln,hbn⟩ ihL4
   have hcapn:=Own.cap_le xn.own
   have hxln:=zDh List.length hxn
   rw [zDs] at hxln
   refine a5 ?_
   refine zac Z ?_ ?_
   ·intro hc7
    try dsimp only at hc7
    refine a4 ?_
    obtain ⟨nxn,hln1,hln2⟩:=LAt.cons (d:=rD5) hln kQ
    have hle9:=hln1.le
    refine a3 ?_
    refine zca Z (zhh (Rd.skip 6 h) hb atn (hM.2.2.2.2.2.1 _ (zaA (l:=ns) (i:=jn) (d:=rD5) kQ)) hln1) ?_
    rintro _ _ ⟨rfl,rfl⟩
    refine a4 ?_
    refine AtL.alloc zbg (cs:=#[str [],vV 0,vV 0,vV 0,str []]) Z zg0 Z ?_
    intro b29
    refine AtL.alloc zaH (cs:=#[vV 0,vV 0]) Z zg0 Z ?_
    intro b30
    refine a13 ?_
    refine zaN (es:=[5,6,9]) (pv:=[(0,.pointer (some ⟨b1,4,none⟩)),(1,.pointer (some ⟨b1,4,none⟩)),(2,.pointer (some ⟨b1,4,none⟩)),(3,.slice xn.A xn.l.length xn.C),(4,.agg #[str ((ns.getD jn rD5).1),vV ((ns.getD jn rD5).2.1),vV ((ns.getD jn rD5).2.2.1),vV ((ns.getD jn rD5).2.2.2.1),str ((ns.getD jn rD5).2.2.2.2)]),(7,vV (nxn:Int))]) zaz kW kW kW ?_
    refine ⟨zj4<|⟨zpr Z Z Z (ze8 (cs:=[str ((ns.getD jn rD5).1),vV ((ns.getD jn rD5).2.1),vV ((ns.getD jn rD5).2.2.1),vV ((ns.getD jn rD5).2.2.2.1),str ((ns.getD jn rD5).2.2.2.2)]) zbF Z Z (zaw 1 0 0 Z Z Z)),zjz<|trivial⟩,Z,Z,by kernel_rfl,_,Z,Z,Z,_,ze6 tyRec (l:=([((ns.getD jn rD5).1,(ns.getD jn rD5).2.1,(ns.getD jn rD5).2.2.1,(ns.getD jn rD5).2.2.2.1,(ns.getD jn rD5).2.2.2.2)]:List (yB×Int×Int×Int×yB))) (za2 (cs:=[str ((ns.getD jn rD5).1),vV ((ns.getD jn rD5).2.1),vV ((ns.getD jn rD5).2.2.1),vV ((ns.getD jn rD5).2.2.2.1),str ((ns.getD jn rD5).2.2.2.2)]) Z zbg zbs Z Z Z Z) Z Z kT,?_⟩
    rintro _ _ ⟨b31,s32,o33,rfl,rfl⟩
    refine ⟨[],Z,?_⟩
    refine ⟨zj4<|zjk<|zjz<|trivial,Z,Z,by kernel_rfl,_,Z,Z,Z,_,zc1 (l:=xn.l) (news:=[((ns.getD jn rD5).1,(ns.getD jn rD5).2.1,(ns.getD jn rD5).2.2.1,(ns.getD jn rD5).2.2.2.1,(ns.getD jn rD5).2.2.2.2)]) 3 zhd Z xn.own (o33.rd (i:=0) Z) (by first | omega | (simp only [zC6,zC7,zC8]; omega) | (simp; done) | (simp; omega)) Z Z,?_⟩
    rintro _ _ ⟨A34,C35,s36,o37,rfl,rfl⟩
    refine ⟨[(8,.pointer (some ⟨b1,4,none⟩))],Z,?_⟩
    refine ⟨zj2<|zk4<|zjz<|trivial,Z,Z,by kernel_rfl,_,Z,Z,Z,_,zaS (H':=s32::O4 b30 0 0::O5 b29 (str ((ns.getD jn rD5).1)) ((ns.getD jn rD5).2.1) ((ns.getD jn rD5).2.2.1) ((ns.getD jn rD5).2.2.2.1) (str ((ns.getD jn rD5).2.2.2.2))::s36::xq.s::xa.s::[(b1,.cells #[vV id,vV flags,.slice xq.A xq.l.length xq.C,.slice xa.A xa.l.length xa.C,.slice A34 (xn.l++([((ns.getD jn rD5).1,(ns.getD jn rD5).2.1,(ns.getD jn rD5).2.2.1,(ns.getD jn rD5).2.2.2.1,(ns.getD jn rD5).2.2.2.2)])).length C35,.slice none 0 0] 25 (0,0))]::O4 b2 0 0::[(b3,.cells #[vV id,vV flags,vV (qs.length:Int),vV (an.length:Int),vV (ns.length:Int),vV (ar.length:Int)] 88 (0,0))]::H) 6 0 znn Z Z Z Z Z Z Z Z Z,?_⟩
    rintro _ _ ⟨rfl,rfl⟩
    refine ⟨[(10,vV (nxn:Int))],Z,?_⟩
    refine ⟨zjz<|zk4<|zjk<|zjk<|zjz<|trivial,by kernel_rfl,?_⟩
    refine At.mono (E':=[(0,.slice A b.length C),(2,pB b1),(3,pB b2),(4,pB b3),(5,vV (nxn:Int)),(11,.pointer (some ⟨b1,4,none⟩)),(73,.agg #[.pointer (some ⟨b1,3,none⟩),.pointer (some ⟨b1,4,none⟩),.pointer (some ⟨b1,5,none⟩)]),(74,vV 1),(81,vV (ns.length:Int)),(82,vV (jn:Int))]) ⟨Z,Z,Z,Z,Z,Z,Z,Z,Z,Z,trivial⟩<|a5 ?_
    refine zpk [3,4,5,6,7,8] 9 ?_
    refine ihL4 (jn + 1) nxn (⟨A34,C35,xn.l++([((ns.getD jn rD5).1,(ns.getD jn rD5).2.1,(ns.getD jn rD5).2.2.1,(ns.getD jn rD5).2.2.2.1,(ns.getD jn rD5).2.2.2.2)]),s36,o37⟩) (⟨by omega,(by dsimp only; rw [hxn,zcQ (d:=rD5) kQ]),hln2,hln1.le.2⟩) kQ _ ?_
    exact zen
   ·intro hc7
    try dsimp only at hc7
    refine a3 ?_
    refine AtL.add (z:=2) zg0 Z Z Z kE<|a15 ?_
    refine zai (zb1 (v:=.pointer (some ⟨b1,5,none⟩)) Z Z (fun w => by kernel_rfl)) zg0 Z<|a6 ?_
    refine AtL.add (z:=5) zg0 Z Z Z kE<|zbf 5 Z zbp zg0 Z Z Z Z Z Z<|a4 ?_
    have hendn:atn=p3:=by have h9:=hln; rw [zDn kQ] at h9; exact h9
    refine At.nil<|zpk [0,2,3,1,4,5,6] 7 ?_
    refine zcd (fun (jr:Nat) (atr:Nat) (xr:Sl tyRec 51) => [(0,.slice A b.length C),(2,pB b1),(3,pB b2),(4,pB b3),(5,vV (atr:Int)),(11,.pointer (some ⟨b1,5,none⟩)),(73,.agg #[.pointer (some ⟨b1,3,none⟩),.pointer (some ⟨b1,4,none⟩),.pointer (some ⟨b1,5,none⟩)]),(74,vV 2),(81,vV (ar.length:Int)),(82,vV (jr:Int))]) (fun jr atr xr => xr.s::xq.s::xa.s::xn.s::O1 b1 id flags xq.A xq.l.length xq.C xa.A xa.l.length xa.C xn.A xn.l.length xn.C xr.A xr.l.length xr.C::O4 b2 0 0::[(b3,.cells #[vV id,vV flags,vV (qs.length:Int),vV (an.length:Int),vV (ns.length:Int),vV (ar.length:Int)] 88 (0,0))]::H) (fun jr atr xr => jr≤ar.length∧xr.l=ar.take jr∧LAt RAt b atr (ar.drop jr) b.length∧atr≤b.length) (fun jr atr xr => ar.length - jr) 0 atn Sl.nil (⟨zDq _,Z,(by rw [hendn]; exact hA4),hbn⟩) ⟨Z,Z,Z,Z,Z,Z,Z,Z,Z,Z,trivial⟩ Z ?_
    rintro jr atr xr ⟨hjr,hxr,hlr,hbr⟩ ihL4
    have hcapr:=Own.cap_le xr.own
    have hxlr:=zDh List.length hxr
    rw [zDs] at hxlr
    refine a5 ?_
    refine zac Z ?_ ?_
    ·intro hc7
     try dsimp only at hc7
     refine a4 ?_
     obtain ⟨nxr,hlr1,hlr2⟩:=LAt.cons (d:=rD5) hlr kQ
     have hle9:=hlr1.le
     refine a3 ?_
     refine zca Z (zhh (Rd.skip 7 h) hb atr (hM.2.2.2.2.2.2 _ (zaA (l:=ar) (i:=jr) (d:=rD5) kQ)) hlr1) ?_
     rintro _ _ ⟨rfl,rfl⟩
     refine a4 ?_
     refine AtL.alloc zbg (cs:=#[str [],vV 0,vV 0,vV 0,str []]) Z zg0 Z ?_
     intro b45
     refine AtL.alloc zaH (cs:=#[vV 0,vV 0]) Z zg0 Z ?_
     intro b46
     refine a13 ?_
     refine zaN (es:=[5,6,9]) (pv:=[(0,.pointer (some ⟨b1,5,none⟩)),(1,.pointer (some ⟨b1,5,none⟩)),(2,.pointer (some ⟨b1,5,none⟩)),(3,.slice xr.A xr.l.length xr.C),(4,.agg #[str ((ar.getD jr rD5).1),vV ((ar.getD jr rD5).2.1),vV ((ar.getD jr rD5).2.2.1),vV ((ar.getD jr rD5).2.2.2.1),str ((ar.getD jr rD5).2.2.2.2)]),(7,vV (nxr:Int))]) zaz kW kW kW ?_
     refine ⟨zj4<|⟨zpr Z Z Z (ze8 (cs:=[str ((ar.getD jr rD5).1),vV ((ar.getD jr rD5).2.1),vV ((ar.getD jr rD5).2.2.1),vV ((ar.getD jr rD5).2.2.2.1),str ((ar.getD jr rD5).2.2.2.2)]) zbF Z Z (zaw 1 0 0 Z Z Z)),zjz<|trivial⟩,Z,Z,by kernel_rfl,_,Z,Z,Z,_,ze6 tyRec (l:=([((ar.getD jr rD5).1,(ar.getD jr rD5).2.1,(ar.getD jr rD5).2.2.1,(ar.getD jr rD5).2.2.2.1,(ar.getD jr rD5).2.2.2.2)]:List (yB×Int×Int×Int×yB))) (za2 (cs:=[str ((ar.getD jr rD5).1),vV ((ar.getD jr rD5).2.1),vV ((ar.getD jr rD5).2.2.1),vV ((ar.getD jr rD5).2.2.2.1),str ((ar.getD jr rD5).2.2.2.2)]) Z zbg zbs Z Z Z Z) Z Z kT,?_⟩
     rintro _ _ ⟨b47,s48,o49,rfl,rfl⟩
     refine ⟨[],Z,?_⟩
     refine ⟨zj4<|zjk<|zjz<|trivial,Z,Z,by kernel_rfl,_,Z,Z,Z,_,zc1 (l:=xr.l) (news:=[((ar.getD jr rD5).1,(ar.getD jr rD5).2.1,(ar.getD jr rD5).2.2.1,(ar.getD jr rD5).2.2.2.1,(ar.getD jr rD5).2.2.2.2)]) 3 zhd Z xr.own (o49.rd (i:=0) Z) (by first | omega | (simp only [zC6,zC7,zC8]; omega) | (simp; done) | (simp; omega)) Z Z,?_⟩
     rintro _ _ ⟨A50,C51,s52,o53,rfl,rfl⟩
     refine ⟨[(8,.pointer (some ⟨b1,5,none⟩))],Z,?_⟩
     refine ⟨zj2<|zk4<|zjz<|trivial,Z,Z,by kernel_rfl,_,Z,Z,Z,_,zaS (H':=s48::O4 b46 0 0::O5 b45 (str ((ar.getD jr rD5).1)) ((ar.getD jr rD5).2.1) ((ar.getD jr rD5).2.2.1) ((ar.getD jr rD5).2.2.2.1) (str ((ar.getD jr rD5).2.2.2.2))::s52::xq.s::xa.s::xn.s::[(b1,.cells #[vV id,vV flags,.slice xq.A xq.l.length xq.C,.slice xa.A xa.l.length xa.C,.slice xn.A xn.l.length xn.C,.slice A50 (xr.l++([((ar.getD jr rD5).1,(ar.getD jr rD5).2.1,(ar.getD jr rD5).2.2.1,(ar.getD jr rD5).2.2.2.1,(ar.getD jr rD5).2.2.2.2)])).length C51] 25 (0,0))]::O4 b2 0 0::[(b3,.cells #[vV id,vV flags,vV (qs.length:Int),vV (an.length:Int),vV (ns.length:Int),vV (ar.length:Int)] 88 (0,0))]::H) 7 0 znn Z Z Z Z Z Z Z Z Z,?_⟩
     rintro _ _ ⟨rfl,rfl⟩
     refine ⟨[(10,vV (nxr:Int))],Z,?_⟩
     refine ⟨zjz<|zk4<|zjk<|zjk<|zjz<|trivial,by kernel_rfl,?_⟩
     refine At.mono (E':=[(0,.slice A b.length C),(2,pB b1),(3,pB b2),(4,pB b3),(5,vV (nxr:Int)),(11,.pointer (some ⟨b1,5,none⟩)),(73,.agg #[.pointer (some ⟨b1,3,none⟩),.pointer (some ⟨b1,4,none⟩),.pointer (some ⟨b1,5,none⟩)]),(74,vV 2),(81,vV (ar.length:Int)),(82,vV (jr:Int))]) ⟨Z,Z,Z,Z,Z,Z,Z,Z,Z,Z,trivial⟩<|a5 ?_
     refine zpk [3,4,5,6,7,8,9] 10 ?_
     refine ihL4 (jr + 1) nxr (⟨A50,C51,xr.l++([((ar.getD jr rD5).1,(ar.getD jr rD5).2.1,(ar.getD jr rD5).2.2.1,(ar.getD jr rD5).2.2.2.1,(ar.getD jr rD5).2.2.2.2)]),s52,o53⟩) (⟨by omega,(by dsimp only; rw [hxr,zcQ (d:=rD5) kQ]),hlr2,hlr1.le.2⟩) kQ _ ?_
     exact zen
    ·intro hc7
     try dsimp only at hc7
     refine a3 ?_
     refine AtL.add (z:=3) zg0 Z Z Z kE<|a12 ?_
     have hendr:atr=b.length:=by have h9:=hlr; rw [zDn kQ] at h9; exact h9
     refine a6 ?_
     refine zao false Z (by rw [hendr]; simp)<|a4 ?_
     refine zak (cs:=[vV 0,vV 0]) zbe zg0 Z Z Z<|a3 ?_
     refine zbv Z<|zpk [5,4,0,1,2,3,6] 7 ?_
     refine zbk zrG Z Z zBV ?_
     rintro _ _ ⟨rfl,rfl⟩
     exact zaW (vs:=[.agg #[vV id,vV flags,.slice xq.A xq.l.length xq.C,.slice xa.A xa.l.length xa.C,.slice xn.A xn.l.length xn.C,.slice xr.A xr.l.length xr.C],.agg #[vV 0,vV 0]]) [3,4,5,2] 7 Z Z Tryz.func9 Z ⟨⟨_,Z,LoadsTo.agg (cs:=[vV id,vV flags,.slice xq.A xq.l.length xq.C,.slice xa.A xa.l.length xa.C,.slice xn.A xn.l.length xn.C,.slice xr.A xr.l.length xr.C]) zeR Z (zaw 1 0 0 Z Z Z)⟩,⟨_,Z,LoadsTo.agg (cs:=[vV 0,vV 0]) zbi Z (zaw 0 0 0 Z Z Z)⟩,trivial⟩ (⟨xq,xa,xn,xr,(by rw [hxq,zDc kQ]),(by rw [hxa,zDc kQ]),(by rw [hxn,zDc kQ]),(by rw [hxr,zDc kQ]),Z,Z⟩)
noncomputable def askW (K:KM) (p:Nat) (q:Qn3):Option (yB×KM):=if p≤65535 then some (nmW K (lsOf q.1)++(be2 q.2.1++be2 q.2.2),kU K p q.1) else none
noncomputable def recW (K:KM) (p:Nat) (x:Rc5):Option (yB×KM):=if p≤65535 then (dpW (kU K p x.1) (p + ((nmW K (lsOf x.1)).length + 10)) (zmf x.2.1 x.2.2.2.2)).map fun r => (nmW K (lsOf x.1)++(be2 x.2.1++be2 x.2.2.1)++be4 x.2.2.2.1++be2 (r.1.length:Nat)++r.1,r.2) else none
theorem zAM {q:Qn3}(h:p≤65535):askW K p q=some (nmW K (lsOf q.1)++(be2 q.2.1++be2 q.2.2),kU K p q.1):=zDi h
theorem zuu {q:Qn3}(h:65535 < p):askW K p q=none:=zDb kQ
theorem zr4 (h:65535 < p):recW K p x=none:=zDb kQ
theorem zr3 (h:dpW (kU K p x.1) (p + ((nmW K (lsOf x.1)).length + 10)) (zmf x.2.1 x.2.2.2.2)=none):recW K p x=none:=by
 unfold recW
 rw [h]; split <;> rfl
theorem zy1 {K':KM}(hp:p≤65535) (h:dpW (kU K p x.1) (p + ((nmW K (lsOf x.1)).length + 10)) (zmf x.2.1 x.2.2.2.2)=some (w,K')):recW K p x=some (nmW K (lsOf x.1)++(be2 x.2.1++be2 x.2.2.1)++be4 x.2.2.2.1++be2 (w.length:Nat)++w,K'):=by
 unfold recW
 rw [h,zDi hp]; rfl
noncomputable def mWr (out:yB) (K:KM):List Rc5→Option yB
 | [] => if out.length≤65535 then some out else none
 | x::xs => match recW K out.length x with
  | some p => mWr (out++p.1) p.2 xs
  | none => none
noncomputable def mWq (out:yB) (K:KM) (rs:List Rc5):List Qn3→Option yB
 | [] => mWr out K rs
 | q::qs => match askW K out.length q with
  | some p => mWq (out++p.1) p.2 rs qs
  | none => none
noncomputable def msgF (id flags:Int) (qs:List Qn3) (an ns ar:List Rc5):Option yB:=mWq (hdB id flags qs.length an.length ns.length ar.length) (fun _ => none) (an++ns++ar) qs
theorem zlh {K':KM}{xs:List Rc5}(h:recW K out.length x=some (w,K')):mWr out K (x::xs)=mWr (out++w) K' xs:=by rw [mWr,h]
theorem zli {xs:List Rc5}(h:recW K out.length x=none):mWr out K (x::xs)=none:=by rw [mWr,h]
theorem zwb {K':KM}{rs:List Rc5}{q:Qn3}(h:askW K out.length q=some (w,K')):mWq out K rs (q::qs)=mWq (out++w) K' rs qs:=by rw [mWq,h]
theorem zwc {rs:List Rc5}{q:Qn3}(h:askW K out.length q=none):mWq out K rs (q::qs)=none:=by rw [mWq,h]
theorem zCF {pb mb mn:Nat}{end_ at_:Int}{q:Qn3}(b:yB) (hat:at_=(b.length:Int)) (hb:b.length≤140000) (hend:end_≤b.length) (hpk:PkOk (fun _:Unit => b) b.length T) (hq:QOk q) :
  SCalls Tryz.prog 67 [pB pb,vV at_,.agg #[str q.1,vV q.2.1,vV q.2.2]] w0 base (O3 pb mb end_::[(mb,mapG kyS int T mn)]::H) (fun v H' => (∃ (x:Sl tyB 5) (T' : List (yB×Int×Nat)) (mn' : Nat) (end' : Int),b.length≤65535∧QAt (b++x.l) b.length q (b.length + x.l.length)∧x.l.length≤260∧PkOk (fun _:Unit => b++x.l) (b.length + x.l.length) T'∧end'≤(b.length:Int) + (x.l.length:Int)∧askW (kOf T) b.length q=some (x.l,kOf T')∧v = .tuple #[.slice x.A x.l.length x.C,int 0]∧H' = x.s::O3 pb mb end'::[(mb,mapG kyS int T' mn')]::H)∨(∃ e:Int,e≠0∧askW (kOf T) b.length q=none∧v = .tuple #[.slice none 0 0,int e]∧H' = H)):=by
 have hq1:=hq.2.1; have hq2:=hq.2.2; have hq0:=hq.1.le
 refine zaa (n:=48) Tryz.func67 Z Z Z fun cs => ?_
 refine a2 ?_
 refine zaU (cs:=#[str q.1,vV q.2.1,vV q.2.2]) Z zg0 Z Z ?_
 intro b1
 refine a7 ?_
 refine zpk [1,2,0] 3 ?_
 refine zca Z zoP ?_
 rintro _ _ ⟨rfl,rfl⟩
 refine a8 ?_
 refine zca Z (zf1 hq.1) ?_
 rintro _ _ ⟨rfl,rfl⟩
 refine a14 ?_
 refine zca Z (ziO (n:=q.2.1) (m:=65535) kQ) ?_
 rintro _ _ ⟨rfl,rfl⟩
 refine a4 ?_
 refine zca Z (ziO (n:=q.2.2) (m:=65535) kQ) ?_
 rintro _ _ ⟨rfl,rfl⟩
 refine a11 ?_
 refine zca Z (ziz (fun _:Unit => b) b.length (fun _ => Z) hat hq.1 hend hpk) ?_
 rintro _ _ (⟨⟨A2,C3,l4,s5,o6⟩,Tp7,mp8,hpn90,hpn91,hpn92,hpn93,hpn96,rfl,rfl⟩ | ⟨hpn94,rfl,rfl⟩)
 ·replace hpn91:∀ z,∃ k9,Rn (((fun _:Unit => b)) z++l4) b.length b.length q.1 (b.length + l4.length) k9:=hpn91
  replace hpn92:l4.length≤q.1.length:=hpn92
  replace hpn93:PkOk (fun z => ((fun _:Unit => b)) z++l4) (b.length + l4.length) Tp7:=hpn93
  replace hpn96:l4=nmW (kOf T) (lsOf q.1)∧kOf Tp7=kU (kOf T) b.length q.1:=hpn96
  refine a21 ?_
  refine zae (cs:=[vV q.2.1,vV q.2.2]) Z zdb zbp Z Z zg0 Z Z Z ?_
  intro b10
  refine zau tyI (l:=([q.2.1,q.2.2]:List Int)) Z Z kT ?_
  intro s11 o12
  refine zca Z (zBk (o12.rd (i:=0) Z) kQ kQ) ?_
  rintro _ _ ⟨⟨A13,C14,l15,s16,o17⟩,htw18,rfl,rfl⟩
  obtain rfl:be2 q.2.1++be2 q.2.2=l15:=htw18.symm
  refine zap (l:=l4) (news:=(be2 q.2.1++be2 q.2.2)) 2 zav Z o6 (o17.rd (i:=0) Z) (by first | omega | (simp only [zC6,zC7,zC8,zam]; omega) | (simp [zam]; done) | (simp [zam]; omega)) zg0 Z Z Z ?_
  intro A19 C20 s21 o22
  refine a3 ?_
  refine zpk [2,3,4] 6 ?_
  obtain ⟨k8,hk8⟩:=hpn91 ()
  exact zad Tryz.func67 Z Z (.inl ⟨⟨A19,C20,l4++(be2 q.2.1++be2 q.2.2),s21,o22⟩,Tp7,mp8,_,hpn90,QAt.mk' hk8,(by simp only [zC6,zam]; omega),(by have h9:=hpn93.app (be2 q.2.1++be2 q.2.2); simp only [zDg,zD3,zC6] at h9 ⊢; exact h9),(by simp only [zC6,zam]; omega),(by rw [zAM hpn90,← hpn96.1,← hpn96.2]),Z,Z⟩)
 ·refine a19 ?_
  refine zpk [] 3 ?_
  exact zad Tryz.func67 Z Z (.inr ⟨_,by decide,zuu (by assumption),Z,Z⟩)
theorem zgl {pb mb mn:Nat}{end_ at_:Int}(b:yB) (hat:at_=(b.length:Int)) (hb:b.length≤140000) (hend:end_≤b.length) (hpk:PkOk (fun _:Unit => b) b.length T) (hx:ROk x) :
  SCalls Tryz.prog 68 [pB pb,vV at_,.agg #[str x.1,vV x.2.1,vV x.2.2.1,vV x.2.2.2.1,str x.2.2.2.2]] w0 base (O3 pb mb end_::[(mb,mapG kyS int T mn)]::H) (fun v H' => (∃ (y:Sl tyB 5) (T' : List (yB×Int×Nat)) (mn' : Nat) (end' : Int),b.length≤65535∧RAt (b++y.l) b.length x (b.length + y.l.length)∧y.l.length≤66000∧PkOk (fun _:Unit => b++y.l) (b.length + y.l.length) T'∧end'≤(b.length:Int) + (y.l.length:Int)∧recW (kOf T) b.length x=some (y.l,kOf T')∧v = .tuple #[.slice y.A y.l.length y.C,int 0]∧H' = y.s::O3 pb mb end'::[(mb,mapG kyS int T' mn')]::H)∨(∃ e:Int,e≠0∧recW (kOf T) b.length x=none∧v = .tuple #[.slice none 0 0,int e]∧H' = H)):=by
 have hx1:=hx.2.1; have hx2:=hx.2.2.1; have hx3:=hx.2.2.2.1; have hx4:=hx.2.2.2.2.2.1; have hx0:=hx.1.le
 refine zaa (n:=73) Tryz.func68 Z Z Z fun cs => ?_
 refine a2 ?_
 refine zaU (cs:=#[str x.1,vV x.2.1,vV x.2.2.1,vV x.2.2.2.1,str x.2.2.2.2]) Z zg0 Z Z ?_
 intro b1
 refine a7 ?_
 refine zpk [1,2,0] 3 ?_
 refine zca Z zoP ?_
 rintro _ _ ⟨rfl,rfl⟩
 refine a7 ?_
 refine zca Z (zl7 hx) ?_
 rintro _ _ ⟨rfl,rfl⟩
 refine a15 ?_
 refine zca Z (ziz (fun _:Unit => b) b.length (fun _ => Z) hat hx.1 hend hpk) ?_
 rintro _ _ (⟨⟨A2,C3,l4,s5,o6⟩,Tp7,mp8,hpn90,hpn91,hpn92,hpn93,hpn96,rfl,rfl⟩ | ⟨hpn94,rfl,rfl⟩)
 ·replace hpn91:∀ z,∃ k9,Rn (((fun _:Unit => b)) z++l4) b.length b.length x.1 (b.length + l4.length) k9:=hpn91
  replace hpn92:l4.length≤x.1.length:=hpn92
  replace hpn93:PkOk (fun z => ((fun _:Unit => b)) z++l4) (b.length + l4.length) Tp7:=hpn93
  replace hpn96:l4=nmW (kOf T) (lsOf x.1)∧kOf Tp7=kU (kOf T) b.length x.1:=hpn96
  refine a18 ?_
  refine zca Z (zvV x.2.2.2.1 kQ kQ) ?_
  rintro _ _ ⟨A10,C11,s12,o13,rfl,rfl⟩
  refine a13 ?_
  refine zae (cs:=[vV x.2.1,vV x.2.2.1]) Z zdb zbp Z Z zg0 Z Z Z ?_
  intro b14
  refine zau tyI (l:=([x.2.1,x.2.2.1]:List Int)) Z Z kT ?_
  intro s15 o16
  refine zca Z (zBk (o16.rd (i:=0) Z) kQ kQ) ?_
  rintro _ _ ⟨⟨A17,C18,l19,s20,o21⟩,htw22,rfl,rfl⟩
  obtain rfl:be2 x.2.1++be2 x.2.2.1=l19:=htw22.symm
  refine zap (l:=l4) (news:=(be2 x.2.1++be2 x.2.2.1)) 3 zav Z o6 (o21.rd (i:=0) Z) (by first | omega | (simp only [zC6,zC7,zC8,zam,za3]; omega) | (simp [zam,za3]; done) | (simp [zam,za3]; omega)) zg0 Z Z Z ?_
  intro A23 C24 s25 o26
  refine a1 ?_
  refine zap (l:=l4++(be2 x.2.1++be2 x.2.2.1)) (news:=(be4 x.2.2.2.1)) 3 zav Z o26 (o13.rd (i:=2) Z) (by first | omega | (simp only [zC6,zC7,zC8,zam,za3]; omega) | (simp [zam,za3]; done) | (simp [zam,za3]; omega)) zg0 Z Z Z ?_
  intro A27 C28 s29 o30
  refine a3 ?_
  have hol:(l4++(be2 x.2.1++be2 x.2.2.1)++be4 x.2.2.2.1).length=l4.length + 8:=by simp only [zC6,zam,za3]
  refine a11 ?_
  refine zpk [4,5,0,1,2,3,6] 7 ?_
  refine zca Z (zrW (fun z:Int => b++((l4++(be2 x.2.1++be2 x.2.2.1)++be4 x.2.2.2.1)++be2 z)) (b.length + (l4.length + 10)) (fun z => by simp only [zC6,zam,za3] <;> omega) (by simp only [zC6,zam,za3] <;> omega) hx.2.2.2.2 kQ kQ (by have h9:=PkOk.any (β:=Int) (m:=b.length + (l4.length + 10)) hpn93 (fun z => (be2 x.2.1++be2 x.2.2.1)++be4 x.2.2.2.1++be2 z) kQ; simp only [zDg] at h9 ⊢; exact h9)) ?_
  rintro _ _ (⟨⟨A31,C32,l33,s34,o35⟩,Tp36,mp37,ed38,hdn391,hdn392,hdn393,hdn394,hdn396,rfl,rfl⟩ | ⟨e40,hdn395,hdn397,rfl,rfl⟩)
  ·replace hdn391:∀ z,RdD (((fun z:Int => b++((l4++(be2 x.2.1++be2 x.2.2.1)++be4 x.2.2.2.1)++be2 z))) z++l33) (b.length + (l4.length + 10)) l33.length x.2.1 x.2.2.2.2:=hdn391
   replace hdn392:l33.length≤x.2.2.2.2.length:=hdn392
   replace hdn393:PkOk (fun z => ((fun z:Int => b++((l4++(be2 x.2.1++be2 x.2.2.1)++be4 x.2.2.2.1)++be2 z))) z++l33) ((b.length + (l4.length + 10)) + l33.length) Tp36:=hdn393
   replace hdn394:ed38≤(((b.length + (l4.length + 10)):Nat):Int) + (l33.length:Int):=hdn394
   replace hdn396:dpW (kOf Tp7) (b.length + (l4.length + 10)) (zmf x.2.1 x.2.2.2.2)=some (l33,kOf Tp36):=hdn396
   refine a19 ?_
   refine zae (cs:=[vV (l33.length:Int)]) Z zdb zbp Z Z zg0 Z Z Z ?_
   intro b41
   refine zau tyI (l:=([(l33.length:Int)]:List Int)) Z Z kT ?_
   intro s42 o43
   refine zca Z (zBl (o43.rd (i:=0) Z) kQ) ?_
   rintro _ _ ⟨⟨A44,C45,l46,s47,o48⟩,htw49,rfl,rfl⟩
   obtain rfl:be2 (l33.length:Int)=l46:=htw49.symm
   refine zap (l:=(l4++(be2 x.2.1++be2 x.2.2.1))++(be4 x.2.2.2.1)) (news:=(be2 (l33.length:Int))) 8 zav Z o30 (o48.rd (i:=0) Z) (by first | omega | (simp only [zC6,zC7,zC8,zam,za3]; omega) | (simp [zam,za3]; done) | (simp [zam,za3]; omega)) zg0 Z Z Z ?_
   intro A50 C51 s52 o53
   refine a1 ?_
   refine zap (l:=((l4++(be2 x.2.1++be2 x.2.2.1))++(be4 x.2.2.2.1))++(be2 (l33.length:Int))) (news:=l33) 8 zav Z o53 (o35.rd (i:=2) Z) (by first | omega | (simp only [zC6,zC7,zC8,zam,za3]; omega) | (simp [zam,za3]; done) | (simp [zam,za3]; omega)) zg0 Z Z Z ?_
   intro A54 C55 s56 o57
   refine a3 ?_
   refine zpk [8,3,4] 10 ?_
   obtain ⟨k8,hk8⟩:=hpn91 ()
   have hd8:=hdn391 (l33.length:Int)
   exact zad Tryz.func68 Z Z (.inl ⟨⟨A54,C55,(((l4++(be2 x.2.1++be2 x.2.2.1))++(be4 x.2.2.2.1))++(be2 (l33.length:Int)))++l33,s56,o57⟩,Tp36,mp37,_,hpn90,RAt.mk' hk8 hd8,(by simp only [zC6,zam,za3]; omega),(by have h9:=PkOk.at_ (m:=b.length + ((((l4++(be2 x.2.1++be2 x.2.2.1))++(be4 x.2.2.2.1))++(be2 (l33.length:Int)))++l33).length) hdn393 (l33.length:Int) (by simp only [zC6,zam,za3]; omega); simp only [zDg] at h9 ⊢; exact h9),(by simp only [zC6,zam,za3]; omega),(by have h9:=hdn396; rw [hpn96.2] at h9; have h8:=hpn96.1; have h7:=zy1 (K:=kOf T) hpn90 (by rw [← h8]; exact h9); rw [← h8] at h7; exact h7),Z,Z⟩)
  ·refine a12 ?_
   refine zaT Z ?_ ?_
   ·intro hc4
    have hc4:¬ ((e40:Int)=0):=zDm (zat hc4)
    refine a6 ?_
    refine zpk [] 5 ?_
    exact zad Tryz.func68 Z Z (.inr ⟨_,by first | decide | assumption,zr3 (by have h9:=hdn397; rw [hpn96.1,hpn96.2] at h9; exact h9),Z,Z⟩)
   ·intro hc4
    have hc4:(e40:Int)=0:=zDf (zas hc4)
    refine a6 ?_
    refine zae (cs:=[vV 0]) Z zdb zbp Z Z zg0 Z Z Z ?_
    intro b58
    refine zau tyI (l:=([0]:List Int)) Z Z kT ?_
    intro s59 o60
    refine zca Z (zBl (o60.rd (i:=0) Z) kQ) ?_
    rintro _ _ ⟨⟨A61,C62,l63,s64,o65⟩,htw66,rfl,rfl⟩
    obtain rfl:be2 0=l63:=htw66.symm
    refine zap (l:=(l4++(be2 x.2.1++be2 x.2.2.1))++(be4 x.2.2.2.1)) (news:=(be2 0)) 5 zav Z o30 (o65.rd (i:=0) Z) (by first | omega | (simp only [zC6,zC7,zC8,zam,za3]; omega) | (simp [zam,za3]; done) | (simp [zam,za3]; omega)) zg0 Z Z Z ?_
    intro A67 C68 s69 o70
    refine a1 ?_
    refine zap (l:=((l4++(be2 x.2.1++be2 x.2.2.1))++(be4 x.2.2.2.1))++(be2 0)) (news:=[]) 5 zav Z o70 Rd.nil_ (by first | omega | (simp only [zC6,zC7,zC8,zam,za3]; omega) | (simp [zam,za3]; done) | (simp [zam,za3]; omega)) zg0 Z Z Z ?_
    intro A71 C72 s73 o74
    refine a3 ?_
    exact zad Tryz.func68 Z Z (by exfalso; omega)
 ·refine a19 ?_
  refine zpk [] 3 ?_
  exact zad Tryz.func68 Z Z (.inr ⟨_,by first | decide | assumption,zr4 (by assumption),Z,Z⟩)
theorem zBS {e o:Nat}{x:Value} :
  DCalls Tryz.prog 64 [pB e,pB o] w0 base (O9 e 0::[(o,.cells #[x] 31 (0,0))]::H) .returning (fun m' H' => m' = .returning∧H' = (O9 e 0)::[(o,.cells #[x] 31 (0,0))]::H):=by
 refine DCalls.of_walk (n:=4) Tryz.func64 Z Z Z fun fr cs => ?_
 refine a7 ?_
 refine zhF Z ?_
 exact zed (vs:=[]) Tryz.func64 Z trivial (⟨Z,Z⟩)
theorem zeY {e o:Nat}{x:Value}{k:Int}(hk:k≠0) :
  DCalls Tryz.prog 64 [pB e,pB o] w0 base (O9 e k::[(o,.cells #[x] 31 (0,0))]::H) .returning (fun m' H' => m' = .returning∧H' = (O9 e k)::[(o,.cells #[.slice none 0 0] 31 (0,0))]::H):=by
 refine DCalls.of_walk (n:=4) Tryz.func64 Z Z Z fun fr cs => ?_
 refine a5 ?_
 refine zao true Z (by simp [hk])<|a3 ?_
 refine zhF Z ?_
 exact zed (vs:=[]) Tryz.func64 Z trivial (⟨Z,Z⟩)
theorem zi1 {qs:List (yB×Int×Int)}{an ns ar:List (yB×Int×Int×Int×yB)}(hq:Rd tyQn w0 base H Aq Cq qs) (ha:Rd tyRec w0 base H Aa Ca an) (hn:Rd tyRec w0 base H An Cn ns) (hr:Rd tyRec w0 base H Ar Cr ar) (hB:qs.length≤140737488355328∧an.length≤140737488355328∧ns.length≤140737488355328∧ar.length≤140737488355328) (hqs8:∀ q ∈ qs,q.1.length≤4398046511104) (han8:∀ x ∈ an,x.1.length≤4398046511104∧x.2.2.2.2.length≤4398046511104) (hns8:∀ x ∈ ns,x.1.length≤4398046511104∧x.2.2.2.2.length≤4398046511104) (har8:∀ x ∈ ar,x.1.length≤4398046511104∧x.2.2.2.2.length≤4398046511104) :
  SCalls Tryz.prog 21 [.agg #[vV id,vV flags,.slice Aq qs.length Cq,.slice Aa an.length Ca,.slice An ns.length Cn,.slice Ar ar.length Cr]] w0 base (H) (fun v H' => (∃ x:Sl tyB 5,MOk id flags qs an ns ar∧MAt x.l id flags qs an ns ar∧msgF id flags qs an ns ar=some x.l∧v = .tuple #[.slice x.A x.l.length x.C,int 0]∧H' = x.s::H)∨(∃ e:Int,e≠0∧(MOk id flags qs an ns ar→msgF id flags qs an ns ar=none)∧v = .tuple #[.slice none 0 0,int e]∧H' = H)):=by
 have hleq:=hq.le
 have hcapq:=hq.cap
 have hlea:=ha.le
 have hcapa:=ha.cap
 have hlen:=hn.le
 have hcapn:=hn.cap
 have hler:=hr.le
 have hcapr:=hr.cap
 refine zaa (n:=118) Tryz.func21 Z Z Z fun cs => ?_
 refine a2 ?_
 refine zaU (cs:=#[vV id,vV flags,.slice Aq qs.length Cq,.slice Aa an.length Ca,.slice An ns.length Cn,.slice Ar ar.length Cr]) Z zg0 Z Z ?_
 intro b1
 refine AtL.alloc ziD (cs:=#[.slice none 0 0]) Z zg0 Z ?_
 intro b2
 refine AtL.alloc ziE (cs:=#[vV 0]) Z zg0 Z ?_
 intro b3
 refine a3 ?_
 refine zbV zg0 Z Z Z<|zfU Z zg0 Z Z Z<|a5 ?_
 refine zca Z (zgo (id:=id) (flags:=flags) (qs:=qs) (an:=an) (ns:=ns) (ar:=ar) (Rd.skip 3 hq) (Rd.skip 3 ha) (Rd.skip 3 hn) (Rd.skip 3 hr) hB hqs8 han8 hns8 har8) ?_
 rintro _ _ ⟨e4,hmk5,rfl,rfl⟩
 refine a7 ?_
 refine zaT Z ?_ ?_
 ·intro hc1
  have hc1:¬ ((e4:Int)=0):=zDm (zat hc1)
  refine a6 ?_
  refine zbv Z<|zbk zcr Z Z (zeY hc1) ?_
  rintro _ _ ⟨rfl,rfl⟩
  exact zaW (vs:=[.slice none 0 0,vV e4]) [] 3 Z Z Tryz.func21 Z ⟨⟨_,Z,LoadsTo.flat zb3 (Cell.own 1 0 Z Z Z)⟩,⟨_,Z,LoadsTo.flat zbw (Cell.own 0 0 Z Z Z)⟩,trivial⟩ (.inr ⟨_,hc1,fun h9 => absurd (hmk5.2 h9) hc1,Z,Z⟩)
 ·intro hc1
  have hc1:(e4:Int)=0:=zDf (zas hc1)
  refine a3 ?_
  have hM:=hmk5.1 (by first | exact hc1 | omega)
  have hM1:=hM.1; have hM2:=hM.2.1; have hM3:=hM.2.2.1
  refine a17 ?_
  refine zae (cs:=[vV id,vV flags,vV (qs.length:Int),vV (an.length:Int),vV (ns.length:Int),vV (ar.length:Int)]) Z zdb zbp Z Z zg0 Z Z Z ?_
  intro b6
  refine zau tyI (l:=([id,flags,(qs.length:Int),(an.length:Int),(ns.length:Int),(ar.length:Int)]:List Int)) Z Z kT ?_
  intro s7 o8
  refine a4 ?_
  refine zcj<|a11 ?_
  refine zah 0 (o8.rd (i:=0) Z) Z zbp zg0 Z Z Z Z (by simp only [zC7,zC8]; omega) ?_
  refine zax (v:=vV id) zcl zg0 Z Z (zaL (o8.rd (i:=0) Z) (getD_some 0 (by simp only [zC7,zC8]; omega)) Z)<|a5 ?_
  refine zca Z (zd3 id kQ kQ) ?_
  rintro _ _ ⟨A9,C10,s11,o12,rfl,rfl⟩
  refine a9 ?_
  refine AtL.nil ?_
  refine zap (l:=[]) (news:=(be2 id)) 0 zav Z (Own.nil tyB 5) (o12.rd (i:=1) Z) (by first | omega | (simp only [zC6,zC7,zC8,zam]; omega) | (simp [zam]; done) | (simp [zam]; omega)) zg0 Z Z Z ?_
  intro A13 C14 s15 o16
  refine a4 ?_
  refine AtL.add (z:=1) zg0 Z Z Z kE<|a14 ?_
  refine zah 1 (o8.rd (i:=2) Z) Z zbp zg0 Z Z Z Z (by simp only [zC7,zC8]; omega) ?_
  refine zax (v:=vV flags) zcl zg0 Z Z (zaL (o8.rd (i:=2) Z) (getD_some 0 (by simp only [zC7,zC8]; omega)) Z)<|a5 ?_
  refine zca Z (zd3 flags kQ kQ) ?_
  rintro _ _ ⟨A17,C18,s19,o20,rfl,rfl⟩
  refine a9 ?_
  refine zap (l:=[]++(be2 id)) (news:=(be2 flags)) 1 zav Z o16 (o20.rd (i:=0) Z) (by first | omega | (simp only [zC6,zC7,zC8,zam]; omega) | (simp [zam]; done) | (simp [zam]; omega)) zg0 Z Z Z ?_
  intro A21 C22 s23 o24
  refine a4 ?_
  refine AtL.add (z:=2) zg0 Z Z Z kE<|a14 ?_
  refine zah 2 (o8.rd (i:=3) Z) Z zbp zg0 Z Z Z Z (by simp only [zC7,zC8]; omega) ?_
  refine zax (v:=vV (qs.length:Int)) zcl zg0 Z Z (zaL (o8.rd (i:=3) Z) (getD_some 0 (by simp only [zC7,zC8]; omega)) Z)<|a5 ?_
  refine zca Z (zd3 (qs.length:Int) kQ kQ) ?_
  rintro _ _ ⟨A25,C26,s27,o28,rfl,rfl⟩
  refine a9 ?_
  refine zap (l:=([]++(be2 id))++(be2 flags)) (news:=(be2 (qs.length:Int))) 2 zav Z o24 (o28.rd (i:=0) Z) (by first | omega | (simp only [zC6,zC7,zC8,zam]; omega) | (simp [zam]; done) | (simp [zam]; omega)) zg0 Z Z Z ?_
  intro A29 C30 s31 o32
  refine a4 ?_
  refine AtL.add (z:=3) zg0 Z Z Z kE<|a14 ?_
  refine zah 3 (o8.rd (i:=4) Z) Z zbp zg0 Z Z Z Z (by simp only [zC7,zC8]; omega) ?_
  refine zax (v:=vV (an.length:Int)) zcl zg0 Z Z (zaL (o8.rd (i:=4) Z) (getD_some 0 (by simp only [zC7,zC8]; omega)) Z)<|a5 ?_
  refine zca Z (zd3 (an.length:Int) kQ kQ) ?_
  rintro _ _ ⟨A33,C34,s35,o36,rfl,rfl⟩
  refine a9 ?_
  refine zap (l:=(([]++(be2 id))++(be2 flags))++(be2 (qs.length:Int))) (news:=(be2 (an.length:Int))) 3 zav Z o32 (o36.rd (i:=0) Z) (by first | omega | (simp only [zC6,zC7,zC8,zam]; omega) | (simp [zam]; done) | (simp [zam]; omega)) zg0 Z Z Z ?_
  intro A37 C38 s39 o40
  refine a4 ?_
  refine AtL.add (z:=4) zg0 Z Z Z kE<|a14 ?_
  refine zah 4 (o8.rd (i:=5) Z) Z zbp zg0 Z Z Z Z (by simp only [zC7,zC8]; omega) ?_
  refine zax (v:=vV (ns.length:Int)) zcl zg0 Z Z (zaL (o8.rd (i:=5) Z) (getD_some 0 (by simp only [zC7,zC8]; omega)) Z)<|a5 ?_
  refine zca Z (zd3 (ns.length:Int) kQ kQ) ?_
  rintro _ _ ⟨A41,C42,s43,o44,rfl,rfl⟩
  refine a9 ?_
  refine zap (l:=((([]++(be2 id))++(be2 flags))++(be2 (qs.length:Int)))++(be2 (an.length:Int))) (news:=(be2 (ns.length:Int))) 4 zav Z o40 (o44.rd (i:=0) Z) (by first | omega | (simp only [zC6,zC7,zC8,zam]; omega) | (simp [zam]; done) | (simp [zam]; omega)) zg0 Z Z Z ?_
  intro A45 C46 s47 o48
  refine a4 ?_
  refine AtL.add (z:=5) zg0 Z Z Z kE<|a14 ?_
  refine zah 5 (o8.rd (i:=6) Z) Z zbp zg0 Z Z Z Z (by simp only [zC7,zC8]; omega) ?_
  refine zax (v:=vV (ar.length:Int)) zcl zg0 Z Z (zaL (o8.rd (i:=6) Z) (getD_some 0 (by simp only [zC7,zC8]; omega)) Z)<|a5 ?_
  refine zca Z (zd3 (ar.length:Int) kQ kQ) ?_
  rintro _ _ ⟨A49,C50,s51,o52,rfl,rfl⟩
  refine a9 ?_
  refine zap (l:=(((([]++(be2 id))++(be2 flags))++(be2 (qs.length:Int)))++(be2 (an.length:Int)))++(be2 (ns.length:Int))) (news:=(be2 (ar.length:Int))) 5 zav Z o48 (o52.rd (i:=0) Z) (by first | omega | (simp only [zC6,zC7,zC8,zam]; omega) | (simp [zam]; done) | (simp [zam]; omega)) zg0 Z Z Z ?_
  intro A53 C54 s55 o56
  refine a4 ?_
  refine AtL.add (z:=6) zg0 Z Z Z kE<|a12 ?_
  refine zca Z zyC ?_
  rintro _ _ ⟨pb57,mb58,rfl,rfl⟩
  refine a11 ?_
  refine zpk [7,11,10,12,0,1] 13 ?_
  refine zg8 (fun (jq:Nat) (xq:Sl tyB 5) (Tq:List (yB×Int×Nat)) (mq:Nat) (eq:Int) => [(1,pB b1),(2,pB b2),(3,pB b3),(9,pB pb57),(59,.slice Aq qs.length Cq),(60,vV (qs.length:Int)),(61,vV (jq:Int))]) (fun jq xq Tq mq eq => xq.s::[(b2,.cells #[.slice xq.A xq.l.length xq.C] 31 (0,0))]::O9 b3 0::O1 b1 id flags Aq qs.length Cq Aa an.length Ca An ns.length Cn Ar ar.length Cr::O3 pb57 mb58 eq::[(mb58,mapG kyS int Tq mq)]::H) (fun jq xq Tq mq eq => (jq≤qs.length∧WAt xq.l (hdB id flags qs.length an.length ns.length ar.length) (qs.take jq) [] [] [])∧PkOk (fun _:Unit => xq.l) xq.l.length Tq∧eq≤(xq.l.length:Int)∧xq.l.length≤131600∧msgF id flags qs an ns ar=mWq xq.l (kOf Tq) (an++ns++ar) (qs.drop jq)) (fun jq xq Tq mq eq => qs.length - jq) 0 (⟨A53,C54,((((([]++(be2 id))++(be2 flags))++(be2 (qs.length:Int)))++(be2 (an.length:Int)))++(be2 (ns.length:Int)))++(be2 (ar.length:Int)),s55,o56⟩) ([]:List (yB×Int×Nat)) 0 0 (⟨⟨zDq _,WAt.begin (zja ..)⟩,PkOk.nil _ _,(by simp only [zC6,zam,zC8]; omega),(by simp only [zC6,zam,zC8]; omega),Z⟩) ⟨Z,Z,Z,Z,Z,Z,Z,trivial⟩ Z ?_
  rintro jq xq Tq mq eq ⟨⟨hjq,hwq⟩,hpq,heq,hlq,hfq⟩ ihL2
  have hcapq:=Own.cap_le xq.own
  refine a5 ?_
  refine zac Z ?_ ?_
  ·intro hc3
   try dsimp only at hc3
   refine a5 ?_
   refine zah jq (Rd.skip 6 hq) Z zfp zg0 Z Z Z Z kQ ?_
   refine zaM (n:=0) (Rd.skip 6 hq) (getD_some rD3 kQ) Z zih zg0 Z Z<|AtL.alloc zev (cs:=#[str [],vV 0,vV 0]) Z zg0 Z ?_
   intro b59
   refine a8 ?_
   refine zpk [5,6,0,1,2,3,4] 7 ?_
   refine zca Z (zCF xq.l Z kQ kQ hpq (hM.2.2.2.1 _ (zaA (l:=qs) (i:=jq) (d:=rD3) kQ))) ?_
   rintro _ _ (⟨⟨A60,C61,l62,s63,o64⟩,Tp65,mp66,ed67,han680,han681,han682,han683,han684,han686,rfl,rfl⟩ | ⟨e69,han685,han687,rfl,rfl⟩)
   ·replace han681:QAt (xq.l++l62) xq.l.length (qs.getD jq rD3) (xq.l.length + l62.length):=han681
    replace han682:l62.length≤260:=han682
    replace han683:PkOk (fun _:Unit => xq.l++l62) (xq.l.length + l62.length) Tp65:=han683
    replace han684:ed67≤(xq.l.length:Int) + (l62.length:Int):=han684
    replace han686:askW (kOf Tq) xq.l.length (qs.getD jq rD3)=some (l62,kOf Tp65):=han686
    refine a17 ?_
    refine zap (l:=xq.l) (news:=l62) 4 zav Z xq.own (o64.rd (i:=0) Z) (by first | omega | (simp only [zC6,zC7,zC8,zam]; omega) | (simp [zam]; done) | (simp [zam]; omega)) zg0 Z Z Z ?_
    intro A70 C71 s72 o73
    refine a7 ?_
    refine zpk [4,5,6,7,1,2] 8 ?_
    refine ihL2 (jq + 1) (⟨A70,C71,xq.l++l62,s72,o73⟩) Tp65 mp66 ed67 (⟨⟨by omega,(by dsimp only; rw [zcQ (d:=rD3) kQ]; exact WAt.q hwq han681)⟩,(by have h9:=han683; rw [← zC6] at h9; exact h9),by simp only [zC6]; omega,by simp only [zC6]; omega,(by dsimp only; rw [hfq,zbS (d:=rD3) kQ,zwb han686])⟩) kQ _ ?_
    exact zen
   ·refine a12 ?_
    refine zao true Z (by simp [han685])<|a6 ?_
    refine zbv Z<|zpk [3,2,0,1,4] 5 ?_
    refine zbk zcr Z Z (zeY kE) ?_
    rintro _ _ ⟨rfl,rfl⟩
    exact zaW (vs:=[.slice none 0 0,vV 3]) [] 5 Z Z Tryz.func21 Z ⟨⟨_,Z,LoadsTo.flat zb3 (Cell.own 1 0 Z Z Z)⟩,⟨_,Z,LoadsTo.flat zbw (Cell.own 0 0 Z Z Z)⟩,trivial⟩ (.inr ⟨_,kE,fun _ => (by rw [hfq,zbS (d:=rD3) kQ]; rw [zwc han687]),Z,Z⟩)
  ·intro hc3
   try dsimp only at hc3
   refine a4 ?_
   refine zpk [3,0,1,2,4,5] 6 ?_
   refine zca Z zll ?_
   rintro _ _ ⟨rfl,rfl⟩
   refine a3 ?_
   refine zcj<|a11 ?_
   refine zai (zb1 (v:=.pointer (some ⟨b1,3,none⟩)) Z Z (fun w => by kernel_rfl)) zg0 Z<|a11 ?_
   refine zpk [1,2,3,0,4,5] 6 ?_
   refine zg8 (fun (ja:Nat) (xa:Sl tyB 5) (Ta:List (yB×Int×Nat)) (ma:Nat) (ea:Int) => [(2,pB b2),(3,pB b3),(9,pB pb57),(80,.agg #[.pointer (some ⟨b1,3,none⟩),.pointer (some ⟨b1,4,none⟩),.pointer (some ⟨b1,5,none⟩)]),(81,vV 0),(86,.slice Aa an.length Ca),(87,vV (an.length:Int)),(88,vV (ja:Int))]) (fun ja xa Ta ma ea => xa.s::[(b2,.cells #[.slice xa.A xa.l.length xa.C] 31 (0,0))]::O9 b3 0::O1 b1 id flags Aq qs.length Cq Aa an.length Ca An ns.length Cn Ar ar.length Cr::O3 pb57 mb58 ea::[(mb58,mapG kyS int Ta ma)]::H) (fun ja xa Ta ma ea => (ja≤an.length∧WAt xa.l (hdB id flags qs.length an.length ns.length ar.length) qs (an.take ja) [] [])∧PkOk (fun _:Unit => xa.l) xa.l.length Ta∧ea≤(xa.l.length:Int)∧xa.l.length≤131600∧msgF id flags qs an ns ar=mWr xa.l (kOf Ta) (an.drop ja++ns++ar)) (fun ja xa Ta ma ea => an.length - ja) 0 xq Tq mq eq (⟨⟨zDq _,by rw [zDc kQ] at hwq; exact hwq⟩,hpq,heq,hlq,(by rw [hfq,zDn kQ]; rfl)⟩) ⟨Z,Z,Z,Z,Z,Z,Z,Z,trivial⟩ Z ?_
   rintro ja xa Ta ma ea ⟨⟨hja,hwa⟩,hpa,hea,hla,hfa⟩ ihL4
   have hcapa:=Own.cap_le xa.own
   refine a5 ?_
   refine zac Z ?_ ?_
   ·intro hc6
    try dsimp only at hc6
    refine a5 ?_
    refine zah ja (Rd.skip 6 ha) Z zbs zg0 Z Z Z Z kQ ?_
    refine zaM (n:=0) (Rd.skip 6 ha) (getD_some rD5 kQ) Z zbF zg0 Z Z<|AtL.alloc zbg (cs:=#[str [],vV 0,vV 0,vV 0,str []]) Z zg0 Z ?_
    intro b74
    refine a8 ?_
    refine zpk [5,6,0,1,2,3,4] 7 ?_
    refine zca Z (zgl xa.l Z kQ kQ hpa (hM.2.2.2.2.1 _ (zaA (l:=an) (i:=ja) (d:=rD5) kQ))) ?_
    rintro _ _ (⟨⟨A75,C76,l77,s78,o79⟩,Tp80,mp81,ed82,han830,han831,han832,han833,han834,han836,rfl,rfl⟩ | ⟨e84,han835,han837,rfl,rfl⟩)
    ·replace han831:RAt (xa.l++l77) xa.l.length (an.getD ja rD5) (xa.l.length + l77.length):=han831
     replace han832:l77.length≤66000:=han832
     replace han833:PkOk (fun _:Unit => xa.l++l77) (xa.l.length + l77.length) Tp80:=han833
     replace han834:ed82≤(xa.l.length:Int) + (l77.length:Int):=han834
     replace han836:recW (kOf Ta) xa.l.length (an.getD ja rD5)=some (l77,kOf Tp80):=han836
     refine a17 ?_
     refine zac Z ?_ ?_
     ·intro hc7
      try dsimp only at hc7
      refine a6 ?_
      refine zbv Z<|zpk [6,5,0,1,2,3,4,7] 8 ?_
      refine zbk zcr Z Z (zeY kE) ?_
      rintro _ _ ⟨rfl,rfl⟩
      exact zaW (vs:=[.slice none 0 0,vV 3]) (H2:=H) [] 8 Z Z Tryz.func21 Z ⟨⟨_,Z,LoadsTo.flat zb3 (Cell.own 1 0 Z Z Z)⟩,⟨_,Z,LoadsTo.flat zbw (Cell.own 0 0 Z Z Z)⟩,trivial⟩ (by exfalso; omega)
     ·intro hc7
      try dsimp only at hc7
      refine a4 ?_
      refine zap (l:=xa.l) (news:=l77) 4 zav Z xa.own (o79.rd (i:=0) Z) (by first | omega | (simp only [zC6,zC7,zC8,zam]; omega) | (simp [zam]; done) | (simp [zam]; omega)) zg0 Z Z Z ?_
      intro A85 C86 s87 o88
      refine a7 ?_
      refine zpk [4,5,6,7,1,2] 8 ?_
      refine ihL4 (ja + 1) (⟨A85,C86,xa.l++l77,s87,o88⟩) Tp80 mp81 ed82 (⟨⟨by omega,(by dsimp only; rw [zcQ (d:=rD5) kQ]; exact zCP hwa han831)⟩,(by have h9:=han833; rw [← zC6] at h9; exact h9),by simp only [zC6]; omega,by simp only [zC6]; omega,(by dsimp only; rw [hfa,zbS (d:=rD5) kQ]; rw [zDr,zDr]; rw [zlh han836])⟩) kQ _ ?_
      exact zen
    ·refine a12 ?_
     refine zaK (t:=102) Z ?_ ?_
     ·intro hs102
      have hs102:¬ ((e84:Int)=0):=zDm (zat hs102)
      refine a12 ?_
      refine zbv Z<|zpk [3,2,0,1,4] 5 ?_
      refine zbk zcr Z Z (zeY kE) ?_
      rintro _ _ ⟨rfl,rfl⟩
      exact zaW (vs:=[.slice none 0 0,vV 3]) [] 5 Z Z Tryz.func21 Z ⟨⟨_,Z,LoadsTo.flat zb3 (Cell.own 1 0 Z Z Z)⟩,⟨_,Z,LoadsTo.flat zbw (Cell.own 0 0 Z Z Z)⟩,trivial⟩ (.inr ⟨_,kE,fun _ => (by rw [hfa,zbS (d:=rD5) kQ]; rw [zDr,zDr]; rw [zli han837]),Z,Z⟩)
     ·intro hs102
      have hs102:(e84:Int)=0:=zDf (zas hs102)
      exact absurd hs102 han835
   ·intro hc6
    try dsimp only at hc6
    refine a3 ?_
    refine AtL.add (z:=1) zg0 Z Z Z kE<|a14 ?_
    refine zai (zb1 (v:=.pointer (some ⟨b1,4,none⟩)) Z Z (fun w => by kernel_rfl)) zg0 Z<|a11 ?_
    refine zg8 (fun (jn:Nat) (xn:Sl tyB 5) (Tn:List (yB×Int×Nat)) (mn:Nat) (en:Int) => [(2,pB b2),(3,pB b3),(9,pB pb57),(80,.agg #[.pointer (some ⟨b1,3,none⟩),.pointer (some ⟨b1,4,none⟩),.pointer (some ⟨b1,5,none⟩)]),(81,vV 1),(86,.slice An ns.length Cn),(87,vV (ns.length:Int)),(88,vV (jn:Int))]) (fun jn xn Tn mn en => xn.s::[(b2,.cells #[.slice xn.A xn.l.length xn.C] 31 (0,0))]::O9 b3 0::O1 b1 id flags Aq qs.length Cq Aa an.length Ca An ns.length Cn Ar ar.length Cr::O3 pb57 mb58 en::[(mb58,mapG kyS int Tn mn)]::H) (fun jn xn Tn mn en => (jn≤ns.length∧WAt xn.l (hdB id flags qs.length an.length ns.length ar.length) qs an (ns.take jn) [])∧PkOk (fun _:Unit => xn.l) xn.l.length Tn∧en≤(xn.l.length:Int)∧xn.l.length≤131600∧msgF id flags qs an ns ar=mWr xn.l (kOf Tn) (ns.drop jn++ar)) (fun jn xn Tn mn en => ns.length - jn) 0 xa Ta ma ea (⟨⟨zDq _,by rw [zDc kQ] at hwa; exact hwa⟩,hpa,hea,hla,(by rw [hfa,zDn kQ]; rfl)⟩) ⟨Z,Z,Z,Z,Z,Z,Z,Z,trivial⟩ Z ?_
    rintro jn xn Tn mn en ⟨⟨hjn,hwn⟩,hpn,hen,hln,hfn⟩ ihL4
    have hcapn:=Own.cap_le xn.own
    refine a5 ?_
    refine zac Z ?_ ?_
    ·intro hc6
     try dsimp only at hc6
     refine a5 ?_
     refine zah jn (Rd.skip 6 hn) Z zbs zg0 Z Z Z Z kQ ?_
     refine zaM (n:=0) (Rd.skip 6 hn) (getD_some rD5 kQ) Z zbF zg0 Z Z<|AtL.alloc zbg (cs:=#[str [],vV 0,vV 0,vV 0,str []]) Z zg0 Z ?_
     intro b89
     refine a8 ?_
     refine zpk [5,6,0,1,2,3,4] 7 ?_
     refine zca Z (zgl xn.l Z kQ kQ hpn (hM.2.2.2.2.2.1 _ (zaA (l:=ns) (i:=jn) (d:=rD5) kQ))) ?_
     rintro _ _ (⟨⟨A90,C91,l92,s93,o94⟩,Tp95,mp96,ed97,han980,han981,han982,han983,han984,han986,rfl,rfl⟩ | ⟨e99,han985,han987,rfl,rfl⟩)
     ·replace han981:RAt (xn.l++l92) xn.l.length (ns.getD jn rD5) (xn.l.length + l92.length):=han981
      replace han982:l92.length≤66000:=han982
      replace han983:PkOk (fun _:Unit => xn.l++l92) (xn.l.length + l92.length) Tp95:=han983
      replace han984:ed97≤(xn.l.length:Int) + (l92.length:Int):=han984
      replace han986:recW (kOf Tn) xn.l.length (ns.getD jn rD5)=some (l92,kOf Tp95):=han986
      refine a17 ?_
      refine zac Z ?_ ?_
      ·intro hc7
       try dsimp only at hc7
       refine a6 ?_
       refine zbv Z<|zpk [6,5,0,1,2,3,4,7] 8 ?_
       refine zbk zcr Z Z (zeY kE) ?_
       rintro _ _ ⟨rfl,rfl⟩
       exact zaW (vs:=[.slice none 0 0,vV 3]) (H2:=H) [] 8 Z Z Tryz.func21 Z ⟨⟨_,Z,LoadsTo.flat zb3 (Cell.own 1 0 Z Z Z)⟩,⟨_,Z,LoadsTo.flat zbw (Cell.own 0 0 Z Z Z)⟩,trivial⟩ (by exfalso; omega)
      ·intro hc7
       try dsimp only at hc7
       refine a4 ?_
       refine zap (l:=xn.l) (news:=l92) 4 zav Z xn.own (o94.rd (i:=0) Z) (by first | omega | (simp only [zC6,zC7,zC8,zam]; omega) | (simp [zam]; done) | (simp [zam]; omega)) zg0 Z Z Z ?_
       intro A100 C101 s102 o103
       refine a7 ?_
       refine zpk [4,5,6,7,1,2] 8 ?_
       refine ihL4 (jn + 1) (⟨A100,C101,xn.l++l92,s102,o103⟩) Tp95 mp96 ed97 (⟨⟨by omega,(by dsimp only; rw [zcQ (d:=rD5) kQ]; exact zCN hwn han981)⟩,(by have h9:=han983; rw [← zC6] at h9; exact h9),by simp only [zC6]; omega,by simp only [zC6]; omega,(by dsimp only; rw [hfn,zbS (d:=rD5) kQ]; rw [zDr]; rw [zlh han986])⟩) kQ _ ?_
       exact zen
     ·refine a12 ?_
      refine zaK (t:=102) Z ?_ ?_
      ·intro hs102
       have hs102:¬ ((e99:Int)=0):=zDm (zat hs102)
       refine a12 ?_
       refine zbv Z<|zpk [3,2,0,1,4] 5 ?_
       refine zbk zcr Z Z (zeY kE) ?_
       rintro _ _ ⟨rfl,rfl⟩
       exact zaW (vs:=[.slice none 0 0,vV 3]) [] 5 Z Z Tryz.func21 Z ⟨⟨_,Z,LoadsTo.flat zb3 (Cell.own 1 0 Z Z Z)⟩,⟨_,Z,LoadsTo.flat zbw (Cell.own 0 0 Z Z Z)⟩,trivial⟩ (.inr ⟨_,kE,fun _ => (by rw [hfn,zbS (d:=rD5) kQ]; rw [zDr]; rw [zli han987]),Z,Z⟩)
      ·intro hs102
       have hs102:(e99:Int)=0:=zDf (zas hs102)
       exact absurd hs102 han985
    ·intro hc6
     try dsimp only at hc6
     refine a3 ?_
     refine AtL.add (z:=2) zg0 Z Z Z kE<|a14 ?_
     refine zai (zb1 (v:=.pointer (some ⟨b1,5,none⟩)) Z Z (fun w => by kernel_rfl)) zg0 Z<|a11 ?_
     refine zg8 (fun (jr:Nat) (xr:Sl tyB 5) (Tr:List (yB×Int×Nat)) (mr:Nat) (er:Int) => [(2,pB b2),(3,pB b3),(9,pB pb57),(80,.agg #[.pointer (some ⟨b1,3,none⟩),.pointer (some ⟨b1,4,none⟩),.pointer (some ⟨b1,5,none⟩)]),(81,vV 2),(86,.slice Ar ar.length Cr),(87,vV (ar.length:Int)),(88,vV (jr:Int))]) (fun jr xr Tr mr er => xr.s::[(b2,.cells #[.slice xr.A xr.l.length xr.C] 31 (0,0))]::O9 b3 0::O1 b1 id flags Aq qs.length Cq Aa an.length Ca An ns.length Cn Ar ar.length Cr::O3 pb57 mb58 er::[(mb58,mapG kyS int Tr mr)]::H) (fun jr xr Tr mr er => (jr≤ar.length∧WAt xr.l (hdB id flags qs.length an.length ns.length ar.length) qs an ns (ar.take jr))∧PkOk (fun _:Unit => xr.l) xr.l.length Tr∧er≤(xr.l.length:Int)∧xr.l.length≤131600∧msgF id flags qs an ns ar=mWr xr.l (kOf Tr) (ar.drop jr)) (fun jr xr Tr mr er => ar.length - jr) 0 xn Tn mn en (⟨⟨zDq _,by rw [zDc kQ] at hwn; exact hwn⟩,hpn,hen,hln,(by rw [hfn,zDn kQ]; rfl)⟩) ⟨Z,Z,Z,Z,Z,Z,Z,Z,trivial⟩ Z ?_
     rintro jr xr Tr mr er ⟨⟨hjr,hwr⟩,hpr,her,hlr,hfr⟩ ihL4
     have hcapr:=Own.cap_le xr.own
     refine a5 ?_
     refine zac Z ?_ ?_
     ·intro hc6
      try dsimp only at hc6
      refine a5 ?_
      refine zah jr (Rd.skip 6 hr) Z zbs zg0 Z Z Z Z kQ ?_
      refine zaM (n:=0) (Rd.skip 6 hr) (getD_some rD5 kQ) Z zbF zg0 Z Z<|AtL.alloc zbg (cs:=#[str [],vV 0,vV 0,vV 0,str []]) Z zg0 Z ?_
      intro b104
      refine a8 ?_
      refine zpk [5,6,0,1,2,3,4] 7 ?_
      refine zca Z (zgl xr.l Z kQ kQ hpr (hM.2.2.2.2.2.2 _ (zaA (l:=ar) (i:=jr) (d:=rD5) kQ))) ?_
      rintro _ _ (⟨⟨A105,C106,l107,s108,o109⟩,Tp110,mp111,ed112,han1130,han1131,han1132,han1133,han1134,han1136,rfl,rfl⟩ | ⟨e114,han1135,han1137,rfl,rfl⟩)
      ·replace han1131:RAt (xr.l++l107) xr.l.length (ar.getD jr rD5) (xr.l.length + l107.length):=han1131
       replace han1132:l107.length≤66000:=han1132
       replace han1133:PkOk (fun _:Unit => xr.l++l107) (xr.l.length + l107.length) Tp110:=han1133
       replace han1134:ed112≤(xr.l.length:Int) + (l107.length:Int):=han1134
       replace han1136:recW (kOf Tr) xr.l.length (ar.getD jr rD5)=some (l107,kOf Tp110):=han1136
       refine a17 ?_
       refine zac Z ?_ ?_
       ·intro hc7
        try dsimp only at hc7
        refine a6 ?_
        refine zbv Z<|zpk [6,5,0,1,2,3,4,7] 8 ?_
        refine zbk zcr Z Z (zeY kE) ?_
        rintro _ _ ⟨rfl,rfl⟩
        exact zaW (vs:=[.slice none 0 0,vV 3]) (H2:=H) [] 8 Z Z Tryz.func21 Z ⟨⟨_,Z,LoadsTo.flat zb3 (Cell.own 1 0 Z Z Z)⟩,⟨_,Z,LoadsTo.flat zbw (Cell.own 0 0 Z Z Z)⟩,trivial⟩ (by exfalso; omega)
       ·intro hc7
        try dsimp only at hc7
        refine a4 ?_
        refine zap (l:=xr.l) (news:=l107) 4 zav Z xr.own (o109.rd (i:=0) Z) (by first | omega | (simp only [zC6,zC7,zC8,zam]; omega) | (simp [zam]; done) | (simp [zam]; omega)) zg0 Z Z Z ?_
        intro A115 C116 s117 o118
        refine a7 ?_
        refine zpk [4,5,6,7,1,2] 8 ?_
        refine ihL4 (jr + 1) (⟨A115,C116,xr.l++l107,s117,o118⟩) Tp110 mp111 ed112 (⟨⟨by omega,(by dsimp only; rw [zcQ (d:=rD5) kQ]; exact zCO hwr han1131)⟩,(by have h9:=han1133; rw [← zC6] at h9; exact h9),by simp only [zC6]; omega,by simp only [zC6]; omega,(by dsimp only; rw [hfr,zbS (d:=rD5) kQ]; rw [zlh han1136])⟩) kQ _ ?_
        exact zen
      ·refine a12 ?_
       refine zaK (t:=102) Z ?_ ?_
       ·intro hs102
        have hs102:¬ ((e114:Int)=0):=zDm (zat hs102)
        refine a12 ?_
        refine zbv Z<|zpk [3,2,0,1,4] 5 ?_
        refine zbk zcr Z Z (zeY kE) ?_
        rintro _ _ ⟨rfl,rfl⟩
        exact zaW (vs:=[.slice none 0 0,vV 3]) [] 5 Z Z Tryz.func21 Z ⟨⟨_,Z,LoadsTo.flat zb3 (Cell.own 1 0 Z Z Z)⟩,⟨_,Z,LoadsTo.flat zbw (Cell.own 0 0 Z Z Z)⟩,trivial⟩ (.inr ⟨_,kE,fun _ => (by rw [hfr,zbS (d:=rD5) kQ]; rw [zli han1137]),Z,Z⟩)
       ·intro hs102
        have hs102:(e114:Int)=0:=zDf (zas hs102)
        exact absurd hs102 han1135
     ·intro hc6
      try dsimp only at hc6
      refine a3 ?_
      refine AtL.add (z:=3) zg0 Z Z Z kE<|a17 ?_
      refine zac Z ?_ ?_
      ·intro hc8
       try dsimp only at hc8
       refine a6 ?_
       refine zbv Z<|zpk [2,1,0,3,4,5] 6 ?_
       refine zbk zcr Z Z (zeY kE) ?_
       rintro _ _ ⟨rfl,rfl⟩
       exact zaW (vs:=[.slice none 0 0,vV 3]) [] 6 Z Z Tryz.func21 Z ⟨⟨_,Z,LoadsTo.flat zb3 (Cell.own 1 0 Z Z Z)⟩,⟨_,Z,LoadsTo.flat zbw (Cell.own 0 0 Z Z Z)⟩,trivial⟩ (.inr ⟨_,kE,fun _ => (by rw [hfr,zDn kQ,mWr,zDb kQ]),Z,Z⟩)
      ·intro hc8
       try dsimp only at hc8
       refine a7 ?_
       refine zbv Z<|zpk [2,1,0,3,4,5] 6 ?_
       refine zbk zcr Z Z zBS ?_
       rintro _ _ ⟨rfl,rfl⟩
       exact zaW (vs:=[.slice xr.A xr.l.length xr.C,vV 0]) [2] 6 Z Z Tryz.func21 Z ⟨⟨_,Z,LoadsTo.flat zb3 (Cell.own 1 0 Z Z Z)⟩,⟨_,Z,LoadsTo.flat zbw (Cell.own 0 0 Z Z Z)⟩,trivial⟩ (.inl ⟨xr,hM,WAt.done (by rw [zDc kQ] at hwr; exact hwr) kQ,(by rw [hfr,zDn kQ,mWr,zDi kQ]),Z,Z⟩)
theorem zyP {i:Nat}(hi:H[i]? = some []):H.set i []=H:=by
 apply zDV
 grind
section
variable {X:Pt}{E:Env}{H:List Seg}
theorem zq5 {T:Ty α}{t e:TypeId}{z:α}{by_:Nat}{x y:Operand}{A2:Option Addr}{C2:Nat}{l news:List α}(i:Nat) (hT:ElemOk X.P t e T z by_) (hi:H[i]? = some s) (ho:Own T e A C l s) (hr:Rd T X.w0 X.base H A2 C2 news) (hroom:l.length + news.length≤C) (hx:ev E x=some (.slice A l.length C)) (hy:ev E y=some (.slice A2 news.length C2)):Does X E H (.call ⟨.builtin .append,#[x,y],#[t,t]⟩) (fun v H' => ∃ s',Own T e A C (l++news) s'∧v = .slice A (l++news).length C∧H' = H.set i s') :=
 zaq Z (fun dst ty pos after g ρ w hρ S => by
  obtain ⟨io,hio,hsz,hby,hz⟩:=hT.info
  have hf:(Builtin.firstCells T.sz news.length (.slice A2 news.length C2)).run X.P w = .ok (T.cells news).toArray w:=by
   have:=hr.first (P:=X.P) S news.length (zDe _); grind
  have h0:(Builtin.lenOf (.slice A2 news.length C2)).run X.P w = .ok news.length w:=by simp [Builtin.lenOf]
  obtain ⟨r,rfl,h⟩:=ho
  rcases h with ⟨rfl,rfl,rfl,rfl⟩ | ⟨gb,pre,post,fr,rfl,rfl,hfo,hc⟩
  ·have hn:news=[]:=zDk (by grind)
   subst hn
   refine ⟨_,w,H,?_,S,[],Own.nil T e,Z,(zyP hi).symm⟩
   simp at h0 hf
   simp [execOp,resolve,invoke,builtin,hρ _ _ hx,hρ _ _ hy,Builtin.append_,run_underlying hT.u,sizeOf,typeInfo,hio,hsz,h0,hf]
  ·have hrn:news.length≤r.length:=by omega
   have hblk:=(S.at_ hi (j:=0) rfl).1
   have hst:=za6 X.P gb (pre.length * T.sz + l.length * T.sz) e fr (T.cells news) 0 _ w hblk (fun j h1 h2 => hfo j (by
     rw [zaC] at h2
     simp only [zC6]
     have:(pre.length + l.length + r.length + post.length) * T.sz=pre.length * T.sz + l.length * T.sz + r.length * T.sz + post.length * T.sz:=by grind
     rw [this]
     have:=zDD T.sz hrn
     omega)) (by
     simp only [zEI,zaC,zC6,zEk]
     have:=zDD T.sz hrn
     omega) zep
   have ecut:((T.cells (pre++l++r++post)).take (pre.length * T.sz + l.length * T.sz)++T.cells news++(T.cells (pre++l++r++post)).drop (pre.length * T.sz + l.length * T.sz + (T.cells news).length))=T.cells (pre++(l++news)++r.drop news.length++post):=by
    have h1:pre.length * T.sz + l.length * T.sz=(pre++l).length * T.sz:=by grind
    have h2:(pre++l).length * T.sz + (T.cells news).length=((pre++l).length + news.length) * T.sz:=by rw [zaC,zEk]
    rw [h1,h2,← zcY _ _ (by grind),← zdw _ _ (by grind),← zaX,← zaX]
    congr 1
    rw [zDg (pre++l) r post,zEA,zFg,zDn kQ,zDG,zEK]
    grind
   refine ⟨_,_,_,?_,S.setRow hi (j:=0) Z _,[(gb,.cells (T.cells (pre++(l++news)++r.drop news.length++post)).toArray e fr)],⟨r.drop news.length,by grind,.inr ⟨gb,pre,post,fr,Z,Z,?_,by grind⟩⟩,Z,Z⟩
   ·simp only [zDZ] at hst
    rw [ecut] at hst
    have hst' : (storeCells ⟨gb,pre.length * T.sz + l.length * T.sz,none⟩ (T.cells news)).run X.P w=_:=hst
    simp [execOp,resolve,invoke,builtin,hρ _ _ hx,hρ _ _ hy,Builtin.append_,run_underlying hT.u,sizeOf,typeInfo,hio,hsz,h0,hf,hrn,zaO,hst']
   grind)
theorem zne {T:Ty α}{t e:TypeId}{z:α}{by_ C2:Nat}{x:Operand}{A':Option Addr}{l:List α}(i:Nat) (hT:ElemOk X.P t e T z by_) (hi:H[i]? = some s) (ho:Own T e A C l s) (hA' : A' = (if C=l.length then A else A.map (·.add (l.length * T.sz)))) (hn:l.length + n≤C) (hx:ev E x=some (.slice A' n C2)):Does X E H (.call ⟨.builtin .clear,#[x],#[t]⟩) (fun v H' => ∃ s',Own T e A C l s'∧v = .tuple #[]∧H' = H.set i s') :=
 zaq Z (fun dst ty pos after g ρ w hρ S => by
  obtain ⟨io,hio,hsz,hby,hz⟩:=hT.info
  have hsame:H.set i s=H:=by
   apply zDV
   grind
  cases n with
  | zero =>
   refine ⟨_,w,H,?_,S,s,ho,Z,hsame.symm⟩
   cases A' <;> simp [execOp,resolve,invoke,builtin,hρ _ _ hx,Builtin.clear_,run_underlying hT.u]
  | succ n =>
   obtain ⟨r,rfl,h⟩:=ho
   have hA2:A' = A.map (·.add (l.length * T.sz)):=by grind
   cases A with
   | none =>
    rcases h with ⟨_,rfl,rfl,_⟩ | ⟨_,_,_,_,h,_⟩
    ·grind
    grind
   | some a =>
    have h2:OwnR T e (some a) (l++r) [] s:=by
     rcases h with ⟨h,_⟩ | ⟨g,pre,post,fr,h1,h2,h3,h4⟩
     ·cases h
     ·exact .inr ⟨g,pre,post,fr,h1,by grind,by grind,by grind⟩
    obtain ⟨s',w',hst,ho',S'⟩:=h2.over (P:=X.P) S hi rfl l.length (List.replicate (n + 1) z) (by grind)
    have e1:(l++r).take l.length++List.replicate (n + 1) z++(l++r).drop (l.length + (List.replicate (n + 1) z).length)=l++(List.replicate (n + 1) z++r.drop (n + 1)):=by
     simp_all
    rw [e1] at ho'
    have h3:OwnR T e (some a) l (List.replicate (n + 1) z++r.drop (n + 1)) s':=by
     rcases ho' with ⟨h,_⟩ | ⟨g,pre,post,fr,h1,h2,h3,h4⟩
     ·cases h
     ·exact .inr ⟨g,pre,post,fr,h1,by grind,by grind,by grind⟩
    refine ⟨_,w',_,?_,S',s',⟨_,?_,h3⟩,Z,Z⟩
    ·have ez:(Builtin.zeroCells (T.val z).cells (n + 1)).toList=T.cells (List.replicate (n + 1) z):=by
      rw [zbW,zee]
     subst hA2
     simp [execOp,resolve,invoke,builtin,hρ _ _ hx,Builtin.clear_,run_underlying hT.u,zeroValue,typeInfo,hio,hz,ez,hst]
    grind)
end
theorem zrh (x:Rc5) :
  SCalls Tryz.prog 83 [.agg #[str x.1,vV x.2.1,vV x.2.2.1,vV x.2.2.2.1,str x.2.2.2.2]] w0 base (H) (fun v H' => v = .bool (decide (x.2.1=41))∧H' = H):=by
 refine zaa (n:=6) Tryz.func83 Z Z Z fun cs => ?_
 refine a2 ?_
 refine zaU (cs:=#[str x.1,vV x.2.1,vV x.2.2.1,vV x.2.2.2.1,str x.2.2.2.2]) Z zg0 Z Z ?_
 intro b1
 refine a9 ?_
 refine zpk [] 1 ?_
 exact zad Tryz.func83 Z Z (⟨Z,Z⟩)
theorem zvf (x:Rc5) :
  SCalls Tryz.prog 82 [.agg #[str x.1,vV x.2.1,vV x.2.2.1,vV x.2.2.2.1,str x.2.2.2.2]] w0 base (H) (fun v H' => v = .bool (!decide (x.2.1=41))∧H' = H):=by
 refine zaa (n:=6) Tryz.func82 Z Z Z fun cs => ?_
 refine a2 ?_
 refine zaU (cs:=#[str x.1,vV x.2.1,vV x.2.2.1,vV x.2.2.2.1,str x.2.2.2.2]) Z zg0 Z Z ?_
 intro b1
 refine a5 ?_
 refine zca Z (zrh ((x.1,x.2.1,x.2.2.1,x.2.2.2.1,x.2.2.2.2):Rc5)) ?_
 rintro _ _ ⟨rfl,rfl⟩
 refine a3 ?_
 refine zpk [] 1 ?_
 exact zad Tryz.func82 Z Z (⟨Z,Z⟩)
theorem zvo (x:Rc5) :
  SCalls Tryz.prog 84 [.agg #[str x.1,vV x.2.1,vV x.2.2.1,vV x.2.2.2.1,str x.2.2.2.2]] w0 base (H) (fun v H' => v = .bool true∧H' = H):=by
 refine zaa (n:=3) Tryz.func84 Z Z Z fun cs => ?_
 refine a2 ?_
 refine zaU (cs:=#[str x.1,vV x.2.1,vV x.2.2.1,vV x.2.2.2.1,str x.2.2.2.2]) Z zg0 Z Z ?_
 intro b1
 refine a6 ?_
 refine zpk [] 1 ?_
 exact zad Tryz.func84 Z Z (⟨Z,Z⟩)
theorem zvn (x:Rc5) :
  SCalls Tryz.prog 85 [.agg #[str x.1,vV x.2.1,vV x.2.2.1,vV x.2.2.2.1,str x.2.2.2.2]] w0 base (H) (fun v H' => v = .bool true∧H' = H):=by
 refine zaa (n:=3) Tryz.func85 Z Z Z fun cs => ?_
 refine a2 ?_
 refine zaU (cs:=#[str x.1,vV x.2.1,vV x.2.2.1,vV x.2.2.2.1,str x.2.2.2.2]) Z zg0 Z Z ?_
 intro b1
 refine a6 ?_
 refine zpk [] 1 ?_
 exact zad Tryz.func85 Z Z (⟨Z,Z⟩)
theorem zgK (h:Rd tyRec w0 base H A C l) (hl:l.length≤65535) :
  SCalls Tryz.prog 154 [.slice A l.length C] w0 base (H) (fun v H' => ∃ x:Sl tyRec 51,x.l=l∧v = .slice x.A x.l.length x.C∧H' = x.s::H):=by
 refine zaa (n:=8) Tryz.func154 Z Z Z fun cs => ?_
 refine a8 ?_
 refine zcy Z zg0 Z Z Z<|a1 ?_
 refine zaT Z ?_ ?_
 ·intro hc1
  have hc1:A.isNone=true:=hc1
  have hA:A=none:=by simpa using hc1
  have hl0:l=[]:=zDk (by have:=h.le; have:=h.nil hA; omega)
  refine a4 ?_
  refine At.nil ?_
  exact zad Tryz.func154 Z Z (⟨Sl.nil,hl0.symm,Z,Z⟩)
 ·intro hc1
  have hc1:A.isNone=false:=hc1
  refine a3 ?_
  refine zae (cs:=[]) Z zbg zbs Z Z zg0 Z Z Z ?_
  intro b1
  refine zau tyRec (l:=([]:List (yB×Int×Int×Int×yB))) Z Z kT ?_
  intro s2 o3
  refine a1 ?_
  refine zap (l:=[]) (news:=l) 0 zhd Z o3 (Rd.skip 1 h) (by first | omega | (simp only [zC6,zC7,zC8]; omega) | (simp; done) | (simp; omega)) zg0 Z Z Z ?_
  intro A4 C5 s6 o7
  refine a2 ?_
  exact zad Tryz.func154 Z Z (⟨⟨A4,C5,[]++l,s6,o7⟩,Z,Z,Z⟩)
theorem zqn (i:Nat) (q:Own tyRec 51 A C l s) (hi:i < l.length) :
  SCalls Tryz.prog 155 [.slice A l.length C,vV (i:Int),vV ((i:Int) + 1)] w0 base (s::H) (fun v H' => ∃ x:Sl tyRec 51,x.l=l.take i++l.drop (i + 1)∧v = .slice x.A x.l.length x.C∧H' = x.s::H):=by
 have hcap0:=q.cap_le
 have hlc0:=q.le_cap
 refine zaa (n:=33) Tryz.func155 Z Z Z fun cs => ?_
 refine a11 ?_
 have hleo3:=Own.le_cap q
 refine zgc i (i + 1) l.length q (zab Z Z) (zab Z Z) (zab Z Z) (fun _ => Z) kQ kQ kQ kQ Z zbs zg0 Z Z ?_
 intro A1 C2 o3
 clear hleo3
 have hlo3:(subl l i (i + 1)).length=(i + 1) - i:=zal kQ
 refine a8 ?_
 refine zao false Z kP<|a8 ?_
 have hleo6:=Own.le_cap q
 obtain ⟨A4,eA4⟩:∃ A4:Option Addr,A4=(if C=0 then A else Option.map (fun a => a.add (0 * tyRec.sz)) A):=⟨_,rfl⟩
 obtain ⟨C5,eC5⟩:∃ C5:Nat,C5=C - 0:=⟨_,rfl⟩
 have o6:Own tyRec 51 A4 C5 (subl l 0 i) s:=by rw [eA4,eC5]; exact Own.cut q kQ kQ kQ kQ
 have hleo9:=Own.le_cap q
 obtain ⟨A7,eA7⟩:∃ A7:Option Addr,A7=(if C=(i + 1) then A else Option.map (fun a => a.add ((i + 1) * tyRec.sz)) A):=⟨_,rfl⟩
 obtain ⟨C8,eC8⟩:∃ C8:Nat,C8=C - (i + 1):=⟨_,rfl⟩
 have o9:Own tyRec 51 A7 C8 (subl l (i + 1) l.length) s:=by rw [eA7,eC8]; exact Own.cut q kQ kQ kQ kQ
 refine zaN (es:=[6]) (pv:=[(0,.slice A l.length C),(1,vV (i:Int)),(2,.slice A4 (subl l 0 i).length C5),(3,.slice A l.length C),(4,vV ((i:Int) + 1)),(5,.slice A7 (subl l (i + 1) l.length).length C8)]) zaz kW kW kW ?_
 refine ⟨zj2<|⟨zpr Z Z Z (zaZ (T:=tyRec) (l:=l) 0 i C Z (zab Z Z) Z (by intro h; cases h) kQ kQ (zDe _) Z zbs Z eA4 (zal (l:=l) (i:=0) (j:=i) kQ) eC5),zj2<|⟨zpr Z Z Z (zaZ (T:=tyRec) (l:=l) (i + 1) l.length C (zab Z Z) Z Z (by intro h; cases h) kQ kQ (zDe _) Z zbs Z eA7 (zal (l:=l) (i:=(i + 1)) (j:=l.length) kQ) eC8),trivial⟩⟩,Z,Z,by kernel_rfl,_,Z,Z,Z,_,zq5 (l:=subl l 0 i) (news:=subl l (i + 1) l.length) 0 zhd Z o6 (o9.rd (i:=0) Z) (by simp only [subl,zDs,zDK,zFe]; omega) Z Z,?_⟩
 rintro _ _ ⟨s12,o13,rfl,rfl⟩
 refine ⟨[(7,.slice A4 ((subl l 0 i)++(subl l (i + 1) l.length)).length C5)],Z,?_⟩
 refine ⟨zjz<|zk4<|zjk<|zjk<|trivial,by kernel_rfl,?_⟩
 refine At.mono (E':=[(0,.slice A4 ((subl l 0 i)++(subl l (i + 1) l.length)).length C5),(7,vV (l.length:Int))]) ⟨Z,Z,trivial⟩<|a1 ?_
 have hl9:(subl l 0 i++subl l (i + 1) l.length).length=l.length - 1:=by simp [subl]; omega
 refine a5 ?_
 have hleA18:=Own.le_cap o13
 obtain ⟨A18,eA18⟩:∃ A18:Option Addr,A18=(if C5=((subl l 0 i)++(subl l (i + 1) l.length)).length then A4 else Option.map (fun a => a.add (((subl l 0 i)++(subl l (i + 1) l.length)).length * tyRec.sz)) A4):=⟨_,rfl⟩
 obtain ⟨C19,eC19⟩:∃ C19:Nat,C19=C5 - ((subl l 0 i)++(subl l (i + 1) l.length)).length:=⟨_,rfl⟩
 refine zai (zaZ (T:=tyRec) (l:=(subl l 0 i)++(subl l (i + 1) l.length)) (n':=l.length - (subl l 0 i++subl l (i + 1) l.length).length) ((subl l 0 i)++(subl l (i + 1) l.length)).length l.length C5 (zab Z Z) (zab Z Z) Z (by intro h; cases h) kQ kQ (zDe _) Z zbs Z eA18 kQ eC19) zg0 Z ?_
 refine AtL.of (zne (l:=(subl l 0 i)++(subl l (i + 1) l.length)) 0 zhd Z o13 eA18 kQ Z) zg0 Z ?_
 rintro _ _ ⟨s20,o21,rfl,rfl⟩
 refine a6 ?_
 exact zad Tryz.func155 Z Z (⟨⟨A4,C5,(subl l 0 i)++(subl l (i + 1) l.length),s20,o21⟩,(by simp [subl]; exact zDc kY),Z,Z⟩)
def zag (p:Rc5→Bool):List Rc5→Nat→List Rc5×Nat
 | [],n => ([],n)
 | x::l,n => if p x=true∧0 < (zag p l n).2 then ((zag p l n).1,(zag p l n).2 - 1) else (x::(zag p l n).1,(zag p l n).2)
theorem zbZ (p:Rc5→Bool):∀ (l:List Rc5) (n:Nat),(zag p l n).2≤n
 | [],n => zDe _
 | x::l,n => by
  have:=zbZ p l n
  unfold zag; split <;> simp only <;> omega
theorem za9 (p:Rc5→Bool):∀ (l:List Rc5) (n:Nat),(zag p l n).1.Sublist l
 | [],n => List.Sublist.refl _
 | x::l,n => by
  have:=za9 p l n
  unfold zag; split
  ·exact this.cons _
  ·exact this.cons_cons _
theorem zcW (p:Rc5→Bool):∀ (l:List Rc5) (n:Nat),(zag p l n).1.length + n=l.length + (zag p l n).2
 | [],n => rfl
 | x::l,n => by
  have h1:=zcW p l n; have h2:=zbZ p l n
  unfold zag; split
  ·rename_i h; simp only [zC7]; omega
  ·simp only [zC7]; omega
theorem zfI (p:Rc5→Bool):∀ (l:List Rc5) (n:Nat),0 < (zag p l n).2→∀ x ∈ (zag p l n).1,p x=false
 | [],n,_,x,h => by cases h
 | y::l,n,h0,x,h => by
  have ih:=zfI p l n
  unfold zag at h h0
  grind
theorem zkz (p:Rc5→Bool):∀ (l r:List Rc5) (n:Nat),(zag p r n).2=0→zag p (l++r) n=(l++(zag p r n).1,0)
 | [],r,n,h => by rw [zDG,zDG,← h]
 | x::l,r,n,h => by
  have ih:=zkz p l r n h
  rw [zDr,zag,ih]
  simp
theorem zpC (p:Rc5→Bool) (hk:k < l.length) (n:Nat):zag p (l.drop k) n=if p (l.getD k d)=true∧0 < (zag p (l.drop (k + 1)) n).2 then ((zag p (l.drop (k + 1)) n).1,(zag p (l.drop (k + 1)) n).2 - 1) else (l.getD k d::(zag p (l.drop (k + 1)) n).1,(zag p (l.drop (k + 1)) n).2):=by
 grind [zbS,zag]
theorem zw0 {r:List Rc5}(hk:k < l.length):(l.take (k + 1)++r).take k++(l.take (k + 1)++r).drop (k + 1)=l.take k++r:=by
 grind
theorem ztO {r:List Rc5}(hk:k < l.length):l.take (k + 1)++r=l.take k++l.getD k d::r:=by
 grind [zcQ,List.append_assoc]
theorem zg1 {p:Rc5→Bool}(h0:0 < k) (hk:k≤l.length) (hy:y=l.take k++(zag p (l.drop k) n).1) (hn:nn=(zag p (l.drop k) n).2) (hp:p (y.getD (k - 1) d)=true) (h1:0 < nn) :
  y.take (k - 1)++y.drop (k - 1 + 1)=l.take (k - 1)++(zag p (l.drop (k - 1)) n).1∧nn - 1=(zag p (l.drop (k - 1)) n).2:=by
 obtain ⟨j,rfl⟩:∃ j,k=j + 1:=⟨k - 1,by omega⟩
 simp only [Nat.add_sub_cancel] at *
 subst hy; subst hn
 have e:(l.take (j + 1)++(zag p (l.drop (j + 1)) n).1).getD j d=l.getD j d:=by
  grind
 rw [e] at hp
 rw [zw0 kQ,zpC p (k:=j) (d:=d) kQ n,zDi ⟨hp,h1⟩]
 grind
theorem zcK {p:Rc5→Bool}(h0:0 < k) (hk:k≤l.length) (hy:y=l.take k++(zag p (l.drop k) n).1) (hn:nn=(zag p (l.drop k) n).2) (hp:p (y.getD (k - 1) d)=false) :
  y=l.take (k - 1)++(zag p (l.drop (k - 1)) n).1∧nn=(zag p (l.drop (k - 1)) n).2:=by
 obtain ⟨j,rfl⟩:∃ j,k=j + 1:=⟨k - 1,by omega⟩
 simp only [Nat.add_sub_cancel] at *
 subst hy; subst hn
 have e:(l.take (j + 1)++(zag p (l.drop (j + 1)) n).1).getD j d=l.getD j d:=by
  grind
 rw [e] at hp
 rw [zpC p (k:=j) (d:=d) kQ n,zDb (by grind),ztO (d:=d) kQ]
 grind
theorem zdm {p:Rc5→Bool}(hk:k≤l.length) (hy:y=l.take k++(zag p (l.drop k) n).1) (hn:nn=(zag p (l.drop k) n).2) (h:k=0∨nn=0):y=(zag p l n).1∧nn=(zag p l n).2:=by
 rcases h with rfl | rfl
 ·grind
 ·have:=zkz p (l.take k) (l.drop k) n hn.symm
  simp_all
theorem zeU {z z2:Int}(i:Nat) (q:Own tyRec 51 A C l s) (hi:i < l.length) (hz:z=i) (hz2:z2=i + 1) :
  SCalls Tryz.prog 155 [.slice A l.length C,vV z,vV z2] w0 base (s::H) (fun v H' => ∃ x:Sl tyRec 51,x.l=l.take i++l.drop (i + 1)∧v = .slice x.A x.l.length x.C∧H' = x.s::H):=by
 simp_all [zqn]
def poD:Rc5→Bool:=fun x => decide (x.2.1=41)
theorem zpB (h:Rd tyRec w0 base H A C l) (hl:l.length≤65535) (hn:n≤262140) :
  SCalls Tryz.prog 86 [.pointer (some ⟨m,5,none⟩),vV (n:Int),.func (.func 83) #[] #[]] w0 base ([(m,.cells #[c0,c1,c2,c3,c4,.slice A l.length C] 25 (0,0))]::H) (fun v H' => ∃ x:Sl tyRec 51,x.l=(zag poD l n).1∧v=int ((zag poD l n).2:Nat)∧H' = x.s::[(m,.cells #[c0,c1,c2,c3,c4,.slice x.A x.l.length x.C] 25 (0,0))]::H):=by
 refine zaa (n:=41) Tryz.func86 Z Z Z fun cs => ?_
 refine a9 ?_
 refine zca Z (zgK (Rd.skip 1 h) kQ) ?_
 rintro _ _ ⟨x1,hx2,rfl,rfl⟩
 have hxl0:x1.l.length=l.length:=by rw [hx2]
 refine a11 ?_
 refine zcd (fun (k:Nat) (y:Sl tyRec 51) (nn:Nat) => [(0,.pointer (some ⟨m,5,none⟩)),(1,vV (nn:Int)),(2,.func (.func 83) #[] #[]),(7,.slice y.A y.l.length y.C),(8,vV ((k:Int) - 1))]) (fun k y nn => y.s::[(m,.cells #[c0,c1,c2,c3,c4,.slice A l.length C] 25 (0,0))]::H) (fun k y nn => k≤l.length∧y.l=l.take k++(zag poD (l.drop k) n).1∧nn=(zag poD (l.drop k) n).2) (fun k y nn => k) x1.l.length (⟨x1.A,x1.C,x1.l,x1.s,x1.own⟩) n (⟨by omega,by rw [hx2]; simp [zag],by rw [hx2]; simp [zag]⟩) ⟨Z,Z,Z,Z,Z,trivial⟩ Z ?_
 rintro k y nn ⟨hk,hy,hn9⟩ ihL1
 have hcapy:=Own.cap_le y.own
 have hyl:=zDh List.length hy
 have hdl:=zcW poD (l.drop k) n
 have hdl2:=zbZ poD (l.drop k) n
 rw [zC6,zDs] at hyl
 rw [zDK] at hdl
 refine a6 ?_
 refine zjn 3 18 [(21,.bool (decide ((0≤((k:Int) - 1))∧(0 < (nn:Int))))),(0,.pointer (some ⟨m,5,none⟩)),(1,vV (nn:Int)),(2,.func (.func 83) #[] #[]),(7,.slice y.A y.l.length y.C),(8,vV ((k:Int) - 1))] ?_
 skip
 refine a1 ?_
 refine zac Z ?_ ?_
 ·intro hc1
  try dsimp only at hc1
  refine a8 ?_
  refine zah (k - 1) (y.own.rd (i:=0) Z) Z zbs zg0 Z Z Z kQ kQ ?_
  refine zaM (n:=0) (y.own.rd (i:=0) Z) (getD_some rD5 kQ) Z zbF zg0 Z Z<|zcz zrC zg0 Z Z Z Z (zrh (y.l.getD (k - 1) rD5)) ?_
  rintro _ _ ⟨rfl,rfl⟩
  refine a1 ?_
  refine zaT Z ?_ ?_
  ·intro hc2
   have hc2:(poD (y.l.getD (k - 1) rD5))=true:=hc2
   refine a5 ?_
   refine zca Z (zeU (k - 1) y.own kQ kQ kQ) ?_
   rintro _ _ ⟨x3,hx4,rfl,rfl⟩
   refine a11 ?_
   have h9x:=zg1 kQ hk hy hn9 hc2 kQ
   refine ihL1 (k - 1) (⟨x3.A,x3.C,x3.l,x3.s,x3.own⟩) (nn - 1) (⟨by omega,hx4.trans h9x.1,h9x.2⟩) kQ _ ?_
   exact zen
  ·intro hc2
   have hc2:(poD (y.l.getD (k - 1) rD5))=false:=hc2
   refine a7 ?_
   refine ihL1 (k - 1) (⟨y.A,y.C,y.l,y.s,y.own⟩) nn (⟨by omega,(zcK kQ hk hy hn9 (by simpa using hc2)).1,(zcK kQ hk hy hn9 (by simpa using hc2)).2⟩) kQ _ ?_
   exact zen
 ·intro hc1
  try dsimp only at hc1
  refine a13 ?_
  exact zad Tryz.func86 Z Z (⟨y,(zdm hk hy hn9 kQ).1,(by rw [← (zdm hk hy hn9 kQ).2]; rfl),Z⟩)
def pnD:Rc5→Bool:=fun x => !decide (x.2.1=41)
theorem zwZ (h:Rd tyRec w0 base H A C l) (hl:l.length≤65535) (hn:n≤262140) :
  SCalls Tryz.prog 86 [.pointer (some ⟨m,5,none⟩),vV (n:Int),.func (.func 82) #[] #[]] w0 base ([(m,.cells #[c0,c1,c2,c3,c4,.slice A l.length C] 25 (0,0))]::H) (fun v H' => ∃ x:Sl tyRec 51,x.l=(zag pnD l n).1∧v=int ((zag pnD l n).2:Nat)∧H' = x.s::[(m,.cells #[c0,c1,c2,c3,c4,.slice x.A x.l.length x.C] 25 (0,0))]::H):=by
 refine zaa (n:=41) Tryz.func86 Z Z Z fun cs => ?_
 refine a9 ?_
 refine zca Z (zgK (Rd.skip 1 h) kQ) ?_
 rintro _ _ ⟨x1,hx2,rfl,rfl⟩
 have hxl0:x1.l.length=l.length:=by rw [hx2]
 refine a11 ?_
 refine zcd (fun (k:Nat) (y:Sl tyRec 51) (nn:Nat) => [(0,.pointer (some ⟨m,5,none⟩)),(1,vV (nn:Int)),(2,.func (.func 82) #[] #[]),(7,.slice y.A y.l.length y.C),(8,vV ((k:Int) - 1))]) (fun k y nn => y.s::[(m,.cells #[c0,c1,c2,c3,c4,.slice A l.length C] 25 (0,0))]::H) (fun k y nn => k≤l.length∧y.l=l.take k++(zag pnD (l.drop k) n).1∧nn=(zag pnD (l.drop k) n).2) (fun k y nn => k) x1.l.length (⟨x1.A,x1.C,x1.l,x1.s,x1.own⟩) n (⟨by omega,by rw [hx2]; simp [zag],by rw [hx2]; simp [zag]⟩) ⟨Z,Z,Z,Z,Z,trivial⟩ Z ?_
 rintro k y nn ⟨hk,hy,hn9⟩ ihL1
 have hcapy:=Own.cap_le y.own
 have hyl:=zDh List.length hy
 have hdl:=zcW pnD (l.drop k) n
 have hdl2:=zbZ pnD (l.drop k) n
 rw [zC6,zDs] at hyl
 rw [zDK] at hdl
 refine a6 ?_
 refine zjn 3 18 [(21,.bool (decide ((0≤((k:Int) - 1))∧(0 < (nn:Int))))),(0,.pointer (some ⟨m,5,none⟩)),(1,vV (nn:Int)),(2,.func (.func 82) #[] #[]),(7,.slice y.A y.l.length y.C),(8,vV ((k:Int) - 1))] ?_
 skip
 refine a1 ?_
 refine zac Z ?_ ?_
 ·intro hc1
  try dsimp only at hc1
  refine a8 ?_
  refine zah (k - 1) (y.own.rd (i:=0) Z) Z zbs zg0 Z Z Z kQ kQ ?_
  refine zaM (n:=0) (y.own.rd (i:=0) Z) (getD_some rD5 kQ) Z zbF zg0 Z Z<|zcz zrD zg0 Z Z Z Z (zvf (y.l.getD (k - 1) rD5)) ?_
  rintro _ _ ⟨rfl,rfl⟩
  refine a1 ?_
  refine zaT Z ?_ ?_
  ·intro hc2
   have hc2:(pnD (y.l.getD (k - 1) rD5))=true:=hc2
   refine a5 ?_
   refine zca Z (zeU (k - 1) y.own kQ kQ kQ) ?_
   rintro _ _ ⟨x3,hx4,rfl,rfl⟩
   refine a11 ?_
   have h9x:=zg1 kQ hk hy hn9 hc2 kQ
   refine ihL1 (k - 1) (⟨x3.A,x3.C,x3.l,x3.s,x3.own⟩) (nn - 1) (⟨by omega,hx4.trans h9x.1,h9x.2⟩) kQ _ ?_
   exact zen
  ·intro hc2
   have hc2:(pnD (y.l.getD (k - 1) rD5))=false:=hc2
   refine a7 ?_
   refine ihL1 (k - 1) (⟨y.A,y.C,y.l,y.s,y.own⟩) nn (⟨by omega,(zcK kQ hk hy hn9 (by simpa using hc2)).1,(zcK kQ hk hy hn9 (by simpa using hc2)).2⟩) kQ _ ?_
   exact zen
 ·intro hc1
  try dsimp only at hc1
  refine a13 ?_
  exact zad Tryz.func86 Z Z (⟨y,(zdm hk hy hn9 kQ).1,(by rw [← (zdm hk hy hn9 kQ).2]; rfl),Z⟩)
def ptD:Rc5→Bool:=fun _ => true
theorem zwY (h:Rd tyRec w0 base H A C l) (hl:l.length≤65535) (hn:n≤262140) :
  SCalls Tryz.prog 86 [.pointer (some ⟨m,4,none⟩),vV (n:Int),.func (.func 84) #[] #[]] w0 base ([(m,.cells #[c0,c1,c2,c3,.slice A l.length C,c5] 25 (0,0))]::H) (fun v H' => ∃ x:Sl tyRec 51,x.l=(zag ptD l n).1∧v=int ((zag ptD l n).2:Nat)∧H' = x.s::[(m,.cells #[c0,c1,c2,c3,.slice x.A x.l.length x.C,c5] 25 (0,0))]::H):=by
 refine zaa (n:=41) Tryz.func86 Z Z Z fun cs => ?_
 refine a9 ?_
 refine zca Z (zgK (Rd.skip 1 h) kQ) ?_
 rintro _ _ ⟨x1,hx2,rfl,rfl⟩
 have hxl0:x1.l.length=l.length:=by rw [hx2]
 refine a11 ?_
 refine zcd (fun (k:Nat) (y:Sl tyRec 51) (nn:Nat) => [(0,.pointer (some ⟨m,4,none⟩)),(1,vV (nn:Int)),(2,.func (.func 84) #[] #[]),(7,.slice y.A y.l.length y.C),(8,vV ((k:Int) - 1))]) (fun k y nn => y.s::[(m,.cells #[c0,c1,c2,c3,.slice A l.length C,c5] 25 (0,0))]::H) (fun k y nn => k≤l.length∧y.l=l.take k++(zag ptD (l.drop k) n).1∧nn=(zag ptD (l.drop k) n).2) (fun k y nn => k) x1.l.length (⟨x1.A,x1.C,x1.l,x1.s,x1.own⟩) n (⟨by omega,by rw [hx2]; simp [zag],by rw [hx2]; simp [zag]⟩) ⟨Z,Z,Z,Z,Z,trivial⟩ Z ?_
 rintro k y nn ⟨hk,hy,hn9⟩ ihL1
 have hcapy:=Own.cap_le y.own
 have hyl:=zDh List.length hy
 have hdl:=zcW ptD (l.drop k) n
 have hdl2:=zbZ ptD (l.drop k) n
 rw [zC6,zDs] at hyl
 rw [zDK] at hdl
 refine a6 ?_
 refine zjn 3 18 [(21,.bool (decide ((0≤((k:Int) - 1))∧(0 < (nn:Int))))),(0,.pointer (some ⟨m,4,none⟩)),(1,vV (nn:Int)),(2,.func (.func 84) #[] #[]),(7,.slice y.A y.l.length y.C),(8,vV ((k:Int) - 1))] ?_
 skip
 refine a1 ?_
 refine zac Z ?_ ?_
 ·intro hc1
  try dsimp only at hc1
  refine a8 ?_
  refine zah (k - 1) (y.own.rd (i:=0) Z) Z zbs zg0 Z Z Z kQ kQ ?_
  refine zaM (n:=0) (y.own.rd (i:=0) Z) (getD_some rD5 kQ) Z zbF zg0 Z Z<|zcz zrB zg0 Z Z Z Z (zvo (y.l.getD (k - 1) rD5)) ?_
  rintro _ _ ⟨rfl,rfl⟩
  refine a1 ?_
  refine zaT Z ?_ ?_
  ·intro hc2
   have hc2:(ptD (y.l.getD (k - 1) rD5))=true:=hc2
   refine a5 ?_
   refine zca Z (zeU (k - 1) y.own kQ kQ kQ) ?_
   rintro _ _ ⟨x3,hx4,rfl,rfl⟩
   refine a11 ?_
   have h9x:=zg1 kQ hk hy hn9 hc2 kQ
   refine ihL1 (k - 1) (⟨x3.A,x3.C,x3.l,x3.s,x3.own⟩) (nn - 1) (⟨by omega,hx4.trans h9x.1,h9x.2⟩) kQ _ ?_
   exact zen
  ·intro hc2
   have hc2:(ptD (y.l.getD (k - 1) rD5))=false:=hc2
   refine a7 ?_
   refine ihL1 (k - 1) (⟨y.A,y.C,y.l,y.s,y.own⟩) nn (⟨by omega,(zcK kQ hk hy hn9 (by simpa using hc2)).1,(zcK kQ hk hy hn9 (by simpa using hc2)).2⟩) kQ _ ?_
   exact zen
 ·intro hc1
  try dsimp only at hc1
  refine a13 ?_
  exact zad Tryz.func86 Z Z (⟨y,(zdm hk hy hn9 kQ).1,(by rw [← (zdm hk hy hn9 kQ).2]; rfl),Z⟩)
theorem zwX (h:Rd tyRec w0 base H A C l) (hl:l.length≤65535) (hn:n≤262140) :
  SCalls Tryz.prog 86 [.pointer (some ⟨m,3,none⟩),vV (n:Int),.func (.func 85) #[] #[]] w0 base ([(m,.cells #[c0,c1,c2,.slice A l.length C,c4,c5] 25 (0,0))]::H) (fun v H' => ∃ x:Sl tyRec 51,x.l=(zag ptD l n).1∧v=int ((zag ptD l n).2:Nat)∧H' = x.s::[(m,.cells #[c0,c1,c2,.slice x.A x.l.length x.C,c4,c5] 25 (0,0))]::H):=by
 refine zaa (n:=41) Tryz.func86 Z Z Z fun cs => ?_
 refine a9 ?_
 refine zca Z (zgK (Rd.skip 1 h) kQ) ?_
 rintro _ _ ⟨x1,hx2,rfl,rfl⟩
 have hxl0:x1.l.length=l.length:=by rw [hx2]
 refine a11 ?_
 refine zcd (fun (k:Nat) (y:Sl tyRec 51) (nn:Nat) => [(0,.pointer (some ⟨m,3,none⟩)),(1,vV (nn:Int)),(2,.func (.func 85) #[] #[]),(7,.slice y.A y.l.length y.C),(8,vV ((k:Int) - 1))]) (fun k y nn => y.s::[(m,.cells #[c0,c1,c2,.slice A l.length C,c4,c5] 25 (0,0))]::H) (fun k y nn => k≤l.length∧y.l=l.take k++(zag ptD (l.drop k) n).1∧nn=(zag ptD (l.drop k) n).2) (fun k y nn => k) x1.l.length (⟨x1.A,x1.C,x1.l,x1.s,x1.own⟩) n (⟨by omega,by rw [hx2]; simp [zag],by rw [hx2]; simp [zag]⟩) ⟨Z,Z,Z,Z,Z,trivial⟩ Z ?_
 rintro k y nn ⟨hk,hy,hn9⟩ ihL1
 have hcapy:=Own.cap_le y.own
 have hyl:=zDh List.length hy
 have hdl:=zcW ptD (l.drop k) n
 have hdl2:=zbZ ptD (l.drop k) n
 rw [zC6,zDs] at hyl
 rw [zDK] at hdl
 refine a6 ?_
 refine zjn 3 18 [(21,.bool (decide ((0≤((k:Int) - 1))∧(0 < (nn:Int))))),(0,.pointer (some ⟨m,3,none⟩)),(1,vV (nn:Int)),(2,.func (.func 85) #[] #[]),(7,.slice y.A y.l.length y.C),(8,vV ((k:Int) - 1))] ?_
 skip
 refine a1 ?_
 refine zac Z ?_ ?_
 ·intro hc1
  try dsimp only at hc1
  refine a8 ?_
  refine zah (k - 1) (y.own.rd (i:=0) Z) Z zbs zg0 Z Z Z kQ kQ ?_
  refine zaM (n:=0) (y.own.rd (i:=0) Z) (getD_some rD5 kQ) Z zbF zg0 Z Z<|zcz zrA zg0 Z Z Z Z (zvn (y.l.getD (k - 1) rD5)) ?_
  rintro _ _ ⟨rfl,rfl⟩
  refine a1 ?_
  refine zaT Z ?_ ?_
  ·intro hc2
   have hc2:(ptD (y.l.getD (k - 1) rD5))=true:=hc2
   refine a5 ?_
   refine zca Z (zeU (k - 1) y.own kQ kQ kQ) ?_
   rintro _ _ ⟨x3,hx4,rfl,rfl⟩
   refine a11 ?_
   have h9x:=zg1 kQ hk hy hn9 hc2 kQ
   refine ihL1 (k - 1) (⟨x3.A,x3.C,x3.l,x3.s,x3.own⟩) (nn - 1) (⟨by omega,hx4.trans h9x.1,h9x.2⟩) kQ _ ?_
   exact zen
  ·intro hc2
   have hc2:(ptD (y.l.getD (k - 1) rD5))=false:=hc2
   refine a7 ?_
   refine ihL1 (k - 1) (⟨y.A,y.C,y.l,y.s,y.own⟩) nn (⟨by omega,(zcK kQ hk hy hn9 (by simpa using hc2)).1,(zcK kQ hk hy hn9 (by simpa using hc2)).2⟩) kQ _ ?_
   exact zen
 ·intro hc1
  try dsimp only at hc1
  refine a13 ?_
  exact zad Tryz.func86 Z Z (⟨y,(zdm hk hy hn9 kQ).1,(by rw [← (zdm hk hy hn9 kQ).2]; rfl),Z⟩)
def tcF (f:Int):Int:=IntKind.i64.wrap ((BitVec.ofInt IntKind.i64.bits f ||| BitVec.ofInt IntKind.i64.bits 512).toNat:Int)
theorem zBo (h:0≤f∧f≤65535):0≤tcF f∧tcF f≤65535:=by
 obtain ⟨n,rfl⟩:=Int.eq_ofNat_of_zero_le h.1
 have h1:n < 2 ^ 16:=by omega
 have e:(BitVec.ofInt IntKind.i64.bits (n:Int) ||| BitVec.ofInt IntKind.i64.bits 512).toNat=n ||| 512:=by
  show (BitVec.ofInt 64 _ ||| BitVec.ofInt 64 _).toNat=_
  grind
 have h5:n ||| 512 < 2 ^ 16:=Nat.or_lt_two_pow h1 kE
 grind [tcF,w64]
def woA (ar:List Rc5) (n:Nat):=zag pnD ar n
def woS (ns ar:List Rc5) (n:Nat):=zag ptD ns (woA ar n).2
def woT (an ns ar:List Rc5) (n:Nat):=zag ptD an (woS ns ar n).2
def woO (an ns ar:List Rc5) (n:Nat):=zag poD (woA ar n).1 (woT an ns ar n).2
def woF (f:Int) (an ns ar:List Rc5) (n:Nat):Int:=if (woS ns ar n).2 < (woA ar n).2∨(woT an ns ar n).2 < (woS ns ar n).2∨0 < (woO an ns ar n).2 then tcF f else f
def woQ (qs:List Qn3) (an ns ar:List Rc5) (n:Nat):List Qn3:=qs.take (qs.length - (woO an ns ar n).2)
theorem zsv {l:List α}(h:∀ x ∈ l,False):l=[]:=by
 cases l with
 | nil => rfl
 | cons a l => grind [List.mem_cons_self]
theorem wo_le (an ns ar:List Rc5) (n:Nat):(woO an ns ar n).2≤(woT an ns ar n).2∧(woT an ns ar n).2≤(woS ns ar n).2∧(woS ns ar n).2≤(woA ar n).2∧(woA ar n).2≤n :=
 ⟨zbZ _ _ _,zbZ _ _ _,zbZ _ _ _,zbZ _ _ _⟩
theorem zxT {an ns ar:List Rc5}(h:0 < (woO an ns ar n).2):(woS ns ar n).1=[]∧(woT an ns ar n).1=[]∧(woO an ns ar n).1=[]:=by
 obtain ⟨h1,h2,h3,h4⟩:=wo_le an ns ar n
 refine ⟨zsv fun x hx => ?_,zsv fun x hx => ?_,zsv fun x hx => ?_⟩
 ·grind [zfI,ptD,woA,woS]
 ·grind [zfI,ptD,woS,woT]
 ·have e1:=zfI poD (woA ar n).1 (woT an ns ar n).2 h x hx
  have e2:=zfI pnD ar n (show 0 < (woA ar n).2 by omega) x ((za9 poD (woA ar n).1 (woT an ns ar n).2).mem hx)
  grind [poD,pnD]
theorem zxS (an ns ar:List Rc5) (n:Nat):(woO an ns ar n).1.length + (woT an ns ar n).1.length + (woS ns ar n).1.length + n=ar.length + ns.length + an.length + (woO an ns ar n).2:=by
 grind [zcW,pnD,ptD,woA,woS,poD,woT,woO]
theorem wo_q {an ns ar:List Rc5}(h:n≤qs.length + an.length + ns.length + ar.length):(woO an ns ar n).2≤qs.length:=by
 rcases zEO (woO an ns ar n).2 with h0 | h0
 ·omega
 ·obtain ⟨h1,h2,h3⟩:=zxT h0
  grind [zxS,List.length_nil]
theorem zBh {an ns ar:List Rc5}:woQ qs an ns ar (qs.length + an.length + ns.length + ar.length)=[]∧(woT an ns ar (qs.length + an.length + ns.length + ar.length)).1=[]∧(woS ns ar (qs.length + an.length + ns.length + ar.length)).1=[]∧(woO an ns ar (qs.length + an.length + ns.length + ar.length)).1=[]:=by
 generalize hn:qs.length + an.length + ns.length + ar.length=n
 have hs:=zxS an ns ar n
 have hq:=wo_q (qs:=qs) (an:=an) (ns:=ns) (ar:=ar) (n:=n) kQ
 have z:(woS ns ar n).1=[]∧(woT an ns ar n).1=[]∧(woO an ns ar n).1=[]:=by
  rcases zEO (woO an ns ar n).2 with h0 | h0
  ·exact ⟨zDk kQ,zDk kQ,zDk kQ⟩
  grind [zxT]
 have e:=hs
 rw [z.1,z.2.1,z.2.2] at e
 simp only [zC8] at e
 exact ⟨zDk (by unfold woQ; grind),z.2.1,z.1,z.2.2⟩
theorem zBg {an ns ar:List Rc5}(h:MOk id f qs an ns ar) (n:Nat):MOk id (woF f an ns ar n) (woQ qs an ns ar n) (woT an ns ar n).1 (woS ns ar n).1 (woO an ns ar n).1:=by
 obtain ⟨h1,h2,⟨h3,h4,h5,h6⟩,h7,h8,h9,h10⟩:=h
 have sa:=za9 pnD ar n
 have ss:=za9 ptD ns (woA ar n).2
 have st:=za9 ptD an (woS ns ar n).2
 have so:=(za9 poD (woA ar n).1 (woT an ns ar n).2).trans sa
 refine ⟨h1,?_,⟨?_,zEv st.length_le h4,zEv ss.length_le h5,zEv so.length_le h6⟩,fun q hq => h7 q ?_,fun x hx => h8 x (st.mem hx),fun x hx => h9 x (ss.mem hx),fun x hx => h10 x (so.mem hx)⟩
 ·unfold woF; split
  ·exact zBo h2
  omega
 ·unfold woQ; grind
 ·exact zEr hq
noncomputable def zgU (id f:Int) (qs:List Qn3) (an ns ar:List Rc5) (size:Int) (n:Nat):Bool:=match msgF id (woF f an ns ar n) (woQ qs an ns ar n) (woT an ns ar n).1 (woS ns ar n).1 (woO an ns ar n).1 with
 | some x => decide ((x.length:Int)≤size)
 | none => false
theorem zkw {an ns ar:List Rc5}{size:Int}{x:yB}(h:msgF id (woF f an ns ar n) (woQ qs an ns ar n) (woT an ns ar n).1 (woS ns ar n).1 (woO an ns ar n).1=some x):zgU id f qs an ns ar size n=decide ((x.length:Int)≤size):=by
 grind [zgU]
theorem zhw {an ns ar:List Rc5}{size:Int}(h:msgF id (woF f an ns ar n) (woQ qs an ns ar n) (woT an ns ar n).1 (woS ns ar n).1 (woO an ns ar n).1=none):zgU id f qs an ns ar size n=false:=by
 grind [zgU]
theorem zmD (id f:Int) (qs:List Qn3) (an ns ar:List Rc5) {size:Int}(h:12≤size):zgU id f qs an ns ar size (qs.length + an.length + ns.length + ar.length)=true:=by
 obtain ⟨h1,h2,h3,h4⟩:=zBh (qs:=qs) (an:=an) (ns:=ns) (ar:=ar)
 have e:msgF id (woF f an ns ar (qs.length + an.length + ns.length + ar.length)) [] [] [] []=some (hdB id (woF f an ns ar (qs.length + an.length + ns.length + ar.length)) 0 0 0 0):=by
  simp_all [msgF,mWq,zDG,mWr,zDi,zC8,zja]
 grind [zgU,zja,decide_eq_true]
theorem zjW {qs:List (yB×Int×Int)}{an ns ar:List (yB×Int×Int×Int×yB)}(hq:Rd tyQn w0 base H Aq Cq qs) (ha:Rd tyRec w0 base H Aa Ca an) (hn:Rd tyRec w0 base H An Cn ns) (hr:Rd tyRec w0 base H Ar Cr ar) (hq9:qs.length≤65535) (ha9:an.length≤65535) (hn9:ns.length≤65535) (hr9:ar.length≤65535) (hn0:n≤qs.length + an.length + ns.length + ar.length) :
  SCalls Tryz.prog 31 [.agg #[vV id,vV flags,.slice Aq qs.length Cq,.slice Aa an.length Ca,.slice An ns.length Cn,.slice Ar ar.length Cr],vV (n:Int)] w0 base (H) (fun v H' => ∃ (A' : Option Addr) (C' : Nat) (xa xn xr y:Sl tyRec 51),xa.l=(woT an ns ar n).1∧xn.l=(woS ns ar n).1∧xr.l=(woO an ns ar n).1∧Rd tyQn w0 base H A' C' (woQ qs an ns ar n)∧v = .agg #[int id,int (woF flags an ns ar n),.slice A' (woQ qs an ns ar n).length C',.slice xa.A xa.l.length xa.C,.slice xn.A xn.l.length xn.C,.slice xr.A xr.l.length xr.C]∧H' = xr.s::xa.s::xn.s::y.s::H):=by
 refine zaa (n:=65) Tryz.func31 Z Z Z fun cs => ?_
 refine a2 ?_
 refine zaU (cs:=#[vV id,vV flags,.slice Aq qs.length Cq,.slice Aa an.length Ca,.slice An ns.length Cn,.slice Ar ar.length Cr]) Z zg0 Z Z ?_
 intro b1
 refine AtL.alloc ziF (cs:=#[vV 0,vV 0,.slice none 0 0,.slice none 0 0,.slice none 0 0,.slice none 0 0]) Z zg0 Z ?_
 intro b2
 refine a8 ?_
 refine zak (cs:=[.pointer (some ⟨b1,5,none⟩),.func (.func 82) #[] #[],.bool false]) zgD zg0 Z Z Z<|a1 ?_
 refine zak (cs:=[.pointer (some ⟨b1,4,none⟩),.func (.func 84) #[] #[],.bool true]) zgD zg0 Z Z Z<|a1 ?_
 refine zak (cs:=[.pointer (some ⟨b1,3,none⟩),.func (.func 85) #[] #[],.bool true]) zgD zg0 Z Z Z<|a1 ?_
 refine zak (cs:=[.pointer (some ⟨b1,5,none⟩),.func (.func 83) #[] #[],.bool false]) zgD zg0 Z Z Z<|zae (cs:=[.pointer (some ⟨b1,5,none⟩),.func (.func 82) #[] #[],.bool false,.pointer (some ⟨b1,4,none⟩),.func (.func 84) #[] #[],.bool true,.pointer (some ⟨b1,3,none⟩),.func (.func 85) #[] #[],.bool true,.pointer (some ⟨b1,5,none⟩),.func (.func 83) #[] #[],.bool false]) Z zdB zfX Z Z zg0 Z Z Z ?_
 intro b3
 refine a10 ?_
 refine zcj<|a11 ?_
 refine zeM 0 Z zfX zg0 Z Z Z Z Z Z<|a1 ?_
 refine AtL.alloc zdB (cs:=#[.pointer none,.nilFunc,.bool false]) Z zg0 Z ?_
 intro b4
 refine a9 ?_
 refine zpk [3,0,1,2] 4 ?_
 refine zca Z (zwZ (m:=b1) (n:=n) (Rd.skip 3 hr) kQ kQ) ?_
 rintro _ _ ⟨x5,hx6,rfl,rfl⟩
 have hlx5:=zDh List.length hx6
 have hdx5:=zbZ pnD ar n
 have hsx5:=(za9 pnD ar n).length_le
 refine a22 ?_
 refine AtL.add (z:=1) zg0 Z Z Z kE<|a14 ?_
 refine zeM 1 Z zfX zg0 Z Z Z Z Z Z<|a1 ?_
 refine AtL.alloc zdB (cs:=#[.pointer none,.nilFunc,.bool false]) Z zg0 Z ?_
 intro b7
 refine a9 ?_
 refine zpk [2,0,1,3,4,5] 6 ?_
 refine zca Z (zwY (m:=b1) (n:=((zag pnD ar n).2:Nat)) (Rd.skip 5 hn) kQ kQ) ?_
 rintro _ _ ⟨x8,hx9,rfl,rfl⟩
 have hlx8:=zDh List.length hx9
 have hdx8:=zbZ ptD ns ((zag pnD ar n).2:Nat)
 have hsx8:=(za9 ptD ns ((zag pnD ar n).2:Nat)).length_le
 refine a22 ?_
 refine AtL.add (z:=2) zg0 Z Z Z kE<|a14 ?_
 refine zeM 2 Z zfX zg0 Z Z Z Z Z Z<|a1 ?_
 refine AtL.alloc zdB (cs:=#[.pointer none,.nilFunc,.bool false]) Z zg0 Z ?_
 intro b10
 refine a9 ?_
 refine zpk [2,0,1,3,4,5,6,7] 8 ?_
 refine zca Z (zwX (m:=b1) (n:=((zag ptD ns ((zag pnD ar n).2:Nat)).2:Nat)) (Rd.skip 7 ha) kQ kQ) ?_
 rintro _ _ ⟨x11,hx12,rfl,rfl⟩
 have hlx11:=zDh List.length hx12
 have hdx11:=zbZ ptD an ((zag ptD ns ((zag pnD ar n).2:Nat)).2:Nat)
 have hsx11:=(za9 ptD an ((zag ptD ns ((zag pnD ar n).2:Nat)).2:Nat)).length_le
 refine a6 ?_
 refine zaG (t:=32) Z ?_ ?_
 ·intro hs32
  try dsimp only at hs32
  refine a3 ?_
  refine zaD Z Z Z Z Z<|zaD Z Z Z Z Z<|zaD Z Z Z Z Z<|a10 ?_
  refine AtL.add (z:=3) zg0 Z Z Z kE<|a14 ?_
  refine zeM 3 Z zfX zg0 Z Z Z Z Z Z<|a1 ?_
  refine AtL.alloc zdB (cs:=#[.pointer none,.nilFunc,.bool false]) Z zg0 Z ?_
  intro b13
  refine a9 ?_
  refine zpk [2,0,1,3,4,5,6,7,8,9] 10 ?_
  refine zca Z (zpB (m:=b1) (n:=((zag ptD an ((zag ptD ns ((zag pnD ar n).2:Nat)).2:Nat)).2:Nat)) (x5.own.rd (i:=5) Z) kQ kQ) ?_
  rintro _ _ ⟨x14,hx15,rfl,rfl⟩
  have hlx14:=zDh List.length hx15
  have hdx14:=zbZ poD x5.l ((zag ptD an ((zag ptD ns ((zag pnD ar n).2:Nat)).2:Nat)).2:Nat)
  have hsx14:=(za9 poD x5.l ((zag ptD an ((zag ptD ns ((zag pnD ar n).2:Nat)).2:Nat)).2:Nat)).length_le
  refine a9 ?_
  refine zaD Z Z Z Z Z<|zaD Z Z Z Z Z<|zaD Z Z Z Z Z<|a10 ?_
  refine AtL.add (z:=4) zg0 Z Z Z kE<|a12 ?_
  have e9:(zag poD x5.l ((zag ptD an ((zag ptD ns ((zag pnD ar n).2:Nat)).2:Nat)).2:Nat)).2=(woO an ns ar n).2:=by rw [hx6]; rfl
  have q9:=wo_q (qs:=qs) hn0
  have eA9:(woA ar n).2=(zag pnD ar n).2:=rfl
  have eS9:(woS ns ar n).2=(zag ptD ns ((zag pnD ar n).2:Nat)).2:=rfl
  have eT9:(woT an ns ar n).2=(zag ptD an ((zag ptD ns ((zag pnD ar n).2:Nat)).2:Nat)).2:=rfl
  refine a4 ?_
  refine zac Z ?_ ?_
  ·intro hc2
   try dsimp only at hc2
   refine a13 ?_
   have hleo18:=Rd.le hq
   refine zbC 11 0 (qs.length - (zag poD x5.l ((zag ptD an ((zag ptD ns ((zag pnD ar n).2:Nat)).2:Nat)).2:Nat)).2) (qs.length - (zag poD x5.l ((zag ptD an ((zag ptD ns ((zag pnD ar n).2:Nat)).2:Nat)).2:Nat)).2) hq Z (zab Z kQ) (zab Z kQ) (fun _ => Z) kQ kQ kQ kQ Z zfp zg0 Z Z ?_
   clear hleo18
   intro A16 C17 (o18:Rd tyQn w0 base H A16 C17 (subl qs 0 (qs.length - (zag poD x5.l ((zag ptD an ((zag ptD ns ((zag pnD ar n).2:Nat)).2:Nat)).2:Nat)).2)))
   have hlo18:(subl qs 0 (qs.length - (zag poD x5.l ((zag ptD an ((zag ptD ns ((zag pnD ar n).2:Nat)).2:Nat)).2:Nat)).2)).length=(qs.length - (zag poD x5.l ((zag ptD an ((zag ptD ns ((zag pnD ar n).2:Nat)).2:Nat)).2:Nat)).2) - 0:=zal kQ
   refine a13 ?_
   refine zdp (z:=tcF flags) zg0 Z Z Z Z<|a8 ?_
   have hwq:woQ qs an ns ar n=subl qs 0 (qs.length - (zag poD x5.l ((zag ptD an ((zag ptD ns ((zag pnD ar n).2:Nat)).2:Nat)).2:Nat)).2):=by unfold woQ; rw [← e9]; first | (rw [zbK]; done) | exact zDc kQ
   have hwf:woF flags an ns ar n=tcF flags:=by unfold woF; first | rw [zDi kQ] | rw [zDb kQ]
   exact zaE (vs:=[.agg #[vV id,vV (tcF flags),.slice A16 (subl qs 0 (qs.length - (zag poD x5.l ((zag ptD an ((zag ptD ns ((zag pnD ar n).2:Nat)).2:Nat)).2:Nat)).2)).length C17,.slice x11.A x11.l.length x11.C,.slice x8.A x8.l.length x8.C,.slice x14.A x14.l.length x14.C]]) [0,3,5,7] 11 Z Z Tryz.func31 Z ⟨⟨_,Z,LoadsTo.agg (cs:=[vV id,vV (tcF flags),.slice A16 (subl qs 0 (qs.length - (zag poD x5.l ((zag ptD an ((zag ptD ns ((zag pnD ar n).2:Nat)).2:Nat)).2:Nat)).2)).length C17,.slice x11.A x11.l.length x11.C,.slice x8.A x8.l.length x8.C,.slice x14.A x14.l.length x14.C]) zeR Z (zaw 10 0 0 Z Z Z)⟩,trivial⟩ (⟨A16,C17,x11,x8,x14,x5,hx12,hx9,(by rw [hx15,hx6]; rfl),(by rw [hwq]; exact o18),(by rw [hwq,hwf]; try rfl),Z⟩)
  ·intro hc2
   try dsimp only at hc2
   refine a10 ?_
   refine zdp (z:=tcF flags) zg0 Z Z Z Z<|a8 ?_
   have hwq:woQ qs an ns ar n=qs:=by unfold woQ; rw [← e9]; first | (rw [zbK]; done) | exact zDc kQ
   have hwf:woF flags an ns ar n=tcF flags:=by unfold woF; first | rw [zDi kQ] | rw [zDb kQ]
   exact zaE (vs:=[.agg #[vV id,vV (tcF flags),.slice Aq qs.length Cq,.slice x11.A x11.l.length x11.C,.slice x8.A x8.l.length x8.C,.slice x14.A x14.l.length x14.C]]) [0,3,5,7] 11 Z Z Tryz.func31 Z ⟨⟨_,Z,LoadsTo.agg (cs:=[vV id,vV (tcF flags),.slice Aq qs.length Cq,.slice x11.A x11.l.length x11.C,.slice x8.A x8.l.length x8.C,.slice x14.A x14.l.length x14.C]) zeR Z (zaw 10 0 0 Z Z Z)⟩,trivial⟩ (⟨Aq,Cq,x11,x8,x14,x5,hx12,hx9,(by rw [hx15,hx6]; rfl),(by rw [hwq]; exact hq),(by rw [hwq,hwf]; try rfl),Z⟩)
 ·intro hs32
  try dsimp only at hs32
  refine a16 ?_
  refine AtL.add (z:=3) zg0 Z Z Z kE<|a14 ?_
  refine zeM 3 Z zfX zg0 Z Z Z Z Z Z<|a1 ?_
  refine AtL.alloc zdB (cs:=#[.pointer none,.nilFunc,.bool false]) Z zg0 Z ?_
  intro b19
  refine a9 ?_
  refine zpk [2,0,1,3,4,5,6,7,8,9] 10 ?_
  refine zca Z (zpB (m:=b1) (n:=((zag ptD an ((zag ptD ns ((zag pnD ar n).2:Nat)).2:Nat)).2:Nat)) (x5.own.rd (i:=5) Z) kQ kQ) ?_
  rintro _ _ ⟨x20,hx21,rfl,rfl⟩
  have hlx20:=zDh List.length hx21
  have hdx20:=zbZ poD x5.l ((zag ptD an ((zag ptD ns ((zag pnD ar n).2:Nat)).2:Nat)).2:Nat)
  have hsx20:=(za9 poD x5.l ((zag ptD an ((zag ptD ns ((zag pnD ar n).2:Nat)).2:Nat)).2:Nat)).length_le
  refine a6 ?_
  refine zaG (t:=32) Z ?_ ?_
  ·intro hs32
   try dsimp only at hs32
   refine a3 ?_
   refine zaD Z Z Z Z Z<|zaD Z Z Z Z Z<|zaD Z Z Z Z Z<|a10 ?_
   refine AtL.add (z:=4) zg0 Z Z Z kE<|a12 ?_
   have e9:(zag poD x5.l ((zag ptD an ((zag ptD ns ((zag pnD ar n).2:Nat)).2:Nat)).2:Nat)).2=(woO an ns ar n).2:=by rw [hx6]; rfl
   have q9:=wo_q (qs:=qs) hn0
   have eA9:(woA ar n).2=(zag pnD ar n).2:=rfl
   have eS9:(woS ns ar n).2=(zag ptD ns ((zag pnD ar n).2:Nat)).2:=rfl
   have eT9:(woT an ns ar n).2=(zag ptD an ((zag ptD ns ((zag pnD ar n).2:Nat)).2:Nat)).2:=rfl
   refine a4 ?_
   refine zac Z ?_ ?_
   ·intro hc2
    try dsimp only at hc2
    refine a13 ?_
    have hleo24:=Rd.le hq
    refine zbC 11 0 (qs.length - (zag poD x5.l ((zag ptD an ((zag ptD ns ((zag pnD ar n).2:Nat)).2:Nat)).2:Nat)).2) (qs.length - (zag poD x5.l ((zag ptD an ((zag ptD ns ((zag pnD ar n).2:Nat)).2:Nat)).2:Nat)).2) hq Z (zab Z kQ) (zab Z kQ) (fun _ => Z) kQ kQ kQ kQ Z zfp zg0 Z Z ?_
    clear hleo24
    intro A22 C23 (o24:Rd tyQn w0 base H A22 C23 (subl qs 0 (qs.length - (zag poD x5.l ((zag ptD an ((zag ptD ns ((zag pnD ar n).2:Nat)).2:Nat)).2:Nat)).2)))
    have hlo24:(subl qs 0 (qs.length - (zag poD x5.l ((zag ptD an ((zag ptD ns ((zag pnD ar n).2:Nat)).2:Nat)).2:Nat)).2)).length=(qs.length - (zag poD x5.l ((zag ptD an ((zag ptD ns ((zag pnD ar n).2:Nat)).2:Nat)).2:Nat)).2) - 0:=zal kQ
    refine a13 ?_
    refine zdp (z:=tcF flags) zg0 Z Z Z Z<|a8 ?_
    have hwq:woQ qs an ns ar n=subl qs 0 (qs.length - (zag poD x5.l ((zag ptD an ((zag ptD ns ((zag pnD ar n).2:Nat)).2:Nat)).2:Nat)).2):=by unfold woQ; rw [← e9]; first | (rw [zbK]; done) | exact zDc kQ
    have hwf:woF flags an ns ar n=tcF flags:=by unfold woF; first | rw [zDi kQ] | rw [zDb kQ]
    exact zaE (vs:=[.agg #[vV id,vV (tcF flags),.slice A22 (subl qs 0 (qs.length - (zag poD x5.l ((zag ptD an ((zag ptD ns ((zag pnD ar n).2:Nat)).2:Nat)).2:Nat)).2)).length C23,.slice x11.A x11.l.length x11.C,.slice x8.A x8.l.length x8.C,.slice x20.A x20.l.length x20.C]]) [0,3,5,7] 11 Z Z Tryz.func31 Z ⟨⟨_,Z,LoadsTo.agg (cs:=[vV id,vV (tcF flags),.slice A22 (subl qs 0 (qs.length - (zag poD x5.l ((zag ptD an ((zag ptD ns ((zag pnD ar n).2:Nat)).2:Nat)).2:Nat)).2)).length C23,.slice x11.A x11.l.length x11.C,.slice x8.A x8.l.length x8.C,.slice x20.A x20.l.length x20.C]) zeR Z (zaw 10 0 0 Z Z Z)⟩,trivial⟩ (⟨A22,C23,x11,x8,x20,x5,hx12,hx9,(by rw [hx21,hx6]; rfl),(by rw [hwq]; exact o24),(by rw [hwq,hwf]; try rfl),Z⟩)
   ·intro hc2
    try dsimp only at hc2
    refine a10 ?_
    refine zdp (z:=tcF flags) zg0 Z Z Z Z<|a8 ?_
    have hwq:woQ qs an ns ar n=qs:=by unfold woQ; rw [← e9]; first | (rw [zbK]; done) | exact zDc kQ
    have hwf:woF flags an ns ar n=tcF flags:=by unfold woF; first | rw [zDi kQ] | rw [zDb kQ]
    exact zaE (vs:=[.agg #[vV id,vV (tcF flags),.slice Aq qs.length Cq,.slice x11.A x11.l.length x11.C,.slice x8.A x8.l.length x8.C,.slice x20.A x20.l.length x20.C]]) [0,3,5,7] 11 Z Z Tryz.func31 Z ⟨⟨_,Z,LoadsTo.agg (cs:=[vV id,vV (tcF flags),.slice Aq qs.length Cq,.slice x11.A x11.l.length x11.C,.slice x8.A x8.l.length x8.C,.slice x20.A x20.l.length x20.C]) zeR Z (zaw 10 0 0 Z Z Z)⟩,trivial⟩ (⟨Aq,Cq,x11,x8,x20,x5,hx12,hx9,(by rw [hx21,hx6]; rfl),(by rw [hwq]; exact hq),(by rw [hwq,hwf]; try rfl),Z⟩)
  ·intro hs32
   try dsimp only at hs32
   refine a16 ?_
   refine AtL.add (z:=4) zg0 Z Z Z kE<|a12 ?_
   have e9:(zag poD x5.l ((zag ptD an ((zag ptD ns ((zag pnD ar n).2:Nat)).2:Nat)).2:Nat)).2=(woO an ns ar n).2:=by rw [hx6]; rfl
   have q9:=wo_q (qs:=qs) hn0
   have eA9:(woA ar n).2=(zag pnD ar n).2:=rfl
   have eS9:(woS ns ar n).2=(zag ptD ns ((zag pnD ar n).2:Nat)).2:=rfl
   have eT9:(woT an ns ar n).2=(zag ptD an ((zag ptD ns ((zag pnD ar n).2:Nat)).2:Nat)).2:=rfl
   refine a4 ?_
   refine zac Z ?_ ?_
   ·intro hc2
    try dsimp only at hc2
    refine a13 ?_
    have hleo27:=Rd.le hq
    refine zbC 11 0 (qs.length - (zag poD x5.l ((zag ptD an ((zag ptD ns ((zag pnD ar n).2:Nat)).2:Nat)).2:Nat)).2) (qs.length - (zag poD x5.l ((zag ptD an ((zag ptD ns ((zag pnD ar n).2:Nat)).2:Nat)).2:Nat)).2) hq Z (zab Z kQ) (zab Z kQ) (fun _ => Z) kQ kQ kQ kQ Z zfp zg0 Z Z ?_
    clear hleo27
    intro A25 C26 (o27:Rd tyQn w0 base H A25 C26 (subl qs 0 (qs.length - (zag poD x5.l ((zag ptD an ((zag ptD ns ((zag pnD ar n).2:Nat)).2:Nat)).2:Nat)).2)))
    have hlo27:(subl qs 0 (qs.length - (zag poD x5.l ((zag ptD an ((zag ptD ns ((zag pnD ar n).2:Nat)).2:Nat)).2:Nat)).2)).length=(qs.length - (zag poD x5.l ((zag ptD an ((zag ptD ns ((zag pnD ar n).2:Nat)).2:Nat)).2:Nat)).2) - 0:=zal kQ
    refine a13 ?_
    refine zdp (z:=tcF flags) zg0 Z Z Z Z<|a8 ?_
    have hwq:woQ qs an ns ar n=subl qs 0 (qs.length - (zag poD x5.l ((zag ptD an ((zag ptD ns ((zag pnD ar n).2:Nat)).2:Nat)).2:Nat)).2):=by unfold woQ; rw [← e9]; first | (rw [zbK]; done) | exact zDc kQ
    have hwf:woF flags an ns ar n=tcF flags:=by unfold woF; first | rw [zDi kQ] | rw [zDb kQ]
    exact zaE (vs:=[.agg #[vV id,vV (tcF flags),.slice A25 (subl qs 0 (qs.length - (zag poD x5.l ((zag ptD an ((zag ptD ns ((zag pnD ar n).2:Nat)).2:Nat)).2:Nat)).2)).length C26,.slice x11.A x11.l.length x11.C,.slice x8.A x8.l.length x8.C,.slice x20.A x20.l.length x20.C]]) [0,3,5,7] 11 Z Z Tryz.func31 Z ⟨⟨_,Z,LoadsTo.agg (cs:=[vV id,vV (tcF flags),.slice A25 (subl qs 0 (qs.length - (zag poD x5.l ((zag ptD an ((zag ptD ns ((zag pnD ar n).2:Nat)).2:Nat)).2:Nat)).2)).length C26,.slice x11.A x11.l.length x11.C,.slice x8.A x8.l.length x8.C,.slice x20.A x20.l.length x20.C]) zeR Z (zaw 10 0 0 Z Z Z)⟩,trivial⟩ (⟨A25,C26,x11,x8,x20,x5,hx12,hx9,(by rw [hx21,hx6]; rfl),(by rw [hwq]; exact o27),(by rw [hwq,hwf]; try rfl),Z⟩)
   ·intro hc2
    try dsimp only at hc2
    refine a13 ?_
    have hwq:woQ qs an ns ar n=qs:=by unfold woQ; rw [← e9]; first | (rw [zbK]; done) | exact zDc kQ
    have hwf:woF flags an ns ar n=flags:=by unfold woF; first | rw [zDi kQ] | rw [zDb kQ]
    exact zaE (vs:=[.agg #[vV id,vV flags,.slice Aq qs.length Cq,.slice x11.A x11.l.length x11.C,.slice x8.A x8.l.length x8.C,.slice x20.A x20.l.length x20.C]]) [0,3,5,7] 11 Z Z Tryz.func31 Z ⟨⟨_,Z,LoadsTo.agg (cs:=[vV id,vV flags,.slice Aq qs.length Cq,.slice x11.A x11.l.length x11.C,.slice x8.A x8.l.length x8.C,.slice x20.A x20.l.length x20.C]) zeR Z (zaw 10 0 0 Z Z Z)⟩,trivial⟩ (⟨Aq,Cq,x11,x8,x20,x5,hx12,hx9,(by rw [hx21,hx6]; rfl),(by rw [hwq]; exact hq),(by rw [hwq,hwf]; try rfl),Z⟩)
theorem zwI {s:Nat}{size:Int}{qs:List (yB×Int×Int)}{an ns ar:List (yB×Int×Int×Int×yB)}(hq:Rd tyQn w0 base H Aq Cq qs) (ha:Rd tyRec w0 base H Aa Ca an) (hn:Rd tyRec w0 base H An Cn ns) (hr:Rd tyRec w0 base H Ar Cr ar) (hB:qs.length≤140737488355328∧an.length≤140737488355328∧ns.length≤140737488355328∧ar.length≤140737488355328) (hqs8:∀ q ∈ qs,q.1.length≤4398046511104) (han8:∀ x ∈ an,x.1.length≤4398046511104∧x.2.2.2.2.length≤4398046511104) (hns8:∀ x ∈ ns,x.1.length≤4398046511104∧x.2.2.2.2.length≤4398046511104) (har8:∀ x ∈ ar,x.1.length≤4398046511104∧x.2.2.2.2.length≤4398046511104) (hM:MOk id flags qs an ns ar) (hn0:n≤qs.length + an.length + ns.length + ar.length) :
  SCalls Tryz.prog 30 [vV (n:Int),pB m,pB s] w0 base (O1 m id flags Aq qs.length Cq Aa an.length Ca An ns.length Cn Ar ar.length Cr::[(s,.cells #[vV size] 3 (0,0))]::H) (fun v H' => v = .bool (zgU id flags qs an ns ar size n)∧H' = (O1 m id flags Aq qs.length Cq Aa an.length Ca An ns.length Cn Ar ar.length Cr)::[(s,.cells #[vV size] 3 (0,0))]::H):=by
 refine zaa (n:=22) Tryz.func30 Z Z Z fun cs => ?_
 refine a8 ?_
 refine zca Z (zjW (id:=id) (flags:=flags) (qs:=qs) (an:=an) (ns:=ns) (ar:=ar) (Rd.skip 2 hq) (Rd.skip 2 ha) (Rd.skip 2 hn) (Rd.skip 2 hr) (n:=n) hM.2.2.1.1 hM.2.2.1.2.1 hM.2.2.1.2.2.1 hM.2.2.1.2.2.2 kQ) ?_
 rintro _ _ ⟨A1,C2,x4,x5,x6,x7,hx8,hx9,hx10,rd3,rfl,rfl⟩
 have hMw:MOk id (woF flags an ns ar n) (woQ qs an ns ar n) x4.l x5.l x6.l:=by rw [hx8,hx9,hx10]; exact zBg hM n
 refine zca Z (zi1 (id:=id) (flags:=(woF flags an ns ar n)) (qs:=woQ qs an ns ar n) (an:=x4.l) (ns:=x5.l) (ar:=x6.l) (Rd.skip 4 rd3) (x4.own.rd (i:=1) Z) (x5.own.rd (i:=2) Z) (x6.own.rd (i:=0) Z) (by have h9:=hMw.2.2.1; omega) (fun q hq => hqs8 q (zEr hq)) (fun x hx => han8 x ((za9 _ _ _).mem (by rw [hx8] at hx; exact hx))) (fun x hx => hns8 x ((za9 _ _ _).mem (by rw [hx9] at hx; exact hx))) (fun x hx => har8 x ((za9 _ _ _).mem ((za9 _ _ _).mem (by rw [hx10] at hx; exact hx))))) ?_
 rintro _ _ (⟨x11,hMx13,hAx14,hfx15,rfl,rfl⟩ | ⟨e12,hex16,hfx15,rfl,rfl⟩)
 ·refine a18 ?_
  refine zpk [5,6] 7 ?_
  rw [hx8,hx9,hx10] at hfx15
  exact zad Tryz.func30 Z Z (⟨(by rw [zkw hfx15]; rfl),Z⟩)
 ·refine a11 ?_
  refine zaG (t:=16) Z ?_ ?_
  ·intro hs16
   try dsimp only at hs16
   refine a7 ?_
   refine zpk [4,5] 6 ?_
   have hf8:=hfx15 hMw
   rw [hx8,hx9,hx10] at hf8
   exact zad Tryz.func30 Z Z (⟨(by rw [zhw hf8]; first | rfl | simp_all [zc3]),Z⟩)
  ·intro hs16
   try dsimp only at hs16
   refine a7 ?_
   refine zpk [4,5] 6 ?_
   have hf8:=hfx15 hMw
   rw [hx8,hx9,hx10] at hf8
   exact zad Tryz.func30 Z Z (⟨(by rw [zhw hf8]; first | rfl | simp_all [zc3]),Z⟩)
theorem zrV {s:Nat}{size:Int}{qs:List (yB×Int×Int)}{an ns ar:List (yB×Int×Int×Int×yB)}(hq:Rd tyQn w0 base H Aq Cq qs) (ha:Rd tyRec w0 base H Aa Ca an) (hn:Rd tyRec w0 base H An Cn ns) (hr:Rd tyRec w0 base H Ar Cr ar) (hB:qs.length≤140737488355328∧an.length≤140737488355328∧ns.length≤140737488355328∧ar.length≤140737488355328) (hqs8:∀ q ∈ qs,q.1.length≤4398046511104) (han8:∀ x ∈ an,x.1.length≤4398046511104∧x.2.2.2.2.length≤4398046511104) (hns8:∀ x ∈ ns,x.1.length≤4398046511104∧x.2.2.2.2.length≤4398046511104) (har8:∀ x ∈ ar,x.1.length≤4398046511104∧x.2.2.2.2.length≤4398046511104) (hM:MOk id flags qs an ns ar) :
  SCalls Tryz.prog 32 [vV (((qs.length + an.length + ns.length + ar.length):Nat):Int),.func (.func 30) #[] #[pB m,pB s]] w0 base (O1 m id flags Aq qs.length Cq Aa an.length Ca An ns.length Cn Ar ar.length Cr::[(s,.cells #[vV size] 3 (0,0))]::H) (fun v H' => ∃ i:Nat,i≤(qs.length + an.length + ns.length + ar.length)∧(i < (qs.length + an.length + ns.length + ar.length)→zgU id flags qs an ns ar size i=true)∧v=int (i:Int)∧H' = (O1 m id flags Aq qs.length Cq Aa an.length Ca An ns.length Cn Ar ar.length Cr)::[(s,.cells #[vV size] 3 (0,0))]::H):=by
 have hl9:=hM.2.2.1
 refine zaa (n:=26) Tryz.func32 Z Z Z fun cs => ?_
 refine a12 ?_
 refine zcC (fun (i:Nat) (j:Nat) => [(1,.func (.func 30) #[] #[pB m,pB s]),(5,vV (i:Int)),(6,vV (j:Int))]) (fun i j => (O1 m id flags Aq qs.length Cq Aa an.length Ca An ns.length Cn Ar ar.length Cr)::[(s,.cells #[vV size] 3 (0,0))]::H) (fun i j => i≤j∧j≤(qs.length + an.length + ns.length + ar.length)∧(j < (qs.length + an.length + ns.length + ar.length)→zgU id flags qs an ns ar size j=true)) (fun i j => j - i) 0 (qs.length + an.length + ns.length + ar.length) (⟨zDq _,zDe _,fun h => absurd h (Nat.lt_irrefl _)⟩) ⟨Z,Z,Z,trivial⟩ Z ?_
 rintro i j ⟨hi9,hj9,hf9⟩ ihL1
 refine a7 ?_
 refine zac Z ?_ ?_
 ·intro hc1
  try dsimp only at hc1
  refine a7 ?_
  refine zay (z:=(i:Int) + (j:Int)) Z Z zg0 Z Z (w64u kQ kQ) ?_
  refine zeq (z:=((i:Int) + (j:Int)) / 2) zg0 Z Z Z kQ (zgf _ _ 1 Z kE _ kE) ?_
  refine zay (z:=((i:Int) + (j:Int)) / 2) Z Z zg0 Z Z (w64 kQ kQ)<|a6 ?_
  refine zcz zrH zg0 Z Z Z Z (zwI (n:=(i + j) / 2) hq ha hn hr hB hqs8 han8 hns8 har8 hM kQ) ?_
  rintro _ _ ⟨rfl,rfl⟩
  refine a2 ?_
  refine zaT Z ?_ ?_
  ·intro hc2
   have hc2:(zgU id flags qs an ns ar size ((i + j) / 2))=false:=zat hc2
   refine a6 ?_
   refine ihL1 ((i + j) / 2 + 1) j (⟨by omega,hj9,hf9⟩) kQ _ ?_
   exact zen
  ·intro hc2
   have hc2:(zgU id flags qs an ns ar size ((i + j) / 2))=true:=zas hc2
   refine a5 ?_
   refine ihL1 i ((i + j) / 2) (⟨by omega,by omega,fun _ => (by simpa using hc2)⟩) kQ _ ?_
   exact zen
 ·intro hc1
  try dsimp only at hc1
  refine a6 ?_
  exact zad Tryz.func32 Z Z (⟨j,hj9,hf9,(by rw [show i=j from by omega]; rfl),Z⟩)
theorem zqi {z:Int}{s:Nat}{size:Int}{qs:List (yB×Int×Int)}{an ns ar:List (yB×Int×Int×Int×yB)}(hq:Rd tyQn w0 base H Aq Cq qs) (ha:Rd tyRec w0 base H Aa Ca an) (hn:Rd tyRec w0 base H An Cn ns) (hr:Rd tyRec w0 base H Ar Cr ar) (hB:qs.length≤140737488355328∧an.length≤140737488355328∧ns.length≤140737488355328∧ar.length≤140737488355328) (hqs8:∀ q ∈ qs,q.1.length≤4398046511104) (han8:∀ x ∈ an,x.1.length≤4398046511104∧x.2.2.2.2.length≤4398046511104) (hns8:∀ x ∈ ns,x.1.length≤4398046511104∧x.2.2.2.2.length≤4398046511104) (har8:∀ x ∈ ar,x.1.length≤4398046511104∧x.2.2.2.2.length≤4398046511104) (hM:MOk id flags qs an ns ar) (hz:z=(((qs.length + an.length + ns.length + ar.length):Nat):Int)) :
  SCalls Tryz.prog 32 [vV z,.func (.func 30) #[] #[pB m,pB s]] w0 base (O1 m id flags Aq qs.length Cq Aa an.length Ca An ns.length Cn Ar ar.length Cr::[(s,.cells #[vV size] 3 (0,0))]::H) (fun v H' => ∃ i:Nat,i≤(qs.length + an.length + ns.length + ar.length)∧(i < (qs.length + an.length + ns.length + ar.length)→zgU id flags qs an ns ar size i=true)∧v=int (i:Int)∧H' = (O1 m id flags Aq qs.length Cq Aa an.length Ca An ns.length Cn Ar ar.length Cr)::[(s,.cells #[vV size] 3 (0,0))]::H):=by
 subst hz; grind [zrV]
theorem zCh {size:Int}{qs:List (yB×Int×Int)}{an ns ar:List (yB×Int×Int×Int×yB)}(hq:Rd tyQn w0 base H Aq Cq qs) (ha:Rd tyRec w0 base H Aa Ca an) (hn:Rd tyRec w0 base H An Cn ns) (hr:Rd tyRec w0 base H Ar Cr ar) (hB:qs.length≤140737488355328∧an.length≤140737488355328∧ns.length≤140737488355328∧ar.length≤140737488355328) (hqs8:∀ q ∈ qs,q.1.length≤4398046511104) (han8:∀ x ∈ an,x.1.length≤4398046511104∧x.2.2.2.2.length≤4398046511104) (hns8:∀ x ∈ ns,x.1.length≤4398046511104∧x.2.2.2.2.length≤4398046511104) (har8:∀ x ∈ ar,x.1.length≤4398046511104∧x.2.2.2.2.length≤4398046511104) (hM:MOk id flags qs an ns ar) (hs9:12≤size∧size≤65535) :
  SCalls Tryz.prog 8 [.agg #[vV id,vV flags,.slice Aq qs.length Cq,.slice Aa an.length Ca,.slice An ns.length Cn,.slice Ar ar.length Cr],vV size] w0 base (H) (fun v H' => ∃ (x:Sl tyB 5) (i:Nat) (f2:Int) (qs2:List Qn3) (an2 ns2 ar2:List Rc5),MOk id f2 qs2 an2 ns2 ar2∧MAt x.l id f2 qs2 an2 ns2 ar2∧(x.l.length:Int)≤size∧v = .tuple #[.slice x.A x.l.length x.C,int (i:Int),int 0]∧H' = x.s::H):=by
 have hl9:=hM.2.2.1
 refine zaa (n:=52) Tryz.func8 Z Z Z fun cs => ?_
 refine a2 ?_
 refine zaU (cs:=#[vV id,vV flags,.slice Aq qs.length Cq,.slice Aa an.length Ca,.slice An ns.length Cn,.slice Ar ar.length Cr]) Z zg0 Z Z ?_
 intro b1
 refine zaU (cs:=#[vV size]) Z zg0 Z Z ?_
 intro b2
 refine a8 ?_
 refine zca Z (zgo (id:=id) (flags:=flags) (qs:=qs) (an:=an) (ns:=ns) (ar:=ar) (Rd.skip 2 hq) (Rd.skip 2 ha) (Rd.skip 2 hn) (Rd.skip 2 hr) hB hqs8 han8 hns8 har8) ?_
 rintro _ _ ⟨e3,hmk4,rfl,rfl⟩
 refine a3 ?_
 have he9:=hmk4.2 hM
 refine a4 ?_
 refine zao false Z (by simp [he9])<|a7 ?_
 refine zaG (t:=20) Z ?_ ?_
 ·intro hs20
  try dsimp only at hs20
  refine a11 ?_
  exact zad Tryz.func8 Z Z (by exfalso; omega)
 ·intro hs20
  try dsimp only at hs20
  refine a4 ?_
  refine zac Z ?_ ?_
  ·intro hc2
   try dsimp only at hc2
   refine a6 ?_
   exact zad Tryz.func8 Z Z (by exfalso; omega)
  ·intro hc2
   try dsimp only at hc2
   refine a22 ?_
   refine zbV zg0 Z Z Z<|a6 ?_
   refine zpk [1,0] 2 ?_
   refine zca Z (zqi (m:=b1) (s:=b2) hq ha hn hr hB hqs8 han8 hns8 har8 hM kQ) ?_
   rintro _ _ ⟨i5,hi6,hf7,rfl,rfl⟩
   refine a6 ?_
   refine zca Z (zjW (id:=id) (flags:=flags) (qs:=qs) (an:=an) (ns:=ns) (ar:=ar) (Rd.skip 2 hq) (Rd.skip 2 ha) (Rd.skip 2 hn) (Rd.skip 2 hr) (n:=i5) hM.2.2.1.1 hM.2.2.1.2.1 hM.2.2.1.2.2.1 hM.2.2.1.2.2.2 kQ) ?_
   rintro _ _ ⟨A8,C9,x11,x12,x13,x14,hx15,hx16,hx17,rd10,rfl,rfl⟩
   have hMw:MOk id (woF flags an ns ar i5) (woQ qs an ns ar i5) x11.l x12.l x13.l:=by rw [hx15,hx16,hx17]; exact zBg hM i5
   refine zca Z (zi1 (id:=id) (flags:=(woF flags an ns ar i5)) (qs:=woQ qs an ns ar i5) (an:=x11.l) (ns:=x12.l) (ar:=x13.l) (Rd.skip 4 rd10) (x11.own.rd (i:=1) Z) (x12.own.rd (i:=2) Z) (x13.own.rd (i:=0) Z) (by have h9:=hMw.2.2.1; omega) (fun q hq => hqs8 q (zEr hq)) (fun x hx => han8 x ((za9 _ _ _).mem (by rw [hx15] at hx; exact hx))) (fun x hx => hns8 x ((za9 _ _ _).mem (by rw [hx16] at hx; exact hx))) (fun x hx => har8 x ((za9 _ _ _).mem ((za9 _ _ _).mem (by rw [hx17] at hx; exact hx))))) ?_
   rintro _ _ (⟨x18,hMx20,hAx21,hfx22,rfl,rfl⟩ | ⟨e19,hex23,hfx22,rfl,rfl⟩)
   ·refine a14 ?_
    have hf8:=hfx22
    rw [hx15,hx16,hx17] at hf8
    have hfit:zgU id flags qs an ns ar size i5=true:=by rcases zEw i5 (qs.length + an.length + ns.length + ar.length) with h | h; exact hf7 h; rw [show i5=(qs.length + an.length + ns.length + ar.length) from by omega]; exact zmD id flags qs an ns ar hs9.1
    refine zpk [0] 7 ?_
    exact zad Tryz.func8 Z Z (⟨x18,i5,_,_,_,_,_,hMx20,hAx21,(by rw [zkw hf8] at hfit; exact zDf hfit),Z,Z⟩)
   ·refine a14 ?_
    have hf8:=hfx22 hMw
    rw [hx15,hx16,hx17] at hf8
    have hfit:zgU id flags qs an ns ar size i5=true:=by rcases zEw i5 (qs.length + an.length + ns.length + ar.length) with h | h; exact hf7 h; rw [show i5=(qs.length + an.length + ns.length + ar.length) from by omega]; exact zmD id flags qs an ns ar hs9.1
    exact zad Tryz.func8 Z Z (by rw [zhw hf8] at hfit; cases hfit)
theorem zhz {l:List (yB×Int×Int×Int×yB)}(h:Rd tyRec w0 base H A C l) (n:Int) :
  SCalls Tryz.prog 25 [.slice A l.length C,vV n] w0 base (H) (fun v H' => ∃ b:Bool,v = .bool b∧(b=false→(∀ x ∈ l,(x.1.length:Int)≤n∧(x.2.2.2.2.length:Int)≤n))∧H' = H):=by
 have hle0:=h.le
 have hcap0:=h.cap
 refine zaa (n:=30) Tryz.func25 Z Z Z fun cs => ?_
 refine a10 ?_
 refine zbM (fun (i:Nat) => [(0,.slice A l.length C),(1,vV n),(5,vV (i:Int))]) (fun i => H) (fun i => i≤l.length∧∀ j,j < i→(((l.getD j rD5).1.length:Int)≤n∧((l.getD j rD5).2.2.2.2.length:Int)≤n)) (fun i => l.length - i) 0 (⟨zDq _,fun j hj => absurd hj kQ⟩) ⟨Z,Z,Z,trivial⟩ Z ?_
 rintro i ⟨hi,hb⟩ ihL1
 refine a8 ?_
 refine zac Z ?_ ?_
 ·intro hc1
  try dsimp only at hc1
  refine a7 ?_
  refine zah i h Z zbs zg0 Z Z Z Z kQ<|zdy zrw zg0 Z Z ?_
  refine zax (v:=str ((l.getD i rD5).1)) zbz zg0 Z Z (Rd.cell_at h (j:=0) (getD_some rD5 kQ) Z)<|zbu (l:=(l.getD i rD5).1) Z zg0 Z Z<|a3 ?_
  refine zaI 9 (E':=[(29,.bool (decide ((n < (((l.getD i rD5).1).length:Int))∨(n < (((l.getD i rD5).2.2.2.2).length:Int))))),(0,.slice A l.length C),(1,vV n),(5,vV (i:Int))]) (fun J => ?_) ?_
  ·refine zaG (t:=20) Z ?_ ?_
   ·intro hs20
    try dsimp only at hs20
    refine a9 ?_
    exact J _ zej
   ·intro hs20
    try dsimp only at hs20
    refine a2 ?_
    refine zah i h Z zbs (.inr ⟨_,_,_,Z,Z,Z,Z⟩) Z Z Z Z kQ<|zdy zru (.inr ⟨_,_,_,Z,Z,Z,Z⟩) Z Z ?_
    refine zax (v:=str ((l.getD i rD5).2.2.2.2)) zbz (.inr ⟨_,_,_,Z,Z,Z,Z⟩) Z Z (Rd.cell_at h (j:=4) (getD_some rD5 kQ) Z)<|zbu (l:=(l.getD i rD5).2.2.2.2) Z (.inr ⟨_,_,_,Z,Z,Z,Z⟩) Z Z<|a3 ?_
    exact J _ zej
  ·refine a1 ?_
   refine zac Z ?_ ?_
   ·intro hc2
    try dsimp only at hc2
    refine a4 ?_
    exact zad Tryz.func25 Z Z (⟨true,Z,fun h => (by cases h),Z⟩)
   ·intro hc2
    try dsimp only at hc2
    refine a7 ?_
    refine ihL1 (i + 1) (⟨by omega,fun j hj => by rcases zEw j i with h9 | h9; exact hb j h9; obtain rfl:j=i:=kQ; omega⟩) kQ _ ?_
    exact zen
 ·intro hc1
  try dsimp only at hc1
  refine a5 ?_
  exact zad Tryz.func25 Z Z (⟨false,Z,fun _ => ziv (d:=rD5) fun j hj => hb j kQ,Z⟩)
theorem zuj {qs:List (yB×Int×Int)}{an ns ar:List (yB×Int×Int×Int×yB)}(hq:Rd tyQn w0 base H Aq Cq qs) (ha:Rd tyRec w0 base H Aa Ca an) (hn:Rd tyRec w0 base H An Cn ns) (hr:Rd tyRec w0 base H Ar Cr ar) (hB:qs.length≤140737488355328∧an.length≤140737488355328∧ns.length≤140737488355328∧ar.length≤140737488355328) (k n:Int) :
  SCalls Tryz.prog 5 [.agg #[vV id,vV flags,.slice Aq qs.length Cq,.slice Aa an.length Ca,.slice An ns.length Cn,.slice Ar ar.length Cr],vV k,vV n] w0 base (H) (fun v H' => ∃ b:Bool,v = .bool b∧(b=false→((qs.length + an.length + ns.length + ar.length:Nat):Int)≤k∧(∀ q ∈ qs,(q.1.length:Int)≤n)∧(∀ x ∈ an,(x.1.length:Int)≤n∧(x.2.2.2.2.length:Int)≤n)∧(∀ x ∈ ns,(x.1.length:Int)≤n∧(x.2.2.2.2.length:Int)≤n)∧(∀ x ∈ ar,(x.1.length:Int)≤n∧(x.2.2.2.2.length:Int)≤n))∧H' = H):=by
 have hleq:=hq.le
 have hcapq:=hq.cap
 have hlea:=ha.le
 have hcapa:=ha.cap
 have hlen:=hn.le
 have hcapn:=hn.cap
 have hler:=hr.le
 have hcapr:=hr.cap
 obtain ⟨hB1,hB2,hB3,hB4⟩:=hB
 refine zaa (n:=57) Tryz.func5 Z Z Z fun cs => ?_
 refine a2 ?_
 refine zaU (cs:=#[vV id,vV flags,.slice Aq qs.length Cq,.slice Aa an.length Ca,.slice An ns.length Cn,.slice Ar ar.length Cr]) Z zg0 Z Z ?_
 intro b1
 refine a23 ?_
 refine zac Z ?_ ?_
 ·intro hc1
  try dsimp only at hc1
  refine a4 ?_
  refine zpk [] 1 ?_
  exact zad Tryz.func5 Z Z (⟨true,Z,fun h => (by cases h),Z⟩)
 ·intro hc1
  try dsimp only at hc1
  refine a7 ?_
  refine zbM (fun (i:Nat) => [(2,vV n),(3,pB b1),(7,vV (i:Int))]) (fun i => (O1 b1 id flags Aq qs.length Cq Aa an.length Ca An ns.length Cn Ar ar.length Cr)::H) (fun i => i≤qs.length∧∀ j,j < i→((qs.getD j rD3).1.length:Int)≤n) (fun i => qs.length - i) 0 (⟨zDq _,fun j hj => absurd hj kQ⟩) ⟨Z,Z,Z,trivial⟩ Z ?_
  rintro i ⟨hi,hbq⟩ ihL1
  refine a9 ?_
  refine zac Z ?_ ?_
  ·intro hc2
   try dsimp only at hc2
   refine a8 ?_
   refine zah i (Rd.skip 1 hq) Z zfp zg0 Z Z Z Z kQ<|zdy zrt zg0 Z Z ?_
   refine zax (v:=str ((qs.getD i rD3).1)) zbz zg0 Z Z (Rd.cell_at (Rd.skip 1 hq) (j:=0) (getD_some rD3 kQ) Z)<|zbu (l:=(qs.getD i rD3).1) Z zg0 Z Z<|a3 ?_
   refine zac Z ?_ ?_
   ·intro hc3
    try dsimp only at hc3
    refine a4 ?_
    refine zpk [] 1 ?_
    exact zad Tryz.func5 Z Z (⟨true,Z,fun h => (by cases h),Z⟩)
   ·intro hc3
    try dsimp only at hc3
    refine a7 ?_
    refine ihL1 (i + 1) (⟨by omega,fun j hj => by rcases zEw j i with h9 | h9; exact hbq j h9; obtain rfl:j=i:=kQ; omega⟩) kQ _ ?_
    exact zen
  ·intro hc2
   try dsimp only at hc2
   refine a6 ?_
   refine zca Z (zhz (Rd.skip 1 ha) n) ?_
   rintro _ _ ⟨bb2,rfl,hb3,rfl⟩
   refine a1 ?_
   refine zaK (t:=45) Z ?_ ?_
   ·intro hs45
    have hs45:bb2=true:=hs45
    refine a13 ?_
    refine zpk [] 1 ?_
    exact zad Tryz.func5 Z Z (⟨true,Z,fun h => (by cases h),Z⟩)
   ·intro hs45
    have hs45:bb2=false:=hs45
    refine a3 ?_
    refine zca Z (zhz (Rd.skip 1 hn) n) ?_
    rintro _ _ ⟨bb4,rfl,hb5,rfl⟩
    refine a2 ?_
    refine zaK (t:=51) Z ?_ ?_
    ·intro hs51
     have hs51:bb4=true:=hs51
     refine a7 ?_
     refine zpk [] 1 ?_
     exact zad Tryz.func5 Z Z (⟨true,Z,fun h => (by cases h),Z⟩)
    ·intro hs51
     have hs51:bb4=false:=hs51
     refine a3 ?_
     refine zca Z (zhz (Rd.skip 1 hr) n) ?_
     rintro _ _ ⟨bb6,rfl,hb7,rfl⟩
     refine a3 ?_
     refine zpk [] 1 ?_
     exact zad Tryz.func5 Z Z (⟨_,Z,fun hx => ⟨by omega,ziv (d:=rD3) fun j hj => hbq j kQ,hb3 (by first | assumption | (revert hx; simp_all)),hb5 (by first | assumption | (revert hx; simp_all)),hb7 (by first | assumption | (revert hx; simp_all))⟩,Z⟩)
theorem zAT {p q:UInt8→Bool}{l:yB}(h:l.all p=true) (hi:∀ c,p c=true→q c=true):l.all q=true :=
 zDa.2 fun c hc => hi c (zDa.1 h c hc)
def ztT (c:UInt8):Bool:=decide (48≤c.toNat∧c.toNat≤57)
theorem zpE (n:Nat):(decF n).all ztT=true:=by
 induction n using Nat.strongRecOn with
 | _ n ih =>
  have hd:∀ k,k < 10→ztT (UInt8.ofNat (48 + k))=true:=fun k hk => (by decide +kernel:∀ k:Fin 10,ztT (UInt8.ofNat (48 + k.val))=true) ⟨k,hk⟩
  rw [decF]
  grind
theorem ztS {c:UInt8}(h:ztT c=true):zeu c=true∧zbN c=false:=by
 have:=(by decide +kernel:∀ n:Fin 256,ztT (UInt8.ofNat n.val)=true→zeu (UInt8.ofNat n.val)=true∧zbN (UInt8.ofNat n.val)=false) ⟨c.toNat,c.toNat_lt⟩
 simp_all
theorem zrb (n:Nat):zdZ (MAX16++decF n)=true:=by
 have h1:(MAX16++decF n).all zeu=true:=by
  rw [zEP,zAT (zpE n) fun c hc => (ztS hc).1]; decide
 have hne:0 < (decF n).length:=zE3.2 (zf9 n).2.1
 have h2:zjG (MAX16++decF n)=MAX16++decF n:=by
  refine (ziB _).2 (.inr ⟨(by decide:zbN 109=false),?_⟩)
  have e:(MAX16++decF n).getD ((MAX16++decF n).length - 1) 0=(decF n).getD ((decF n).length - 1) 0:=by
   grind
  grind [ztS,List.all_eq_true,zpE,zaA]
 grind [zdZ,decide_eq_true]
theorem zxv (age:Int) (b:yB) (kp:Bool) (hb:b.length≤65535) (hd:(decF age.toNat).length≤19):okR ⟨200,zdU age,b,kp⟩=true:=by
 have h1:fldR (CTN16,MED16)=true:=by decide
 have h2:fldR (CCN16,MAX16++decF age.toNat)=true:=by
  have e1:zcD CCN16 64=true:=by decide
  have e2:ownF (CCN16,MAX16++decF age.toNat)=false:=zDl (show ¬ (za4 CCN16=za4 CLEN∨za4 CCN16=za4 CONN∨za4 CCN16=za4 TENC) by decide)
  grind [fldR,zbt,zrb]
 have h3:sumF (zdU age)≤4096:=by
  have hm:MAX16.length=8:=rfl
  have hc:CTN16.length=12:=rfl
  have hk:CCN16.length=13:=rfl
  have hq:MED16.length=23:=rfl
  grind [sumF,zdU,List.length_append]
 have h4:zbn 200≠[]:=by decide
 have h5:(zdU age).length≤16:=by show 2≤16; decide
 have ha:(zdU age).all fldR=true:=by
  show (fldR (CTN16,MED16) && (fldR (CCN16,MAX16++decF age.toNat) && true))=true
  grind
 show (decide (zbn 200≠[]) && decide ((zdU age).length≤16) && decide (b.length≤65535) && (zdU age).all fldR && decide (sumF (zdU age)≤4096))=true
 grind
theorem zxu (h1:12≤b.length) (h2:b.length≤65535) (h3:0≤age) (h4:age < 2147483648):ansF b age kp=(zei ⟨200,zdU age,b,kp⟩,0)∧zhi (zei ⟨200,zdU age,b,kp⟩) 0=(⟨200,zdU age,b,kp⟩,((zei ⟨200,zdU age,b,kp⟩).length:Int),0):=by
 have hd:(decF age.toNat).length≤19:=by
  have h2:(10:Nat) ^ 19=10000000000000000000:=by decide
  exact (zf9 age.toNat).2.2 18 kQ
 have hok:=zxv age b kp h2 hd
 constructor
 ·simp_all [zuy,zds,zDi,zdi]
 ·have:=zoT (b:=zei ⟨200,zdU age,b,kp⟩) (at_:=0) (r:=⟨200,zdU age,b,kp⟩) kQ hok (by grind)
  grind
theorem zAR (hb:b.length≤65535) (ha:age < 2147483648):(zei ⟨200,zdU age,b,kp⟩).length≤4294967280:=by
 have hd:(decF age.toNat).length≤19:=by
  have h2:(10:Nat) ^ 19=10000000000000000000:=by decide
  exact (zf9 age.toNat).2.2 18 kQ
 have hdb:(decF b.length).length≤10:=zg2 _ kQ
 have hll:=zpf b.length hdb
 have hsl:=zrM 200 (zg2 200 kQ)
 have hel:(endB kp).length≤1000:=by cases kp <;> decide
 have hm:MAX16.length=8:=rfl
 have hc:CTN16.length=12:=rfl
 have hk:CCN16.length=13:=rfl
 have hq:MED16.length=23:=rfl
 grind [zcf,zdU,ze3,sumF,List.length_append,List.length_cons,List.length_nil,zei,zqG]
theorem zrJ {i j:Nat}(h:j≤a.length):subl (a++b) i j=subl a i j:=by
 unfold subl
 by_cases hi:i≤a.length
 ·grind
 ·have:j - i=0:=by omega
  grind
theorem zyK (h:2≤a.length):fszF (a++b)=fszF a:=by
 unfold fszF
 grind
theorem ztl {m:Int}(h:(frS m a).n≠0∨(frS m a).e≠0):frS m (a++b)=frS m a:=by
 have hl:(a++b).length=a.length + b.length:=zC6
 by_cases h2:a.length < 2
 ·simp_all [frS,zDi]
 ·have hz:=zyK (a:=a) (b:=b) kQ
  rw [frS,zDb kQ,hz]
  conv => rhs; rw [frS,zDb h2]
  rw [frS,zDb h2] at h
  grind
theorem zzY (m:Int) (a b:yB):frF m (a++b)=if (frF m a).e≠0 then frF m a else ⟨(frF m a).out++(frF m ((frF m a).rest++b)).out,(frF m ((frF m a).rest++b)).e,(frF m ((frF m a).rest++b)).rest⟩:=by
 induction a using (measure List.length).wf.induction with
 | _ a ih =>
  by_cases he:(frS m a).e=0
  ·by_cases hn:(frS m a).n=0
   ·simp_all [ziq,zDb]
   ·have h1:=zqJ m a hn
    have hA:=ztl (b:=b) (.inl hn)
    have hd:(a++b).drop (2 + (frS m a).n)=a.drop (2 + (frS m a).n)++b:=zDS kQ
    rw [zgS (c:=a++b) (by grind),hA,hd,ih _ (show (List.drop _ _).length < _ by grind),zgS hn,zrJ kQ]
    grind
  simp_all [ztl,zls,zDi]
theorem zCd (m:Int):frF m []=⟨[],0,[]⟩:=by
 simp_all [frS,zDi,ziq]
theorem zmC {m:Int}{l:yB}(h:frmE l=0):frF m (frmL l++b)=if m < (l.length:Int) then ⟨[],3,[]⟩ else ⟨l::(frF m b).out,(frF m b).e,(frF m b).rest⟩:=by
 have hl:=zzX l h
 have e:frmL l=[UInt8.ofInt ((l.length:Int) / 256),UInt8.ofInt (l.length:Int)]++l:=by rw [frmL,zDi h]
 have hz:fszF (frmL l++b)=l.length:=by
  rw [fszF,e]
  grind [UInt8.ofInt,zdN]
 have hln:(frmL l++b).length=l.length + 2 + b.length:=by grind
 have hx:subl (frmL l++b) 2 (2 + l.length)=l:=by simp_all [subl]
 have hd:(frmL l++b).drop (2 + l.length)=b:=by
  grind
 by_cases hm:m < (l.length:Int)
 ·have hS:frS m (frmL l++b)=⟨3,0⟩:=by rw [frS,zDb kQ,hz,zDb kQ,zDi hm]
  simp_all [zls,zDi]
 ·have hS:frS m (frmL l++b)=⟨0,l.length⟩:=by rw [frS,zDb kQ,hz,zDb kQ,zDb hm,zDb kQ]
  rw [zgS (by grind),hS,zDb hm]
  grind
theorem zux {L:yB}{e:Int}(hk:ansF b age kp=(L,e)) (h:Rd tyB w0 base H A C b) (hbl:b.length≤4294967280) (T10:Tab10 w0 base) :
  SCalls Tryz.prog 17 [.slice A b.length C,int age,.bool kp] w0 base H (fun v H' => ∃ x:Sl tyB 5,x.l=L∧v = .tuple #[.slice x.A x.l.length x.C,int e]∧H' = x.s::H):=by
 refine (zn9 h hbl age kp T10).mono ?_
 grind
theorem zy3 {bd:yB}{fs:List Fld}{st n e:Int}(hk:zhi b 0=(⟨st,fs,bd,kp⟩,n,e)) (h:Rd tyB w0 base H A C b) (hbl:b.length≤4294967280) (T:Tabs w0 base) (ET:ErrTab w0 base) (T10:Tab10 w0 base) :
  SCalls Tryz.prog 18 [.slice A b.length C,int 0] w0 base H (fun v H' => ∃ (x:Sl zbm 112) (y:Sl tyB 5),x.l=fs∧y.l=bd∧v = .tuple #[.agg #[int st,.slice x.A x.l.length x.C,.slice y.A y.l.length y.C,.bool kp],int n,int e]∧H' = x.s::y.s::H):=by
 refine (zr7 0 h hbl T ET T10).mono ?_
 grind
theorem zCc {m:Int}(h:frmE b=0) (hs:(b.length:Int)≤m):frF m (frmL b++frmL b)=⟨[b,b],0,[]⟩:=by
 have h1:=zmC (m:=m) (b:=frmL b) h
 have h2:=zmC (m:=m) (b:=[]) h
 simp_all [zDb,zCd,zDO]
theorem zCf {m:Int}{c d:yB}(h:frF m (c++d)=⟨o,0,[]⟩):∃ o1 o2 r,frF m c=⟨o1,0,r⟩∧frF m (r++d)=⟨o2,0,[]⟩∧o1++o2=o:=by
 have h1:=zzY m c d
 rw [h] at h1
 by_cases he:(frF m c).e=0
 ·rw [zDb kQ] at h1
  have h2:=zDh FrmR.out h1; have h3:=zDh FrmR.e h1; have h4:=zDh FrmR.rest h1
  dsimp only at h2 h3 h4
  refine ⟨(frF m c).out,(frF m ((frF m c).rest++d)).out,(frF m c).rest,?_,?_,h2.symm⟩
  ·rw [← he]
  ·rw [h3,h4]
 grind
theorem zBE {l:yB}(hE:frmE l=0) (h:Rd tyB w0 base H A C l) (hl:l.length≤1000000) :
  SCalls Tryz.prog 10 [.slice A l.length C] w0 base H (fun v H' => ∃ x:Sl tyB 5,x.l=frmL l∧v = .tuple #[.slice x.A x.l.length x.C,int 0]∧H' = x.s::H):=by
 grind [zBD]
theorem zsd {b:Nat}{y:Sl tyB 5}{m lr:Int}{off:Nat}{l r:yB}(hF:frF m (y.l.drop off++l)=⟨o,0,r⟩) (h:Rd tyB w0 base H A C l) (hl:y.l.length + l.length≤300000000) (ho:off≤y.l.length) (hm:12≤m∧m≤65535) :
  SCalls Tryz.prog 13 [pB b,.slice A l.length C] w0 base (y.s::O0 b m false y.A y.l.length y.C (off:Int) lr 0::H) (fun v H' => ∃ (x:Sl tyL 31) (ys:List (Sl tyB 5)) (z:Sl tyB 5) (off' : Nat) (lr' : Int),x.l=ys.map Sl.v∧ys.map (·.l)=o∧off'≤z.l.length∧z.l.length≤y.l.length + l.length∧z.l.drop off' = r∧v = .tuple #[.slice x.A x.l.length x.C,int 0] ∧
   H' = x.s::zbU ys::z.s::O0 b m false z.A z.l.length z.C (off' : Int) lr' 0::H):=by
 refine (zy7 (br:=false) (e:=0) h hl ho hm (fun _ => Z)).mono ?_
 simp_all [frP,zDb,frB]
theorem zzI {b:Nat}{y:Sl tyB 5}{m lr:Int}{off:Nat}(hr:y.l.drop off=[]) (hl:y.l.length≤500000000) (ho:off≤y.l.length) (hm:¬ m=0) :
  SCalls Tryz.prog 15 [pB b] w0 base (y.s::O0 b m false y.A y.l.length y.C (off:Int) lr 0::H) (fun v H' => v=int 0∧H' = y.s::O0 b m false y.A y.l.length y.C (off:Int) lr 0::H):=by
 grind [zzH]
noncomputable section
inductive W (α:Type) where
  | mk (a:α)
def W.go (w:W α):α:=W.rec (motive:=fun _ => α) (fun a => a) w
inductive Tr (α:Type) where
  | e
  | n (l:Tr α) (x:α) (r:Tr α)
def pth (f:Nat):Nat→List Bool:=Nat.rec (motive:=fun _ => Nat→List Bool) (fun _ => []) (fun _ ih k => match k with
 | 0 => []
 | k + 1 => Nat.beq (Nat.mod k 2) 1::ih (Nat.div k 2)) f
def getP (d:α) (p:List Bool):Tr α→α:=List.rec (motive:=fun _ => Tr α→α)
 (fun t => Tr.rec (motive:=fun _ => α) d (fun _ x _ _ _ => x) t)
 (fun b _ ih t => Tr.rec (motive:=fun _ => α) d (fun l _ r _ _ => Bool.rec (motive:=fun _ => α) (ih l) (ih r) b) t) p
def Tr.get (d:α) (t:Tr α) (k:Nat):α:=getP d (pth k k) t
def Tr.fr (k:Tr α→β) (t:Tr α):β:=Tr.rec (motive:=fun _ => β) (k .e) (fun l x r _ _ => k (.n l x r)) t
def putP (d v:α) (p:List Bool):Tr α→Tr α:=List.rec (motive:=fun _ => Tr α→Tr α)
 (fun t => Tr.rec (motive:=fun _ => Tr α) (.n .e v .e) (fun l _ r _ _ => .n l v r) t)
 (fun b _ ih t => Tr.rec (motive:=fun _ => Tr α) (Bool.rec (motive:=fun _ => Tr α) (Tr.fr (fun l => .n l d .e) (ih .e)) (Tr.fr (fun r => .n .e d r) (ih .e)) b)
  (fun l x r _ _ => Bool.rec (motive:=fun _ => Tr α) (Tr.fr (fun l => .n l x r) (ih l)) (Tr.fr (fun r => .n l x r) (ih r)) b) t) p
def Tr.put (d v:α) (t:Tr α) (k:Nat) (c:Tr α→β):β:=Tr.fr c (putP d v (pth k k) t)
def zif {α:Type}:List α→List α
 | [] => []
 | x::l => x::(match l with | [] => [] | _::m => zif m)
def odds {α:Type}:List α→List α
 | [] => []
 | _::l => match l with | [] => [] | y::m => y::odds m
def mkTr {α:Type}:Nat→List α→Tr α
 | 0,_ => .e
 | _ + 1,[] => .e
 | f + 1,x::l => .n (mkTr f (zif l)) x (mkTr f (odds l))
def frN (k:Nat→β) (n:Nat):β:=Nat.rec (motive:=fun _ => β) (k 0) (fun n _ => k (Nat.succ n)) n
inductive LV where
  | undef
  | bool (b:Bool)
  | int (k:IntKind) (n:Int)
  | flt (k:FloatKind) (n:Nat)
  | nan
  | nanb
  | str (len n:Nat)
  | nilp
  | ptr (i o:Nat)
  | gptr (g o:Nat)
  | nils
  | sle
  | sl (i o len cap:Nat)
  | slo (i o len a:Nat)
  | map0
  | map (i:Nat)
  | fn (f:FuncId) (first cap:List LV)
  | yield (l:Nat)
  | nilf
  | ifc (t:TypeId) (v:LV)
  | nili
  | agg (cs:List LV)
  | tup (vs:List LV)
  deriving Inhabited
inductive AD where
  | call (f:FuncId) (args:List LV)
  | coll (r:Nat)
abbrev Fr:=Tr LV
inductive LO where
  | gone
  | rows (sz len:Nat) (t:Tr (List LV))
  | bytes (len n:Nat)
  | map (clock:Nat) (bs:List Nat) (es:List (LV×LV))
  | iter (m:Option Nat) (since:Nat) (seen:List Nat) (last:Nat)
  | loop (st:LoopState) (pend:Option Code) (fn:FuncId) (f:Fr) (ps:List Tmp) (assign body:Code) (dfs:Nat)
  | defd (ds:Option (List AD))
abbrev LH:=Tr LO
inductive Q where
  | bad (why:Nat)
  | ok (v:LV)
inductive Rs where
  | bad (why:Nat)
  | ok (v:LV) (nx:Nat) (h:LH)
def atB (h:LH) (i:Nat):LO:=Tr.get .gone h i
inductive TK where
  | other | flt | bool | int (k:IntKind) | str | ptr (e:TypeId) | slice (e:TypeId) | array (n:Nat) (e:TypeId) | map (k e:TypeId) | struct (fs:List (Nat×Nat×Bool×TypeId)) | iface (any:Bool) | func
  deriving Inhabited
structure TI where
  sz:Nat
  bytes:Nat
  zero:LV
  kind:TK
  cmp:Bool
  ok:Bool
  deriving Inhabited
def zaf:yB→Nat
 | [] => 0
 | b::l => b.toNat + 256 * zaf l
def cvL (f:Value→LV):List Value→List LV
 | [] => []
 | v::l => f v::cvL f l
def cv:Nat→Value→LV
 | 0,_ => .undef
 | f + 1,v => match v with
  | .bool b => .bool b
  | .int k n => .int k n
  | .float k n => .flt k n
  | .string s => .str s.data.toList.length (zaf s.data.toList)
  | .pointer none => .nilp
  | .slice none 0 0 => .nils
  | .map none => .map0
  | .nilFunc => .nilf
  | .nilIface => .nili
  | .iface t v => .ifc t (cv f v)
  | .agg cs => match cs.toList.all (·.oneCell') with
   | true => .agg (cvL (cv f) cs.toList)
   | false => .undef
  | .func (.func g) a b => match a.toList,b.toList with
   | [],[] => .fn g [] []
   | _,_ => .undef
  | _ => .undef
def one:LV→Bool
 | .undef => false
 | .agg _ => false
 | .tup _ => false
 | _ => true
def cells:LV→Option (List LV)
 | .undef => none
 | .tup _ => none
 | .agg cs => some cs
 | v => some [v]
def kN:IntKind→Nat
 | .i8 => 0 | .i16 => 1 | .i32 => 2 | .i64 => 3 | .u8 => 4 | .u16 => 5 | .u32 => 6 | .u64 => 7
def lim:IntKind→Nat
 | .i64 => 9223372036854775808
 | .u64 => 18446744073709551616
 | .u8 => 256
 | .u16 => 65536
 | .u32 => 4294967296
 | .i32 => 2147483648
 | .i8 => 128
 | .i16 => 32768
def zxj:IntKind→Nat
 | .i64 => 64 | .u64 => 64 | .i32 => 32 | .u32 => 32 | .i16 => 16 | .u16 => 16 | .i8 => 8 | .u8 => 8
def ltI:Int→Int→Bool
 | .ofNat a,.ofNat b => Nat.blt a b
 | .ofNat _,.negSucc _ => false
 | .negSucc _,.ofNat _ => true
 | .negSucc a,.negSucc b => Nat.blt b a
def eqI:Int→Int→Bool
 | .ofNat a,.ofNat b => Nat.beq a b
 | .negSucc a,.negSucc b => Nat.beq a b
 | _,_ => false
def putI (k:IntKind):Int→LV
 | .ofNat n => frN (fun n => .int k (.ofNat n)) n
 | .negSucc n => frN (fun n => .int k (.negSucc n)) n
def mkN (k:IntKind) (n:Nat):LV:=match Nat.blt n (lim k) with
 | true => frN (fun n => .int k (.ofNat n)) n
 | false => putI k (k.wrap (.ofNat n))
def mkI (k:IntKind):Int→LV
 | .ofNat n => mkN k n
 | .negSucc n => match k.signed && Nat.blt n (lim k) with
  | true => frN (fun n => .int k (.negSucc n)) n
  | false => putI k (k.wrap (.negSucc n))
def zjK:LV→Option Nat
 | .int _ (.ofNat n) => some n
 | _ => none
def subN (x o n:Nat):Nat:=Nat.mod (Nat.div x (Nat.pow 256 o)) (Nat.pow 256 n)
def catN (l a b:Nat):Nat:=Nat.add a (Nat.mul b (Nat.pow 256 l))
def zxh (x o:Nat):Nat:=Nat.mod (Nat.div x (Nat.pow 256 o)) 256
def ltN:Nat→Nat→Nat→Nat→Bool
 | _,_,0,_ => false
 | 0,_,_ + 1,_ => true
 | la + 1,a,lb + 1,b => match Nat.beq (Nat.mod a 256) (Nat.mod b 256) with
  | true => ltN la (Nat.div a 256) lb (Nat.div b 256)
  | false => Nat.blt (Nat.mod a 256) (Nat.mod b 256)
def zdq:Nat→Nat→List LV
 | 0,_ => []
 | n + 1,x => .int .u8 (.ofNat (Nat.mod x 256))::zdq n (Nat.div x 256)
def zCx:LV→Option Nat
 | .int .u8 (.ofNat b) => match Nat.blt b 256 with
  | true => some b
  | false => none
 | _ => none
def numL:List LV→Option Nat
 | [] => some 0
 | v::l => match zCx v,numL l with
  | some b,some n => some (Nat.add b (Nat.mul 256 n))
  | _,_ => none
def zrZ (t:Tr (List LV)):Nat→Nat→List LV
 | 0,_ => []
 | r + 1,i => Tr.get [] t i++zrZ t r (i + 1)
def zvO (sz len:Nat) (t:Tr (List LV)) (o n:Nat):Option (List LV):=match Nat.ble (Nat.add o n) (Nat.mul len sz) with
 | false => none
 | true => match Nat.ble (Nat.add (Nat.mod o sz) n) sz with
  | true => some (((Tr.get [] t (Nat.div o sz)).drop (Nat.mod o sz)).take n)
  | false => match Nat.beq (Nat.mod o sz) 0 && Nat.beq (Nat.mod n sz) 0 with
   | true => some (zrZ t (Nat.div n sz) (Nat.div o sz))
   | false => none
def zy4 (len x o n:Nat):Option (List LV):=match Nat.ble (Nat.add o n) len with
 | false => none
 | true => some (zdq n (Nat.div x (Nat.pow 256 o)))
def zl9 (lo:LO) (o n:Nat):Option (List LV):=match lo with
 | .rows sz len t => zvO sz len t o n
 | .bytes len x => zy4 len x o n
 | _ => none
def zt4 (lo:LO) (o:Nat):Option LV:=match lo with
 | .rows sz len t => match Nat.blt o (Nat.mul len sz) with
  | true => (Tr.get [] t (Nat.div o sz))[Nat.mod o sz]?
  | false => none
 | .bytes len x => match Nat.blt o len with
  | true => some (frN (fun b => .int .u8 (.ofNat b)) (zxh x o))
  | false => none
 | _ => none
def zes {β:Type}(sz:Nat) (c:Tr (List LV)→β):Nat→Tr (List LV)→Nat→List LV→β
 | 0,t,_,_ => c t
 | r + 1,t,i,l => Tr.put [] (l.take sz) t i fun t => zes sz c r t (i + 1) (l.drop sz)
def rowW (r:Nat) (row l:List LV):List LV:=row.take r++(l++row.drop (Nat.add r l.length))
def zq8 (sz len:Nat) (t:Tr (List LV)) (o:Nat) (l:List LV):Option LO:=match Nat.ble (Nat.add o l.length) (Nat.mul len sz) with
 | false => none
 | true => match Nat.ble (Nat.add (Nat.mod o sz) l.length) sz with
  | true => Tr.put [] (rowW (Nat.mod o sz) (Tr.get [] t (Nat.div o sz)) l) t (Nat.div o sz) fun t => some (.rows sz len t)
  | false => match Nat.beq (Nat.mod o sz) 0 && Nat.beq (Nat.mod l.length sz) 0 with
   | true => zes sz (fun t => some (.rows sz len t)) (Nat.div l.length sz) t (Nat.div o sz) l
   | false => none
def zt7 (x o n y:Nat):Nat:=catN o (subN x 0 o) (catN n y (Nat.div x (Nat.pow 256 (Nat.add o n))))
def zow (len x o n y:Nat):Option LO:=match Nat.ble (Nat.add o n) len with
 | true => frN (fun z => some (.bytes len z)) (zt7 x o n y)
 | false => none
def zgt (lo:LO) (o:Nat) (l:List LV):Option LO:=match lo with
 | .rows sz len t => zq8 sz len t o l
 | .bytes len x => match numL l with
  | some y => zow len x o l.length y
  | none => none
 | _ => none
def putB (h:LH) (i:Nat) (lo:LO) (v:LV) (nx:Nat):Rs:=Tr.put .gone lo h i fun h => .ok v nx h
def zhG (h:LH) (i o:Nat) (l:List LV) (v:LV) (nx:Nat):Rs:=match zgt (atB h i) o l with
 | some lo => putB h i lo v nx
 | none => .bad 24
def writeM (lo:LO) (o n y:Nat):Option LO:=match lo with
 | .bytes len x => zow len x o n y
 | lo => zgt lo o (zdq n y)
def zjU (h:LH) (i o n y:Nat) (v:LV) (nx:Nat):Rs:=match writeM (atB h i) o n y with
 | some lo => putB h i lo v nx
 | none => .bad 25
def newB (lo:LO) (v:LV) (nx:Nat) (h:LH):Rs:=match Nat.blt nx 1000000 with
 | true => Tr.put .gone lo h nx fun h => frN (fun m => .ok v m h) (Nat.succ nx)
 | false => .bad 26
def mkR (sz:Nat) (l:List LV):Option LO:=match Nat.blt 0 sz && (Nat.beq (Nat.mod l.length sz) 0 && Nat.blt l.length 1000000) with
 | true => zes sz (fun t => some (.rows sz (Nat.div l.length sz) t)) (Nat.div l.length sz) .e 0 l
 | false => none
def mkLO (byte:Bool) (sz:Nat) (l:List LV):Option LO:=match byte with
 | true => match numL l with
  | some x => frN (fun x => some (.bytes l.length x)) x
  | none => none
 | false => mkR sz l
def repL:Nat→List LV→List LV
 | 0,_ => []
 | n + 1,l => l++repL n l
def zCi (cs:List LV) (o s:Nat) (vs:List LV):Option (List LV):=match Nat.beq vs.length s && Nat.ble (o + s) cs.length with
 | true => some (cs.take o++(vs++cs.drop (o + s)))
 | false => none
def zmH (place:Nat→Option (Nat×Nat)):List LV→List (Nat×LV)→Option (List LV)
 | cs,[] => some cs
 | cs,(i,v)::rest => match place i with
  | none => none
  | some (o,s) => match cells v with
   | none => none
   | some vs => match zCi cs o s vs with
    | some cs => zmH place cs rest
    | none => none
def aggB:Option TypeDesc→Bool
 | some (.struct _) => true
 | some (.array _ _) => true
 | _ => false
def szOf (P:Program) (t:TypeId):Nat:=match P.info? t with
 | some i => i.size
 | none => 0
def known (P:Program) (t:TypeId):Bool:=Nat.blt t P.types.size && ((P.underlying t).isSome && (match P.info? t with
 | some i => match i.zero with
  | some z => Nat.beq z.cells.size i.size
  | none => true
 | none => false))
def zc6 (P:Program) (t:TypeId):TK:=match P.underlying t with
 | some .bool => .bool
 | some (.int k) => .int k
 | some .string => .str
 | some (.float .f64) => .flt
 | some (.pointer e) => match known P e with | true => .ptr e | false => .other
 | some (.slice e) => match known P e with | true => .slice e | false => .other
 | some (.array n e) => match known P e with | true => .array n e | false => .other
 | some (.map k e) => match known P k && known P e with | true => .map k e | false => .other
 | some (.struct fs) => match fs.toList.all (fun f => known P f.type) with
  | true => .struct (fs.toList.map fun f => (f.offset,szOf P f.type,aggB (P.underlying f.type),f.type))
  | false => .other
 | some (.interface ms) => .iface ms.isEmpty
 | some (.func _ _ _) => .func
 | _ => .other
def flat (P:Program) (t:TypeId):Bool:=match P.underlying t with
 | some (.struct _) => false
 | some (.array _ _) => false
 | some _ => true
 | none => false
def zxc (P:Program) (t:TypeId) (i:TypeInfo):Bool:=i.comparable && !(P.stoodInHeld t) && !(P.eqGuardType P.depth t) && (match P.underlying t with
 | some (.struct fs) => fs.toList.all fun f => f.name != "_"
 | _ => true)
def mkTI (P:Program) (t:TypeId):TI:=match known P t with
 | true => match P.info? t with
  | some i => ⟨i.size,i.bytes,match i.zero with | some z => cv 50 z | none => .undef,zc6 P t,zxc P t i,flat P t⟩
  | none => default
 | false => default
def isAgg:TK→Bool
 | .struct _ => true
 | .array _ _ => true
 | _ => false
end
noncomputable section
inductive Mw where
  | plain (f:FuncId)
  | loads (f:FuncId) (e:TypeId)
  | fields (f:FuncId) (o:Nat)
structure Cx where
  ty:Nat→TI
  fn:Nat→Option Func
  pr:Nat→Option (List LV→Nat→LH→Rs)
  gl:Nat→Nat→Option LV
  mt:TypeId→String→Option Mw
abbrev SlF:=Nat→LV
def compX (x:Operand):W (SlF→LV):=match x with
 | .tmp t => .mk fun f => f t
 | .const v => .mk fun _ => cv 50 v
 | .global g => .mk fun _ => .gptr g 0
 | .func g => .mk fun _ => .fn g [] []
def evO (x:Operand) (f:SlF):LV:=(compX x).go f
def okV (v:LV):Q:=match v with
 | .undef => .bad 99
 | v => .ok v
def optQ (n:Nat) (v:Option LV):Q:=match v with
 | some v => .ok v
 | none => .bad n
def addI:Int→Int→Int
 | .ofNat a,.ofNat b => .ofNat (Nat.add a b)
 | a,b => a + b
def subI:Int→Int→Int
 | .ofNat a,.ofNat b => match Nat.ble b a with
  | true => .ofNat (Nat.sub a b)
  | false => .negSucc (Nat.pred (Nat.sub b a))
 | a,b => a - b
def mulI:Int→Int→Int
 | .ofNat a,.ofNat b => .ofNat (Nat.mul a b)
 | a,b => a * b
def divQ (k:IntKind):Int→Int→Q
 | .ofNat a,.ofNat (b + 1) => .ok (mkN k (Nat.div a (Nat.succ b)))
 | a,b => match eqI b 0 with
  | true => .bad 10
  | false => .ok (mkI k (a.tdiv b))
def remQ (k:IntKind):Int→Int→Q
 | .ofNat a,.ofNat (b + 1) => .ok (frN (fun n => .int k (.ofNat n)) (Nat.mod a (Nat.succ b)))
 | a,b => match eqI b 0 with
  | true => .bad 10
  | false => .ok (putI k (a.tmod b))
def bitQ (g:Nat→Nat→Nat) (k:IntKind):Int→Int→Q
 | .ofNat a,.ofNat b => .ok (mkN k (g a b))
 | _,_ => .bad 8
def notN (a b:Nat):Nat:=Nat.xor a (Nat.land a b)
abbrev IQ:=IntKind→Int→Int→Q
abbrev SQ:=Nat→Nat→Nat→Nat→Q
def intI (g:IQ) (k:IntKind) (x:Int) (b:LV):Q:=match b with
 | .int k' y => match Nat.beq (kN k) (kN k') with
  | true => g k x y
  | false => .bad 16
 | _ => .bad 16
def strS (s:SQ) (la x:Nat) (b:LV):Q:=match b with
 | .str lb y => s la x lb y
 | _ => .bad 17
def numQ (g:IQ) (s:SQ) (e:LV→LV→Q) (a b:LV):Q:=match a with
 | .int k x => intI g k x b
 | .str la x => strS s la x b
 | a => e a b
def fl1 (g:Option Ordering→Bool) (k:FloatKind) (x:Nat) (b:LV):Q:=match k,b with
 | .f64,.flt .f64 y => .ok (.bool (g (Ieee.double.order x y)))
 | .f64,.nan => .ok (.bool (g none))
 | _,_ => .bad 15
def fl2 (g:Option Ordering→Bool) (b:LV):Q:=match b with
 | .flt .f64 _ => .ok (.bool (g none))
 | .nan => .ok (.bool (g none))
 | _ => .bad 15
def flE (g:Option Ordering→Bool) (e:LV→LV→Q) (a b:LV):Q:=match a with
 | .flt k x => fl1 g k x b
 | .nan => fl2 g b
 | a => e a b
def znS (c:Option Ordering):Bool:=match c with
 | some .eq => true
 | _ => false
def zs1 (c:Option Ordering):Bool:=match c with
 | some .lt => true
 | _ => false
def zs2 (c:Option Ordering):Bool:=match c with
 | some .gt => true
 | _ => false
def nbE (a b:LV):Q:=match a,b with
 | .nanb,.int .u64 (.ofNat 9223372036854775808) => .ok .nanb
 | _,_ => .bad 15
def noS:SQ:=fun _ _ _ _ => .bad 13
def noE:LV→LV→Q:=fun _ _ => .bad 15
def shN (k:IntKind) (n:Nat):Nat:=Nat.pow 2 (match Nat.ble n (zxj k) with | true => n | false => zxj k)
def shlI (k:IntKind) (a b:Int):Q:=match b with
 | .negSucc _ => .bad 12
 | .ofNat n => .ok (mkI k (mulI a (.ofNat (shN k n))))
def shrI (k:IntKind) (a b:Int):Q:=match a,b with
 | .ofNat x,.ofNat n => .ok (frN (fun n => .int k (.ofNat n)) (Nat.div x (shN k n)))
 | _,_ => .bad 12
def shQ (g:IntKind→Int→Int→Q) (a b:LV):Q:=match a with
 | .int k x => match b with
  | .int _ y => g k x y
  | _ => .bad 16
 | _ => .bad 16
def catQ (la a lb b:Nat):Q:=match Nat.blt (Nat.add la lb) 1000000 with
 | true => frN (fun l => frN (fun n => .ok (.str l n)) (catN la a b)) (Nat.add la lb)
 | false => .bad 13
def eqS (la a lb b:Nat):Bool:=Nat.beq la lb && Nat.beq a b
def zjJ (ag:Bool) (n:Nat) (cs:List LV) (o:Nat):Option LV:=match ag with
 | true => match Nat.ble (o + n) cs.length with
  | true => some (.agg ((cs.drop o).take n))
  | false => none
 | false => cs[o]?
section
variable (ty:Nat→TI)
abbrev EQ:=LV→LV→Option Bool
def eqFs (f:TypeId→EQ) (xs ys:List LV):List (Nat×Nat×Bool×TypeId)→Option Bool
 | [] => some true
 | (o,n,ag,t)::fs => match zjJ ag n xs o,zjJ ag n ys o with
  | some a,some b => match f t a b with
   | some true => eqFs f xs ys fs
   | r => r
  | _,_ => none
def eqAs (f:EQ) (ag:Bool) (sz:Nat) (xs ys:List LV):Nat→Nat→Option Bool
 | 0,_ => some true
 | r + 1,i => match zjJ ag sz xs (Nat.mul i sz),zjJ ag sz ys (Nat.mul i sz) with
  | some a,some b => match f a b with
   | some true => eqAs f ag sz xs ys r (i + 1)
   | r => r
  | _,_ => none
def ztK:EQ:=fun a b => match a,b with
 | .bool a,.bool b => some (a == b)
 | _,_ => none
def zAc:EQ:=fun a b => match a,b with
 | .int k a,.int k' b => match Nat.beq (kN k) (kN k') with
  | true => some (eqI a b)
  | false => none
 | _,_ => none
def zz7:EQ:=fun a b => match a,b with
 | .str la a,.str lb b => some (eqS la a lb b)
 | _,_ => none
def zAa (lv:Nat→Bool) (sz:Nat):EQ:=fun a b => match a,b with
 | .nilp,.nilp => some true
 | .nilp,.ptr _ _ => some false
 | .ptr _ _,.nilp => some false
 | .nilp,.gptr _ _ => some false
 | .gptr _ _,.nilp => some false
 | .ptr i o,.ptr j p => match Nat.blt 0 sz,Nat.beq i j with
  | true,true => some (Nat.beq o p)
  | true,false => match lv i && lv j with
   | true => some false
   | false => none
  | false,_ => none
 | .gptr i o,.gptr j p => match Nat.blt 0 sz && Nat.beq i j with
  | true => some (Nat.beq o p)
  | false => none
 | _,_ => none
def eqSl:EQ:=fun a b => match a,b with
 | .nils,.nils => some true
 | .nils,.sl _ _ _ _ => some false
 | .nils,.slo _ _ _ _ => some false
 | .sl _ _ _ _,.nils => some false
 | .slo _ _ _ _,.nils => some false
 | _,_ => none
def eqMp:EQ:=fun a b => match a,b with
 | .map0,.map0 => some true
 | .map0,.map _ => some false
 | .map _,.map0 => some false
 | _,_ => none
def eqFn:EQ:=fun a b => match a,b with
 | .nilf,.nilf => some true
 | .nilf,.fn _ _ _ => some false
 | .fn _ _ _,.nilf => some false
 | _,_ => none
def zAd (f:TypeId→EQ):EQ:=fun a b => match a,b with
 | .nili,.nili => some true
 | .nili,.ifc _ _ => some false
 | .ifc _ _,.nili => some false
 | .ifc t a,.ifc u b => match Nat.beq t u with
  | false => some false
  | true => match (ty t).cmp with
   | true => f t a b
   | false => none
 | _,_ => none
def zwS (f:List LV→List LV→Option Bool):EQ:=fun a b => match a,b with
 | .agg l,.agg m => f l m
 | _,_ => none
def eqT (lv:Nat→Bool):Nat→TypeId→EQ
 | 0,_ => fun _ _ => none
 | f + 1,t => match (ty t).kind with
  | .bool => ztK
  | .int _ => zAc
  | .str => zz7
  | .ptr e => zAa lv (ty e).sz
  | .iface _ => zAd ty (eqT lv f)
  | .struct fs => match (ty t).cmp with
   | true => zwS fun l m => eqFs (eqT lv f) l m fs
   | false => fun _ _ => none
  | .array n e => match (ty t).cmp with
   | true => zwS fun l m => eqAs (eqT lv f e) (!(ty e).ok) (ty e).sz l m n 0
   | false => fun _ _ => none
  | .slice _ => eqSl
  | .map _ _ => eqMp
  | .func => eqFn
  | .other => fun _ _ => none
  | .flt => fun _ _ => none
def zjM (h:LH) (i:Nat):Bool:=match atB h i with
 | .rows _ _ _ => true
 | _ => false
def isC:Operand→Bool
 | .const _ => true
 | _ => false
def grd (t:TypeId) (c:Bool) (a b:LV):Bool:=match a,b with
 | .nili,.nili => c
 | .agg _,.agg _ => (ty t).cmp
 | _,_ => true
def eqQ (lv:Nat→Bool) (neg:Bool) (t:TypeId) (c:Bool) (a b:LV):Q:=match grd ty t c a b with
 | true => match eqT ty lv 20 t a b with
  | some r => .ok (.bool (match neg with | true => !r | false => r))
  | none => .bad 14
 | false => .bad 14
def cmpI (g:Int→Int→Bool):IQ:=fun _ a b => .ok (.bool (g a b))
def cmpS (g:Nat→Nat→Nat→Nat→Bool):SQ:=fun la a lb b => .ok (.bool (g la a lb b))
def binQ (op:BinOp) (t:TypeId) (c:Bool):W (LV→LV→LH→Q):=match op with
 | .add => .mk fun a b h => numQ (fun k a b => .ok (mkI k (addI a b))) catQ noE a b
 | .sub => .mk fun a b h => numQ (fun k a b => .ok (mkI k (subI a b))) noS noE a b
 | .mul => .mk fun a b h => numQ (fun k a b => .ok (mkI k (mulI a b))) noS noE a b
 | .quo => .mk fun a b h => numQ divQ noS noE a b
 | .rem => .mk fun a b h => numQ remQ noS noE a b
 | .and => .mk fun a b h => numQ (bitQ Nat.land) noS noE a b
 | .or => .mk fun a b h => numQ (bitQ Nat.lor) noS noE a b
 | .xor => .mk fun a b h => numQ (bitQ Nat.xor) noS noE a b
 | .andNot => .mk fun a b h => numQ (bitQ notN) noS nbE a b
 | .eql => .mk fun a b h => numQ (cmpI eqI) (cmpS eqS) (flE znS (eqQ ty (zjM h) false t c)) a b
 | .neq => .mk fun a b h => numQ (cmpI fun a b => !eqI a b) (cmpS fun a b c d => !eqS a b c d) (flE (fun c => !znS c) (eqQ ty (zjM h) true t c)) a b
 | .lss => .mk fun a b h => numQ (cmpI ltI) (cmpS ltN) (flE zs1 noE) a b
 | .leq => .mk fun a b h => numQ (cmpI fun a b => !ltI b a) (cmpS fun a b c d => !ltN c d a b) (flE (fun c => zs1 c || znS c) noE) a b
 | .gtr => .mk fun a b h => numQ (cmpI fun a b => ltI b a) (cmpS fun a b c d => ltN c d a b) (flE zs2 noE) a b
 | .geq => .mk fun a b h => numQ (cmpI fun a b => !ltI a b) (cmpS fun a b c d => !ltN a b c d) (flE (fun c => zs2 c || znS c) noE) a b
 | .shl => .mk fun a b h => shQ shlI a b
 | .shr => .mk fun a b h => shQ shrI a b
end
def notQ (k:IntKind):Int→Q
 | .negSucc _ => .bad 19
 | .ofNat n => match k.signed with
  | true => .ok (mkI k (.negSucc n))
  | false => match Nat.blt n (lim k) with
   | true => .ok (mkN k (Nat.sub (Nat.pred (lim k)) n))
   | false => .bad 19
def negQ (a:LV):Q:=match a with
 | .int k x => .ok (mkI k (subI (.ofNat 0) x))
 | _ => .bad 19
def xorQ (a:LV):Q:=match a with
 | .int k x => notQ k x
 | _ => .bad 19
def nbQ (a:LV):Q:=match a with
 | .bool b => .ok (.bool (!b))
 | _ => .bad 19
def unQ (op:UnOp):LV→Q:=match op with
 | .neg => negQ
 | .xor => xorQ
 | .not => nbQ
 | _ => fun _ => .bad 19
section
variable (cx:Cx)
def zd6 (e:TypeId):Bool:=match (cx.ty e).kind with
 | .int .u8 => Nat.beq (cx.ty e).sz 1
 | _ => false
def aggQ (l:Option (List LV)):Q:=match l with
 | some l => .ok (.agg l)
 | none => .bad 20
def loadE (t:TypeId):W (LV→LH→Q):=match (cx.ty t).ok with
 | false => match isAgg (cx.ty t).kind with
  | true => .mk fun a h => match a with
   | .ptr i o => aggQ (zl9 (atB h i) o (cx.ty t).sz)
   | _ => .bad 23
  | false => .mk fun _ _ => .bad 23
 | true => .mk fun a h => match a with
  | .ptr i o => optQ 21 (zt4 (atB h i) o)
  | .gptr g o => optQ (10000 + g) (cx.gl g o)
  | _ => .bad 23
def lenE (a:LV):Option Nat:=match a with
 | .str n _ => some n
 | .nils => some 0
 | .sle => some 0
 | .sl _ _ n _ => some n
 | .slo _ _ n _ => some n
 | _ => none
def zfE (h:LH) (s n:Nat) (x:LV):Option (List LV):=match n with
 | 0 => some []
 | n + 1 => match x with
  | .str _ y => some (zdq (n + 1) y)
  | .sl i o _ _ => zl9 (atB h i) o (Nat.mul (n + 1) s)
  | .slo i o _ _ => zl9 (atB h i) o (Nat.mul (n + 1) s)
  | _ => none
def readN (lo:LO) (o n:Nat):Option Nat:=match lo with
 | .bytes len y => match Nat.ble (Nat.add o n) len with
  | true => some (subN y o n)
  | false => none
 | lo => match zl9 lo o n with
  | some l => numL l
  | none => none
def zd7 (h:LH) (n:Nat) (x:LV):Option Nat:=match n with
 | 0 => some 0
 | n + 1 => match x with
  | .str _ y => some (subN y 0 (n + 1))
  | .sl i o _ _ => readN (atB h i) o (n + 1)
  | .slo i o _ _ => readN (atB h i) o (n + 1)
  | _ => none
def szB:LO→Nat
 | .rows sz _ _ => sz
 | .bytes _ _ => 1
 | _ => 0
def zgg:LO→Nat
 | .rows sz len _ => Nat.mul len sz
 | .bytes len _ => len
 | _ => 0
def zfe (d:Nat):Option LV→Option Nat
 | none => some d
 | some v => zjK v
def offE (m l o sz:Nat):Nat:=match Nat.beq m l with
 | true => o
 | false => Nat.add o (Nat.mul l sz)
def okB (b:Bool) (n:Nat) (v:LV):Q:=match b with
 | true => .ok v
 | false => .bad n
def slE (i o sz l j m:Nat):LV:=frN (fun o => frN (fun n => frN (fun c => .sl i o n c) (Nat.sub m l)) (Nat.sub j l)) (offE m l o sz)
def sloA (l o a:Nat):Nat:=match l with
 | 0 => a
 | _ => o
def sloE (i o sz l j a:Nat):LV:=frN (fun a => frN (fun o => frN (fun n => .slo i o n a) (Nat.sub j l)) (Nat.add o (Nat.mul l sz))) (sloA l o a)
def cutS (n y l j:Nat):Q:=match Nat.ble l j && Nat.ble j n with
 | true => frN (fun m => frN (fun z => .ok (.str m z)) (subN y l m)) (Nat.sub j l)
 | false => .bad 42
def zym (sz:Nat) (i o n a l j:Nat) (mx:Option LV) (hi:Option LV) (h:LH):Q:=match mx with
 | none => okB (Nat.blt 0 sz && (Nat.beq sz (szB (atB h i)) && (Nat.ble l j && (Nat.ble j n || Nat.ble (Nat.add o (Nat.mul j sz)) (zgg (atB h i)))))) 44 (sloE i o sz l j a)
 | some v => match zjK v,hi with
  | some m,some _ => okB (Nat.blt 0 n && (Nat.ble l j && (Nat.ble j m && Nat.ble m n))) 44 (slE i o sz l j m)
  | _,_ => .bad 41
def zCp (e:Nat) (x:LV) (l:Nat) (hi mx:Option LV) (h:LH):Q:=match x with
 | .nils => match mx,l,zfe 0 hi with
  | none,0,some 0 => .ok .nils
  | _,_,_ => .bad 42
 | .sl i o n c => match zfe c mx,zfe n hi,mx.isSome && hi.isNone with
  | some m,some j,false => okB (Nat.ble l j && (Nat.ble j m && Nat.ble m c)) 42 (slE i o (cx.ty e).sz l j m)
  | _,_,_ => .bad 43
 | .slo i o n a => match zfe n hi with
  | some j => zym (cx.ty e).sz i o n a l j mx hi h
  | none => .bad 43
 | _ => .bad 45
def cutA (n e:Nat) (x:LV) (l:Nat) (hi mx:Option LV):Q:=match x,mx,zfe n hi with
 | .ptr i o,none,some j => okB (Nat.ble l j && Nat.ble j n) 42 (slE i o (cx.ty e).sz l j n)
 | _,_,_ => .bad 41
def zyl (x:LV) (l:Nat) (hi mx:Option LV):Q:=match x,mx with
 | .str n y,none => match zfe n hi with
  | some j => cutS n y l j
  | none => .bad 41
 | _,_ => .bad 41
def zrR (xt:TypeId):W (LV→Option LV→Option LV→Option LV→LH→Q):=match (cx.ty xt).kind with
 | .str => .mk fun x lo hi mx h => match zfe 0 lo with
  | some l => zyl x l hi mx
  | none => .bad 41
 | .slice e => .mk fun x lo hi mx h => match zfe 0 lo with
  | some l => zCp cx e x l hi mx h
  | none => .bad 41
 | .array n e => .mk fun x lo hi mx h => match zfe 0 lo with
  | some l => cutA cx n e x l hi mx
  | none => .bad 41
 | _ => .mk fun _ _ _ _ _ => .bad 43
def fld (t:TypeId) (f:Nat):Option (Nat×Nat×Bool):=match (cx.ty t).kind with
 | .struct fs => match fs[f]? with
  | some (o,n,ag,_) => some (o,n,ag)
  | none => none
 | _ => none
def addP (a:LV) (d:Nat):Q:=match a with
 | .ptr i o => .ok (frN (fun o => .ptr i o) (Nat.add o d))
 | .gptr i o => .ok (frN (fun o => .gptr i o) (Nat.add o d))
 | _ => .bad 46
def zhx (s f:Nat):W (LV→Q):=match fld cx s f with
 | some (off,n + 1,_) => .mk fun a => addP a off
 | _ => .mk fun _ => .bad 47
def ztw (s f:Nat):W (LV→Q):=match fld cx s f with
 | some (off,n,ag) => .mk fun a => match a with
  | .agg cs => optQ 48 (zjJ ag n cs off)
  | _ => .bad 49
 | none => .mk fun _ => .bad 47
def idxP (i o n j sz:Nat):Q:=match Nat.blt j n with
 | true => .ok (frN (fun o => .ptr i o) (Nat.add o (Nat.mul j sz)))
 | false => .bad 51
def idxS (sz:Nat) (x ix:LV):Q:=match zjK ix with
 | none => .bad 50
 | some j => match x with
  | .sl i o n _ => idxP i o n j sz
  | .slo i o n _ => idxP i o n j sz
  | _ => .bad 52
def idxA (n sz:Nat) (x ix:LV):Q:=match zjK ix with
 | none => .bad 50
 | some j => match Nat.blt j n with
  | true => addP x (Nat.mul j sz)
  | false => .bad 51
def zht (t:TypeId):W (LV→LV→Q):=match (cx.ty t).kind with
 | .slice e => .mk (idxS (cx.ty e).sz)
 | .array n e => .mk (idxA n (cx.ty e).sz)
 | _ => .mk fun _ _ => .bad 53
def zyf (x ix:LV):Q:=match zjK ix with
 | none => .bad 50
 | some j => match x with
  | .str n y => match Nat.blt j n with
   | true => .ok (frN (fun b => .int .u8 (.ofNat b)) (zxh y j))
   | false => .bad 54
  | _ => .bad 54
def idxV (n:Nat) (ag:Bool) (sz:Nat) (x ix:LV):Q:=match zjK ix with
 | none => .bad 50
 | some j => match x with
  | .agg cs => match Nat.blt j n with
   | true => optQ 55 (zjJ ag sz cs (Nat.mul j sz))
   | false => .bad 54
  | _ => .bad 57
def zs6 (t:TypeId):W (LV→LV→Q):=match (cx.ty t).kind with
 | .str => .mk zyf
 | .array n e => .mk (idxV n (!(cx.ty e).ok) (cx.ty e).sz)
 | _ => .mk fun _ _ => .bad 56
def plain:Nat→LV→Bool
 | 0,_ => false
 | f + 1,v => match v with
  | .int _ _ => true
  | .str _ _ => true
  | .bool _ => true
  | .agg l => l.all (plain f)
  | _ => false
def keyT (t:TypeId):Bool:=match (cx.ty t).kind with
 | .int _ => true
 | .str => true
 | .bool => true
 | .struct _ => (cx.ty t).cmp
 | .array _ _ => (cx.ty t).cmp
 | _ => false
def zmQ (t:TypeId):EQ:=eqT cx.ty (fun _ => false) 10 t
def keyK (t:TypeId) (a:LV):Bool:=keyT cx t && (plain 5 a && (match zmQ cx t a a with
 | some b => b
 | none => false))
def zoL (f:LV→LV→Bool):List LV→List LV→Bool
 | [],[] => true
 | a::l,b::m => match f a b with
  | true => zoL f l m
  | false => false
 | _,_ => false
def zoM:Nat→LV→LV→Bool
 | 0,_,_ => false
 | f + 1,a,b => match a,b with
  | .bool a,.bool b => a == b
  | .int k a,.int k' b => Nat.beq (kN k) (kN k') && eqI a b
  | .str l a,.str m b => eqS l a m b
  | .agg l,.agg m => zoL (zoM f) l m
  | _,_ => false
def ztr (t:TypeId) (k:LV):List (LV×LV)→Option (Option LV)
 | [] => some none
 | (a,v)::l => match zmQ cx t k a with
  | some true => some (some v)
  | some false => ztr t k l
  | none => none
def posM (t:TypeId) (k:LV):List (LV×LV)→Option (Option Nat)
 | [] => some none
 | (a,v)::l => match zmQ cx t k a with
  | some true => some (some 0)
  | some false => match posM t k l with
   | some (some i) => some (some (i + 1))
   | r => r
  | none => none
def zpw (kt:TypeId) (x k:LV) (h:LH):Option (Option LV):=match keyK cx kt k with
 | false => none
 | true => match x with
  | .map0 => some none
  | .map i => match atB h i with
   | .map _ _ es => ztr cx kt k es
   | _ => none
  | _ => none
def zBY (z:LV) (ok:Bool) (r:Option (Option LV)):Q:=match r,ok with
 | some (some v),true => .ok (.tup [v,.bool true])
 | some (some v),false => .ok v
 | some none,true => match okV z with
  | .ok z => .ok (.tup [z,.bool false])
  | r => r
 | some none,false => okV z
 | none,_ => .bad 60
def znM (t:TypeId) (ok:Bool):W (LV→LV→LH→Q):=match (cx.ty t).kind with
 | .map kt e => .mk fun x k h => zBY (cx.ty e).zero ok (zpw cx kt x k h)
 | _ => .mk fun _ _ _ => .bad 61
def cvI (k:IntKind) (x:LV):Q:=match x with
 | .int _ n => .ok (mkI k n)
 | _ => .bad 70
def cvF (x:LV):Q:=match x with
 | .int _ n => frN (fun m => .ok (.flt .f64 m)) (FloatKind.f64.nearest n)
 | _ => .bad 74
def cvB (x:LV) (h:LH):Q:=match lenE x with
 | some n => match zd7 h n x with
  | some y => frN (fun y => .ok (.str n y)) y
  | none => .bad 72
 | none => .bad 73
def cvS (b:Bool) (x:LV) (h:LH):Q:=match x with
 | .str l n => .ok (.str l n)
 | x => match b with
  | true => cvB x h
  | false => .bad 73
def zt9 (s:TypeId):Bool:=match (cx.ty s).kind with
 | .slice e => zd6 cx e
 | _ => false
def isK (t:TI):Bool:=t.ok || isAgg t.kind
def zAv (s d:TypeId):W (LV→LH→Q):=match isK (cx.ty s) with
 | false => .mk fun _ _ => .bad 76
 | true => match (cx.ty d).kind with
  | .int k => .mk fun x _ => cvI k x
  | .flt => .mk fun x _ => cvF x
  | .str => .mk (cvS (zt9 cx s))
  | _ => .mk fun _ _ => .bad 76
def min2 (mx:Bool) (a b:LV):Option LV:=match a,b with
 | .int k x,.int _ y => match (match mx with | true => ltI x y | false => ltI y x) with
  | true => some (.int k y)
  | false => some (.int k x)
 | _,_ => none
def minE (mx:Bool):LV→List LV→Option LV
 | a,[] => some a
 | a,b::l => match min2 mx a b with
  | some c => minE mx c l
  | none => none
def goN (n:Nat):LV:=frN (fun n => .int .i64 (.ofNat n)) n
def zya (x:LV) (h:LH):Option Nat:=match x with
 | .map0 => some 0
 | .map i => match atB h i with
  | .map _ _ es => some es.length
  | _ => none
 | _ => none
def zx9 (x:LV):Option Nat:=match x with
 | .str n _ => some n
 | _ => none
def zeH (x:LV):Option Nat:=match x with
 | .nils => some 0
 | .sle => some 0
 | .sl _ _ n _ => some n
 | .slo _ _ n _ => some n
 | _ => none
def arrN (t:TypeId):Option Nat:=match (cx.ty t).kind with
 | .array n _ => some n
 | _ => none
def lenB (t:TypeId):W (LV→LH→Option Nat):=match (cx.ty t).kind with
 | .str => .mk fun x _ => zx9 x
 | .slice _ => .mk fun x _ => zeH x
 | .array n _ => .mk fun _ _ => some n
 | .ptr a => .mk fun _ _ => arrN cx a
 | .map _ _ => .mk zya
 | _ => .mk fun _ _ => none
def capQ (x:LV):Q:=match x with
 | .sl _ _ _ c => .ok (goN c)
 | .nils => .ok (goN 0)
 | _ => .bad 86
def numE (n:Option Nat):Q:=match n with
 | some n => .ok (goN n)
 | none => .bad 82
def zxm (mx:Bool) (l:List LV):Q:=match l with
 | a::l => optQ 87 (minE mx a l)
 | [] => .bad 87
def zuc (b:Builtin) (ts:List TypeId):W (List LV→LH→Q):=match b,ts with
 | .len,t::_ => .mk fun l h => match l with
  | [x] => numE ((lenB cx t).go x h)
  | _ => .bad 83
 | .cap,t::_ => match (cx.ty t).kind with
  | .slice _ => .mk fun l _ => match l with
   | [x] => capQ x
   | _ => .bad 83
  | _ => .mk fun _ _ => .bad 86
 | .min,_ => .mk fun l _ => zxm false l
 | .max,_ => .mk fun l _ => zxm true l
 | _,_ => .mk fun _ _ => .bad 200
def nilQ (v:LV):Q:=match v with
 | .ptr i o => .ok (.ptr i o)
 | .gptr g o => .ok (.gptr g o)
 | .ifc t v => .ok (.ifc t v)
 | .fn g a b => .ok (.fn g a b)
 | .yield l => .ok (.yield l)
 | _ => .bad 105
def zzb (c a b:LV):Q:=match c with
 | .bool true => okV a
 | .bool false => okV b
 | _ => .bad 100
def zpH (place:Nat→Option (Nat×Nat)) (z:Option (List LV)) (ps:List (Nat×LV)):Q:=match z with
 | some z => aggQ (zmH place z ps)
 | none => .bad 101
def plcS (fs:List (Nat×Nat×Bool×TypeId)) (i:Nat):Option (Nat×Nat):=match fs[i]? with
 | some (o,n,_) => some (o,n)
 | none => none
def plcA (sz i:Nat):Option (Nat×Nat):=some (Nat.mul i sz,sz)
def zeE (ps:List (Nat×Operand)) (f:SlF):List (Nat×LV):=match ps with
 | [] => []
 | p::ps => (p.1,evO p.2 f)::zeE ps f
def zug (t:TypeId):W (List (Nat×LV)→Q):=match (cx.ty t).kind with
 | .struct fs => .mk (zpH (plcS fs) (cells (cx.ty t).zero))
 | .array _ e => .mk (zpH (plcA (cx.ty e).sz) (cells (cx.ty t).zero))
 | _ => .mk fun _ => .bad 102
def ifcE (t:TypeId):W (LV→Q):=match (cx.ty t).kind with
 | .iface _ => .mk fun _ => .bad 98
 | .other => .mk fun _ => .bad 98
 | _ => .mk fun v => match okV v with
  | .ok v => .ok (.ifc t v)
  | r => r
def extQ (v:LV) (i:Nat):Q:=match v with
 | .tup vs => match vs[i]? with
  | some v => okV v
  | none => .bad 110
 | _ => .bad 111
def zF (z:LV):Q:=match okV z with
 | .ok z => .ok (.tup [z,.bool false])
 | r => r
def asV (a:TypeId) (z:LV) (ok:Bool) (x:LV):Q:=match x,ok with
 | .ifc t v,true => match Nat.beq t a with
  | true => .ok (.tup [v,.bool true])
  | false => zF z
 | .ifc t v,false => match Nat.beq t a with
  | true => .ok v
  | false => .bad 113
 | .nili,true => zF z
 | _,_ => .bad 114
def asI (z:LV) (ok:Bool) (x:LV):Q:=match x,ok with
 | .nili,true => zF z
 | _,_ => .bad 112
def zn5 (a:TypeId) (ok:Bool):W (LV→Q):=match (cx.ty a).kind with
 | .iface _ => .mk (asI (cx.ty a).zero ok)
 | .other => .mk fun _ => .bad 112
 | _ => .mk (asV a (cx.ty a).zero ok)
def evL (xs:List Operand) (f:SlF):List LV:=match xs with
 | [] => []
 | x::xs => evO x f::evL xs f
def defd:List LV→Bool
 | [] => true
 | v::l => match v with
  | .undef => false
  | _ => defd l
def evC (bad:β) (k:List LV→β) (l:List LV):β:=match defd l with
 | true => k l
 | false => bad
def evM (x:Option Operand) (f:SlF):Option LV:=match x with
 | none => none
 | some x => some (evO x f)
def zsU:List Nat→Option Nat
 | [] => none
 | [b] => some b
 | _::l => zsU l
def zwK (b:Nat):List Nat→List (LV×LV)→Q
 | c::bs,(k,v)::es => match Nat.beq c b with
  | true => .ok (.tup [k,v])
  | false => zwK b bs es
 | _,_ => .bad 418
def entL (seen:List Nat) (last:Nat) (lo:LO):Q:=match lo,zsU seen with
 | .map clock bs es,some b => match Nat.beq clock last with
  | true => zwK b bs es
  | false => .bad 419
 | _,_ => .bad 419
def ztM (x:LV) (h:LH):Q:=match x with
 | .ptr r 0 => match atB h r with
  | .iter (some m) _ seen last => entL seen last (atB h m)
  | _ => .bad 420
 | _ => .bad 420
def opQ (op:Op):W (SlF→LH→Q):=match op with
 | .move x => .mk fun f _ => okV (evO x f)
 | .assign x => .mk fun f _ => okV (evO x f)
 | .pick c a b => .mk fun f _ => zzb (evO c f) (evO a f) (evO b f)
 | .build t ps => .mk fun f _ => (zug cx t).go (zeE ps.toList f)
 | .load t a => .mk fun f h => (loadE cx t).go (evO a f) h
 | .nilCheck x => .mk fun f _ => nilQ (evO x f)
 | .binOp op t x y _ => .mk fun f h => (binQ cx.ty op t (isC x || isC y)).go (evO x f) (evO y f) h
 | .unOp op _ x => .mk fun f _ => unQ op (evO x f)
 | .convert s d x => .mk fun f h => (zAv cx s d).go (evO x f) h
 | .makeInterface t x => .mk fun f _ => (ifcE cx t).go (evO x f)
 | .makeFunc (.func g) u c => .mk fun f _ => evC (.bad 202) (fun u => evC (.bad 202) (fun c => .ok (.fn g u c)) (evL c.toList f)) (evL u.toList f)
 | .slice t x lo hi mx => .mk fun f h => (zrR cx t).go (evO x f) (evM lo f) (evM hi f) (evM mx f) h
 | .fieldAddr s x i => .mk fun f _ => (zhx cx s i).go (evO x f)
 | .field s x i => .mk fun f _ => (ztw cx s i).go (evO x f)
 | .indexAddr t x i => .mk fun f _ => (zht cx t).go (evO x f) (evO i f)
 | .index t x i => .mk fun f _ => (zs6 cx t).go (evO x f) (evO i f)
 | .lookup t x i ok => .mk fun f h => (znM cx t ok).go (evO x f) (evO i f) h
 | .extract t i => .mk fun f _ => extQ (evO t f) i
 | .typeAssert x _ a ok => .mk fun f _ => (zn5 cx a ok).go (evO x f)
 | .entry x => .mk fun f h => ztM (evO x f) h
 | .call ⟨.builtin b,xs,ts⟩ => .mk fun f h => evC (.bad 201) (fun l => (zuc cx b ts.toList).go l h) (evL xs.toList f)
 | _ => .mk fun _ _ => .bad 200
def lenZ (x:LV):Option Nat:=match x with
 | .int _ (.ofNat n) => some n
 | x => lenE x
def zedE (h:LH) (z:Option (List LV)) (sz n:Nat) (x:LV):Option (List LV):=match x with
 | .int _ _ => match z with
  | some z => some (repL n z)
  | none => none
 | x => zfE h sz n x
def zedN (h:LH) (n:Nat) (x:LV):Option Nat:=match x with
 | .int _ _ => some 0
 | x => zd7 h n x
def optR (n:Nat) (f:LO→Rs) (lo:Option LO):Rs:=match lo with
 | some lo => f lo
 | none => .bad n
def zmj (byte:Bool) (sz:Nat) (l:List LV) (v:LV) (nx:Nat) (h:LH):Rs:=optR 31 (fun lo => newB lo v nx h) (mkLO byte sz l)
def zqq (len x:Nat) (v:LV) (nx:Nat) (h:LH):Rs:=frN (fun x => newB (.bytes len x) v nx h) x
def appN (s:LV) (m n y:Nat) (nx:Nat) (h:LH):Rs:=match s with
 | .nils => zqq n y (.slo nx 0 n 0) nx h
 | .sl i o _ c => match Nat.ble (Nat.add m n) c with
  | true => zjU h i (Nat.add o m) n y (frN (fun k => .sl i o k c) (Nat.add m n)) nx
  | false => match zd7 h m s with
   | some z => frN (fun k => zqq k (catN m z y) (.slo nx 0 k 0) nx h) (Nat.add m n)
   | none => .bad 33
 | .slo i o _ _ => match Nat.beq (szB (atB h i)) 1 with
  | true => match Nat.ble (Nat.add o (Nat.add m n)) (zgg (atB h i)) with
   | true => zjU h i (Nat.add o m) n y (frN (fun k => .slo i o k o) (Nat.add m n)) nx
   | false => match Nat.beq (zgg (atB h i)) (Nat.add o m),readN (atB h i) o m with
    | true,some z => Tr.put .gone .gone h i fun h => frN (fun k => zqq k (catN m z y) (.slo nx 0 k 0) nx h) (Nat.add m n)
    | _,_ => .bad 34
  | false => .bad 34
 | _ => .bad 35
def zzv (sz:Nat) (lo:LO) (o m n:Nat) (l:List LV):Option LO:=match lo with
 | .rows _ len t => match Nat.beq o 0 && (Nat.beq len m && Nat.blt (Nat.add m n) 100000) with
  | true => zes sz (fun t => frN (fun k => some (.rows sz k t)) (Nat.add m n)) n t m l
  | false => match zvO sz len t o (Nat.mul m sz) with
   | some z => mkR sz (z++l)
   | none => none
 | _ => none
def appC (sz:Nat) (s:LV) (m n:Nat) (l:List LV) (nx:Nat) (h:LH):Rs:=match s with
 | .nils => zmj false sz l (.slo nx 0 n 0) nx h
 | .sl i o _ c => match Nat.ble (Nat.add m n) c with
  | true => zhG h i (Nat.add o (Nat.mul m sz)) l (frN (fun k => .sl i o k c) (Nat.add m n)) nx
  | false => match zfE h sz m s with
   | some z => frN (fun k => zmj false sz (z++l) (.slo nx 0 k 0) nx h) (Nat.add m n)
   | none => .bad 33
 | .slo i o _ _ => match Nat.blt 0 sz && Nat.beq (szB (atB h i)) sz with
  | true => match Nat.ble (Nat.add o (Nat.mul (Nat.add m n) sz)) (zgg (atB h i)) with
   | true => zhG h i (Nat.add o (Nat.mul m sz)) l (frN (fun k => .slo i o k o) (Nat.add m n)) nx
   | false => match Nat.beq (zgg (atB h i)) (Nat.add o (Nat.mul m sz)) with
    | true => optR 38 (fun lo => Tr.put .gone .gone h i fun h => newB lo (frN (fun k => .slo nx 0 k 0) (Nat.add m n)) nx h) (zzv sz (atB h i) o m n l)
    | false => .bad 38
  | false => .bad 39
 | _ => .bad 40
def appS (byte:Bool) (sz:Nat) (z:Option (List LV)) (s x:LV) (m n:Nat) (nx:Nat) (h:LH):Rs:=match byte with
 | true => match zedN h n x with
  | some y => appN s m n y nx h
  | none => .bad 31
 | false => match zedE h z sz n x with
  | some l => match Nat.beq l.length (Nat.mul n sz) with
   | true => appC sz s m n l nx h
   | false => .bad 32
  | none => .bad 32
def isZ (v:LV):Bool:=match v with
 | .int .u8 (.ofNat 0) => true
 | _ => false
def hasZ (v:LV):Bool:=match cells v with
 | some _ => true
 | none => false
def zCw (s:LV):Bool:=match s with
 | .sl _ _ n c => Nat.ble n c
 | _ => true
def zn7 (e:TypeId) (s x:LV) (nx:Nat) (h:LH):Rs:=match zeH s,lenZ x with
 | some m,some n => match n with
  | 0 => match zCw s with
   | true => .ok s nx h
   | false => .bad 28
  | n' + 1 => match Nat.blt n 1000000 && (Nat.blt m 1000000 && (Nat.blt (cx.ty e).bytes 1000000 && hasZ (cx.ty e).zero)) with
   | true => appS (zd6 cx e && isZ (cx.ty e).zero) (cx.ty e).sz (cells (cx.ty e).zero) s x m (n' + 1) nx h
   | false => .bad 29
 | _,_ => .bad 30
def appK (k2:TK) (x:LV):Bool:=match k2,x with
 | .int _,.int _ _ => true
 | .slice _,.nils => true
 | .slice _,.sle => true
 | .slice _,.sl _ _ _ _ => true
 | .slice _,.slo _ _ _ _ => true
 | .str,.str _ _ => true
 | _,_ => false
def zCq (d x:LV) (n:Nat) (nx:Nat) (h:LH):Rs:=match zd7 h n x with
 | none => .bad 64
 | some y => match d with
  | .sl i o _ _ => zjU h i o n y (goN n) nx
  | .slo i o _ _ => zjU h i o n y (goN n) nx
  | _ => .bad 66
def zCr (sz:Nat) (d x:LV) (n:Nat) (nx:Nat) (h:LH):Rs:=match zfE h sz n x with
 | none => .bad 64
 | some l => match d with
  | .sl i o _ _ => zhG h i o l (goN n) nx
  | .slo i o _ _ => zhG h i o l (goN n) nx
  | _ => .bad 66
def minN (m n:Nat):Nat:=match Nat.ble n m with
 | true => n
 | false => m
def zAt (e:TypeId) (d x:LV) (nx:Nat) (h:LH):Rs:=match zeH d,lenE x with
 | some m,some n => match minN m n with
  | 0 => .ok (goN 0) nx h
  | k + 1 => match zd6 cx e with
   | true => zCq d x (k + 1) nx h
   | false => zCr (cx.ty e).sz d x (k + 1) nx h
 | _,_ => .bad 67
def putM (h:LH) (i:Nat) (clock:Nat) (bs:List Nat) (es:List (LV×LV)) (nx:Nat):Rs:=putB h i (.map clock bs es) (.tup []) nx
def setL (h:LH) (i:Nat) (clock:Nat) (bs:List Nat) (es:List (LV×LV)) (k v:LV) (nx:Nat) (p:Option (Option Nat)):Rs:=match p with
 | some none => frN (fun c => putM h i c (bs++[clock]) (es++[(k,v)]) nx) (Nat.succ clock)
 | some (some j) => match es[j]? with
  | some (a,_) => match zoM 6 a k with
   | true => putM h i clock bs (es.set j (k,v)) nx
   | false => .bad 62
  | none => .bad 62
 | none => .bad 62
def updM (kt:TypeId) (x k v:LV) (nx:Nat) (h:LH):Rs:=match x with
 | .map i => match atB h i with
  | .map clock bs es => setL h i clock bs es k v nx (posM cx kt k es)
  | _ => .bad 62
 | _ => .bad 63
def zkN (t:TypeId) (x k v:LV) (nx:Nat) (h:LH):Rs:=match (cx.ty t).kind with
 | .map kt _ => match keyK cx kt k,okV v with
  | true,.ok v => updM cx kt x k v nx h
  | _,_ => .bad 63
 | _ => .bad 61
def delL (h:LH) (i:Nat) (clock:Nat) (bs:List Nat) (es:List (LV×LV)) (nx:Nat) (p:Option (Option Nat)):Rs:=match p with
 | some none => putM h i clock bs es nx
 | some (some j) => putM h i clock (bs.eraseIdx j) (es.eraseIdx j) nx
 | none => .bad 318
def delE (kt:TypeId) (x k:LV) (nx:Nat) (h:LH):Rs:=match keyK cx kt k with
 | true => match x with
  | .map i => match atB h i with
   | .map clock bs es => delL h i clock bs es nx (posM cx kt k es)
   | _ => .bad 318
  | .map0 => .ok (.tup []) nx h
  | _ => .bad 318
 | false => .bad 318
def clrC (z:Option (List LV)) (i o n:Nat) (nx:Nat) (h:LH):Rs:=match n,z with
 | 0,_ => .ok (.tup []) nx h
 | n + 1,some z => zhG h i o (repL (n + 1) z) (.tup []) nx
 | _,_ => .bad 320
def clrE (k:TK) (x:LV) (nx:Nat) (h:LH):Rs:=match k,x with
 | .map _ _,.map i => match atB h i with
  | .map clock _ _ => putM h i clock [] [] nx
  | _ => .bad 320
 | .map _ _,.map0 => .ok (.tup []) nx h
 | .slice e,.sl i o n _ => clrC (cells (cx.ty e).zero) i o n nx h
 | .slice e,.slo i o n _ => clrC (cells (cx.ty e).zero) i o n nx h
 | .slice _,.nils => .ok (.tup []) nx h
 | _,_ => .bad 320
def zue (b:Builtin) (ts:List TypeId):W (List LV→Nat→LH→Rs):=match b,ts with
 | .append,t::t2::_ => match (cx.ty t).kind with
  | .slice e => .mk fun l nx h => match l with
   | [s,x] => match appK (cx.ty t2).kind x with
    | true => zn7 cx e s x nx h
    | false => .bad 313
   | _ => .bad 314
  | _ => .mk fun _ _ _ => .bad 315
 | .copy,t::_ => match (cx.ty t).kind with
  | .slice e => .mk fun l nx h => match l with
   | [d,x] => zAt cx e d x nx h
   | _ => .bad 316
  | _ => .mk fun _ _ _ => .bad 316
 | .delete,t::_ => match (cx.ty t).kind with
  | .map kt _ => .mk fun l nx h => match l with
   | [x,k] => delE cx kt x k nx h
   | _ => .bad 318
  | _ => .mk fun _ _ _ => .bad 318
 | .clear,t::_ => .mk fun l nx h => match l with
  | [x] => clrE cx (cx.ty t).kind x nx h
  | _ => .bad 320
 | _,_ => .mk fun _ _ _ => .bad 400
def newE (e:TypeId) (l:Option (List LV)) (nx:Nat) (h:LH):Rs:=match l with
 | some [] => newB (.rows 1 0 .e) (.ptr nx 0) nx h
 | some l => zmj (zd6 cx e) (cx.ty e).sz l (.ptr nx 0) nx h
 | none => .bad 300
def bslE (e:TypeId) (n:Nat) (ps:List (Nat×LV)) (nx:Nat) (h:LH):Rs:=match cells (cx.ty e).zero,Nat.ble (Nat.mul n (cx.ty e).sz) 16777216 with
 | some z,true => match zmH (plcA (cx.ty e).sz) (repL n z) ps with
  | some l => zmj (zd6 cx e) (cx.ty e).sz l (.sl nx 0 n n) nx h
  | none => .bad 303
 | _,_ => .bad 303
def zdT (t n:Nat):W (List (Nat×LV)→Nat→LH→Rs):=match (cx.ty t).kind with
 | .slice e => .mk (bslE cx e n)
 | _ => .mk fun _ _ _ => .bad 304
def zrL (t:TI) (a v:LV) (nx:Nat) (h:LH):Rs:=match a with
 | .ptr i o => match cells v with
  | some l => match Nat.beq l.length t.sz && isK t with
   | true => zhG h i o l (.tup []) nx
   | false => .bad 305
  | none => .bad 306
 | _ => .bad 306
def zlg (k:TK) (r:Option LV) (nx:Nat) (h:LH):Rs:=match r with
 | none => newB (.map 0 [] []) (.map nx) nx h
 | some x => match k,x with
  | .map _ _,.int _ _ => newB (.map 0 [] []) (.map nx) nx h
  | _,_ => .bad 307
def mkSl (e l c:Nat) (nx:Nat) (h:LH):Rs:=match zd6 cx e && isZ (cx.ty e).zero with
 | true => newB (.bytes c 0) (.sl nx 0 l c) nx h
 | false => match cells (cx.ty e).zero with
  | some z => zmj false (cx.ty e).sz (repL c z) (.sl nx 0 l c) nx h
  | none => .bad 309
def zhk (k:TK) (l c:LV) (nx:Nat) (h:LH):Rs:=match k,zjK l,zjK c with
 | .slice e,some l,some c => match Nat.ble l c && (Nat.blt c 100000 && Nat.blt (cx.ty e).bytes 1000000) with
  | true => mkSl cx e l c nx h
  | false => .bad 308
 | _,_,_ => .bad 310
def zr8 (k:TK) (x:LV) (nx:Nat) (h:LH):Rs:=match k,x with
 | .map _ _,.map0 => newB (.iter none 0 [] 0) (.ptr nx 0) nx h
 | .map _ _,.map i => match atB h i with
  | .map clock _ _ => newB (.iter (some i) clock [] clock) (.ptr nx 0) nx h
  | _ => .bad 410
 | _,_ => .bad 411
def memN (l:List Nat) (n:Nat):Bool:=match l with
 | [] => false
 | m::l => match Nat.beq m n with
  | true => true
  | false => memN l n
def zsT (seen:List Nat):List Nat→List (LV×LV)→List (Nat×LV×LV)
 | b::bs,(k,v)::es => match memN seen b with
  | true => zsT seen bs es
  | false => (b,k,v)::zsT seen bs es
 | _,_ => []
def zBr (since clock:Nat) (r:Nat) (m:Nat) (seen:List Nat) (l:List (Nat×LV×LV)) (nx:Nat) (h:LH):Rs:=match l with
 | [] => .ok (.tup [.bool false]) nx h
 | [(b,k,v)] => match Nat.blt b since with
  | true => putB h r (.iter (some m) since (seen++[b]) clock) (.tup [.bool true,k,v]) nx
  | false => .bad 412
 | _ => .bad 413
def zzi:List Nat→Bool
 | [] => true
 | _ => false
def zBO (r m since:Nat) (seen:List Nat) (last:Nat) (lo:LO) (nx:Nat) (h:LH):Rs:=match lo with
 | .map clock bs es => match zzi seen || (zzi bs || bs.any fun b => Nat.blt b last) with
  | true => zBr since clock r m seen (zsT seen bs es) nx h
  | false => .bad 414
 | _ => .bad 415
def zzs (x:LV) (nx:Nat) (h:LH):Rs:=match x with
 | .ptr r 0 => match atB h r with
  | .iter none _ _ _ => .ok (.tup [.bool false]) nx h
  | .iter (some m) since seen last => zBO r m since seen last (atB h m) nx h
  | _ => .bad 416
 | _ => .bad 417
def s2b (k:TK) (x:LV) (nx:Nat) (h:LH):Rs:=match k,x with
 | .slice e,.str n y => match zd6 cx e && Nat.blt n 1000000 with
  | true => newB (.bytes n y) (.slo nx 0 n 0) nx h
  | false => .bad 311
 | _,_ => .bad 312
def flA (op:BinOp):Option (Nat→Nat→Option Nat):=match op with
 | .add => some Ieee.double.add
 | .sub => some Ieee.double.sub
 | .mul => some Ieee.double.mul
 | _ => none
def flR (r:Option Nat) (nx:Nat) (h:LH):Rs:=match r with
 | some r => frN (fun r => .ok (.flt .f64 r) nx h) r
 | none => .ok .nan nx h
def flM (g:Nat→Nat→Option Nat) (a b:LV) (nx:Nat) (h:LH):Rs:=match a,b with
 | .flt .f64 x,.flt .f64 y => flR (g x y) nx h
 | .nan,.flt .f64 _ => .ok .nan nx h
 | .flt .f64 _,.nan => .ok .nan nx h
 | .nan,.nan => .ok .nan nx h
 | _,_ => .bad 430
def opM (op:Op):W (SlF→Nat→LH→Rs):=match op with
 | .alloc e => .mk fun f nx h => newE cx e (cells (cx.ty e).zero) nx h
 | .box e x => .mk fun f nx h => newE cx e (cells (evO x f)) nx h
 | .buildSlice t n ps => .mk fun f nx h => (zdT cx t n).go (zeE ps.toList f) nx h
 | .store t a v => .mk fun f nx h => zrL (cx.ty t) (evO a f) (evO v f) nx h
 | .makeMap t r => .mk fun f nx h => zlg (cx.ty t).kind (evM r f) nx h
 | .makeSlice t l c => .mk fun f nx h => zhk cx (cx.ty t).kind (evO l f) (evO c f) nx h
 | .insert t m k v => .mk fun f nx h => zkN cx t (evO m f) (evO k f) (evO v f) nx h
 | .mapUpdate t m k v => .mk fun f nx h => zkN cx t (evO m f) (evO k f) (evO v f) nx h
 | .convert s d x => match (cx.ty s).kind with
  | .str => .mk fun f nx h => s2b cx (cx.ty d).kind (evO x f) nx h
  | _ => .mk fun _ _ _ => .bad 312
 | .range t x => .mk fun f nx h => zr8 (cx.ty t).kind (evO x f) nx h
 | .next x s => match s with
  | false => .mk fun f nx h => zzs (evO x f) nx h
  | true => .mk fun _ _ _ => .bad 421
 | .binOp op t x y _ => match flA op with
  | some g => .mk fun f nx h => flM g (evO x f) (evO y f) nx h
  | none => .mk fun _ _ _ => .bad 431
 | .call ⟨.builtin b,xs,ts⟩ => .mk fun f nx h => evC (.bad 401) (fun l => (zue cx b ts.toList).go l nx h) (evL xs.toList f)
 | _ => .mk fun _ _ _ => .bad 400
inductive OK where
  | q | m | call | recover | panic (x:Operand) | defer (c:Call)
def isFl:TK→Bool
 | .flt => true
 | _ => false
def isSl:TK→Bool
 | .slice _ => true
 | _ => false
def opK (op:Op):OK:=match op with
 | .alloc _ => .m
 | .box _ _ => .m
 | .buildSlice _ _ _ => .m
 | .insert _ _ _ _ => .m
 | .store _ _ _ => .m
 | .makeMap _ _ => .m
 | .makeSlice _ _ _ => .m
 | .mapUpdate _ _ _ _ => .m
 | .convert _ d _ => match isSl (cx.ty d).kind with
  | true => .m
  | false => .q
 | .range _ _ => .m
 | .binOp op t _ _ _ => match isFl (cx.ty t).kind,flA op with
  | true,some _ => .m
  | _,_ => .q
 | .next _ _ => .m
 | .entry _ => .q
 | .panic x => .panic x
 | .defer c => .defer c
 | .call ⟨.builtin b,_,_⟩ => match b with
  | .len => .q
  | .cap => .q
  | .min => .q
  | .max => .q
  | .recover => .recover
  | _ => .m
 | .call _ => .call
 | _ => .q
end
end
end Go.Proofs.YtjmnjkoekabioaaGreatDoor
