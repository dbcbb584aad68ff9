/- Parts of the proof. -/
import Derived.Test.YtjmnjkoekabioaaGreatDoorQC13
namespace Go.Proofs.YtjmnjkoekabioaaGreatDoor
set_option maxHeartbeats 400000
set_option linter.unusedVariables false
set_option linter.unusedSimpArgs false
set_option maxRecDepth 100000
variable {d1 d2:DataW Unit}{H:List Seg}{b:yB}{base:Nat}{w0:World}
theorem zn3 :SCalls Tryz.prog 4 [] w0 base H (fun u H' => u = .bool true∧H' = H) :=
 zff fun w S => (zzK (zxr (w0:=w) (base:=w.heap.size))).mono fun e w' ⟨he,hb⟩ => ⟨.bool true,he,Z,hb⟩
theorem zk8 {x n:Int}(h:1≤n):0≤pick x n∧pick x n < n:=by
 unfold pick
 rw [zDb kQ]
 exact ⟨zE6 _ kQ,zE7 _ kQ⟩
theorem zzA {id flags:Int}{qs:List Qn3}{an ns ar:List Rc5}(h:MAt b id flags qs an ns ar):12≤b.length∧b.length≤65535:=by
 have h1:=h.2.1.2
 rw [zja] at h1
 exact ⟨by omega,h.1⟩
theorem znt {A A2:Option Addr}{C C2:Nat}{l l2:yB}(e:l=l2) (h:Rd tyB w0 base H A C l) (h2:Rd tyB w0 base H A2 C2 l2):SCalls Tryz.prog 14 [.slice A l.length C,.slice A2 l2.length C2] w0 base H (fun v H' => v = .bool true∧H' = H):=by
 have h9:=zyR h h2
 rwa [zDI e] at h9
theorem zBm {W:List Bs}{ys:List (Sl tyB 5)}(hW:W=ys.map Sl.v) (h:ys.map (·.l)=[b,b]):W.length=2∧(W.getD 0 ⟨none,0,[]⟩).l=b∧(W.getD 1 ⟨none,0,[]⟩).l=b:=by
 rcases ys with _ | ⟨y,_ | ⟨z,_ | ⟨u,t⟩⟩⟩
 ·simp at h
 ·simp at h
 ·simp only [zDo,zEd,zD2,and_true] at h
  subst hW
  exact ⟨rfl,h.1,h.2⟩
 ·simp at h
set_option maxHeartbeats 2000000 in
theorem zkO {size cut:Int}{id flags:Int}{Aq Aa An Ar:Option Addr}{Cq Ca Cn Cr:Nat}{qs:List (yB×Int×Int)}{an ns ar:List (yB×Int×Int×Int×yB)}(hq:Rd tyQn w0 base H Aq Cq qs) (ha:Rd tyRec w0 base H Aa Ca an) (hn:Rd tyRec w0 base H An Cn ns) (hr:Rd tyRec w0 base H Ar Cr ar) (hB:qs.length≤140737488355328∧an.length≤140737488355328∧ns.length≤140737488355328∧ar.length≤140737488355328) (T:Tabs w0 base) (ET:ErrTab w0 base) (T10:Tab10 w0 base) :
  SCalls Tryz.prog 3 [.agg #[vV id,vV flags,.slice Aq qs.length Cq,.slice Aa an.length Ca,.slice An ns.length Cn,.slice Ar ar.length Cr],vV size,vV cut] w0 base (H) (fun v H' => v = .bool true∧H' = H):=by
 have hleq:=hq.le
 have hcapq:=hq.cap
 have hlea:=ha.le
 have hcapa:=ha.cap
 have hlen:=hn.le
 have hcapn:=hn.cap
 have hler:=hr.le
 have hcapr:=hr.cap
 refine zaa (n:=193) Tryz.func3 Z Z Z fun cs => ?_
 refine a2 ?_
 refine zaU (cs:=#[vV id,vV flags,.slice Aq qs.length Cq,.slice Aa an.length Ca,.slice An ns.length Cn,.slice Ar ar.length Cr]) Z zg0 Z Z ?_
 intro b1
 refine a4 ?_
 refine zca Z zn3 ?_
 rintro _ _ ⟨rfl,rfl⟩
 refine a6 ?_
 refine zca Z (zuj (id:=id) (flags:=flags) (qs:=qs) (an:=an) (ns:=ns) (ar:=ar) (Rd.skip 1 hq) (Rd.skip 1 ha) (Rd.skip 1 hn) (Rd.skip 1 hr) hB 30 1000) ?_
 rintro _ _ ⟨bm2,rfl,hbm3,rfl⟩
 refine a1 ?_
 refine zaK (t:=33) Z ?_ ?_
 ·intro hs33
  have hs33:bm2=true:=hs33
  refine a11 ?_
  refine zpk [] 1 ?_
  exact zad Tryz.func3 Z Z (⟨Z,Z⟩)
 ·intro hs33
  have hs33:bm2=false:=hs33
  obtain ⟨hlen9,hqs0,han0,hns0,har0⟩:=hbm3 (by first | assumption | simpa using hs2)
  have han8:∀ x ∈ an,x.1.length≤4398046511104∧x.2.2.2.2.length≤4398046511104:=fun x hx9 => by have:=han0 x hx9; omega
  have hns8:∀ x ∈ ns,x.1.length≤4398046511104∧x.2.2.2.2.length≤4398046511104:=fun x hx9 => by have:=hns0 x hx9; omega
  have har8:∀ x ∈ ar,x.1.length≤4398046511104∧x.2.2.2.2.length≤4398046511104:=fun x hx9 => by have:=har0 x hx9; omega
  have hqs8:∀ q ∈ qs,q.1.length≤4398046511104:=fun q hq9 => by have:=hqs0 q hq9; omega
  refine a1 ?_
  refine zca Z (zgo (id:=id) (flags:=flags) (qs:=qs) (an:=an) (ns:=ns) (ar:=ar) (Rd.skip 1 hq) (Rd.skip 1 ha) (Rd.skip 1 hn) (Rd.skip 1 hr) hB hqs8 han8 hns8 har8) ?_
  rintro _ _ ⟨e4,hmk5,rfl,rfl⟩
  refine a3 ?_
  refine zaT Z ?_ ?_
  ·intro hc1
   have hc1:¬ ((e4:Int)=0):=zDm (zat hc1)
   refine a5 ?_
   refine zpk [] 1 ?_
   exact zad Tryz.func3 Z Z (⟨Z,Z⟩)
  ·intro hc1
   have hc1:(e4:Int)=0:=zDf (zas hc1)
   have hM:MOk id flags qs an ns ar:=hmk5.1 (by first | omega | simpa using hc1)
   obtain ⟨sz,hsz⟩:∃ sz:Int,sz=12 + pick size 4000:=⟨_,rfl⟩
   have hpr:=zk8 (x:=size) (n:=4000) kE
   have hs9:12≤sz∧sz≤65535:=by omega
   have hm:¬ (sz < 12∨65535 < sz):=by omega
   refine a4 ?_
   refine zca Z (zpi size 4000 kQ) ?_
   rintro _ _ ⟨rfl,rfl⟩
   refine AtL.add (z:=sz) zg0 Z Z Z (by rw [w64 kQ kQ]; omega)<|a6 ?_
   refine zca Z (zCh (Rd.skip 1 hq) (Rd.skip 1 ha) (Rd.skip 1 hn) (Rd.skip 1 hr) hB hqs8 han8 hns8 har8 hM hs9) ?_
   rintro _ _ ⟨⟨A6,C7,l8,s9,o10⟩,i11,fl12,qs13,an14,ns15,ar16,hM17,hA18,hle19,rfl,rfl⟩
   replace hA18:MAt l8 id fl12 qs13 an14 ns15 ar16:=hA18
   have hbl:=zzA hA18
   replace hle19:(l8.length:Int)≤sz:=hle19
   have hE9:frmE l8=0:=by unfold frmE; rw [zDb kQ,zDb kQ]
   have hF9:=zCc hE9 hle19
   have hns9:=hM17.2.2.2.2.2.1
   have hal9:an14.length≤1000000:=by have:=hM17.2.2.1.2.1; omega
   refine a11 ?_
   refine zca Z (zqs (o10.rd (i:=0) Z) hM17 hA18) ?_
   rintro _ _ ⟨⟨A20,C21,l22,s23,o24⟩,⟨A26,C27,l28,s29,o30⟩,⟨A32,C33,l34,s35,o36⟩,⟨A38,C39,l40,s41,o42⟩,hx25,hx31,hx37,hx43,rfl,rfl⟩
   obtain rfl:qs13=l22:=hx25.symm
   obtain rfl:an14=l28:=hx31.symm
   obtain rfl:ns15=l34:=hx37.symm
   obtain rfl:ar16=l40:=hx43.symm
   refine a3 ?_
   refine AtL.alloc ziF (cs:=#[vV 0,vV 0,.slice none 0 0,.slice none 0 0,.slice none 0 0,.slice none 0 0]) Z zg0 Z ?_
   intro b44
   refine AtL.alloc zaH (cs:=#[vV 0,vV 0]) Z zg0 Z ?_
   intro b45
   refine a19 ?_
   refine zca Z (zBE hE9 (o10.rd (i:=6) Z) kO) ?_
   rintro _ _ ⟨⟨A46,C47,l48,s49,o50⟩,hx51,rfl,rfl⟩
   obtain ⟨fb,hfb⟩:∃ fb,fb=frmL l8:=⟨_,rfl⟩
   obtain rfl:fb=l48:=hfb.trans hx51.symm
   have hfl:=zwx l8
   rw [← hfb] at hF9 hfl
   have hff:(fb++fb).length=fb.length + fb.length:=zC6
   refine a9 ?_
   refine zca Z (zBP sz hm) ?_
   rintro _ _ ⟨b52,rfl,rfl⟩
   refine a21 ?_
   refine zca Z (zwk (l:=fb) (o50.rd (i:=1) Z) kQ) ?_
   rintro _ _ ⟨A53,C54,s55,o56,rfl,rfl⟩
   refine a1 ?_
   refine zap (l:=fb) (news:=fb) 0 zav Z o56 (o50.rd (i:=2) Z) (by first | omega | (simp only [zC6,zC7,zC8]; omega) | (simp; done) | (simp; omega)) zg0 Z Z Z ?_
   intro A57 C58 s59 o60
   refine a8 ?_
   refine zca Z (zpi cut (((fb++fb).length:Int) + 1) kQ) ?_
   rintro _ _ ⟨rfl,rfl⟩
   refine a2 ?_
   obtain ⟨al,hal⟩:∃ al,fb++fb=al:=⟨_,rfl⟩
   have hfa:(fb++fb)=al:=by rw [← hal]
   rw [hfa] at hF9
   rw [hal] at o60
   have hll9:al.length=fb.length + fb.length:=by rw [← hfa,zC6]
   obtain ⟨k,hk⟩:∃ k:Nat,pick cut (((fb++fb).length:Int) + 1)=(k:Int):=⟨(pick cut (((fb++fb).length:Int) + 1)).toNat,by have:=zk8 (x:=cut) (n:=((fb++fb).length:Int) + 1) kQ; omega⟩
   have hk9:k≤al.length:=by have:=zk8 (x:=cut) (n:=((fb++fb).length:Int) + 1) kQ; rw [← hal]; omega
   rw [hal] at hk
   simp only [hal,hk]
   obtain ⟨o1,o2,rr,hF1,hF2,ho9⟩:=zCf (c:=subl al 0 k) (d:=subl al k al.length) (by rw [show subl al 0 k++subl al k al.length=al from by rw [zbx]; simp only [subl,zFe]; exact zDB k al]; exact hF9)
   have ho9l:o1.length + o2.length=2:=by rw [← zC6,ho9]; rfl
   refine a5 ?_
   have hleo63:=Own.le_cap o60
   refine zgc 0 k C58 o60 Z (zab Z Z) Z (by intro h; cases h) kQ kQ kQ (zDe _) Z zaF zg0 Z Z ?_
   intro A61 C62 o63
   clear hleo63
   have hlo63:(subl al 0 k).length=k - 0:=zal kQ
   refine AtL.nil<|zpk [0,2,1,3,4,5,6,7,8,9,10,11] 12 ?_
   refine zca Z (zsd (y:=Sl.nil) (off:=0) (l:=subl al 0 k) hF1 (o63.rd (i:=0) Z) (by first | omega | (dsimp only; omega) | (simp [Sl.nil]; omega) | simp [Sl.nil]) (by first | omega | (dsimp only; omega) | (simp [Sl.nil]; omega) | simp [Sl.nil]) hs9) ?_
   rintro _ _ ⟨⟨A64,C65,l66,s67,o68⟩,ys69,⟨A70,C71,l72,s73,o74⟩,off75,lr76,hx77,hx78,hx79,hx80,hx81,rfl,rfl⟩
   dsimp only at hx77 hx79 hx80 hx81
   try simp only [Sl.nil,zC8,zEi] at hx80
   have hlx1:l66.length=o1.length:=by rw [hx77,zD4,← hx78,zD4]
   rw [← hx81] at hF2
   refine a11 ?_
   have hleo84:=Own.le_cap o60
   refine zgc k al.length C58 o60 (zab Z Z) Z Z (by intro h; cases h) kQ kQ kQ (zDe _) Z zaF zg0 Z Z ?_
   intro A82 C83 o84
   clear hleo84
   have hlo84:(subl al k al.length).length=al.length - k:=zal kQ
   refine zpk [2,3,0,1,4,5,6,7,8,9,10,11,12,13] 14 ?_
   refine zca Z (zsd (y:=⟨A70,C71,l72,s73,o74⟩) (off:=off75) (l:=subl al k al.length) hF2 (o84.rd (i:=2) Z) (by first | omega | (dsimp only; omega) | (simp [Sl.nil]; omega) | simp [Sl.nil]) (by first | omega | (dsimp only; omega) | (simp [Sl.nil]; omega) | simp [Sl.nil]) hs9) ?_
   rintro _ _ ⟨⟨A85,C86,l87,s88,o89⟩,ys90,⟨A91,C92,l93,s94,o95⟩,off96,lr97,hx98,hx99,hx100,hx101,hx102,rfl,rfl⟩
   dsimp only at hx98 hx100 hx101 hx102
   try simp only [Sl.nil,zC8,zEi] at hx101
   have hlx2:l87.length=o2.length:=by rw [hx98,zD4,← hx99,zD4]
   refine a8 ?_
   refine zae (cs:=[]) Z ziD zha Z Z zg0 Z Z Z ?_
   intro b103
   refine zau tyL (l:=([]:List Bs)) Z Z kT ?_
   intro s104 o105
   refine a1 ?_
   refine zap (l:=[]) (news:=l66) 0 zno Z o105 (o68.rd (i:=5) Z) (by first | omega | (simp only [zC6,zC7,zC8]; omega) | (simp; done) | (simp; omega)) zg0 Z Z Z ?_
   intro A106 C107 s108 o109
   refine a1 ?_
   refine zap (l:=[]++l66) (news:=l87) 0 zno Z o109 (o89.rd (i:=1) Z) (by first | omega | (simp only [zC6,zC7,zC8]; omega) | (simp; done) | (simp; omega)) zg0 Z Z Z ?_
   intro A110 C111 s112 o113
   refine a2 ?_
   refine zpk [6,2,0,1,3,4,5,7,8,9,10,11,12,13,14,15,16] 17 ?_
   refine zu0 (zwE ys69 ys90 _) ?_
   obtain ⟨W,hW⟩:∃ W,([]++l66)++l87=W:=⟨_,rfl⟩
   have hWy:W=(ys69++ys90).map Sl.v:=by rw [← hW,zDL,← hx77,← hx98]; simp
   obtain ⟨hW2,hW0,hW1⟩:=zBm hWy (by rw [zDL,hx78,hx99]; exact ho9)
   simp only [hW]
   rw [hW] at o113
   refine a15 ?_
   refine zaK (t:=118) Z ?_ ?_
   ·intro hs118
    have hs118:¬ ((W.length:Int)=2):=zDm (zat hs118)
    exfalso; revert hs118; simp; omega
   ·intro hs118
    have hs118:(W.length:Int)=2:=zDf (zas hs118)
    refine a1 ?_
    refine zah 0 (o113.rd (i:=1) Z) Z zha (.inr ⟨_,_,_,Z,Z,Z,Z⟩) Z Z Z Z kQ ?_
    refine zax (v:=.slice ((W.getD 0 (⟨none,0,[]⟩:Bs)).A) ((W.getD 0 (⟨none,0,[]⟩:Bs)).l).length ((W.getD 0 (⟨none,0,[]⟩:Bs)).C)) zb3 (.inr ⟨_,_,_,Z,Z,Z,Z⟩) Z Z (zaL (o113.rd (i:=1) Z) (getD_some (⟨none,0,[]⟩:Bs) kQ) Z)<|a1 ?_
    refine zca Z (znt (l:=(W.getD 0 (⟨none,0,[]⟩:Bs)).l) (l2:=l8) hW0 (Rd.pick [0] 16 Z Z ((zyr (H:=zbU (ys69++ys90)::H) hWy (i:=0) Z) _ (zaA (l:=W) (i:=0) (d:=(⟨none,0,[]⟩:Bs)) kQ))) (o10.rd (i:=14) Z)) ?_
    rintro _ _ ⟨rfl,rfl⟩
    refine a4 ?_
    refine zah 1 (o113.rd (i:=1) Z) Z zha (.inr ⟨_,_,_,Z,Z,Z,Z⟩) Z Z Z Z kQ ?_
    refine zax (v:=.slice ((W.getD 1 (⟨none,0,[]⟩:Bs)).A) ((W.getD 1 (⟨none,0,[]⟩:Bs)).l).length ((W.getD 1 (⟨none,0,[]⟩:Bs)).C)) zb3 (.inr ⟨_,_,_,Z,Z,Z,Z⟩) Z Z (zaL (o113.rd (i:=1) Z) (getD_some (⟨none,0,[]⟩:Bs) kQ) Z)<|a1 ?_
    refine zca Z (znt (l:=(W.getD 1 (⟨none,0,[]⟩:Bs)).l) (l2:=l8) hW1 (Rd.pick [0] 16 Z Z ((zyr (H:=zbU (ys69++ys90)::H) hWy (i:=0) Z) _ (zaA (l:=W) (i:=1) (d:=(⟨none,0,[]⟩:Bs)) kQ))) (o10.rd (i:=14) Z)) ?_
    rintro _ _ ⟨rfl,rfl⟩
    refine a4 ?_
    refine zpk [3,4,0,1,2,5,6,7,8,9,10,11,12,13,14,15] 16 ?_
    refine zca Z (zzI (y:=⟨A91,C92,l93,s94,o95⟩) (off:=off96) hx102 (by dsimp only; omega) hx100 kQ) ?_
    rintro _ _ ⟨rfl,rfl⟩
    refine a8 ?_
    refine zca Z (zCL (id:=id) (flags:=fl12) (qs:=qs13) (an:=an14) (ns:=ns15) (ar:=ar16) (o24.rd (i:=10) Z) (o30.rd (i:=11) Z) (o36.rd (i:=12) Z) (o42.rd (i:=13) Z) hns9 hal9) ?_
    rintro _ _ ⟨za114,rfl,hza115,rfl⟩
    have hza115p:=hza115.pos
    have hza115z:=hza115.zero
    refine a2 ?_
    have hlt9:=hza115.lt hM17.2.2.2.2.1
    obtain ⟨hag,hrd⟩:=zxu (b:=l8) (age:=za114) (kp:=true) kQ kQ kQ kQ
    have hzl:=zAR (b:=l8) (age:=za114) (kp:=true) kQ kQ
    obtain ⟨zB,hzB⟩:∃ zB:yB,zB=zei ⟨200,zdU za114,l8,true⟩:=⟨_,rfl⟩
    rw [← hzB] at hag hrd hzl
    refine a6 ?_
    refine zbM (fun (i:Nat) => [(7,.bool true),(8,.slice A6 l8.length C7),(11,pB b44),(23,vV za114),(24,vV (i:Int))]) (fun i => s94::O0 b52 sz false A91 l93.length C92 (off96:Int) lr97 0::zbU (ys69++ys90)::s112::s88::s67::s59::s49::O4 b45 0 0::O1 b44 id fl12 A20 qs13.length C21 A26 an14.length C27 A32 ns15.length C33 A38 ar16.length C39::s23::s29::s35::s41::s9::O1 b1 id flags Aq qs.length Cq Aa an.length Ca An ns.length Cn Ar ar.length Cr::H) (fun i => i≤an14.length) (fun i => an14.length - i) 0 (zDq _) ⟨Z,Z,Z,Z,Z,trivial⟩ Z ?_
    rintro i hi ihL1
    refine a9 ?_
    refine zaT Z ?_ ?_
    ·intro hc5
     have hc5:(i:Int) < (an14.length:Int):=zDf hc5
     refine a9 ?_
     refine zah i (o30.rd (i:=11) Z) Z zbs zg0 Z Z Z Z kQ<|zdy zrv zg0 Z Z ?_
     refine zax (v:=vV ((an14.getD i rD5).2.2.2.1)) zcl zg0 Z Z (Rd.cell_at (o30.rd (i:=11) Z) (j:=3) (getD_some rD5 kQ) Z)<|a2 ?_
     refine zaT Z ?_ ?_
     ·intro hc6
      have hc6:((an14.getD i rD5).2.2.2.1) < za114:=zDf hc6
      exfalso; have h9:=hza115.le _ (zaA (l:=an14) (i:=i) (d:=rD5) kQ); have h8:=(hM17.2.2.2.2.1 _ (zaA (l:=an14) (i:=i) (d:=rD5) kQ)).2.2.2.1; omega
     ·intro hc6
      have hc6:¬ (((an14.getD i rD5).2.2.2.1) < za114):=zDm hc6
      refine a7 ?_
      refine ihL1 (i + 1) kQ kQ _ ?_
      exact zen
    ·intro hc5
     have hc5:¬ ((i:Int) < (an14.length:Int)):=zDm hc5
     refine a5 ?_
     refine zca Z (zux (b:=l8) hag (o10.rd (i:=14) Z) kQ T10) ?_
     rintro _ _ ⟨⟨A116,C117,l118,s119,o120⟩,hx121,rfl,rfl⟩
     obtain rfl:(zB:yB)=l118:=hx121.symm
     refine a9 ?_
     refine zca Z (zy3 (b:=(zB:yB)) hrd (o120.rd (i:=0) Z) hzl T ET T10) ?_
     rintro _ _ ⟨⟨A122,C123,l124,s125,o126⟩,⟨A127,C128,l129,s130,o131⟩,hx132,hx133,rfl,rfl⟩
     obtain rfl:(zdU za114)=l124:=hx132.symm
     obtain rfl:l8=l129:=hx133.symm
     refine a4 ?_
     refine AtL.alloc zfo (cs:=#[vV 0,.slice none 0 0,.slice none 0 0,.bool false]) Z zg0 Z ?_
     intro b134
     refine a22 ?_
     refine zaK (t:=183) Z ?_ ?_
     ·intro hs183
      have hs183:(zB.length:Int)=((zB:yB).length:Int):=zDf hs183
      refine a3 ?_
      refine zca Z (znt (l:=l8) (l2:=l8) Z (o131.rd (i:=2) Z) (o10.rd (i:=18) Z)) ?_
      rintro _ _ ⟨rfl,rfl⟩
      refine a7 ?_
      refine zpk [] 20 ?_
      exact zad Tryz.func3 Z Z (⟨Z,Z⟩)
     ·intro hs183
      have hs183:¬ ((zB.length:Int)=((zB:yB).length:Int)):=zDm hs183
      exact absurd Z hs183
theorem zjI {H:Type}{enc:TypeId×Value→H}{a:Assume}{C:Checked}{os:Os}{f:FuncId}{fn:Func}{s:ChangeSpec}{conds:List PathCond}{apart fresh handsOn again:Bool}{X:World→Array Value→Prop}
  (hX:∀ (w w' : World) (args:Array Value),w.heap=w'.heap→X w args→X w' args) (own:ownKnob C.prog.godebug=none) (started:os.Started) (noInit:C.prog.inits.idxOf? f=none) (hfn:C.prog.funcs[f]? = some fn)
  (wit:∃ (w:World) (tape:Tape) (i:Input),w.os=os∧(w.forCall tape i).Shaped C.prog∧i.vars=[]∧Input.okWide C.prog (w.forCall tape i) .any w.heap.size f i ∧
   ((s.pre enc C.prog fn conds apart (w.forCall tape i).memory i.args∧X (w.forCall tape i).memory i.args)∧sizedMet enc C.prog fn (OpenSpec.ofChange s) apart (w.forCall tape i).memory i.args)∧a.holds C.prog (lone (Frame.enter C.prog f i.args .normal) [] (w.forCall tape i)))
  (con:∀ (W:World) (base:Nat) (args:Array Value) (ds gs:List (DataW H)) (before:List MemPlace),(∀ (j:Nat) t v,fn.params[j]? = some t→args[j]? = some v→Value.okWide C.prog W .any base t v)→DataW.Whole enc C.prog fn.params.toList s.vars apart W args.toList ds gs before →
   conds.all (PathCond.test C.prog ⟨fn.params.toList,ds,s.plain.varTypes C.prog,gs⟩)=true→(DataW.weightsEach C.prog (fn.params.toList++s.plain.varTypes C.prog) (ds++gs)).all (·≤reachBytes)=true→X W args→W.ShapedOpen C.prog →
   Calls C.prog f args W fun e W' => ∃ v,e = .returned v∧s.post enc C.prog fn apart fresh handsOn again W args v W') :
  ReturnsInHanded a C os f .any (fun w args => (s.pre enc C.prog fn conds apart w args∧X w args)∧sizedMet enc C.prog fn (OpenSpec.ofChange s) apart w args) (s.post enc C.prog fn apart fresh handsOn again):=by
 refine returnsInHanded_of_calls own started noInit wit ?_
 rintro w tape i _ hsh _ ⟨_,_,_,fn',hfn',_,_,_,_,hval⟩ ⟨⟨⟨ds,gs,before,hw,hc⟩,hx⟩,hz⟩ _
 obtain rfl:fn' = fn:=zDM (hfn'.symm.trans hfn)
 refine (con (w.forCall tape i) w.heap.size i.args ds gs before hval (DataW.Whole.of_heap (w':=w.forCall tape i) (by rfl) hw) hc (hz.weights hw) (hX _ _ _ (by rfl) hx) hsh).mono ?_
 rintro _ W' ⟨v,rfl,hp⟩
 exact ChangeSpec.post_blind hp
def u8ren:Go.Shelf.Ren:=⟨fun _ => 0,fun | 5 => 5 | 119 => 587 | 138 => 689 | 139 => 690 | _ => 0,fun | 3 => 8 | 4 => 9 | _ => 0⟩
theorem zyI {W:World}(hsh:W.ShapedOpen Tryz.prog) (h3:Go.Lib.VarReads Tryz.prog W "unicode/utf8.first" d1) (h4:Go.Lib.VarReads Tryz.prog W "unicode/utf8.acceptRanges" d2) (e1:d1=Go.Lib.firstData:=by kernel_rfl) (e2:d2=Go.Lib.acceptData:=by kernel_rfl):Tabs W W.heap.size:=by
 subst e1; subst e2
 obtain ⟨m,hm⟩:=cell_of_shapedOpen_int (P:=Tryz.prog) (g:=1) (t:=3) (zero:=#[.int .i64 0]) hsh (zDf kW) kW rfl kW kW Tryz.underlying3
 have hu:=Go.Proofs.utf8Tabs_of_readsT (P:=Tryz.prog) (ρ:=u8ren) { t5:=Tryz.underlying5,t119:=Tryz.underlying587,t138:=Tryz.underlying689,t139:=Tryz.underlying690 } { n3:=by kernel_rfl,n4:=by kernel_rfl,y3:=by kernel_rfl,y4:=by kernel_rfl,c5:=by kernel_rfl,c119:=by kernel_rfl,c138:=by kernel_rfl } h3 h4
 have h1:∀ c,c < 256→W.cell? ⟨8,c,none⟩=some (.int .u8 (Lib.firstT c)):=hu.1
 have h2:∀ i,i < 16→W.cell? ⟨9,2 * i,none⟩=some (.int .u8 (Lib.accLo i))∧W.cell? ⟨9,2 * i + 1,none⟩=some (.int .u8 (Lib.accHi i)):=hu.2
 exact ⟨zdS (h1 0 kE),zdS (h2 0 kE).1,h1,zdS hm,⟨m,hm⟩,h2⟩
theorem zrU:Tryz.prog.mainIs=some ((true, "51e88aecaf344ecfd5ecdd4c054d84f4f71a032f2d4028ad7ee47344c851dce9").1,(true, "51e88aecaf344ecfd5ecdd4c054d84f4f71a032f2d4028ad7ee47344c851dce9").2.toList):=by kernel_rfl
theorem zqh:true=Tryz.prog.looks []:=by kernel_rfl
theorem zvq {W:World}{d:DataW Unit}(h:Go.Lib.VarReads Tryz.prog W "internal/strconv.uint64pow10" d) (e:d=Go.Lib.tabData .u64 Go.Lib.pow10Tab:=by kernel_rfl):Tab10 W W.heap.size:=by
 subst e
 have hg:Tryz.prog.globalNamed "internal/strconv.uint64pow10" = some 2:=by kernel_rfl
 have hT:Go.Lib.TabIs Tryz.prog W "internal/strconv.uint64pow10" .u64 Go.Lib.pow10Tab:=by
  obtain ⟨g',t',cs,fuel,p,hg',ht',hvar,hd⟩:=h
  obtain rfl:=zDM (hg.symm.trans hg')
  obtain rfl:=zDM ((show (Tryz.prog.globals[2]?).map (·.type)=some 550 by kernel_rfl).symm.trans ht')
  unfold Go.Lib.TabIs
  rw [hvar,← Go.Lib.cells_of_tab Tryz.underlying550 Tryz.underlying436 kW kW hd]
 exact ⟨zdS (Go.Lib.TabIs.cell hT hg 0 kE),hT⟩
theorem zf8 {W:World}{n:String}{g:Nat}{t:TypeId}{ms:Array (String×TypeId)}{nm:String}{d0:DataW Unit}(h:Go.Lib.VarReads Tryz.prog W n (.iface nm d0)) (hg:Tryz.prog.globalNamed n=some g) (ht:(Tryz.prog.globals[g]?).map (·.type)=some t) (hu:Tryz.prog.underlying t=some (.interface ms)):∃ ev:Value,W.cell? ⟨g,0,none⟩=some ev∧(ev = .nilIface∨∃ te pe,ev = .iface te pe):=by
 obtain ⟨g',t',cs,fuel,p,hg',ht',hv,hd⟩:=h
 obtain rfl:=zDM (hg.symm.trans hg')
 obtain rfl:=zDM (ht.symm.trans ht')
 obtain ⟨_,u,v,hcs,_⟩:=iface_of_trod hu hd
 have hc:=World.var?_cell hg hv 0
 have e:cs[0]? = some (.iface u v):=by rw [← zDE,hcs]; rfl
 exact ⟨_,hc.trans e,.inr ⟨u,v,rfl⟩⟩
theorem ztA {W:World}{m1 m2:String}(h1:Go.Lib.VarReads Tryz.prog W "strconv.ErrSyntax" (.iface m1 d1)) (h2:Go.Lib.VarReads Tryz.prog W "strconv.ErrRange" (.iface m2 d2)):ErrTab W W.heap.size:=by
 have e1:=zf8 h1 (g:=3) (t:=103) kW kW Tryz.underlying103
 have e2:=zf8 h2 (g:=4) (t:=103) kW kW Tryz.underlying103
 obtain ⟨v1,c1,_⟩:=e1
 obtain ⟨v2,c2,_⟩:=e2
 exact ⟨zdS c1,zdS c2,zf8 h1 (g:=3) (t:=103) kW kW Tryz.underlying103,zf8 h2 (g:=4) (t:=103) kW kW Tryz.underlying103⟩
def tyMsg:Ty (Int×Int×Vs (yB×Int×Int)×Vs (yB×Int×Int×Int×yB)×Vs (yB×Int×Int×Int×yB)×Vs (yB×Int×Int×Int×yB)):={ val:=fun x => .agg #[int x.1,int x.2.1,.slice x.2.2.1.A x.2.2.1.l.length x.2.2.1.C,.slice x.2.2.2.1.A x.2.2.2.1.l.length x.2.2.2.1.C,.slice x.2.2.2.2.1.A x.2.2.2.2.1.l.length x.2.2.2.2.1.C,.slice x.2.2.2.2.2.A x.2.2.2.2.2.l.length x.2.2.2.2.2.C],sz:=6,ok:=fun _ => rfl,plain:=fun x c hc => by simp [int,Value.cells] at hc; rcases hc with rfl | rfl | rfl | rfl | rfl | rfl <;> rfl }
end Go.Proofs.YtjmnjkoekabioaaGreatDoor
