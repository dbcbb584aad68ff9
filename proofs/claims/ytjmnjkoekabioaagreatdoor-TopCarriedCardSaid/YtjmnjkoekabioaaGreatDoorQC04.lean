/- Parts of the proof. -/
import Derived.Test.YtjmnjkoekabioaaGreatDoorQC03
namespace Go.Proofs.YtjmnjkoekabioaaGreatDoor
set_option maxHeartbeats 4000000
set_option linter.unusedVariables false
set_option linter.unusedSimpArgs false
set_option maxRecDepth 100000
variable {a:Addr}{cs:Array Value}{br kp:Bool}{f:Fld}{age e lr m minor most:Int}{ls:List yB}{fs:List (yB×yB)}{H:List Seg}{c l n nm t:yB}{C C2 b base k off:Nat}{x y:Operand}{A A2:Option Addr}{P:Program}{s:Seg}{dst src:TypeId}{p:Value}{w w0:World}
theorem zm1 (fs:List Fld) (k:Nat) (h:k < fs.length) (nm:yB):allF (fs.take (k + 1)) nm=allF (fs.take k) nm++(if za4 (fs.getD k ([],[])).1=za4 nm then [(fs.getD k ([],[])).2] else []):=by
 have h1:fs.take (k + 1)=fs.take k++[fs.getD k ([],[])]:=by simp_all
 rw [h1,allF,allF,List.filter_append,zDL]
 grind
theorem zqH (l:List yB):l.headD []=l.getD 0 []:=by cases l <;> rfl
theorem zxA (fs:List Fld) (nm:yB):(allF fs nm).length≤fs.length:=by
 simp only [allF,zD4]
 grind
theorem zCK {m:yB}(h:Rd zbm w0 base H A C fs) (hnm:nm.length≤140737488355000) (hfl:fs.length≤1000) (hb:∀ f ∈ fs,f.1.length≤140737488355000∧f.2.length≤140737488355000) :
  SCalls Tryz.prog 185 [.agg #[str m,str t,vV minor,.slice A fs.length C],str nm] w0 base (H) (fun v H' => ∃ x:Sl tyS 9,x.l=allF fs nm∧v = .slice x.A x.l.length x.C∧H' = x.s::H):=by
 have hle0:=h.le
 have hcap0:=h.cap
 refine zaa (n:=28) Tryz.func185 Z Z Z fun cs => ?_
 refine a2 ?_
 refine zaU (cs:=#[str m,str t,vV minor,.slice A fs.length C]) Z zg0 Z Z ?_
 intro b1
 refine a15 ?_
 refine At.nil<|zpk [0] 2 ?_
 refine zcC (fun (k:Nat) (x:Sl tyS 9) => [(1,str nm),(5,.slice x.A x.l.length x.C),(9,.slice A fs.length C),(10,vV (fs.length:Int)),(11,vV (k:Int))]) (fun k x => x.s::H) (fun k x => k≤fs.length∧x.l=allF (fs.take k) nm) (fun k x => fs.length - k) 0 Sl.nil (⟨zDq _,Z⟩) ⟨Z,Z,Z,Z,Z,trivial⟩ Z ?_
 rintro k x ⟨hk,hx⟩ ihL1
 have hcap:=Own.cap_le x.own
 have hle:=Own.le_cap x.own
 have hxl:=zxA (fs.take k) nm
 rw [← hx,zDs] at hxl
 refine a5 ?_
 refine zac Z ?_ ?_
 ·intro hc1
  try dsimp only at hc1
  have hbk:=hb _ (zaA (l:=fs) (i:=k) (d:=(([],[]):yB×yB)) kQ)
  refine a5 ?_
  refine zah k (Rd.skip 1 h) Z zcB zg0 Z Z Z Z kQ ?_
  refine zaM (n:=0) (Rd.skip 1 h) (getD_some (([],[]):yB×yB) kQ) Z zfr zg0 Z Z<|AtL.alloc zbB (cs:=#[str [],str []]) Z zg0 Z ?_
  intro b2
  refine a6 ?_
  refine zca Z (zpa (l:=(fs.getD k (([],[]):yB×yB)).1) (by first | omega | (simp only [zC6,zC7,zC8]; omega) | (simp; done) | (simp; omega))) ?_
  rintro _ _ ⟨rfl,rfl⟩
  refine a1 ?_
  refine zca Z (zpa (l:=nm) (by first | omega | (simp only [zC6,zC7,zC8]; omega) | (simp; done) | (simp; omega))) ?_
  rintro _ _ ⟨rfl,rfl⟩
  refine zfb (a:=za4 ((fs.getD k (([],[]):yB×yB)).1)) (b:=za4 nm) zg0 Z Z Z<|a1 ?_
  refine zac Z ?_ ?_
  ·intro hc2
   try dsimp only at hc2
   refine a4 ?_
   refine zae (cs:=[str ((fs.getD k (([],[]):yB×yB)).2)]) Z zeP zdh Z Z zg0 Z Z Z ?_
   intro b3
   refine zau tyS (l:=([(fs.getD k (([],[]):yB×yB)).2]:List yB)) Z Z kT ?_
   intro s4 o5
   refine zap (l:=x.l) (news:=[(fs.getD k (([],[]):yB×yB)).2]) 2 zoD Z x.own (o5.rd (i:=0) Z) (by first | omega | (simp only [zC6,zC7,zC8]; omega) | (simp; done) | (simp; omega)) zg0 Z Z Z ?_
   intro A6 C7 s8 o9
   refine a7 ?_
   refine zpk [2] 3 ?_
   refine ihL1 (k + 1) (⟨A6,C7,x.l++([(fs.getD k (([],[]):yB×yB)).2]),s8,o9⟩) (⟨by omega,by rw [zm1 _ _ kQ,zDi hc2,← hx]⟩) kQ _ ?_
   exact zen
  ·intro hc2
   try dsimp only at hc2
   refine a6 ?_
   refine zpk [1] 2 ?_
   refine ihL1 (k + 1) x (⟨by omega,by rw [zm1 _ _ kQ,zDb hc2,zDO,← hx]⟩) kQ _ ?_
   exact zen
 ·intro hc1
  try dsimp only at hc1
  refine a6 ?_
  exact zad Tryz.func185 Z Z (⟨x,by rw [zDc (show fs.length≤k by omega)] at hx; exact hx,Z,Z⟩)
theorem zgQ {m:yB}(h:Rd zbm w0 base H A C fs) (hnm:nm.length≤140737488355000) (hfl:fs.length≤1000) (hb:∀ f ∈ fs,f.1.length≤140737488355000∧f.2.length≤140737488355000) :
  SCalls Tryz.prog 236 [.agg #[str m,str t,vV minor,.slice A fs.length C],str nm] w0 base (H) (fun v H' => v = .tuple #[str (zd8 fs nm).1,int ((zd8 fs nm).2:Int)]∧H' = H):=by
 refine zaa (n:=18) Tryz.func236 Z Z Z fun cs => ?_
 refine a2 ?_
 refine zaU (cs:=#[str m,str t,vV minor,.slice A fs.length C]) Z zg0 Z Z ?_
 intro b1
 refine a7 ?_
 refine zca Z (zCK (fs:=fs) (Rd.skip 1 h) (nm:=nm) (by first | omega | decide) hfl hb) ?_
 rintro _ _ ⟨⟨A2,C3,l4,s5,o6⟩,hx7,rfl,rfl⟩
 obtain rfl:allF fs nm=l4:=hx7.symm
 refine a9 ?_
 refine zaT Z ?_ ?_
 ·intro hc1
  have hc1:((allF fs nm).length:Int)=0:=zDf hc1
  have hnil:allF fs nm=[]:=zDk kQ
  refine a5 ?_
  refine zpk [] 2 ?_
  exact zad Tryz.func236 Z Z (⟨by rw [zd8,hnil]; rfl,Z⟩)
 ·intro hc1
  have hc1:¬ (((allF fs nm).length:Int)=0):=zDm hc1
  have hcons:0 < (allF fs nm).length:=by omega
  refine a4 ?_
  refine zah 0 (o6.rd (i:=0) Z) Z zdh zg0 Z Z Z Z kQ ?_
  refine zax (v:=str ((allF fs nm).getD 0 [])) zbz zg0 Z Z (zaL (o6.rd (i:=0) Z) (getD_some [] kQ) Z)<|a5 ?_
  refine zpk [] 2 ?_
  exact zad Tryz.func236 Z Z (⟨by rw [zd8,zqH]; rfl,Z⟩)
theorem zwr {m:yB}(h:Rd zbm w0 base H A C fs) (hfl:fs.length≤1000) (hb:∀ f ∈ fs,f.1.length≤140737488355000∧f.2.length≤140737488355000) :
  SCalls Tryz.prog 463 [.agg #[str m,str t,vV minor,.slice A fs.length C]] w0 base (H) (fun v H' => v = .bool (zmt fs minor)∧H' = H):=by
 refine zaa (n:=21) Tryz.func463 Z Z Z fun cs => ?_
 refine a2 ?_
 refine zaU (cs:=#[str m,str t,vV minor,.slice A fs.length C]) Z zg0 Z Z ?_
 intro b1
 refine a5 ?_
 refine zca Z (zgQ (fs:=fs) (Rd.skip 1 h) (nm:=[104,111,115,116]) (by first | omega | decide) hfl hb) ?_
 rintro _ _ ⟨rfl,rfl⟩
 refine a11 ?_
 refine zaI 8 (E':=[(20,.bool (decide ((((zd8 fs [104,111,115,116]).2:Int)=1)∨((((zd8 fs [104,111,115,116]).2:Int)=0)∧((minor:Int)=0)))))]) (fun J => ?_) ?_
 ·refine zaG (t:=12) Z ?_ ?_
  ·intro hs12
   try dsimp only at hs12
   refine a3 ?_
   refine zaD Z Z Z Z Z<|zaD Z Z Z Z Z<|zaD Z Z Z Z Z<|a2 ?_
   exact J _ zej
  ·intro hs12
   try dsimp only at hs12
   refine a3 ?_
   refine zjn 4 15 [(19,.bool (decide ((((zd8 fs [104,111,115,116]).2:Int)=0)∧((minor:Int)=0)))),(12,.bool false)] ?_
   skip
   refine a1 ?_
   exact J _ zej
 ·refine a2 ?_
  refine zpk [] 1 ?_
  exact zad Tryz.func463 Z Z (⟨zDh Value.bool (by rw [zmt]; exact zEM.2 (by show _↔((zd8 fs [104,111,115,116]).2=1∨((zd8 fs [104,111,115,116]).2=0∧minor=0)); omega)),Z⟩)
theorem zBL {h:HeadV}(hk:k < h.fs.length) (hf:zbt (h.fs.getD k ([],[]))=false):okF h=false:=by
 grind [zbt,List.all_eq_false,zaA,okF]
theorem zuA {fs:List Fld}(h:k < fs.length) (ha:(fs.take k).all zbt=true) (hp:zbt (fs.getD k ([],[]))=true):(fs.take (k + 1)).all zbt=true:=by
 grind [List.take_succ_eq_append_getElem,List.getD]
theorem zz1 {m:yB}(h:Rd zbm w0 base H A C fs) (hfl:fs.length≤1000) (hb:∀ f ∈ fs,f.1.length≤140737488355000∧f.2.length≤140737488355000) (hm:m.length≤140737488355000) (ht:t.length≤140737488355000) :
  SCalls Tryz.prog 415 [.agg #[str m,str t,vV minor,.slice A fs.length C]] w0 base (H) (fun v H' => v = .bool (okF ⟨m,t,minor,fs⟩)∧H' = H):=by
 have hle0:=h.le
 have hcap0:=h.cap
 refine zaa (n:=57) Tryz.func415 Z Z Z fun cs => ?_
 refine a2 ?_
 refine zaU (cs:=#[str m,str t,vV minor,.slice A fs.length C]) Z zg0 Z Z ?_
 intro b1
 refine a7 ?_
 refine zca Z (zq9 (l:=m) (by first | omega | (simp only [zC6,zC7,zC8]; omega) | (simp; done) | (simp; omega)) 16) ?_
 rintro _ _ ⟨rfl,rfl⟩
 refine a2 ?_
 refine zaI 5 (E':=[(14,.bool (decide (((zcD m 16)=false)∨(2048 < (t.length:Int))))),(1,pB b1)]) (fun J => ?_) ?_
 ·refine zaK (t:=9) Z ?_ ?_
  ·intro hs9
   have hs9:(zcD m 16)=false:=zat hs9
   refine a5 ?_
   exact J _ zej
  ·intro hs9
   have hs9:(zcD m 16)=true:=zas hs9
   refine a2 ?_
   refine zbu (l:=t) Z (.inr ⟨_,_,_,Z,Z,Z,Z⟩) Z Z<|a2 ?_
   exact J _ zej
 ·refine a1 ?_
  refine zaI 5 (E':=[(20,.bool (decide ((((zcD m 16)=false)∨(2048 < (t.length:Int)))∨((zfs t)=false)))),(1,pB b1)]) (fun J => ?_) ?_
  ·refine zaG (t:=15) Z ?_ ?_
   ·intro hs15
    try dsimp only at hs15
    refine a5 ?_
    exact J _ zej
   ·intro hs15
    try dsimp only at hs15
    refine a2 ?_
    refine zca Z (zrI (l:=t) (by first | omega | (simp only [zC6,zC7,zC8]; omega) | (simp; done) | (simp; omega))) ?_
    rintro _ _ ⟨rfl,rfl⟩
    refine a2 ?_
    exact J _ zej
  ·refine a1 ?_
   refine zjn 4 21 [(25,.bool (decide (((((zcD m 16)=false)∨(2048 < (t.length:Int)))∨((zfs t)=false))∨((minor:Int) < 0)))),(1,pB b1)] ?_
   skip
   refine a1 ?_
   refine zjn 4 26 [(30,.bool (decide ((((((zcD m 16)=false)∨(2048 < (t.length:Int)))∨((zfs t)=false))∨((minor:Int) < 0))∨(1 < (minor:Int))))),(1,pB b1)] ?_
   skip
   refine a1 ?_
   refine zjn 5 31 [(36,.bool (decide (((((((zcD m 16)=false)∨(2048 < (t.length:Int)))∨((zfs t)=false))∨((minor:Int) < 0))∨(1 < (minor:Int)))∨(32 < (fs.length:Int))))),(1,pB b1)] ?_
   skip
   refine a1 ?_
   refine zac Z ?_ ?_
   ·intro hc1
    try dsimp only at hc1
    refine a4 ?_
    refine zpk [] 1 ?_
    exact zad Tryz.func415 Z Z (⟨zDh Value.bool (by simp only [okF]; rcases hc1 with ((((h1 | h1) | h1) | h1) | h1) | h1 <;> simp [h1] <;> omega),Z⟩)
   ·intro hc1
    try dsimp only at hc1
    refine a10 ?_
    refine zbM (fun (k:Nat) => [(1,pB b1),(38,.slice A fs.length C),(39,vV (fs.length:Int)),(40,vV (k:Int))]) (fun k => [(b1,.cells #[str m,str t,vV minor,.slice A fs.length C] 257 (0,0))]::H) (fun k => k≤fs.length∧(fs.take k).all zbt=true) (fun k => fs.length - k) 0 (⟨zDq _,Z⟩) ⟨Z,Z,Z,Z,trivial⟩ Z ?_
    rintro k ⟨hk,ha⟩ ihL1
    refine a5 ?_
    refine zac Z ?_ ?_
    ·intro hc2
     try dsimp only at hc2
     have hbk:=hb _ (zaA (l:=fs) (i:=k) (d:=(([],[]):yB×yB)) kQ)
     refine a5 ?_
     refine zah k (Rd.skip 1 h) Z zcB zg0 Z Z Z Z kQ ?_
     refine zaM (n:=0) (Rd.skip 1 h) (getD_some (([],[]):yB×yB) kQ) Z zfr zg0 Z Z<|AtL.alloc zbB (cs:=#[str [],str []]) Z zg0 Z ?_
     intro b2
     refine a6 ?_
     refine zca Z (zq9 (l:=(fs.getD k (([],[]):yB×yB)).1) (by first | omega | (simp only [zC6,zC7,zC8]; omega) | (simp; done) | (simp; omega)) 64) ?_
     rintro _ _ ⟨rfl,rfl⟩
     refine a2 ?_
     refine zaI 5 (E':=[(53,.bool (decide (((zcD ((fs.getD k (([],[]):yB×yB)).1) 64)=false)∨((zdZ ((fs.getD k (([],[]):yB×yB)).2))=false)))),(1,pB b1),(38,.slice A fs.length C),(39,vV (fs.length:Int)),(40,vV (k:Int))]) (fun J => ?_) ?_
     ·refine zaK (t:=48) Z ?_ ?_
      ·intro hs48
       have hs48:(zcD ((fs.getD k (([],[]):yB×yB)).1) 64)=false:=zat hs48
       refine a5 ?_
       exact J _ zej
      ·intro hs48
       have hs48:(zcD ((fs.getD k (([],[]):yB×yB)).1) 64)=true:=zas hs48
       refine a2 ?_
       refine zca Z (zva (l:=(fs.getD k (([],[]):yB×yB)).2) (by first | omega | (simp only [zC6,zC7,zC8]; omega) | (simp; done) | (simp; omega))) ?_
       rintro _ _ ⟨rfl,rfl⟩
       refine a2 ?_
       exact J _ zej
     ·refine a1 ?_
      refine zac Z ?_ ?_
      ·intro hc3
       try dsimp only at hc3
       refine a4 ?_
       refine zpk [] 2 ?_
       exact zad Tryz.func415 Z Z (⟨zDh Value.bool (zBL (h:=⟨m,t,minor,fs⟩) (k:=k) (show k < fs.length by omega) (by rw [zbt]; rcases hc3 with h3 | h3 <;> simp [h3] <;> simp_all)).symm,Z⟩)
      ·intro hc3
       try dsimp only at hc3
       refine a6 ?_
       refine zpk [1] 2 ?_
       refine ihL1 (k + 1) (⟨by omega,zuA kQ ha (by rw [zbt]; simpa using hc3)⟩) kQ _ ?_
       exact zen
    ·intro hc2
     try dsimp only at hc2
     refine a4 ?_
     refine zca Z (zwr (fs:=fs) (Rd.skip 1 h) hfl hb) ?_
     rintro _ _ ⟨rfl,rfl⟩
     refine a2 ?_
     refine zpk [] 1 ?_
     exact zad Tryz.func415 Z Z (⟨zDh Value.bool (by simp only [okF]; rw [show fs.all zbt=true from by rw [zDc (show fs.length≤k by omega)] at ha; exact ha]; simp only [zGb] at hc1; simp [hc1]; omega),Z⟩)
theorem zrQ:∀ n:Nat,n < 10→subl [48,49,50,51,52,53,54,55,56,57,97,98,99,100,101,102,103,104,105,106,107,108,109,110,111,112,113,114,115,116,117,118,119,120,121,122] n (n + 1)=[UInt8.ofNat (48 + n)]:=by decide +kernel
theorem zvv (n:Nat) (hn:n < 10) :
  SCalls Tryz.prog 232 [vV (n:Int)] w0 base (H) (fun v H' => v=str [UInt8.ofNat (48 + n)]∧H' = H):=by
 refine zaa (n:=15) Tryz.func232 Z Z Z fun cs => ?_
 refine a10 ?_
 refine zao true Z (zDI kQ)<|a5 ?_
 refine zb7 (l:=[48,49,50,51,52,53,54,55,56,57,97,98,99,100,101,102,103,104,105,106,107,108,109,110,111,112,113,114,115,116,117,118,119,120,121,122]) n (n + 1) (zab Z Z) (zab Z Z) kQ (by show n + 1≤36; omega) Z zg0 Z Z<|a2 ?_
 exact zad Tryz.func232 Z Z (⟨zDh str (zrQ n hn),Z⟩)
theorem zAN {y:Sl tyB 5}(hy:y.l.length≤140737488355000) (n:Nat) (hn:n < 10) :
  SCalls Tryz.prog 511 [.slice y.A y.l.length y.C,.int .u64 (n:Int),vV 10] w0 base (y.s::H) (fun v H' => ∃ x:Sl tyB 5,x.l=y.l++[UInt8.ofNat (48 + n)]∧v = .slice x.A x.l.length x.C∧H' = x.s::H):=by
 refine zaa (n:=36) Tryz.func511 Z Z Z fun cs => ?_
 refine a17 ?_
 refine zao true Z (zDI kQ)<|a4 ?_
 refine zay (z:=(n:Int)) Z Z zg0 Z Z (w64 kQ kQ) ?_
 refine zca Z (zvv n kQ) ?_
 rintro _ _ ⟨rfl,rfl⟩
 refine zb2 (l:=y.l) (news:=[UInt8.ofNat (48 + n)]) 0 zav Z Z y.own (by first | omega | (simp only [zC6,zC7,zC8]; omega) | (simp; done) | (simp; omega)) zg0 Z Z Z ?_
 intro A1 C2 s3 o4
 refine a2 ?_
 exact zad Tryz.func511 Z Z (⟨⟨A1,C2,y.l++[UInt8.ofNat (48 + n)],s3,o4⟩,Z,Z,Z⟩)
theorem zwq {y:Sl tyB 5}(hy:y.l.length≤140737488355000) (n:Nat) (hn:n < 10) :
  SCalls Tryz.prog 497 [.slice y.A y.l.length y.C,vV (n:Int),vV 10] w0 base (y.s::H) (fun v H' => ∃ x:Sl tyB 5,x.l=y.l++[UInt8.ofNat (48 + n)]∧v = .slice x.A x.l.length x.C∧H' = x.s::H):=by
 refine zaa (n:=21) Tryz.func497 Z Z Z fun cs => ?_
 refine a7 ?_
 refine zay (z:=(n:Int)) Z Z zg0 Z Z (w64u kQ kQ)<|a8 ?_
 refine zao false Z (zDl kQ)<|a6 ?_
 refine zca Z (zAN (y:=y) (by first | omega | (simp only [zC6,zC7,zC8]; omega) | (simp; done) | (simp; omega)) n kQ) ?_
 rintro _ _ ⟨⟨A1,C2,l3,s4,o5⟩,hx6,rfl,rfl⟩
 obtain rfl:y.l++[UInt8.ofNat (48 + n)]=l3:=hx6.symm
 refine a2 ?_
 exact zad Tryz.func497 Z Z (⟨⟨A1,C2,y.l++[UInt8.ofNat (48 + n)],s4,o5⟩,Z,Z,Z⟩)
theorem zAO {y:Sl tyB 5}(hy:y.l.length≤140737488355000) (n:Nat) (hn:n < 10) :
  SCalls Tryz.prog 464 [.slice y.A y.l.length y.C,vV (n:Int),vV 10] w0 base (y.s::H) (fun v H' => ∃ x:Sl tyB 5,x.l=y.l++[UInt8.ofNat (48 + n)]∧v = .slice x.A x.l.length x.C∧H' = x.s::H):=by
 refine zaa (n:=11) Tryz.func464 Z Z Z fun cs => ?_
 refine a9 ?_
 refine zca Z (zwq (y:=y) (by first | omega | (simp only [zC6,zC7,zC8]; omega) | (simp; done) | (simp; omega)) n kQ) ?_
 rintro _ _ ⟨⟨A1,C2,l3,s4,o5⟩,hx6,rfl,rfl⟩
 obtain rfl:y.l++[UInt8.ofNat (48 + n)]=l3:=hx6.symm
 refine a2 ?_
 exact zad Tryz.func464 Z Z (⟨⟨A1,C2,y.l++[UInt8.ofNat (48 + n)],s4,o5⟩,Z,Z,Z⟩)
def zc9 (fs:List Fld):yB:=(fs.map fun f => zji f++[13,10]).flatten
theorem ztv (fs:List Fld):zjh fs=zc9 fs++[13,10]:=by
 induction fs with
 | nil => rfl
 | cons f fs ih => grind [zjh,zc9]
theorem zhS (fs:List Fld) (k:Nat) (h:k < fs.length):zc9 (fs.take (k + 1))=zc9 (fs.take k)++(zji (fs.getD k ([],[]))++[13,10]):=by
 grind [List.take_succ_eq_append_getElem,List.getD,zc9]
def szF (fs:List Fld):Nat:=(fs.map fun f => f.1.length + f.2.length + 4).sum
theorem zoF (fs:List Fld):∀ k,(zc9 (fs.take k)).length≤szF fs:=by
 induction fs with
 | nil => grind [zc9]
 | cons f fs ih =>
  intro k
  cases k with
  | zero => simp [zc9]
  | succ k =>
   grind [zc9,szF,zji]
theorem zvr (fs:List Fld) (k:Nat) (h:k < fs.length):(zc9 (fs.take k)).length + ((fs.getD k ([],[])).1.length + (fs.getD k ([],[])).2.length + 4)≤szF fs:=by
 have h1:=zoF fs (k + 1)
 grind [zhS,List.length_append,zji,List.length_cons,List.length_nil]
theorem zyJ {fs:List Fld}(h:f ∈ fs):f.1.length + f.2.length≤szF fs:=by
 induction fs with
 | nil => grind
 | cons g fs ih =>
  simp only [szF,zDo,zFk]
  rcases zDp.1 h with rfl | h
  ·omega
  grind [szF]
theorem zta {m:yB}(h:Rd zbm w0 base H A C fs) (hfl:fs.length≤1000) (htot:m.length + t.length + szF fs≤140737488354000) (n:Nat) (hn:n < 10) :
  SCalls Tryz.prog 416 [.agg #[str m,str t,vV (n:Int),.slice A fs.length C]] w0 base (H) (fun v H' => ∃ x:Sl tyB 5,x.l=zlq ⟨m,t,(n:Int),fs⟩∧v = .slice x.A x.l.length x.C∧H' = x.s::H):=by
 have hle0:=h.le
 have hcap0:=h.cap
 refine zaa (n:=40) Tryz.func416 Z Z Z fun cs => ?_
 refine a2 ?_
 refine zaU (cs:=#[str m,str t,vV (n:Int),.slice A fs.length C]) Z zg0 Z Z ?_
 intro b1
 refine a6 ?_
 refine zcF (l:=m) Z Z Z (by first | omega | (simp only [zC6,zC7,zC8]; omega) | (simp; done) | (simp; omega)) zg0 Z Z ?_
 intro A2 C3 s4 n6 o5
 refine zae (cs:=[.int .u8 32]) Z zbO zaF Z Z zg0 Z Z Z ?_
 intro b7
 refine zau tyB (l:=([32]:yB)) Z Z kT ?_
 intro s8 o9
 refine zap (l:=m) (news:=[32]) 1 zav Z o5 (o9.rd (i:=0) Z) (by first | omega | (simp only [zC6,zC7,zC8]; omega) | (simp; done) | (simp; omega)) zg0 Z Z Z ?_
 intro A10 C11 s12 o13
 refine a7 ?_
 refine zb2 (l:=m++[32]) (news:=t) 1 zav Z Z o13 (by first | omega | (simp only [zC6,zC7,zC8]; omega) | (simp; done) | (simp; omega)) zg0 Z Z Z ?_
 intro A14 C15 s16 o17
 refine zb2 (l:=(m++[32])++t) (news:=[32,72,84,84,80,47,49,46]) 1 zav Z Z o17 (by first | omega | (simp only [zC6,zC7,zC8]; omega) | (simp; done) | (simp; omega)) zg0 Z Z Z ?_
 intro A18 C19 s20 o21
 refine a7 ?_
 refine zpk [1,0,2] 3 ?_
 refine zca Z (zAO (y:=⟨A18,C19,((m++[32])++t)++[32,72,84,84,80,47,49,46],s20,o21⟩) (by first | omega | (simp only [zC6,zC7,zC8]; omega) | (simp; done) | (simp; omega)) n kQ) ?_
 rintro _ _ ⟨⟨A22,C23,l24,s25,o26⟩,hx27,rfl,rfl⟩
 obtain rfl:(((m++[32])++t)++[32,72,84,84,80,47,49,46])++[UInt8.ofNat (48 + n)]=l24:=hx27.symm
 refine zb2 (l:=(((m++[32])++t)++[32,72,84,84,80,47,49,46])++[UInt8.ofNat (48 + n)]) (news:=[13,10]) 0 zav Z Z o26 (by first | omega | (simp only [zC6,zC7,zC8]; omega) | (simp; done) | (simp; omega)) zg0 Z Z Z ?_
 intro A28 C29 s30 o31
 refine a11 ?_
 refine zpk [0] 3 ?_
 refine zcC (fun (k:Nat) (x:Sl tyB 5) => [(3,.slice x.A x.l.length x.C),(22,.slice A fs.length C),(23,vV (fs.length:Int)),(24,vV (k:Int))]) (fun k x => x.s::H) (fun k x => k≤fs.length∧x.l=zsQ ⟨m,t,(n:Int),fs⟩++[13,10]++zc9 (fs.take k)) (fun k x => fs.length - k) 0 (⟨A28,C29,((((m++[32])++t)++[32,72,84,84,80,47,49,46])++[UInt8.ofNat (48 + n)])++[13,10],s30,o31⟩) (⟨zDq _,by simp [zsQ,zxB,zc9]⟩) ⟨Z,Z,Z,Z,trivial⟩ Z ?_
 rintro k x ⟨hk,hx⟩ ihL1
 have hpl:=zoF fs k
 have hxl:x.l.length=m.length + t.length + 12 + (zc9 (fs.take k)).length:=by rw [hx]; simp [zsQ,zxB]; omega
 refine a5 ?_
 refine zac Z ?_ ?_
 ·intro hc1
  try dsimp only at hc1
  have hbk:=zvr fs k kQ
  refine a5 ?_
  refine zah k (Rd.skip 1 h) Z zcB zg0 Z Z Z Z kQ ?_
  refine zaM (n:=0) (Rd.skip 1 h) (getD_some (([],[]):yB×yB) kQ) Z zfr zg0 Z Z<|AtL.alloc zbB (cs:=#[str [],str []]) Z zg0 Z ?_
  intro b32
  refine a2 ?_
  refine zaN (es:=[3,4,7,8]) (pv:=[(0,.slice x.A x.l.length x.C),(1,pB b32),(2,str ((fs.getD k (([],[]):yB×yB)).1)),(5,.pointer (some ⟨b32,1,none⟩)),(6,str ((fs.getD k (([],[]):yB×yB)).2))]) zaz kW kW kW ?_
  refine ⟨zj4<|zjz<|trivial,Z,Z,by kernel_rfl,_,Z,Z,Z,_,zeL (l:=x.l) (news:=(fs.getD k (([],[]):yB×yB)).1) 1 zav Z Z x.own (by first | omega | (simp only [zC6,zC7,zC8]; omega) | (simp; done) | (simp; omega)) Z Z,?_⟩
  rintro _ _ ⟨A33,C34,s35,o36,rfl,rfl⟩
  refine ⟨[],Z,?_⟩
  refine ⟨zjk<|zjk<|zjk<|zj2<|trivial,Z,Z,by kernel_rfl,_,Z,Z,Z,_,zeL (l:=x.l++((fs.getD k (([],[]):yB×yB)).1)) (news:=[58,32]) 1 zav Z Z o36 (by first | omega | (simp only [zC6,zC7,zC8]; omega) | (simp; done) | (simp; omega)) Z Z,?_⟩
  rintro _ _ ⟨A37,C38,s39,o40,rfl,rfl⟩
  refine ⟨[],Z,?_⟩
  refine ⟨zjk<|zjk<|zjk<|zj2<|trivial,Z,Z,by kernel_rfl,_,Z,Z,Z,_,zeL (l:=(x.l++((fs.getD k (([],[]):yB×yB)).1))++[58,32]) (news:=(fs.getD k (([],[]):yB×yB)).2) 1 zav Z Z o40 (by first | omega | (simp only [zC6,zC7,zC8]; omega) | (simp; done) | (simp; omega)) Z Z,?_⟩
  rintro _ _ ⟨A41,C42,s43,o44,rfl,rfl⟩
  refine ⟨[],Z,?_⟩
  refine ⟨zk4<|zjk<|trivial,Z,Z,by kernel_rfl,_,Z,Z,Z,_,zeL (l:=((x.l++((fs.getD k (([],[]):yB×yB)).1))++[58,32])++((fs.getD k (([],[]):yB×yB)).2)) (news:=[13,10]) 1 zav Z Z o44 (by first | omega | (simp only [zC6,zC7,zC8]; omega) | (simp; done) | (simp; omega)) Z Z,?_⟩
  rintro _ _ ⟨A45,C46,s47,o48,rfl,rfl⟩
  refine ⟨[(9,.slice A45 ((((x.l++((fs.getD k (([],[]):yB×yB)).1))++[58,32])++((fs.getD k (([],[]):yB×yB)).2))++[13,10]).length C46)],Z,?_⟩
  refine ⟨zjz<|zk4<|zjk<|trivial,by kernel_rfl,?_⟩
  refine At.mono (E':=[(3,.slice A45 ((((x.l++((fs.getD k (([],[]):yB×yB)).1))++[58,32])++((fs.getD k (([],[]):yB×yB)).2))++[13,10]).length C46),(22,.slice A fs.length C),(23,vV (fs.length:Int)),(24,vV (k:Int))]) ⟨Z,Z,Z,Z,trivial⟩<|a5 ?_
  refine zpk [1] 2 ?_
  refine ihL1 (k + 1) (⟨A45,C46,(((x.l++((fs.getD k (([],[]):yB×yB)).1))++[58,32])++((fs.getD k (([],[]):yB×yB)).2))++[13,10],s47,o48⟩) (⟨by omega,by rw [zhS _ _ kQ,← zDg,← hx]; simp [zji]⟩) kQ _ ?_
  exact zen
 ·intro hc1
  try dsimp only at hc1
  refine a4 ?_
  refine zb2 (l:=x.l) (news:=[13,10]) 0 zav Z Z x.own (by first | omega | (simp only [zC6,zC7,zC8]; omega) | (simp; done) | (simp; omega)) zg0 Z Z Z ?_
  intro A65 C66 s67 o68
  refine a2 ?_
  exact zad Tryz.func416 Z Z (⟨⟨A65,C66,x.l++[13,10],s67,o68⟩,by rw [zDc (show fs.length≤k by omega)] at hx; rw [zlq,ztv]; simp only [hx]; simp,Z,Z⟩)
def zfk (h:HeadV):Int:=if zeN h=true then 0 else 2
def zlM (h:HeadV):yB:=if zeN h=true then zlq h else []
theorem zv3 {m:yB}{fs:List Fld}(h:okF ⟨m,t,minor,fs⟩=true):∃ n:Nat,n < 2∧minor=(n:Int):=by
 simp only [okF,zC9,zD7] at h
 obtain ⟨⟨⟨⟨⟨⟨_,_⟩,_⟩,h2⟩,_⟩,_⟩,_⟩:=h
 exact ⟨minor.toNat,by omega,by omega⟩
theorem zu2 {m:yB}(h:Rd zbm w0 base H A C fs) (hfl:fs.length≤1000) (htot:m.length + t.length + szF fs≤140737488354000) :
  SCalls Tryz.prog 336 [.agg #[str m,str t,vV minor,.slice A fs.length C]] w0 base (H) (fun v H' => ∃ x:Sl tyB 5,x.l=zlM ⟨m,t,minor,fs⟩∧v = .tuple #[.slice x.A x.l.length x.C,int (zfk ⟨m,t,minor,fs⟩)]∧H' = x.s::H):=by
 have hb:∀ f ∈ fs,f.1.length≤140737488355000∧f.2.length≤140737488355000:=fun f hf => by have:=zyJ hf; omega
 refine zaa (n:=14) Tryz.func336 Z Z Z fun cs => ?_
 refine a2 ?_
 refine zaU (cs:=#[str m,str t,vV minor,.slice A fs.length C]) Z zg0 Z Z ?_
 intro b1
 refine a7 ?_
 refine zca Z (zz1 (fs:=fs) (Rd.skip 1 h) hfl hb kQ kQ) ?_
 rintro _ _ ⟨rfl,rfl⟩
 refine a2 ?_
 refine zaT Z ?_ ?_
 ·intro hc1
  have hc1:(okF ⟨m,t,minor,fs⟩)=false:=zat hc1
  refine a5 ?_
  refine At.nil<|zpk [0] 2 ?_
  have hw:¬ zeN ⟨m,t,minor,fs⟩=true:=by rw [zeN,hc1]; simp
  exact zad Tryz.func336 Z Z (⟨Sl.nil,by rw [zlM,zDb hw]; rfl,by rw [zfk,zDb hw]; rfl,Z⟩)
 ·intro hc1
  have hc1:(okF ⟨m,t,minor,fs⟩)=true:=zas hc1
  have hok:okF ⟨m,t,minor,fs⟩=true:=by simpa using hc1
  obtain ⟨n,hn,hmn⟩:=zv3 hok
  subst hmn
  refine a4 ?_
  refine zca Z (zta (fs:=fs) (Rd.skip 1 h) hfl htot n kQ) ?_
  rintro _ _ ⟨⟨A2,C3,l4,s5,o6⟩,hx7,rfl,rfl⟩
  obtain rfl:zlq ⟨m,t,(n:Int),fs⟩=l4:=hx7.symm
  refine a9 ?_
  refine zac Z ?_ ?_
  ·intro hc2
   try dsimp only at hc2
   refine a5 ?_
   refine At.nil<|zpk [0] 3 ?_
   have hw:¬ zeN ⟨m,t,(n:Int),fs⟩=true:=by rw [zeN,hok,zDl (show ¬ (zlq ⟨m,t,(n:Int),fs⟩).length≤4096 by omega)]; simp
   exact zad Tryz.func336 Z Z (⟨Sl.nil,by rw [zlM,zDb hw]; rfl,by rw [zfk,zDb hw]; rfl,Z⟩)
  ·intro hc2
   try dsimp only at hc2
   refine a7 ?_
   refine zpk [0] 2 ?_
   have hw:zeN ⟨m,t,(n:Int),fs⟩=true:=by rw [zeN,hok,zDI (show (zlq ⟨m,t,(n:Int),fs⟩).length≤4096 by omega)]; rfl
   exact zad Tryz.func336 Z Z (⟨⟨A2,C3,zlq ⟨m,t,(n:Int),fs⟩,s5,o6⟩,by rw [zlM,zDi hw],by rw [zfk,zDi hw]; rfl,Z⟩)
theorem zxe {m:yB}(h:Rd zbm w0 base H A C fs) (hfl:fs.length≤1000) (htot:m.length + t.length + szF fs≤140737488354000) :
  SCalls Tryz.prog 237 [.agg #[str m,str t,vV minor,.slice A fs.length C]] w0 base (H) (fun v H' => v=int (zfk ⟨m,t,minor,fs⟩)∧H' = H):=by
 refine zaa (n:=11) Tryz.func237 Z Z Z fun cs => ?_
 refine a2 ?_
 refine zaU (cs:=#[str m,str t,vV minor,.slice A fs.length C]) Z zg0 Z Z ?_
 intro b1
 refine a5 ?_
 refine zca Z (zu2 (m:=m) (t:=t) (minor:=minor) (fs:=fs) (Rd.skip 1 h) hfl htot) ?_
 rintro _ _ ⟨⟨A2,C3,l4,s5,o6⟩,hx7,rfl,rfl⟩
 obtain rfl:zlM ⟨m,t,minor,fs⟩=l4:=hx7.symm
 refine a11 ?_
 refine zpk [] 2 ?_
 exact zad Tryz.func237 Z Z (⟨Z,Z⟩)
structure Tabs (w0:World) (base:Nat):Prop where
  lt:8 < base
  lt2:9 < base
  first:∀ c,c < 256→w0.cell? ⟨8,c,none⟩=some (.int .u8 (Lib.firstT c))
  lt0:1 < base
  max:∃ m:Int,w0.cell? ⟨1,0,none⟩=some (int m)
  acc:∀ i,i < 16→w0.cell? ⟨9,2 * i,none⟩=some (.int .u8 (Lib.accLo i))∧w0.cell? ⟨9,2 * i + 1,none⟩=some (.int .u8 (Lib.accHi i))
theorem Tabs.one (T:Tabs w0 base) (u:UInt8) {x:Int}(h:(Lib.firstT u.toNat:Int)=x):Cell w0 base H (zdt (some ⟨8,0,none⟩) (u.toNat * 1)) (.int .u8 x):=by
 rw [← h]
 exact zxG T.lt (T.first _ u.toNat_lt)
end Go.Proofs.YtjmnjkoekabioaaGreatDoor
namespace Go.Proofs
open Go.Shelf
def Tryz.lays160_ren:Go.Shelf.Ren:=⟨fun | 160 => 188 | 232 => 267 | 231 => 266 | 227 => 268 | 234 => 270 | 233 => 269 | 236 => 272 | 235 => 271 | 228 => 358 | 271 => 360 | 151 => 359 | 197 => 338 | 120 => 436 | 152 => 435 | 260 => 417 | 137 => 486 | 119 => 487 | 224 => 169 | 225 => 344 | 217 => 343 | 266 => 420 | n => n,fun | 9 => 9 | 4 => 4 | 3 => 3 | 5 => 5 | 117 => 490 | 116 => 489 | 0 => 0 | 124 => 493 | 21 => 21 | 105 => 554 | 46 => 95 | 119 => 587 | 139 => 690 | 138 => 689 | n => n,fun | 3 => 8 | 4 => 9 | n => n⟩
theorem Tryz.lays160:Go.Proofs.Lays.n160 Tryz.prog Tryz.lays160_ren:={
 mixed:=by kernel_rfl
 f119:=Tryz.func487.trans (congrArg some (by kernel_rfl))
 f120:=Tryz.func436.trans (congrArg some (by kernel_rfl))
 f137:=Tryz.func486.trans (congrArg some (by kernel_rfl))
 f151:=Tryz.func359.trans (congrArg some (by kernel_rfl))
 f152:=Tryz.func435.trans (congrArg some (by kernel_rfl))
 f160:=Tryz.func188.trans (congrArg some (by kernel_rfl))
 f197:=Tryz.func338.trans (congrArg some (by kernel_rfl))
 f217:=Tryz.func343.trans (congrArg some (by kernel_rfl))
 f224:=Tryz.func169.trans (congrArg some (by kernel_rfl))
 f225:=Tryz.func344.trans (congrArg some (by kernel_rfl))
 f227:=Tryz.func268.trans (congrArg some (by kernel_rfl))
 f228:=Tryz.func358.trans (congrArg some (by kernel_rfl))
 f231:=Tryz.func266.trans (congrArg some (by kernel_rfl))
 f232:=Tryz.func267.trans (congrArg some (by kernel_rfl))
 f233:=Tryz.func269.trans (congrArg some (by kernel_rfl))
 f234:=Tryz.func270.trans (congrArg some (by kernel_rfl))
 f235:=Tryz.func271.trans (congrArg some (by kernel_rfl))
 f236:=Tryz.func272.trans (congrArg some (by kernel_rfl))
 f260:=Tryz.func417.trans (congrArg some (by kernel_rfl))
 f266:=Tryz.func420.trans (congrArg some (by kernel_rfl))
 f271:=Tryz.func360.trans (congrArg some (by kernel_rfl))
 t0:=Tryz.underlying0
 a0:=Tryz.isAgg0
 z0:=Tryz.sizeOf0
 v0:=Tryz.zeroValue0
 t3:=Tryz.underlying3
 a3:=Tryz.isAgg3
 z3:=Tryz.sizeOf3
 v3:=Tryz.zeroValue3
 t4:=Tryz.underlying4
 a4:=Tryz.isAgg4
 z4:=Tryz.sizeOf4
 v4:=Tryz.zeroValue4
 t5:=Tryz.underlying5
 a5:=Tryz.isAgg5
 z5:=Tryz.sizeOf5
 v5:=Tryz.zeroValue5
 t9:=Tryz.underlying9
 a9:=Tryz.isAgg9
 z9:=Tryz.sizeOf9
 v9:=Tryz.zeroValue9
 t21:=Tryz.underlying21
 a21:=Tryz.isAgg21
 z21:=Tryz.sizeOf21
 v21:=Tryz.zeroValue21
 t46:=Tryz.underlying95
 a46:=Tryz.isAgg95
 z46:=Tryz.sizeOf95
 v46:=Tryz.zeroValue95
 t105:=Tryz.underlying554
 a105:=Tryz.isAgg554
 z105:=Tryz.sizeOf554
 v105:=Tryz.zeroValue554
 t116:=Tryz.underlying489
 a116:=Tryz.isAgg489
 z116:=Tryz.sizeOf489
 t117:=Tryz.underlying490
 a117:=Tryz.isAgg490
 z117:=Tryz.sizeOf490
 v117:=Tryz.zeroValue490
 t119:=Tryz.underlying587
 a119:=Tryz.isAgg587
 z119:=Tryz.sizeOf587
 t124:=Tryz.underlying493
 a124:=Tryz.isAgg493
 z124:=Tryz.sizeOf493
 v124:=Tryz.zeroValue493
 t138:=Tryz.underlying689
 a138:=Tryz.isAgg689
 z138:=Tryz.sizeOf689
 v138:=Tryz.zeroValue689
 t139:=Tryz.underlying690
 a139:=Tryz.isAgg690
 z139:=Tryz.sizeOf690
 v139:=Tryz.zeroValue690
 g3:=by kernel_rfl
 g4:=by kernel_rfl }
def Tryz.laysM171_ren:Go.Shelf.Ren:=⟨fun | 171 => 44 | 243 => 99 | 246 => 163 | 283 => 232 | 284 => 233 | 285 => 234 | 286 => 235 | 129 => 332 | 317 => 331 | 318 => 333 | 319 => 334 | 320 => 335 | 337 => 413 | 338 => 414 | n => n,fun | 3 => 3 | 9 => 9 | 2 => 2 | 4 => 4 | 171 => 435 | 0 => 0 | 53 => 436 | 37 => 31 | 5 => 5 | 173 => 439 | 212 => 550 | 51 => 446 | 20 => 20 | 213 => 551 | 46 => 95 | 232 => 684 | 233 => 685 | n => n,fun | 17 => 2 | 18 => 6 | 19 => 7 | n => n⟩
theorem Tryz.laysM171:Go.Proofs.LaysM.n171 Tryz.prog Tryz.laysM171_ren:={
 mixed:=by kernel_rfl
 f129:=Tryz.func332.trans (congrArg some (by kernel_rfl))
 f171:=Tryz.func44.trans (congrArg some (by kernel_rfl))
 f243:=Tryz.func99.trans (congrArg some (by kernel_rfl))
 f246:=Tryz.func163.trans (congrArg some (by kernel_rfl))
 f283:=Tryz.func232.trans (congrArg some (by kernel_rfl))
 f284:=Tryz.func233.trans (congrArg some (by kernel_rfl))
 f285:=Tryz.func234.trans (congrArg some (by kernel_rfl))
 f286:=Tryz.func235.trans (congrArg some (by kernel_rfl))
 f317:=Tryz.func331.trans (congrArg some (by kernel_rfl))
 f318:=Tryz.func333.trans (congrArg some (by kernel_rfl))
 f319:=Tryz.func334.trans (congrArg some (by kernel_rfl))
 f320:=Tryz.func335.trans (congrArg some (by kernel_rfl))
 f337:=Tryz.func413.trans (congrArg some (by kernel_rfl))
 f338:=Tryz.func414.trans (congrArg some (by kernel_rfl))
 t0:=Tryz.underlying0
 a0:=Tryz.isAgg0
 z0:=Tryz.sizeOf0
 v0:=Tryz.zeroValue0
 t2:=Tryz.underlying2
 a2:=Tryz.isAgg2
 z2:=Tryz.sizeOf2
 v2:=Tryz.zeroValue2
 t3:=Tryz.underlying3
 a3:=Tryz.isAgg3
 z3:=Tryz.sizeOf3
 v3:=Tryz.zeroValue3
 t4:=Tryz.underlying4
 a4:=Tryz.isAgg4
 z4:=Tryz.sizeOf4
 v4:=Tryz.zeroValue4
 t5:=Tryz.underlying5
 a5:=Tryz.isAgg5
 z5:=Tryz.sizeOf5
 v5:=Tryz.zeroValue5
 t9:=Tryz.underlying9
 a9:=Tryz.isAgg9
 z9:=Tryz.sizeOf9
 v9:=Tryz.zeroValue9
 t20:=Tryz.underlying20
 a20:=Tryz.isAgg20
 z20:=Tryz.sizeOf20
 v20:=Tryz.zeroValue20
 t37:=Tryz.underlying31
 a37:=Tryz.isAgg31
 z37:=Tryz.sizeOf31
 v37:=Tryz.zeroValue31
 t46:=Tryz.underlying95
 a46:=Tryz.isAgg95
 z46:=Tryz.sizeOf95
 v46:=Tryz.zeroValue95
 t51:=Tryz.underlying446
 a51:=Tryz.isAgg446
 z51:=Tryz.sizeOf446
 v51:=Tryz.zeroValue446
 t53:=Tryz.underlying436
 a53:=Tryz.isAgg436
 z53:=Tryz.sizeOf436
 v53:=Tryz.zeroValue436
 t171:=Tryz.underlying435
 a171:=Tryz.isAgg435
 z171:=Tryz.sizeOf435
 v171:=Tryz.zeroValue435
 t173:=Tryz.underlying439
 a173:=Tryz.isAgg439
 z173:=Tryz.sizeOf439
 v173:=Tryz.zeroValue439
 t212:=Tryz.underlying550
 a212:=Tryz.isAgg550
 z212:=Tryz.sizeOf550
 v212:=Tryz.zeroValue550
 t213:=Tryz.underlying551
 a213:=Tryz.isAgg551
 z213:=Tryz.sizeOf551
 t232:=Tryz.underlying684
 a232:=Tryz.isAgg684
 z232:=Tryz.sizeOf684
 v232:=Tryz.zeroValue684
 t233:=Tryz.underlying685
 a233:=Tryz.isAgg685
 z233:=Tryz.sizeOf685
 v233:=Tryz.zeroValue685
 g17:=by kernel_rfl
 g18:=by kernel_rfl
 g19:=by kernel_rfl
 i0:=by kernel_rfl
 i2:=by kernel_rfl
 i3:=by kernel_rfl
 i4:=by kernel_rfl
 i5:=by kernel_rfl
 i9:=by kernel_rfl
 i20:=by kernel_rfl
 i37:=by kernel_rfl
 i46:=by kernel_rfl
 i51:=by kernel_rfl
 i53:=by kernel_rfl
 i171:=by kernel_rfl
 i173:=by kernel_rfl
 i212:=by kernel_rfl
 i232:=by kernel_rfl
 i233:=by kernel_rfl
 m17:=by kernel_rfl
 m18:=by kernel_rfl
 m19:=by kernel_rfl }
open Go.RowKit Go.Sort Go.Lib in
theorem Tryz.strconv_Itoa (n:Int) (h0:-9223372036854775808≤n) (h1:n≤9223372036854775807) (w:World) (htab:Lib.TabIs Tryz.prog w "internal/strconv.uint64pow10" .u64 Lib.pow10Tab) :
  Calls Tryz.prog 44 #[.int .i64 n] w fun e w' => e = .returned (.string ⟨(Lib.itoa n).toArray⟩)∧∃ k os,w' = grow (w.drewN k) os:=Any.strconv_Itoa Tryz.laysM171 n h0 h1 w htab
def Tryz.laysC172_ren:Go.Shelf.Ren:=⟨fun | 172 => 108 | 244 => 172 | 245 => 173 | 247 => 244 | 279 => 245 | 280 => 246 | 281 => 247 | 282 => 248 | 287 => 340 | 316 => 341 | 171 => 44 | 205 => 342 | 321 => 418 | 322 => 419 | 243 => 99 | 246 => 163 | 283 => 232 | 284 => 233 | 285 => 234 | 286 => 235 | 129 => 332 | 317 => 331 | 318 => 333 | 319 => 334 | 320 => 335 | 337 => 413 | 338 => 414 | n => n,fun | 9 => 9 | 3 => 3 | 75 => 103 | 76 => 104 | 4 => 4 | 5 => 5 | 167 => 451 | 37 => 31 | 0 => 0 | 85 => 452 | 2 => 2 | 168 => 454 | 53 => 436 | 175 => 557 | 46 => 95 | 210 => 560 | 127 => 343 | 145 => 650 | 143 => 648 | 21 => 21 | 171 => 435 | 173 => 439 | 212 => 550 | 51 => 446 | 20 => 20 | 213 => 551 | 232 => 684 | 233 => 685 | 80 => 202 | n => n,fun | 15 => 3 | 16 => 4 | 17 => 2 | 18 => 6 | 19 => 7 | n => n⟩
theorem Tryz.laysC172:Go.Proofs.LaysC.n172 Tryz.prog Tryz.laysC172_ren:={
 mixed:=by kernel_rfl
 f129:=Tryz.func332.trans (congrArg some (by kernel_rfl))
 f171:=Tryz.func44.trans (congrArg some (by kernel_rfl))
 f172:=Tryz.func108.trans (congrArg some (by kernel_rfl))
 f205:=Tryz.func342.trans (congrArg some (by kernel_rfl))
 f243:=Tryz.func99.trans (congrArg some (by kernel_rfl))
 f244:=Tryz.func172.trans (congrArg some (by kernel_rfl))
 f245:=Tryz.func173.trans (congrArg some (by kernel_rfl))
 f246:=Tryz.func163.trans (congrArg some (by kernel_rfl))
 f247:=Tryz.func244.trans (congrArg some (by kernel_rfl))
 f279:=Tryz.func245.trans (congrArg some (by kernel_rfl))
 f280:=Tryz.func246.trans (congrArg some (by kernel_rfl))
 f281:=Tryz.func247.trans (congrArg some (by kernel_rfl))
 f282:=Tryz.func248.trans (congrArg some (by kernel_rfl))
 f283:=Tryz.func232.trans (congrArg some (by kernel_rfl))
 f284:=Tryz.func233.trans (congrArg some (by kernel_rfl))
 f285:=Tryz.func234.trans (congrArg some (by kernel_rfl))
 f286:=Tryz.func235.trans (congrArg some (by kernel_rfl))
 f287:=Tryz.func340.trans (congrArg some (by kernel_rfl))
 f316:=Tryz.func341.trans (congrArg some (by kernel_rfl))
 f317:=Tryz.func331.trans (congrArg some (by kernel_rfl))
 f318:=Tryz.func333.trans (congrArg some (by kernel_rfl))
 f319:=Tryz.func334.trans (congrArg some (by kernel_rfl))
 f320:=Tryz.func335.trans (congrArg some (by kernel_rfl))
 f321:=Tryz.func418.trans (congrArg some (by kernel_rfl))
 f322:=Tryz.func419.trans (congrArg some (by kernel_rfl))
 f337:=Tryz.func413.trans (congrArg some (by kernel_rfl))
 f338:=Tryz.func414.trans (congrArg some (by kernel_rfl))
 t0:=Tryz.underlying0
 a0:=Tryz.isAgg0
 z0:=Tryz.sizeOf0
 v0:=Tryz.zeroValue0
 t2:=Tryz.underlying2
 a2:=Tryz.isAgg2
 z2:=Tryz.sizeOf2
 v2:=Tryz.zeroValue2
 t3:=Tryz.underlying3
 a3:=Tryz.isAgg3
 z3:=Tryz.sizeOf3
 v3:=Tryz.zeroValue3
 t4:=Tryz.underlying4
 a4:=Tryz.isAgg4
 z4:=Tryz.sizeOf4
 v4:=Tryz.zeroValue4
 t5:=Tryz.underlying5
 a5:=Tryz.isAgg5
 z5:=Tryz.sizeOf5
 v5:=Tryz.zeroValue5
 t9:=Tryz.underlying9
 a9:=Tryz.isAgg9
 z9:=Tryz.sizeOf9
 v9:=Tryz.zeroValue9
 t20:=Tryz.underlying20
 a20:=Tryz.isAgg20
 z20:=Tryz.sizeOf20
 v20:=Tryz.zeroValue20
 t21:=Tryz.underlying21
 a21:=Tryz.isAgg21
 z21:=Tryz.sizeOf21
 v21:=Tryz.zeroValue21
 t37:=Tryz.underlying31
 a37:=Tryz.isAgg31
 z37:=Tryz.sizeOf31
 v37:=Tryz.zeroValue31
 t46:=Tryz.underlying95
 a46:=Tryz.isAgg95
 z46:=Tryz.sizeOf95
 v46:=Tryz.zeroValue95
 t51:=Tryz.underlying446
 a51:=Tryz.isAgg446
 z51:=Tryz.sizeOf446
 v51:=Tryz.zeroValue446
 t53:=Tryz.underlying436
 a53:=Tryz.isAgg436
 z53:=Tryz.sizeOf436
 v53:=Tryz.zeroValue436
 t75:=Tryz.underlying103
 a75:=Tryz.isAgg103
 z75:=Tryz.sizeOf103
 v75:=Tryz.zeroValue103
 t76:=Tryz.underlying104
 a76:=Tryz.isAgg104
 z76:=Tryz.sizeOf104
 v76:=Tryz.zeroValue104
 t85:=Tryz.underlying452
 a85:=Tryz.isAgg452
 z85:=Tryz.sizeOf452
 v85:=Tryz.zeroValue452
 t127:=Tryz.underlying343
 a127:=Tryz.isAgg343
 z127:=Tryz.sizeOf343
 v127:=Tryz.zeroValue343
 t143:=Tryz.underlying648
 a143:=Tryz.isAgg648
 z143:=Tryz.sizeOf648
 v143:=Tryz.zeroValue648
 t145:=Tryz.underlying650
 a145:=Tryz.isAgg650
 z145:=Tryz.sizeOf650
 v145:=Tryz.zeroValue650
 t167:=Tryz.underlying451
 a167:=Tryz.isAgg451
 z167:=Tryz.sizeOf451
 v167:=Tryz.zeroValue451
 t168:=Tryz.underlying454
 a168:=Tryz.isAgg454
 z168:=Tryz.sizeOf454
 v168:=Tryz.zeroValue454
 t171:=Tryz.underlying435
 a171:=Tryz.isAgg435
 z171:=Tryz.sizeOf435
 v171:=Tryz.zeroValue435
 t173:=Tryz.underlying439
 a173:=Tryz.isAgg439
 z173:=Tryz.sizeOf439
 v173:=Tryz.zeroValue439
 t175:=Tryz.underlying557
 a175:=Tryz.isAgg557
 z175:=Tryz.sizeOf557
 v175:=Tryz.zeroValue557
 t210:=Tryz.underlying560
 a210:=Tryz.isAgg560
 z210:=Tryz.sizeOf560
 v210:=Tryz.zeroValue560
 t212:=Tryz.underlying550
 a212:=Tryz.isAgg550
 z212:=Tryz.sizeOf550
 v212:=Tryz.zeroValue550
 t213:=Tryz.underlying551
 a213:=Tryz.isAgg551
 z213:=Tryz.sizeOf551
 t232:=Tryz.underlying684
 a232:=Tryz.isAgg684
 z232:=Tryz.sizeOf684
 v232:=Tryz.zeroValue684
 t233:=Tryz.underlying685
 a233:=Tryz.isAgg685
 z233:=Tryz.sizeOf685
 v233:=Tryz.zeroValue685
 g15:=by kernel_rfl
 g16:=by kernel_rfl
 g17:=by kernel_rfl
 g18:=by kernel_rfl
 g19:=by kernel_rfl
 t80:=Tryz.underlying202
 a80:=Tryz.isAgg202
 z80:=Tryz.sizeOf202
 v80:=Tryz.zeroValue202
 i0:=by kernel_rfl
 i2:=by kernel_rfl
 i3:=by kernel_rfl
 i4:=by kernel_rfl
 i5:=by kernel_rfl
 i9:=by kernel_rfl
 i20:=by kernel_rfl
 i21:=by kernel_rfl
 i37:=by kernel_rfl
 i46:=by kernel_rfl
 i51:=by kernel_rfl
 i53:=by kernel_rfl
 i75:=by kernel_rfl
 i76:=by kernel_rfl
 i80:=by kernel_rfl
 i85:=by kernel_rfl
 i127:=by kernel_rfl
 i143:=by kernel_rfl
 i145:=by kernel_rfl
 i167:=by kernel_rfl
 i168:=by kernel_rfl
 i171:=by kernel_rfl
 i173:=by kernel_rfl
 i175:=by kernel_rfl
 i210:=by kernel_rfl
 i212:=by kernel_rfl
 i232:=by kernel_rfl
 i233:=by kernel_rfl
 m15:=by kernel_rfl
 m16:=by kernel_rfl
 m17:=by kernel_rfl
 m18:=by kernel_rfl
 m19:=by kernel_rfl
 c0:=by kernel_rfl
 c2:=by kernel_rfl
 c3:=by kernel_rfl
 c4:=by kernel_rfl
 c5:=by kernel_rfl
 c9:=by kernel_rfl
 c20:=by kernel_rfl
 c21:=by kernel_rfl
 c37:=by kernel_rfl
 c46:=by kernel_rfl
 c51:=by kernel_rfl
 c53:=by kernel_rfl
 c75:=by kernel_rfl
 c76:=by kernel_rfl
 c80:=by kernel_rfl
 c85:=by kernel_rfl
 c127:=by kernel_rfl
 c143:=by kernel_rfl
 c145:=by kernel_rfl
 c167:=by kernel_rfl
 c168:=by kernel_rfl
 c171:=by kernel_rfl
 c173:=by kernel_rfl
 c175:=by kernel_rfl
 c210:=by kernel_rfl
 c212:=by kernel_rfl
 c213:=by kernel_rfl
 c232:=by kernel_rfl
 c233:=by kernel_rfl }
open Go.RowKit in
theorem Tryz.strconv_Atoi_ok (s:ByteArray) (hmax:s.size≤9223372036854775806) (v:Int) (h:Lib.atoiAll s.data.toList = .ok v) (w:World) :
  Calls Tryz.prog 108 #[.string s] w fun e w' => e = .returned (.tuple #[.int .i64 v,.nilIface])∧(w' = w∨∃ t,w' = Lib.bytesWorld w 5 t):=Any.strconv_Atoi_ok Tryz.laysC172 s hmax v h w
def Tryz.lays145_ren:Go.Shelf.Ren:=⟨fun | 145 => 109 | 220 => 174 | 219 => 249 | 217 => 343 | 225 => 344 | 224 => 169 | 267 => 345 | 266 => 420 | 314 => 421 | n => n,fun | 9 => 9 | 4 => 4 | 59 => 206 | 3 => 3 | 5 => 5 | 46 => 95 | 146 => 447 | 51 => 446 | n => n,fun | 1 => 1 | n => n⟩
theorem Tryz.lays145:Go.Proofs.Lays.n145 Tryz.prog Tryz.lays145_ren:={
 mixed:=by kernel_rfl
 f145:=Tryz.func109.trans (congrArg some (by kernel_rfl))
 f217:=Tryz.func343.trans (congrArg some (by kernel_rfl))
 f219:=Tryz.func249.trans (congrArg some (by kernel_rfl))
 f220:=Tryz.func174.trans (congrArg some (by kernel_rfl))
 f224:=Tryz.func169.trans (congrArg some (by kernel_rfl))
 f225:=Tryz.func344.trans (congrArg some (by kernel_rfl))
 f266:=Tryz.func420.trans (congrArg some (by kernel_rfl))
 f267:=Tryz.func345.trans (congrArg some (by kernel_rfl))
 f314:=Tryz.func421.trans (congrArg some (by kernel_rfl))
 t3:=Tryz.underlying3
 a3:=Tryz.isAgg3
 z3:=Tryz.sizeOf3
 v3:=Tryz.zeroValue3
 t4:=Tryz.underlying4
 a4:=Tryz.isAgg4
 z4:=Tryz.sizeOf4
 v4:=Tryz.zeroValue4
 t5:=Tryz.underlying5
 a5:=Tryz.isAgg5
 z5:=Tryz.sizeOf5
 v5:=Tryz.zeroValue5
 t9:=Tryz.underlying9
 a9:=Tryz.isAgg9
 z9:=Tryz.sizeOf9
 v9:=Tryz.zeroValue9
 t46:=Tryz.underlying95
 a46:=Tryz.isAgg95
 z46:=Tryz.sizeOf95
 v46:=Tryz.zeroValue95
 t51:=Tryz.underlying446
 a51:=Tryz.isAgg446
 z51:=Tryz.sizeOf446
 v51:=Tryz.zeroValue446
 t59:=Tryz.underlying206
 a59:=Tryz.isAgg206
 z59:=Tryz.sizeOf206
 v59:=Tryz.zeroValue206
 t146:=Tryz.underlying447
 a146:=Tryz.isAgg447
 z146:=Tryz.sizeOf447
 v146:=Tryz.zeroValue447
 g1:=by kernel_rfl }
open Go.RowKit Go.Lib in
theorem Tryz.strings_Cut (s sep:ByteArray) (m:Int) (w:World) (hs:s.size < 4294967281) (hm:w.cell? ⟨1,0,none⟩=some (.int .i64 m)) :
  Calls Tryz.prog 109 #[.string s,.string sep] w fun e w' => e = .returned (.tuple #[.string ⟨(Lib.cut s.data.toList sep.data.toList).1.toArray⟩,.string ⟨(Lib.cut s.data.toList sep.data.toList).2.1.toArray⟩,.bool (Lib.cut s.data.toList sep.data.toList).2.2])∧∃ n,w' = w.drewN n:=Any.strings_Cut Tryz.lays145 s sep m w hs hm
def Tryz.lays146_ren:Go.Shelf.Ren:=⟨fun | 146 => 106 | 221 => 171 | 268 => 241 | 138 => 242 | 143 => 243 | 195 => 337 | 197 => 338 | 218 => 339 | 219 => 249 | 260 => 417 | 217 => 343 | 225 => 344 | 224 => 169 | 267 => 345 | 266 => 420 | 314 => 421 | n => n,fun | 9 => 9 | 31 => 171 | 3 => 3 | 4 => 4 | 0 => 0 | 105 => 554 | 21 => 21 | 5 => 5 | 46 => 95 | 119 => 587 | 139 => 690 | 138 => 689 | 146 => 447 | 51 => 446 | n => n,fun | 1 => 1 | 3 => 8 | 4 => 9 | n => n⟩
theorem Tryz.lays146:Go.Proofs.Lays.n146 Tryz.prog Tryz.lays146_ren:={
 mixed:=by kernel_rfl
 f138:=Tryz.func242.trans (congrArg some (by kernel_rfl))
 f143:=Tryz.func243.trans (congrArg some (by kernel_rfl))
 f146:=Tryz.func106.trans (congrArg some (by kernel_rfl))
 f195:=Tryz.func337.trans (congrArg some (by kernel_rfl))
 f197:=Tryz.func338.trans (congrArg some (by kernel_rfl))
 f217:=Tryz.func343.trans (congrArg some (by kernel_rfl))
 f218:=Tryz.func339.trans (congrArg some (by kernel_rfl))
 f219:=Tryz.func249.trans (congrArg some (by kernel_rfl))
 f221:=Tryz.func171.trans (congrArg some (by kernel_rfl))
 f224:=Tryz.func169.trans (congrArg some (by kernel_rfl))
 f225:=Tryz.func344.trans (congrArg some (by kernel_rfl))
 f260:=Tryz.func417.trans (congrArg some (by kernel_rfl))
 f266:=Tryz.func420.trans (congrArg some (by kernel_rfl))
 f267:=Tryz.func345.trans (congrArg some (by kernel_rfl))
 f268:=Tryz.func241.trans (congrArg some (by kernel_rfl))
 f314:=Tryz.func421.trans (congrArg some (by kernel_rfl))
 t0:=Tryz.underlying0
 a0:=Tryz.isAgg0
 z0:=Tryz.sizeOf0
 v0:=Tryz.zeroValue0
 t3:=Tryz.underlying3
 a3:=Tryz.isAgg3
 z3:=Tryz.sizeOf3
 v3:=Tryz.zeroValue3
 t4:=Tryz.underlying4
 a4:=Tryz.isAgg4
 z4:=Tryz.sizeOf4
 v4:=Tryz.zeroValue4
 t5:=Tryz.underlying5
 a5:=Tryz.isAgg5
 z5:=Tryz.sizeOf5
 v5:=Tryz.zeroValue5
 t9:=Tryz.underlying9
 a9:=Tryz.isAgg9
 z9:=Tryz.sizeOf9
 v9:=Tryz.zeroValue9
 t21:=Tryz.underlying21
 a21:=Tryz.isAgg21
 z21:=Tryz.sizeOf21
 v21:=Tryz.zeroValue21
 t31:=Tryz.underlying171
 a31:=Tryz.isAgg171
 z31:=Tryz.sizeOf171
 v31:=Tryz.zeroValue171
 t46:=Tryz.underlying95
 a46:=Tryz.isAgg95
 z46:=Tryz.sizeOf95
 v46:=Tryz.zeroValue95
 t51:=Tryz.underlying446
 a51:=Tryz.isAgg446
 z51:=Tryz.sizeOf446
 v51:=Tryz.zeroValue446
 t105:=Tryz.underlying554
 a105:=Tryz.isAgg554
 z105:=Tryz.sizeOf554
 v105:=Tryz.zeroValue554
 t119:=Tryz.underlying587
 a119:=Tryz.isAgg587
 z119:=Tryz.sizeOf587
 t138:=Tryz.underlying689
 a138:=Tryz.isAgg689
 z138:=Tryz.sizeOf689
 v138:=Tryz.zeroValue689
 t139:=Tryz.underlying690
 a139:=Tryz.isAgg690
 z139:=Tryz.sizeOf690
 v139:=Tryz.zeroValue690
 t146:=Tryz.underlying447
 a146:=Tryz.isAgg447
 z146:=Tryz.sizeOf447
 v146:=Tryz.zeroValue447
 g1:=by kernel_rfl
 g3:=by kernel_rfl
 g4:=by kernel_rfl }
open Go.RowKit Go.Lib in
theorem Tryz.strings_Split (s sep:ByteArray) (m:Int) (w:World) (hs:s.size < 4294967281) (hm:w.cell? ⟨1,0,none⟩=some (.int .i64 m)) (h1:1≤sep.size) :
  Calls Tryz.prog 106 #[.string s,.string sep] w fun e w' =>
   e = .returned (.slice (some ⟨w.heap.size,0,none⟩) (Lib.countB s sep + 1) (Lib.countB s sep + 1))∧w' = w.alloc (.cells ((Lib.splitB sep 0 (Lib.countB s sep) s).map Value.string).toArray 9):=Any.strings_Split Tryz.lays146 (by kernel_rfl) s sep m w hs hm h1
def Tryz.lays147_ren:Go.Shelf.Ren:=⟨fun | 147 => 107 | 221 => 171 | 268 => 241 | 138 => 242 | 143 => 243 | 195 => 337 | 197 => 338 | 218 => 339 | 219 => 249 | 260 => 417 | 217 => 343 | 225 => 344 | 224 => 169 | 267 => 345 | 266 => 420 | 314 => 421 | n => n,fun | 9 => 9 | 3 => 3 | 31 => 171 | 4 => 4 | 0 => 0 | 105 => 554 | 21 => 21 | 5 => 5 | 46 => 95 | 119 => 587 | 139 => 690 | 138 => 689 | 146 => 447 | 51 => 446 | n => n,fun | 1 => 1 | 3 => 8 | 4 => 9 | n => n⟩
theorem Tryz.lays147:Go.Proofs.Lays.n147 Tryz.prog Tryz.lays147_ren:={
 mixed:=by kernel_rfl
 f138:=Tryz.func242.trans (congrArg some (by kernel_rfl))
 f143:=Tryz.func243.trans (congrArg some (by kernel_rfl))
 f147:=Tryz.func107.trans (congrArg some (by kernel_rfl))
 f195:=Tryz.func337.trans (congrArg some (by kernel_rfl))
 f197:=Tryz.func338.trans (congrArg some (by kernel_rfl))
 f217:=Tryz.func343.trans (congrArg some (by kernel_rfl))
 f218:=Tryz.func339.trans (congrArg some (by kernel_rfl))
 f219:=Tryz.func249.trans (congrArg some (by kernel_rfl))
 f221:=Tryz.func171.trans (congrArg some (by kernel_rfl))
 f224:=Tryz.func169.trans (congrArg some (by kernel_rfl))
 f225:=Tryz.func344.trans (congrArg some (by kernel_rfl))
 f260:=Tryz.func417.trans (congrArg some (by kernel_rfl))
 f266:=Tryz.func420.trans (congrArg some (by kernel_rfl))
 f267:=Tryz.func345.trans (congrArg some (by kernel_rfl))
 f268:=Tryz.func241.trans (congrArg some (by kernel_rfl))
 f314:=Tryz.func421.trans (congrArg some (by kernel_rfl))
 t0:=Tryz.underlying0
 a0:=Tryz.isAgg0
 z0:=Tryz.sizeOf0
 v0:=Tryz.zeroValue0
 t3:=Tryz.underlying3
 a3:=Tryz.isAgg3
 z3:=Tryz.sizeOf3
 v3:=Tryz.zeroValue3
 t4:=Tryz.underlying4
 a4:=Tryz.isAgg4
 z4:=Tryz.sizeOf4
 v4:=Tryz.zeroValue4
 t5:=Tryz.underlying5
 a5:=Tryz.isAgg5
 z5:=Tryz.sizeOf5
 v5:=Tryz.zeroValue5
 t9:=Tryz.underlying9
 a9:=Tryz.isAgg9
 z9:=Tryz.sizeOf9
 v9:=Tryz.zeroValue9
 t21:=Tryz.underlying21
 a21:=Tryz.isAgg21
 z21:=Tryz.sizeOf21
 v21:=Tryz.zeroValue21
 t31:=Tryz.underlying171
 a31:=Tryz.isAgg171
 z31:=Tryz.sizeOf171
 v31:=Tryz.zeroValue171
 t46:=Tryz.underlying95
 a46:=Tryz.isAgg95
 z46:=Tryz.sizeOf95
 v46:=Tryz.zeroValue95
 t51:=Tryz.underlying446
 a51:=Tryz.isAgg446
 z51:=Tryz.sizeOf446
 v51:=Tryz.zeroValue446
 t105:=Tryz.underlying554
 a105:=Tryz.isAgg554
 z105:=Tryz.sizeOf554
 v105:=Tryz.zeroValue554
 t119:=Tryz.underlying587
 a119:=Tryz.isAgg587
 z119:=Tryz.sizeOf587
 t138:=Tryz.underlying689
 a138:=Tryz.isAgg689
 z138:=Tryz.sizeOf689
 v138:=Tryz.zeroValue689
 t139:=Tryz.underlying690
 a139:=Tryz.isAgg690
 z139:=Tryz.sizeOf690
 v139:=Tryz.zeroValue690
 t146:=Tryz.underlying447
 a146:=Tryz.isAgg447
 z146:=Tryz.sizeOf447
 v146:=Tryz.zeroValue447
 g1:=by kernel_rfl
 g3:=by kernel_rfl
 g4:=by kernel_rfl }
open Go.RowKit Go.Lib in
theorem Tryz.strings_SplitN (s sep:ByteArray) (n:Nat) (m:Int) (w:World) (hs:s.size < 4294967281) (hm:w.cell? ⟨1,0,none⟩=some (.int .i64 m)) (h1:1≤sep.size) (hn:1≤n) (hn63:n≤9223372036854775807) :
  Calls Tryz.prog 107 #[.string s,.string sep,.int .i64 n] w fun e w' =>
   e = .returned (.slice (some ⟨w.heap.size,0,none⟩) (Lib.splitB sep 0 (min n (s.size + 1) - 1) s).length (min n (s.size + 1)))∧w' = w.alloc (.cells (Lib.cellsOf (Lib.splitB sep 0 (min n (s.size + 1) - 1) s) (min n (s.size + 1))) 9):=Any.strings_SplitN Tryz.lays147 (by kernel_rfl) s sep n m w hs hm h1 hn hn63
def Tryz.lays185_ren:Go.Shelf.Ren:=⟨fun | 185 => 105 | 187 => 167 | 115 => 110 | 253 => 168 | 224 => 169 | 254 => 170 | 255 => 239 | 291 => 240 | n => n,fun | 37 => 31 | 3 => 3 | 4 => 4 | 0 => 0 | 5 => 5 | 46 => 95 | 9 => 9 | 146 => 447 | 51 => 446 | n => n,fun | 1 => 1 | n => n⟩
theorem Tryz.lays185:Go.Proofs.Lays.n185 Tryz.prog Tryz.lays185_ren:={
 mixed:=by kernel_rfl
 f115:=Tryz.func110.trans (congrArg some (by kernel_rfl))
 f185:=Tryz.func105.trans (congrArg some (by kernel_rfl))
 f187:=Tryz.func167.trans (congrArg some (by kernel_rfl))
 f224:=Tryz.func169.trans (congrArg some (by kernel_rfl))
 f253:=Tryz.func168.trans (congrArg some (by kernel_rfl))
 f254:=Tryz.func170.trans (congrArg some (by kernel_rfl))
 f255:=Tryz.func239.trans (congrArg some (by kernel_rfl))
 f291:=Tryz.func240.trans (congrArg some (by kernel_rfl))
 t0:=Tryz.underlying0
 a0:=Tryz.isAgg0
 z0:=Tryz.sizeOf0
 v0:=Tryz.zeroValue0
 t3:=Tryz.underlying3
 a3:=Tryz.isAgg3
 z3:=Tryz.sizeOf3
 v3:=Tryz.zeroValue3
 t4:=Tryz.underlying4
 a4:=Tryz.isAgg4
 z4:=Tryz.sizeOf4
 v4:=Tryz.zeroValue4
 t5:=Tryz.underlying5
 a5:=Tryz.isAgg5
 z5:=Tryz.sizeOf5
 v5:=Tryz.zeroValue5
 t9:=Tryz.underlying9
 a9:=Tryz.isAgg9
 z9:=Tryz.sizeOf9
 v9:=Tryz.zeroValue9
 t37:=Tryz.underlying31
 a37:=Tryz.isAgg31
 z37:=Tryz.sizeOf31
 v37:=Tryz.zeroValue31
 t46:=Tryz.underlying95
 a46:=Tryz.isAgg95
 z46:=Tryz.sizeOf95
 v46:=Tryz.zeroValue95
 t51:=Tryz.underlying446
 a51:=Tryz.isAgg446
 z51:=Tryz.sizeOf446
 v51:=Tryz.zeroValue446
 t146:=Tryz.underlying447
 a146:=Tryz.isAgg447
 z146:=Tryz.sizeOf447
 v146:=Tryz.zeroValue447
 g1:=by kernel_rfl }
open Go.Proofs Go.RowKit Go.Lib in
theorem Tryz.bytes_Index_at (a1 a2:Addr) (n c1 k c2:Nat) (xs ys:List Int) (m:Int) (w:World) (hx:xs.length=n) (hy:ys.length=k) (hr1:∀ x ∈ xs,0≤x∧x < 256) (hr2:∀ y ∈ ys,0≤y∧y < 256) (hc1:∀ i,i < n→w.cell? (a1.add i)=some (.int .u8 (xs.getD i 0))) (hc2:∀ i,i < k→w.cell? (a2.add i)=some (.int .u8 (ys.getD i 0))) (hcap:n≤c1) (hs:n < 4294967281) (hk:k≤9223372036854775807) (hm:w.cell? ⟨1,0,none⟩=some (.int .i64 m)) :
  Calls Tryz.prog 105 #[.slice (some a1) n c1,.slice (some a2) k c2] w fun e w' => e = .returned (.int .i64 (Lib.index (Lib.bytesOf xs) (Lib.bytesOf ys)))∧∃ q,w' = w.drewN q:=Any.bytes_Index_at Tryz.lays185 a1 a2 n c1 k c2 xs ys m w hx hy hr1 hr2 hc1 hc2 hcap hs hk hm
open Go.Proofs Go.RowKit Go.Lib in
theorem Tryz.bytes_Index_nil (p2:Option Addr) (k c2:Nat) (w:World) (hk:k≤9223372036854775807) (h1:k=1→∃ b2 o2 cv,p2=some ⟨b2,o2,none⟩∧w.cell? ⟨b2,o2,none⟩=some (.int .u8 cv)) :
  Calls Tryz.prog 105 #[.slice none 0 0,.slice p2 k c2] w fun e w' => e = .returned (.int .i64 (if k=0 then 0 else -1))∧w' = w:=Any.bytes_Index_nil Tryz.lays185 p2 k c2 w hk h1
end Go.Proofs
namespace Go.Proofs.YtjmnjkoekabioaaGreatDoor
set_option maxHeartbeats 4000000
variable {a:Addr}{cs:Array Value}{br kp:Bool}{f:Fld}{age e lr m minor most:Int}{ls:List yB}{fs:List (yB×yB)}{H:List Seg}{c l n nm t:yB}{C C2 b base k off:Nat}{x y:Operand}{A A2:Option Addr}{P:Program}{s:Seg}{dst src:TypeId}{p:Value}{w w0:World}
set_option linter.unusedVariables false
set_option linter.unusedSimpArgs false
set_option maxRecDepth 100000
def nums (l:yB):List Int:=l.map fun u => (u.toNat:Int)
theorem zkm (l:yB):Lib.bytesOf (nums l)=l:=by
 unfold Lib.bytesOf nums
 rw [zF8]
 conv => rhs; rw [← List.map_id l]
 apply List.map_congr_left
 intro x _
 simp
theorem zo5 (l:yB):∀ x ∈ nums l,0≤x∧x < 256:=by
 intro x hx
 obtain ⟨u,_,rfl⟩:=zDC.1 hx
 have:=u.toNat_lt
 omega
theorem zv4 (l:yB) (i:Nat) (h:i < l.length):(nums l).getD i 0=((l.getD i 0).toNat:Int):=by
 simp [nums,List.getD,h]
theorem Rd.byte {A:Addr}(h:Rd tyB w0 base H (some A) C l) (S:Sep w0 base w H) (i:Nat) (hi:i < l.length):w.cell? (A.add i)=some (.int .u8 ((nums l).getD i 0)):=by
 obtain ⟨b,off,hA,hc⟩:=h.cells (by rintro rfl; simp at hi)
 cases hA
 rw [zaO,zv4 l i hi]
 refine hc w S i _ ?_
 rw [zfn]
 simp [hi,byt,List.getD]
theorem zs9 {l2:yB}(h:Rd tyB w0 base H A C l) (h2:Rd tyB w0 base H A2 C2 l2) (hl:l.length < 4294967281) (h3:2≤l2.length) (T:Tabs w0 base) :
  SCalls Tryz.prog 105 [.slice A l.length C,.slice A2 l2.length C2] w0 base H (fun v H' => v=int (Lib.index l l2)∧H' = H):=by
 obtain ⟨m,hm⟩:=T.max
 have hc2:=h2.cap
 have hl2:=h2.le
 cases A with
 | none =>
  have hC:=h.nil rfl
  have hle:=h.le
  obtain rfl:l=[]:=zDk kQ
  subst hC
  refine zjR fun w S => ?_
  have:=Tryz.bytes_Index_nil A2 l2.length C2 w kQ kQ
  rw [zDb kQ] at this
  have e:Lib.index [] l2 = -1:=by
   cases l2 with
   | nil => simp at h3
   | cons c l2 => rfl
  rw [e]
  exact this
 | some a =>
  cases A2 with
  | none => have:=h2.nil rfl; omega
  | some a2 =>
   refine zfM fun w S => ?_
   have:=Tryz.bytes_Index_at a a2 l.length C l2.length C2 (nums l) (nums l2) m w (by simp [nums]) (by simp [nums]) (zo5 _) (zo5 _) (fun i hi => h.byte S i hi) (fun i hi => h2.byte S i hi) h.le hl kQ (S.cellBelow T.lt0 hm)
   rw [zkm,zkm] at this
   exact this
theorem zyD {x cs:yB}(hx:x.length≤9223372036854775807) (hcs:cs.length < 4294967281) (ha:cs.all (fun b => decide (b.toNat < 128))=true) :
  SCalls Tryz.prog 188 [str x,str cs] w0 base H (fun v H' => v=str (Lib.trimS x cs)∧H' = H):=by
 refine zfN fun w S => ?_
 exact Any.strings_Trim_laid Tryz.lays160 kW ⟨⟨x⟩⟩ ⟨⟨cs⟩⟩ w (by rw [zba]; omega) (by rw [zba]; omega) (fun j b hb => zDf (zDa.1 ha b (zDd.2 ⟨j,hb⟩)))
open Go.RowKit (Below)
set_option linter.unusedSectionVars false
section
variable {X:Pt}{k:List Item}{E:Env}{ds:List Deferred}{H:List Seg}{ops:Array Oper}{os:List Oper}
  {d:Nat}{ty:TypeId}{pos:String}{after:Array Edge}{g:Option (Nat×Bool)}
theorem ziL {e:TypeId}{fr:Nat×Nat}(h:w.heap[b]? = some (.cells cs e fr)):w.shape? b=some (e,cs.size):=by simp [World.shape?,h]
theorem zof {t e n:TypeId}{o:Nat}{fr:Nat×Nat}(i j:Nat) (hs:X.P.underlying src=some (.pointer t)) (hd:X.P.underlying dst=some .unsafePointer) (hn:za5 X.P t n=true) (h0:n≠0) (hi:H[i]? = some s) (hj:s[j]? = some (b,.cells cs e fr)) (ho:o < cs.size) (hx:ev E x=some (.pointer (some ⟨b,o,none⟩))):Does X E H (.convert src dst x) (Is (.pointer (some ⟨b,o,none⟩)) H) :=
 zaq rfl fun dst ty pos after g ρ w hρ S => ⟨_,w,H,by
  obtain ⟨jt,hj1,hj2⟩:∃ jt,X.P.info? t=some jt∧jt.size=n:=by
   unfold za5 at hn
   cases hq:X.P.info? t with
   | none => grind
   | some jt => simp_all
  have:=Lib.run_to_unsafe (P:=X.P) w ⟨b,o,none⟩ hs hd hj1 (by grind) (ziL (S.at_ hi hj).1) ho
  simp_all [execOp],S,rfl,rfl⟩
theorem znf {t e n:TypeId}{o:Nat}{fr:Nat×Nat}(i j:Nat) (hs:X.P.underlying src=some (.pointer t)) (hd:X.P.underlying dst=some .unsafePointer) (hn:za5 X.P t n=true) (h0:n≠0) (hg:Wd X ops E g) (hd2:Nat.blt d X.n=true) (hi:H[i]? = some s) (hj:s[j]? = some (b,.cells cs e fr)) (ho:o < cs.size) (hx:ev E x=some (.pointer (some ⟨b,o,none⟩)))
  (hk:AtL X ops os k ((d,.pointer (some ⟨b,o,none⟩))::E) ds H):AtL X ops (⟨some d,.convert src dst x,ty,pos,after,g⟩::os) k E ds H:=zai (zof i j hs hd hn h0 hi hj ho hx) hg hd2 hk
theorem zjS {u e n:TypeId}{o:Nat}{fr:Nat×Nat}(i j:Nat) (hs:X.P.underlying src=some .unsafePointer) (hd:X.P.underlying dst=some (.pointer u)) (hn:za5 X.P u n=true) (hg:Wd X ops E g) (hd2:Nat.blt d X.n=true) (hi:H[i]? = some s) (hj:s[j]? = some (b,.cells cs e fr)) (hl:liesAt X.P X.P.depth e (cs.size / X.P.cellsOf e) o u 1=true) (hx:ev E x=some (.pointer (some ⟨b,o,none⟩)))
  (hk:AtL X ops os k ((d,.pointer (some ⟨b,o,none⟩))::E) ds H):AtL X ops (⟨some d,.convert src dst x,ty,pos,after,g⟩::os) k E ds H :=
 zai (zaq rfl fun dst ty pos after g ρ w hρ S => ⟨_,w,H,by
  obtain ⟨jt,hj1,hj2⟩:∃ jt,X.P.info? u=some jt∧jt.size=n:=by
   unfold za5 at hn
   cases hq:X.P.info? u with
   | none => grind
   | some jt => simp_all
  have:=Lib.run_from_unsafe (P:=X.P) w ⟨b,o,none⟩ hs hd hj1 (ziL (S.at_ hi hj).1) hl
  simp_all [execOp],S,rfl,rfl⟩) hg hd2 hk
theorem ztH {q t e n:Nat}{p:Addr}(hu:P.underlying t=some (.pointer e)) (hn:za5 P e n=true) (h0:n≠0):(Op.equalIn (q + 1) t (.pointer (some p)) (.pointer (some p))).run P w = .ok true w:=by
 simp [Op.equalIn,run_underlying hu,zb4 hn,h0,sameAddr]
theorem znb {tx tz e n:TypeId}{p:Addr}(hu:X.P.underlying tx=some (.pointer e)) (hn:za5 X.P e n=true) (h0:n≠0) (hx:ev E x=some (.pointer (some p))) (hy:ev E y=some (.pointer (some p))):Does X E H (.binOp .neq tx x y tz) (Is (.bool false) H) :=
 zoh rfl rfl hx hy (fun w => ztH hu hn h0)
theorem zlH {tx tz e n:TypeId}{p:Addr}(hu:X.P.underlying tx=some (.pointer e)) (hn:za5 X.P e n=true) (h0:n≠0) (hg:Wd X ops E g) (hd:Nat.blt d X.n=true) (hx:ev E x=some (.pointer (some p))) (hy:ev E y=some (.pointer (some p))) (hk:AtL X ops os k ((d,.bool false)::E) ds H) :
  AtL X ops (⟨some d,.binOp .neq tx x y tz,ty,pos,after,g⟩::os) k E ds H:=zai (znb hu hn h0 hx hy) hg hd hk
theorem zm8 {t:TypeId}{n:Nat}(hC:C≠0) (hx:ev E x=some (.slice (some a) n C)):Does X E H (.call ⟨.builtin .unsafeSliceData,#[x],#[t]⟩) (Is (.pointer (some a)) H) :=
 zaq rfl fun dst ty pos after g ρ w hρ S => ⟨_,w,H,by
  simp_all [Lib.run_unsafeSliceData_row,execOp,resolve,invoke,builtin],S,rfl,rfl⟩
theorem zmn {e:TypeId}(hc:P.cellsOf e=1) (count off n:Nat) (hn:off + n≤count):liesAt P P.depth e count off e n=true:=by
 have hd:P.depth=(2 * (P.types.size + Made.depth) + 1) + 1:=rfl
 rw [hd]
 simp only [liesAt,zDw]
 left
 rw [hd]
 simp [rowAt,hc,hn,sameLayout,Nat.mod_one]
theorem zkY (pt it ty e:TypeId) (hp:P.underlying pt=some (.pointer e)) (hc:P.cellsOf e=1) (g o cells:Nat) (hsh:w.shape? g=some (e,cells)) (l:yB) (h0:l≠[]) (hn:o + l.length≤cells) (h63:l.length≤9223372036854775807)
  (hcell:∀ j x,l[j]? = some x→w.cell? ((⟨g,o,none⟩:Addr).add j)=some (.int .u8 x.toNat)) :
  (Builtin.unsafeString_ #[pt,it] ty #[.pointer (some ⟨g,o,none⟩),.int .i64 l.length]).run P w = .ok (str l) (w.freeze ⟨g,o,none⟩ l.length):=by
 have hl:l.length≠0:=by grind
 have hlb:=Lib.run_loadBytes (P:=P) w l ⟨g,o,none⟩ .empty hcell
 have hlies:=zmn (P:=P) hc (cells / P.cellsOf e) o l.length (by grind)
 have h63' : ¬ (9223372036854775807:Int) < (l.length:Int):=by omega
 have hdef:Builtin.unsafeString_ #[pt,it] ty #[.pointer (some ⟨g,o,none⟩),.int .i64 l.length] =
   (do
    let n ← asInt (.int .i64 l.length)
    if n < 0 then runtimePanic (.error "unsafe.String: len out of range")
    if n > IntKind.i64.max then unsupported (.unsafePointer "String: a length above the largest int")
    if n=0 then pure (.string .empty)
    else if ← variablesAt ⟨g,o,none⟩ (← elemOf pt) n.toNat then do
     let s ← loadBytes ⟨g,o,none⟩ .empty n.toNat
     freeze ⟨g,o,none⟩ n.toNat
     pure (.string s)
    else unsupported (.unsafePointer "String: not so many bytes at ptr")):=rfl
 rw [hdef]
 have hmax:IntKind.i64.max=9223372036854775807:=rfl
 have hneg:¬ (l.length:Int) < 0:=by omega
 simp [asInt,asIntOf,hmax,h63',hneg,hl,variablesAt,hsh,elemOf,run_underlying hp,hlies,hlb,str]
theorem zm7 {pt it e:TypeId}(i:Nat) (hp:X.P.underlying pt=some (.pointer e)) (hc:X.P.cellsOf e=1) (hi:H[i]? = some s) (ho:Own tyB e (some a) C l s) (h0:l≠[]) (hx:ev E x=some (.pointer (some a))) (hy:ev E y=some (vV (l.length:Int))) :
  Does X E H (.call ⟨.builtin .unsafeString,#[x,y],#[pt,it]⟩) (fun v H' => ∃ s',v=str l∧H' = H.set i s') :=
 zaq Z fun dst ty pos after g ρ w hρ S => by
  have hle:=ho.le_cap
  have hcap:=ho.cap_le
  have hrd:Rd tyB X.w0 X.base H (some a) C l:=ho.rd hi
  obtain ⟨r,rfl,h⟩:=ho
  rcases h with ⟨h,_⟩ | ⟨gb,pre,post,fr,h,rfl,hfo,hcc⟩
  ·cases h
  ·cases h
   have hblk:=(S.at_ hi (j:=0) rfl).1
   have hlen:pre.length * tyB.sz + l.length≤(tyB.cells (pre++l++r++post)).toArray.size:=by

    rw [zEI,zaC]
    simp only [zC6]
    show pre.length * 1 + l.length≤(pre.length + l.length + r.length + post.length) * 1
    omega
   have hrun:=zkY (P:=X.P) (w:=w) pt it ty e hp hc gb (pre.length * tyB.sz) _ (ziL hblk) l h0 hlen kQ (fun j x hx => by
    obtain ⟨b',off',hA,hcell⟩:=hrd.cells h0
    simp_all [zaO,zfn,byt])
   have hl0:l.length≠0:=by grind
   refine ⟨_,w.freeze ⟨gb,pre.length * tyB.sz,none⟩ l.length,H.set i [(gb,.cells (tyB.cells (pre++l++r++post)).toArray e (if fr.1 == fr.2 then (pre.length * tyB.sz,pre.length * tyB.sz + l.length) else (min fr.1 (pre.length * tyB.sz),max fr.2 (pre.length * tyB.sz + l.length))))],?_,?_,[(gb,.cells (tyB.cells (pre++l++r++post)).toArray e (if fr.1 == fr.2 then (pre.length * tyB.sz,pre.length * tyB.sz + l.length) else (min fr.1 (pre.length * tyB.sz),max fr.2 (pre.length * tyB.sz + l.length))))],Z,Z⟩
   ·simp_all [execOp,resolve,invoke,builtin]
   ·have hlt:=(zDW.1 hblk).1
    refine S.write (j:=0) hi Z _ ?_ ?_ ?_ ?_ ?_ ?_
    ·grind [World.freeze]
    ·grind [World.freeze]
    ·grind [World.freeze]
    ·grind [World.freeze]
    ·simp only [World.freeze,hl0,zDU,Array.getElem?_modify,zEm]
     grind
    ·intro q hq
     simp only [World.freeze,hl0,zDU,Array.getElem?_modify]
     grind
end
def zxU (os:List Oper) (val:Env) (fs:List Nat):Bool:=os.zipIdx.all fun (o,i) => zaj val i || (fs.any fun e => Nat.beq i e) || (zcO o).any fun j => !zaj val j
def AllM:List Nat→(Nat→Prop)→Prop
 | [],_ => True
 | e::es,p => p e∧AllM es p
theorem AllM.get {p:Nat→Prop}:∀ {fs:List Nat},AllM fs p→∀ e ∈ fs,p e
 | _::_,h,e,he => by
  rcases zDp.1 he with rfl | he
  ·exact h.1
  ·exact AllM.get h.2 e he
def PhM (X:Pt) (os:List Oper) (k:List Item) (E0:Env) (ds:List Deferred):Nat→List Nat→Env→Env→List Seg→Prop
 | 0,_,pv,xv,H => PureL X os E0 (pv++xv) xv H pv∧(os.zipIdx.all fun (_,i) => zaj (pv++xv) i)=true∧At X k (finE os 0 (pv++xv) E0) ds H
 | n + 1,fs,pv,xv,H => PureL X os E0 (pv++xv) xv H pv∧fs≠[]∧(fs.all fun x => !zaj (pv++xv) x)=true∧zxU os (pv++xv) fs=true ∧
  AllM fs fun e => ∃ o,os[e]? = some o∧zcq X.n o.dst=true∧zdg os (pre os E0 (pv++xv) e) o.guard true∧∃ R,Does X (pre os E0 (pv++xv) e) H o.op R ∧
   ∀ v H',R v H'→∃ pv' fs',(pv'.all fun p => !zaj (pv++xv) p.1 && !Nat.beq p.1 e)=true∧PhM X os k E0 ds n fs' (pv'++pv) ((e,v)::xv) H'
section
variable {X:Pt}{k:List Item}{E0:Env}{ds:List Deferred}{ops:Array Oper}
theorem zw1 (hok:zfx ops.toList=true) (hdl:zfc ops.toList=true) (hrd:(ops.toList.all fun o => (zaR ops.toList o).all fun t => Nat.blt t X.n)=true) :
  ∀ (fuel t:Nat) (l:Array Bool) (n:Nat) (fs:List Nat) (pv xv:Env) (H:List Seg) (a:Array Value) (w:World),l.size=ops.size→(∀ i o,ops.toList[i]? = some o→Dn l i→∀ j ∈ zcO o,Dn l j) →
   (∀ i o,ops.toList[i]? = some o→Dn l i→zaj (pv++xv) i=true)→(∀ p ∈ xv,Dn l p.1) →
   (ops.size≤fuel + ((List.range ops.size).filter fun i => l.getD i false).length)→PhM X ops.toList k E0 ds n fs pv xv H→AgD X.n ops.toList E0 (pv++xv) (Dn l) a→Sep X.w0 X.base w H →
   Ev X.P (lone (X.c.fr a ds (.inRegion ops (Region.linearise.go .any ops fuel t l [])::k)) X.cs w) X.G:=by
 intro fuel
 induction fuel with
 | zero =>
  intro t l n fs pv xv H a w hs hcl hkn hxv hf hp ha S
  have hall:∀ i o,ops.toList[i]? = some o→Dn l i:=by
   intro i o ho
   have hlt:i < ops.size:=by grind
   have hle:((List.range ops.size).filter fun i => l.getD i false).length≤ops.size:=by
    grind
   have heq:((List.range ops.size).filter fun i => l.getD i false).length=(List.range ops.size).length:=by grind
   have:=zEZ.1 heq i (zD1.2 hlt)
   exact this
  cases n with
  | succ n =>
   obtain ⟨_,hne,hun,_,hall2⟩:=hp
   cases fs with
   | nil => grind
   | cons e es =>
    obtain ⟨o,ho,_⟩:=hall2.1
    grind
  | zero =>
   obtain ⟨_,hkn2,hat⟩:=hp
   simp only [Region.linearise.go,zEh]
   refine .step zbI (hat a w (ha.fin hall (fun i o ho => ?_)) S)
   exact hkn i o ho (hall i o ho)
 | succ fuel ih =>
  intro t l n fs pv xv H a w hs hcl hkn hxv hf hp ha S
  simp only [Region.linearise.go]
  split
  ·rename_i i hi
   rw [linearise_go_acc]
   simp only [zFw,zEh,zDG,zEB]
   have hmem:i ∈ Region.ready .any ops l:=zDd.2 ⟨_,hi⟩
   obtain ⟨o,ho,hnl,hdeps⟩:=ziR hmem
   have hnd:=zsm hnl
   have hoL:ops.toList[i]? = some o:=by grind
   have hlt:i < ops.size:=(zDW.1 ho).1
   have hAg:=ha.pre hok hdl hcl hoL hnd hdeps
   have hprelt:∀ t v,Env.get (pre ops.toList E0 (pv++xv) i) t=some v→t < X.n:=by
    have h1:=zDa.1 hrd o (zDd.2 ⟨i,hoL⟩)
    have key:∀ ts:List Nat,(∀ t ∈ ts,t < X.n)→∀ t v,Env.get (preL ops.toList E0 (pv++xv) i ts) t=some v→t < X.n:=by
     intro ts
     induction ts with
     | nil => grind [preL,Env.get]
     | cons t0 ts ih =>
      intro hts t v hv
      simp only [preL] at hv
      split at hv
      ·simp only [Env.get] at hv
       by_cases e:t0=t
       ·subst e; exact hts t0 kY
       grind [zbh]
      grind
    intro t v hv
    unfold pre at hv
    rw [hoL] at hv
    grind [zdr,List.all_eq_true]
   -- what is the same in each case behind the operation
   have after:∀ (n' : Nat) (fs' : List Nat) (pv' xv' : Env) (H' : List Seg) (v:Value) (w' : World),PhM X ops.toList k E0 ds n' fs' pv' xv' H'→Sep X.w0 X.base w' H'→zcq X.n o.dst=true→Env.get (pv'++xv') i=some v →
     (∀ j,zaj (pv++xv) j=true→Env.get (pv'++xv') j=Env.get (pv++xv) j)→(∀ p ∈ xv',Dn l p.1∨p.1=i) →
     Ev X.P (lone (X.c.fr (putA a o.dst v) ds (.inRegion ops (Region.linearise.go .any ops fuel (t / (Region.ready .any ops l).length) (l.setIfInBounds i true) [])::k)) X.cs w') X.G:=by
    intro n' fs' pv' xv' H' v w' hp' S' hd hv hsame hxv'
    have hds:=ztQ (l:=l) (i:=i) kQ
    have hAgD:AgD X.n ops.toList E0 (pv'++xv') (Dn l) a:=by
     refine ⟨ha.size,fun j p t u hDj hp hpd hlast hu => ?_,ha.old⟩
     refine ha.done j p t u hDj hp hpd hlast ?_
     grind
    have hst:=hAgD.step hok hdl hcl hoL hnd hd hv
    refine ih _ _ n' fs' pv' xv' H' _ w' (by grind) ?_ ?_ ?_ ?_ hp' ?_ S'
    ·grind
    ·intro j p hj hDj
     rw [hds] at hDj
     rcases hDj with hDj | rfl
     ·grind [zaj]
     grind [zaj]
    ·grind
    ·have hcount:((List.range ops.size).filter fun j => (l.setIfInBounds i true).getD j false).length=((List.range ops.size).filter fun j => l.getD j false).length + 1:=by
      have hp:∀ j,(l.setIfInBounds i true).getD j false=(l.getD j false || Nat.beq j i):=by
       intro j
       have:(l.setIfInBounds i true).getD j false=true↔l.getD j false=true∨j=i:=hds j
       rw [zEt,zDw,this]
       constructor
       ·rintro (h | h)
        ·grind
        ·exact .inr (by subst h; simp)
       grind [Nat.eq_of_beq_eq_true]
      have hif:l.getD i false=false:=by
       grind
      have hset:(List.range ops.size).filter (fun j => (l.setIfInBounds i true).getD j false)=(List.range ops.size).filter fun j => ((fun j => l.getD j false) j || Nat.beq j i):=zER fun j _ => hp j
      rw [hset]
      exact zhy _ i hif _ zF7 (zD1.2 hlt)
     omega
    ·refine ⟨hst.size,?_,?_⟩
     ·intro j p t u hDj hp hpd hlast hu
      exact hst.done j p t u ((hds j).1 hDj) hp hpd (fun m hm hDm q hq => hlast m hm ((hds m).2 hDm) q hq) hu
     ·intro t u hno hu
      exact hst.old t u (fun m hDm p hp => hno m ((hds m).2 hDm) p hp) hu
   -- an operation whose value is known in this phase
   have pureCase:∀ v,Env.get pv i=some v→PureL X ops.toList E0 (pv++xv) xv H pv →
     Ev X.P (lone (X.c.fr a ds (.inRegion ops (i::Region.linearise.go .any ops fuel (t / (Region.ready .any ops l).length) (l.setIfInBounds i true) [])::k)) X.cs w) X.G:=by
    intro v hv hpl
    have hone:zjr X ops.toList E0 (pv++xv) H i v:=by
     rcases hpl.get hv with h | h
     ·obtain ⟨p,hp1,hp2⟩:=zDP.1 h
      have hDp:=hxv p hp1
      cases hop:ops.toList[p.1]? with
      | none =>
       exfalso
       have hlen:(zco ops.toList []).length=ops.toList.length:=by grind [zi4]
       grind [zco,List.getElem?_eq_none_iff,List.getD,List.getElem?_eq_none,befB]
      | some q => exact absurd (zgb hcl hdl p.1 q hop (hcl p.1 q hop hDp) i hp2) hnd
     omega
    obtain ⟨o',ho',hd,hor⟩:=hone
    rw [hoL] at ho'; cases ho'
    have hget:Env.get (pv++xv) i=some v:=by rw [za1,hv]
    have hcont:=fun (w' : World) (S' : Sep X.w0 X.base w' H) => after n fs pv xv H v w' hp S' hd hget (fun j _ => rfl) (fun p hp => .inl (hxv p hp))
    rcases hor with ⟨hw,hdo⟩ | ⟨hw,rfl⟩
    ·obtain ⟨v',H',w',⟨rfl,rfl⟩,S',hst⟩:=hdo o.dst o.type o.pos o.after o.guard ops i _ k ds a w ho (zdz hAg hprelt hw) (fun x u hx => hAg.ev hx) S
     exact .steps hst (hcont w' S')
    ·exact .step (zdF ho (zgj hAg hprelt hw)) (hcont w S)
   cases n with
   | zero =>
    obtain ⟨hpl,hall,hat⟩:=hp
    have hk1:=zDa.1 hall (o,i) (zDd.2 ⟨i,by grind⟩)
    have hk1:zaj (pv++xv) i=true:=hk1
    cases hv:Env.get pv i with
    | some v => exact pureCase v hv hpl
    | none =>
     unfold zaj at hk1
     rw [za1,hv] at hk1
     cases hx:Env.get xv i with
     | none => grind
     | some u => exact absurd (hxv _ (zhu hx)) hnd
   | succ n =>
    have hp0:=hp
    obtain ⟨hpl,hne,hek,hwt,hAll⟩:=hp
    have hunk:∀ x ∈ fs,Env.get (pv++xv) x=none:=by
     intro x hx
     have:=zDa.1 hek x hx
     unfold zaj at this
     cases hg:Env.get (pv++xv) x with
     | none => rfl
     | some u => grind
    by_cases hie:i ∈ fs
    ·obtain ⟨oe,hoe,hd,hw,R,hdo,hR⟩:=hAll.get i hie
     rw [hoL] at hoe; cases hoe
     obtain ⟨v,H',w',hRv,S',hst⟩:=hdo o.dst o.type o.pos o.after o.guard ops i (Region.linearise.go .any ops fuel (t / (Region.ready .any ops l).length) (l.setIfInBounds i true) []) k ds a w ho (zdz hAg hprelt hw) (fun x u hx => hAg.ev hx) S
     obtain ⟨pv',fs',hpv',hp'⟩:=hR v H' hRv
     refine .steps hst ?_
     have hfresh:∀ j u,Env.get pv' j=some u→Env.get (pv++xv) j=none∧j≠i:=by
      intro j u hj
      have hm:∃ p ∈ pv',p.1=j:=by
       clear hp' hpv'
       induction pv' with
       | nil => grind [Env.get]
       | cons p pv' ihp =>
        simp only [Env.get] at hj
        by_cases e:p.1=j
        ·grind
        ·rw [zbh e] at hj
         obtain ⟨q,hq,hq2⟩:=ihp hj
         grind
      obtain ⟨p,hp1,rfl⟩:=hm
      have:=zDa.1 hpv' p hp1
      rw [zC9,zDQ,zDQ] at this
      refine ⟨?_,?_⟩
      ·have h1:=this.1
       unfold zaj at h1
       cases hg:Env.get (pv++xv) p.1 with
       | none => rfl
       | some u => grind
      ·intro e
       have h2:=this.2
       rw [e] at h2
       simp at h2
     have hi0:=hunk i hie
     have hpi:Env.get pv i=none:=by
      rw [za1] at hi0
      grind
     have hget:Env.get ((pv'++pv)++((i,v)::xv)) i=some v:=by
      rw [za1,za1]
      cases hg:Env.get pv' i with
      | some u => grind
      | none => simp [hpi,Env.get]
     refine after n fs' _ _ H' v w' hp' S' hd hget ?_ ?_
     ·intro j hj
      have hj0:Env.get (pv++xv) j≠none:=by
       grind [zaj]
      have hji:j≠i:=by grind
      rw [za1,za1,za1]
      cases hg:Env.get pv' j with
      | some u => grind
      | none =>
       cases hg2:Env.get pv j with
       | some u => rfl
       | none => simp only [Env.get,zbh (zFb hji)]
     grind
    ·have hk1:=zDa.1 hwt (o,i) (zDd.2 ⟨i,by grind⟩)
     have hk1:(zaj (pv++xv) i || (fs.any fun e => Nat.beq i e) || (zcO o).any fun j => !zaj (pv++xv) j)=true:=hk1
     have hany:((zcO o).any fun j => !zaj (pv++xv) j)=false:=by
      cases hb:((zcO o).any fun j => !zaj (pv++xv) j) with
      | false => rfl
      | true =>
       obtain ⟨j,hj,hjk⟩:=zDP.1 hb
       have hDj:=hdeps j hj
       have hjlt:j < i:=by
        have h1:=zDa.1 hdl (o,i) (zDd.2 ⟨i,by grind⟩)
        exact zdr (zDa.1 h1 j hj)
       grind
     have hfs:(fs.any fun e => Nat.beq i e)=false:=by
      cases hb:(fs.any fun e => Nat.beq i e) with
      | false => rfl
      | true =>
       obtain ⟨e,he,he2⟩:=zDP.1 hb
       grind [absurd,Nat.eq_of_beq_eq_true]
     rw [hfs,hany,zEz,zEz] at hk1
     cases hv:Env.get pv i with
     | some v => exact pureCase v hv hpl
     | none =>
      unfold zaj at hk1
      rw [za1,hv] at hk1
      cases hx:Env.get xv i with
      | none => grind
      | some u => exact absurd (hxv _ (zhu hx)) hnd
  ·rename_i hnone
   have hempty:Region.ready .any ops l=[]:=by
    cases hr:Region.ready .any ops l with
    | nil => rfl
    | cons b r =>
     grind [Region.ready,Nat.mod_lt,absurd,List.getElem?_eq_getElem]
   have hall:=zlA hdl hs hempty
   cases n with
   | succ n =>
    obtain ⟨_,hne,hun,_,hall2⟩:=hp
    cases fs with
    | nil => grind
    | cons e es =>
     obtain ⟨o,ho,_⟩:=hall2.1
     grind
   | zero =>
    obtain ⟨_,hkn2,hat⟩:=hp
    simp only [zEh]
    refine .step zbI (hat a w (ha.fin hall (fun i o ho => ?_)) S)
    exact hkn i o ho (hall i o ho)
theorem zxO {id:Nat}{n:Nat}{fs:List Nat}{pv:Env}(hm:X.P.follows .mixedOrders=true) (hok:zfx ops.toList=true) (hdl:zfc ops.toList=true) (hrd:(ops.toList.all fun o => (zaR ops.toList o).all fun t => Nat.blt t X.n)=true)
  (hp:PhM X ops.toList k E0 ds n fs pv [] H):At X (.code (.region id ops true)::k) E0 ds H:=by
 intro a w ha S
 refine .step zek ?_
 have hno:∀ i,¬ Dn (Array.replicate ops.size false) i:=by
  intro i hi
  unfold Dn at hi
  rw [zDu,zFq] at hi
  split at hi <;> simp at hi
 unfold Region.schedule Region.linearise
 rw [hm,Bool.true_or,zDi rfl]
 refine zw1 hok hdl hrd ops.size _ _ n fs pv [] H a _ kY ?_ ?_ ?_ (zFC _ _) hp ⟨ha.size,?_,?_⟩ (S.drawn _)
 ·grind
 ·grind
 ·grind
 ·grind
 ·exact fun t v _ h => ha.get t v h
end
section
variable {X:Pt}{k:List Item}{E:Env}{ds:List Deferred}{H:List Seg}{id:Nat}{rops:Array Oper}
theorem zxN (Q:Env→List Seg→Prop) (h:(∀ E2 H2,Q E2 H2→At X k E2 ds H2)→At X (.code (.region id rops true)::k) E ds H) (K:∀ E2 H2,Q E2 H2→At X k E2 ds H2):At X (.code (.region id rops true)::k) E ds H:=h K
end
def rsV (l:yB):Value:=.agg #[str l]
def REASONS:List (Int×yB):=[(200,[79,75]),(400,[66,97,100,32,82,101,113,117,101,115,116]),(404,[78,111,116,32,70,111,117,110,100]),(405,[77,101,116,104,111,100,32,78,111,116,32,65,108,108,111,119,101,100]),(411,[76,101,110,103,116,104,32,82,101,113,117,105,114,101,100]),(413,[67,111,110,116,101,110,116,32,84,111,111,32,76,97,114,103,101]),(414,[85,82,73,32,84,111,111,32,76,111,110,103]),(415,[85,110,115,117,112,112,111,114,116,101,100,32,77,101,100,105,97,32,84,121,112,101]),(417,[69,120,112,101,99,116,97,116,105,111,110,32,70,97,105,108,101,100]),(429,[84,111,111,32,77,97,110,121,32,82,101,113,117,101,115,116,115]),(431,[82,101,113,117,101,115,116,32,72,101,97,100,101,114,32,70,105,101,108,100,115,32,84,111,111,32,76,97,114,103,101]),(501,[78,111,116,32,73,109,112,108,101,109,101,110,116,101,100]),(503,[83,101,114,118,105,99,101,32,85,110,97,118,97,105,108,97,98,108,101]),(505,[72,84,84,80,32,86,101,114,115,105,111,110,32,78,111,116,32,83,117,112,112,111,114,116,101,100])]
def zbn (s:Int):yB:=(atK s REASONS).getD []
theorem zBz (o:Option yB):((o.map rsV).getD (.agg #[str []])) = .agg #[str (o.getD [])]:=by cases o <;> rfl
theorem ziQ (s:Int):(zbn s).length≤40:=by
 have key:∀ l:List (Int×yB),(∀ p ∈ l,p.2.length≤40)→((atK s l).getD []).length≤40:=by
  intro l
  induction l with
  | nil => grind [atK]
  | cons p r ih =>
   grind [atK]
 exact key REASONS kE
theorem zkf {s:Int}(h:zbn s≠[]):200≤s∧s≤505:=by
 have key:∀ l:List (Int×yB),(∀ p ∈ l,200≤p.1∧p.1≤505)→(atK s l).getD []≠[]→200≤s∧s≤505:=by
  intro l
  induction l with
  | nil => grind [atK]
  | cons p r ih =>
   grind [atK]
 exact key REASONS kE h
def ownF (f:Fld):Bool:=decide (za4 f.1=za4 CLEN∨za4 f.1=za4 CONN∨za4 f.1=za4 TENC)
theorem zmg (f:Fld) (nm:yB):(zd8 [f] nm).2=if za4 f.1=za4 nm then 1 else 0:=by
 by_cases h:za4 f.1=za4 nm <;> simp [zd8,allF,h]
theorem one_pos :(0:Int) < ((zd8 [f] nm).2:Int)↔za4 f.1=za4 nm:=by
 grind [zmg]
def fldR (f:Fld):Bool:=zbt f && !ownF f
def sumF (fs:List Fld):Nat:=(fs.map fun f => f.1.length + f.2.length).sum
theorem zl1 (fs:List Fld) (k:Nat) (h:k < fs.length):sumF (fs.take (k + 1))=sumF (fs.take k) + ((fs.getD k ([],[])).1.length + (fs.getD k ([],[])).2.length):=by
 rw [zDA h,show fs.getD k ([],[])=fs[k] by grind]
 simp only [sumF,zDL,List.sum_append,zDo,zEd,zFk,zGc,zDZ]
theorem zl0 (fs:List Fld) (k:Nat):sumF (fs.take k)≤sumF fs:=by
 grind [List.take_append_drop,sumF]
structure RespV where
  st:Int
  fs:List Fld
  body:yB
  keep:Bool
deriving DecidableEq
variable {r:RespV}
def RespV.zero:RespV:=⟨0,[],[],false⟩
def okR (r:RespV):Bool:=decide (zbn r.st≠[]) && decide (r.fs.length≤16) && decide (r.body.length≤65535) && r.fs.all fldR && decide (sumF r.fs≤4096)
def zdi (r:RespV):Int:=if okR r then 0 else 2
theorem zoQ (h:zdi r=0):okR r=true:=by
 grind [zdi]
def H11:yB:=[72,84,84,80,47,49,46,49,32]
def CLN:yB:=[67,111,110,116,101,110,116,45,76,101,110,103,116,104,58,32]
def CCL:yB:=[67,111,110,110,101,99,116,105,111,110,58,32,99,108,111,115,101]
def zcf (fs:List Fld):yB:=fs.flatMap fun f => f.1++([58,32]++(f.2++[13,10]))
def stB (st:Int):yB:=H11++(decF st.toNat++([32]++(zbn st++[13,10])))
def zdo (n:Nat):yB:=CLN++(decF n++[13,10])
def endB (keep:Bool):yB:=(if keep then [] else CCL++[13,10])++[13,10]
def zqG (r:RespV):yB:=stB r.st++(zcf r.fs++(zdo r.body.length++endB r.keep))
def zei (r:RespV):yB:=zqG r++r.body
def zds (r:RespV):yB:=if okR r then zei r else []
theorem zhR (fs:List Fld) (k:Nat) (h:k < fs.length):zcf (fs.take (k + 1))=zcf (fs.take k)++((fs.getD k ([],[])).1++([58,32]++((fs.getD k ([],[])).2++[13,10]))):=by
 grind [List.take_succ_eq_append_getElem,List.getD,zcf]
theorem ze3 (fs:List Fld):(zcf fs).length=sumF fs + 4 * fs.length:=by
 induction fs with
 | nil => rfl
 | cons f fs ih =>
  grind [zcf,List.length_append,List.length_cons,List.length_nil,sumF]
theorem zpm (hc:c.length≤2000):zfk ⟨[65],[47],0,[(n,([120]++c)++[120])]⟩=if (zcD n 64 && c.all zeu)=true then 0 else 2:=by
 have hv:zdZ (([120]++c)++[120])=c.all zeu:=by
  have h1:zjG (([120]++c)++[120])=([120]++c)++[120]:=by
   rw [ziB]
   right
   refine ⟨by simp; decide,?_⟩
   have:((([120]++c)++[120]):yB).getD ((([120]++c)++[120]:yB).length - 1) 0=120:=by simp
   rw [this]; decide
  grind [zeu,zdZ]
 have hh:zmt [(n,([120]++c)++[120])] 0=true:=by
  grind [zmt,zmg]
 have hok:okF ⟨[65],[47],0,[(n,([120]++c)++[120])]⟩=(zcD n 64 && c.all zeu):=by
  simp only [okF,hh,zFj,List.all_nil,zbt,hv,zC7,zC8,zFV]
  have h1:zcD [65] 16=true:=by decide +kernel
  grind [zfs]
 rw [zfk,zeN,hok]
 by_cases hw:(zcD n 64 && c.all zeu)=true
 ·have hn:n.length≤64:=by
   simp only [zC9,zcD,zD7] at hw; omega
  rw [hw,zDi rfl,zDI (by
   grind [zlq,zsQ,zjh,zji,zxB,List.length_append,List.length_cons,List.length_nil])]
  rfl
 grind
theorem zl8 (st:Int) :
  SCalls Tryz.prog 103 [vV st] w0 base (H) (fun v H' => v=str (zbn st)∧H' = H):=by
 refine zaa (n:=22) Tryz.func103 Z Z Z fun cs => ?_
 refine a6 ?_
 refine zjA kyI rsV zg0 Z ?_
 intro b1
 refine zak (cs:=[str [79,75]]) zbE zg0 Z Z Z ?_
 refine zaQ (Q:=kyI) (tv:=rsV) (a:=200) (v:=[79,75]) (H':=[(b1,mapO kyI rsV (REASONS.take 1))]::H) 0 0 Z Z Z zg0 Z Z kI Z Z Z Z<|zak (cs:=[str [66,97,100,32,82,101,113,117,101,115,116]]) zbE zg0 Z Z Z ?_
 refine zaQ (Q:=kyI) (tv:=rsV) (a:=400) (v:=[66,97,100,32,82,101,113,117,101,115,116]) (H':=[(b1,mapO kyI rsV (REASONS.take 2))]::H) 0 0 Z Z Z zg0 Z Z kI Z Z Z Z<|zak (cs:=[str [78,111,116,32,70,111,117,110,100]]) zbE zg0 Z Z Z ?_
 refine zaQ (Q:=kyI) (tv:=rsV) (a:=404) (v:=[78,111,116,32,70,111,117,110,100]) (H':=[(b1,mapO kyI rsV (REASONS.take 3))]::H) 0 0 Z Z Z zg0 Z Z kI Z Z Z Z<|zak (cs:=[str [77,101,116,104,111,100,32,78,111,116,32,65,108,108,111,119,101,100]]) zbE zg0 Z Z Z ?_
 refine zaQ (Q:=kyI) (tv:=rsV) (a:=405) (v:=[77,101,116,104,111,100,32,78,111,116,32,65,108,108,111,119,101,100]) (H':=[(b1,mapO kyI rsV (REASONS.take 4))]::H) 0 0 Z Z Z zg0 Z Z kI Z Z Z Z<|zak (cs:=[str [76,101,110,103,116,104,32,82,101,113,117,105,114,101,100]]) zbE zg0 Z Z Z ?_
 refine zaQ (Q:=kyI) (tv:=rsV) (a:=411) (v:=[76,101,110,103,116,104,32,82,101,113,117,105,114,101,100]) (H':=[(b1,mapO kyI rsV (REASONS.take 5))]::H) 0 0 Z Z Z zg0 Z Z kI Z Z Z Z<|zak (cs:=[str [67,111,110,116,101,110,116,32,84,111,111,32,76,97,114,103,101]]) zbE zg0 Z Z Z ?_
 refine zaQ (Q:=kyI) (tv:=rsV) (a:=413) (v:=[67,111,110,116,101,110,116,32,84,111,111,32,76,97,114,103,101]) (H':=[(b1,mapO kyI rsV (REASONS.take 6))]::H) 0 0 Z Z Z zg0 Z Z kI Z Z Z Z<|zak (cs:=[str [85,82,73,32,84,111,111,32,76,111,110,103]]) zbE zg0 Z Z Z ?_
 refine zaQ (Q:=kyI) (tv:=rsV) (a:=414) (v:=[85,82,73,32,84,111,111,32,76,111,110,103]) (H':=[(b1,mapO kyI rsV (REASONS.take 7))]::H) 0 0 Z Z Z zg0 Z Z kI Z Z Z Z<|zak (cs:=[str [85,110,115,117,112,112,111,114,116,101,100,32,77,101,100,105,97,32,84,121,112,101]]) zbE zg0 Z Z Z ?_
 refine zaQ (Q:=kyI) (tv:=rsV) (a:=415) (v:=[85,110,115,117,112,112,111,114,116,101,100,32,77,101,100,105,97,32,84,121,112,101]) (H':=[(b1,mapO kyI rsV (REASONS.take 8))]::H) 0 0 Z Z Z zg0 Z Z kI Z Z Z Z<|zak (cs:=[str [69,120,112,101,99,116,97,116,105,111,110,32,70,97,105,108,101,100]]) zbE zg0 Z Z Z ?_
 refine zaQ (Q:=kyI) (tv:=rsV) (a:=417) (v:=[69,120,112,101,99,116,97,116,105,111,110,32,70,97,105,108,101,100]) (H':=[(b1,mapO kyI rsV (REASONS.take 9))]::H) 0 0 Z Z Z zg0 Z Z kI Z Z Z Z<|zak (cs:=[str [84,111,111,32,77,97,110,121,32,82,101,113,117,101,115,116,115]]) zbE zg0 Z Z Z ?_
 refine zaQ (Q:=kyI) (tv:=rsV) (a:=429) (v:=[84,111,111,32,77,97,110,121,32,82,101,113,117,101,115,116,115]) (H':=[(b1,mapO kyI rsV (REASONS.take 10))]::H) 0 0 Z Z Z zg0 Z Z kI Z Z Z Z<|zak (cs:=[str [82,101,113,117,101,115,116,32,72,101,97,100,101,114,32,70,105,101,108,100,115,32,84,111,111,32,76,97,114,103,101]]) zbE zg0 Z Z Z ?_
 refine zaQ (Q:=kyI) (tv:=rsV) (a:=431) (v:=[82,101,113,117,101,115,116,32,72,101,97,100,101,114,32,70,105,101,108,100,115,32,84,111,111,32,76,97,114,103,101]) (H':=[(b1,mapO kyI rsV (REASONS.take 11))]::H) 0 0 Z Z Z zg0 Z Z kI Z Z Z Z<|zak (cs:=[str [78,111,116,32,73,109,112,108,101,109,101,110,116,101,100]]) zbE zg0 Z Z Z ?_
 refine zaQ (Q:=kyI) (tv:=rsV) (a:=501) (v:=[78,111,116,32,73,109,112,108,101,109,101,110,116,101,100]) (H':=[(b1,mapO kyI rsV (REASONS.take 12))]::H) 0 0 Z Z Z zg0 Z Z kI Z Z Z Z<|zak (cs:=[str [83,101,114,118,105,99,101,32,85,110,97,118,97,105,108,97,98,108,101]]) zbE zg0 Z Z Z ?_
 refine zaQ (Q:=kyI) (tv:=rsV) (a:=503) (v:=[83,101,114,118,105,99,101,32,85,110,97,118,97,105,108,97,98,108,101]) (H':=[(b1,mapO kyI rsV (REASONS.take 13))]::H) 0 0 Z Z Z zg0 Z Z kI Z Z Z Z<|zak (cs:=[str [72,84,84,80,32,86,101,114,115,105,111,110,32,78,111,116,32,83,117,112,112,111,114,116,101,100]]) zbE zg0 Z Z Z ?_
 refine zaQ (Q:=kyI) (tv:=rsV) (a:=505) (v:=[72,84,84,80,32,86,101,114,115,105,111,110,32,78,111,116,32,83,117,112,112,111,114,116,101,100]) (H':=[(b1,mapO kyI rsV (REASONS.take 14))]::H) 0 0 Z Z Z zg0 Z Z kI Z Z Z Z<|a2 ?_
 refine zkL (Q:=kyI) (tv:=rsV) (a:=st) (v:=.agg #[str ((atK st (REASONS.take 14)).getD [])]) 0 0 Z Z Z zp6 zg0 Z Z Z Z Z (zBz _)<|zuX (v:=str ((atK st (REASONS.take 14)).getD [])) zg0 Z Z Z<|a2 ?_
 refine zpk [] 1 ?_
 exact zad Tryz.func103 Z Z (⟨Z,Z⟩)
theorem znB (h:za4 f.1=za4 CLEN∨za4 f.1=za4 CONN∨za4 f.1=za4 TENC):ownF f=true:=zDI h
theorem zzd (h1:¬ za4 f.1=za4 CLEN) (h2:¬ za4 f.1=za4 CONN) (h3:¬ za4 f.1=za4 TENC):ownF f=false:=zDl (by rintro (h | h | h); exact h1 h; exact h2 h; exact h3 h)
theorem zBJ {v:yB}(hn:n.length≤140737488355000) (hv:v.length≤140737488355000) :
  SCalls Tryz.prog 164 [.agg #[str n,str v]] w0 base (H) (fun u H' => u = .bool (ownF (n,v))∧H' = H):=by
 refine zaa (n:=24) Tryz.func164 Z Z Z fun cs => ?_
 refine a2 ?_
 refine zaU (cs:=#[str n,str v]) Z zg0 Z Z ?_
 intro b1
 refine a5 ?_
 refine zae (cs:=[str [99,111,110,116,101,110,116,45,108,101,110,103,116,104],str [99,111,110,110,101,99,116,105,111,110],str [116,114,97,110,115,102,101,114,45,101,110,99,111,100,105,110,103]]) Z zeP zdh Z Z zg0 Z Z Z ?_
 intro b2
 refine zau tyS (l:=([[99,111,110,116,101,110,116,45,108,101,110,103,116,104],[99,111,110,110,101,99,116,105,111,110],[116,114,97,110,115,102,101,114,45,101,110,99,111,100,105,110,103]]:List yB)) Z Z kT ?_
 intro s3 o4
 refine a4 ?_
 refine zcj<|a5 ?_
 refine zao true Z kE<|a5 ?_
 refine zah 0 (o4.rd (i:=0) Z) Z zdh zg0 Z Z Z Z kE ?_
 refine zax (v:=str (([[99,111,110,116,101,110,116,45,108,101,110,103,116,104],[99,111,110,110,101,99,116,105,111,110],[116,114,97,110,115,102,101,114,45,101,110,99,111,100,105,110,103]]).getD 0 [])) zbz zg0 Z Z (zaL (o4.rd (i:=0) Z) (getD_some [] kE) Z)<|a5 ?_
 refine zae (cs:=[str n,str v]) Z zbB zcB Z Z zg0 Z Z Z ?_
 intro b5
 refine zau zbm (l:=([(n,v)]:List (yB×yB))) Z Z kT ?_
 intro s6 o7
 refine zak (cs:=[str [],str [],vV 0,.slice (some ⟨b5,0,none⟩) [(n,v)].length 1]) zex zg0 Z Z Z<|a1 ?_
 refine zca Z (zgQ (fs:=[(n,v)]) (o7.rd (i:=0) Z) (nm:=(([[99,111,110,116,101,110,116,45,108,101,110,103,116,104],[99,111,110,110,101,99,116,105,111,110],[116,114,97,110,115,102,101,114,45,101,110,99,111,100,105,110,103]]).getD 0 [])) kE kY (fun f hf => by simp only [zDx] at hf; subst hf; exact ⟨hn,hv⟩)) ?_
 rintro _ _ ⟨rfl,rfl⟩
 refine a11 ?_
 refine zac Z ?_ ?_
 ·intro hc2
  try dsimp only at hc2
  refine a4 ?_
  refine zpk [] 3 ?_
  exact zad Tryz.func164 Z Z (⟨zDh Value.bool (znB (.inl (one_pos.1 hc2))).symm,Z⟩)
 ·intro hc2
  try dsimp only at hc2
  have hno1:=mt one_pos.2 hc2
  refine a3 ?_
  refine AtL.add (z:=1) zg0 Z Z Z kE<|a8 ?_
  refine zao true Z kE<|a5 ?_
  refine zah 1 (o4.rd (i:=1) Z) Z zdh zg0 Z Z Z Z kE ?_
  refine zax (v:=str (([[99,111,110,116,101,110,116,45,108,101,110,103,116,104],[99,111,110,110,101,99,116,105,111,110],[116,114,97,110,115,102,101,114,45,101,110,99,111,100,105,110,103]]).getD 1 [])) zbz zg0 Z Z (zaL (o4.rd (i:=1) Z) (getD_some [] kE) Z)<|a5 ?_
  refine zae (cs:=[str n,str v]) Z zbB zcB Z Z zg0 Z Z Z ?_
  intro b8
  refine zau zbm (l:=([(n,v)]:List (yB×yB))) Z Z kT ?_
  intro s9 o10
  refine zak (cs:=[str [],str [],vV 0,.slice (some ⟨b8,0,none⟩) [(n,v)].length 1]) zex zg0 Z Z Z<|a1 ?_
  refine zca Z (zgQ (fs:=[(n,v)]) (o10.rd (i:=0) Z) (nm:=(([[99,111,110,116,101,110,116,45,108,101,110,103,116,104],[99,111,110,110,101,99,116,105,111,110],[116,114,97,110,115,102,101,114,45,101,110,99,111,100,105,110,103]]).getD 1 [])) kE kY (fun f hf => by simp only [zDx] at hf; subst hf; exact ⟨hn,hv⟩)) ?_
  rintro _ _ ⟨rfl,rfl⟩
  refine a11 ?_
  refine zac Z ?_ ?_
  ·intro hc2
   try dsimp only at hc2
   refine a4 ?_
   refine zpk [] 4 ?_
   exact zad Tryz.func164 Z Z (⟨zDh Value.bool (znB (.inr (.inl (one_pos.1 hc2)))).symm,Z⟩)
  ·intro hc2
   try dsimp only at hc2
   have hno2:=mt one_pos.2 hc2
   refine a3 ?_
   refine AtL.add (z:=2) zg0 Z Z Z kE<|a8 ?_
   refine zao true Z kE<|a5 ?_
   refine zah 2 (o4.rd (i:=2) Z) Z zdh zg0 Z Z Z Z kE ?_
   refine zax (v:=str (([[99,111,110,116,101,110,116,45,108,101,110,103,116,104],[99,111,110,110,101,99,116,105,111,110],[116,114,97,110,115,102,101,114,45,101,110,99,111,100,105,110,103]]).getD 2 [])) zbz zg0 Z Z (zaL (o4.rd (i:=2) Z) (getD_some [] kE) Z)<|a5 ?_
   refine zae (cs:=[str n,str v]) Z zbB zcB Z Z zg0 Z Z Z ?_
   intro b11
   refine zau zbm (l:=([(n,v)]:List (yB×yB))) Z Z kT ?_
   intro s12 o13
   refine zak (cs:=[str [],str [],vV 0,.slice (some ⟨b11,0,none⟩) [(n,v)].length 1]) zex zg0 Z Z Z<|a1 ?_
   refine zca Z (zgQ (fs:=[(n,v)]) (o13.rd (i:=0) Z) (nm:=(([[99,111,110,116,101,110,116,45,108,101,110,103,116,104],[99,111,110,110,101,99,116,105,111,110],[116,114,97,110,115,102,101,114,45,101,110,99,111,100,105,110,103]]).getD 2 [])) kE kY (fun f hf => by simp only [zDx] at hf; subst hf; exact ⟨hn,hv⟩)) ?_
   rintro _ _ ⟨rfl,rfl⟩
   refine a11 ?_
   refine zac Z ?_ ?_
   ·intro hc2
    try dsimp only at hc2
    refine a4 ?_
    refine zpk [] 5 ?_
    exact zad Tryz.func164 Z Z (⟨zDh Value.bool (znB (.inr (.inr (one_pos.1 hc2)))).symm,Z⟩)
   ·intro hc2
    try dsimp only at hc2
    have hno3:=mt one_pos.2 hc2
    refine a3 ?_
    refine AtL.add (z:=3) zg0 Z Z Z kE<|a8 ?_
    refine zao false Z kE<|a5 ?_
    refine zpk [] 5 ?_
    exact zad Tryz.func164 Z Z (⟨zDh Value.bool (zzd hno1 hno2 hno3).symm,Z⟩)
theorem ztp {v:yB}(h:¬ Lib.trimS v [9,32]=v):zbt (n,v)=false:=by
 rw [zoA] at h
 rw [zbt,zdZ,zDl h]; simp
theorem zqL {v:yB}(h:Lib.trimS v [9,32]=v):(zcD n 64 && v.all zeu)=zbt (n,v):=by
 rw [zoA] at h
 rw [zbt,zdZ,zDI h,zFV]
theorem zz2 {y:yB}{r:Bool}(h:(zcD n 64 && y.all zeu)=r) (hc:¬ zfk ⟨[65],[47],0,[(n,([120]++subl y 0 k)++[120])]⟩=0) (hk:k≤2000) (hky:k≤y.length):r=false:=by
 rw [zpm (by rw [zal hky]; omega)] at hc
 cases r with
 | false => rfl
 | true =>
  exfalso
  apply hc
  simp only [zC9] at h
  rw [zDi]
  rw [zbK,h.1,zFU,zDa]
  intro x hx
  exact zDa.1 h.2 x (zEr hx)
theorem ztq {y:yB}{r:Bool}(h:(zcD n 64 && y.all zeu)=r) (hc:zfk ⟨[65],[47],0,[(n,([120]++subl y 0 k)++[120])]⟩=0) (hk:k≤2000) (hky:k≤y.length):(zcD n 64 && (subl y k y.length).all zeu)=r∧zcD n 64=true:=by
 rw [zpm (by rw [zal hky]; omega)] at hc
 split at hc
 ·rename_i h2
  simp only [zC9,zbK] at h2
  refine ⟨?_,h2.1⟩
  rw [← h,zbx,← zDB k y,zEP]
  rw [zDB]
  rw [h2.2,zFU]
 ·cases hc
theorem zv0 {v:yB}(hn:n.length≤140737488300000) (hv:v.length≤140737488355000) :
  SCalls Tryz.prog 165 [.agg #[str n,str v]] w0 base (H) (fun u H' => u = .bool (zbt (n,v))∧H' = H):=by
 refine zaa (n:=33) Tryz.func165 Z Z Z fun cs => ?_
 refine a2 ?_
 refine zaU (cs:=#[str n,str v]) Z zg0 Z Z ?_
 intro b1
 refine a12 ?_
 refine zca Z (zyD (x:=v) (cs:=[9,32]) kQ kE kE) ?_
 rintro _ _ ⟨rfl,rfl⟩
 refine a1 ?_
 refine zjy (a:=Lib.trimS v [9,32]) (b:=v) zg0 Z Z Z<|a1 ?_
 refine zaT Z ?_ ?_
 ·intro hc1
  have hc1:¬ (Lib.trimS v [9,32]=v):=zDm (zat hc1)
  refine a4 ?_
  refine zpk [] 1 ?_
  exact zad Tryz.func165 Z Z (⟨zDh Value.bool (ztp hc1).symm,Z⟩)
 ·intro hc1
  have hc1:Lib.trimS v [9,32]=v:=zDf (zas hc1)
  refine a2 ?_
  refine zbM (fun (y:yB) => [(1,pB b1),(3,str y)]) (fun y => [(b1,.cells #[str n,str v] 112 (0,0))]::H) (fun y => (zcD n 64 && y.all zeu)=zbt (n,v)∧y.length≤v.length) (fun y => y.length) v (⟨zqL hc1,zDe _⟩) ⟨Z,Z,trivial⟩ Z ?_
  rintro y ⟨hf,hy⟩ ihL1
  refine a4 ?_
  refine zbu (l:=y) Z zg0 Z Z ?_
  refine ziw (z:=((min y.length 2000:Nat):Int)) zg0 Z Z Z kQ<|a2 ?_
  obtain ⟨k,hk⟩:∃ k:Nat,k=min y.length 2000:=⟨_,rfl⟩
  rw [← hk]
  have hk1:k≤2000:=by omega
  have hk2:k≤y.length:=by omega
  refine a1 ?_
  refine zxN (fun E2 H2 => ∃ (b5:Nat),∃ (xs3:Sl zbm 112),xs3.l=[(n,([120]++(subl y 0 k))++[120])]∧Sub [(1,pB b1),(3,str y),(4,vV (k:Int)),(5,pB b5)] E2∧H2=[(b5,.cells #[str [65],str [47],vV 0,.slice xs3.A xs3.l.length xs3.C] 257 (0,0))]::xs3.s::[(b1,.cells #[str n,str v] 112 (0,0))]::H) (fun J => ?_) ?_
  ·refine zxO (n:=3) (fs:=[8,10]) (pv:=[(0,pB b1),(1,str n),(2,str y),(3,vV (k:Int)),(4,str (subl y 0 k)),(5,str ([120]++(subl y 0 k))),(6,str (([120]++(subl y 0 k))++[120])),(7,.agg #[str n,str (([120]++(subl y 0 k))++[120])])]) zaz kW kW kW ?_
   refine ⟨zj4<|⟨zpr Z Z Z (zcZ (l:=y) 0 k Z (zab Z Z) kQ kQ Z Z),⟨zpr Z Z Z (zkI Z Z (by simp only [zC6,zC7,zC8,zal hk2]; omega)),⟨zpr Z Z Z (zkI Z Z (by simp only [zC6,zC7,zC8,zal hk2]; omega)),⟨zpr Z Z Z (zcc (cs:=[str n,str (([120]++(subl y 0 k))++[120])]) zfq Z Z),trivial⟩⟩⟩⟩,zFi _ _,by kernel_rfl,by kernel_rfl,⟨_,Z,Z,Z,_,ze6 zbm (l:=([(n,([120]++(subl y 0 k))++[120])]:List (yB×yB))) (za2 (cs:=[str n,str (([120]++(subl y 0 k))++[120])]) Z zbB zcB Z Z Z Z) Z Z kT,?_⟩,⟨_,Z,Z,Z,_,Do.alloc zjZ (cs:=#[str [],str [],vV 0,.slice none 0 0]) Z,?_⟩,trivial⟩
   ·rintro _ _ ⟨b6,s7,o8,rfl,rfl⟩
    refine ⟨[(9,.agg #[str [65],str [47],vV 0,.slice (some ⟨b6,0,none⟩) ([(n,([120]++(subl y 0 k))++[120])]).length 1])],[10],Z,?_⟩
    refine ⟨⟨zpr Z Z Z (zcc (cs:=[str [65],str [47],vV 0,.slice (some ⟨b6,0,none⟩) ([(n,([120]++(subl y 0 k))++[120])]).length 1]) zex Z Z),zk4<|zk4<|trivial⟩,zFi _ _,by kernel_rfl,by kernel_rfl,⟨_,Z,Z,Z,_,Do.alloc zjZ (cs:=#[str [],str [],vV 0,.slice none 0 0]) Z,?_⟩,trivial⟩
    rintro _ _ ⟨b10,rfl,rfl⟩
    refine ⟨[],[11],Z,?_⟩
    refine ⟨⟨zpr Z Z Z (zcc (cs:=[str [65],str [47],vV 0,.slice (some ⟨b6,0,none⟩) ([(n,([120]++(subl y 0 k))++[120])]).length 1]) zex Z Z),zk4<|zk4<|trivial⟩,zFi _ _,by kernel_rfl,by kernel_rfl,⟨_,Z,Z,Z,_,zaS (H':=[(b10,.cells #[str [65],str [47],vV 0,.slice (some ⟨b6,0,none⟩) ([(n,([120]++(subl y 0 k))++[120])]).length 1] 257 (0,0))]::s7::[(b1,.cells #[str n,str v] 112 (0,0))]::H) 0 0 zoC Z Z Z Z Z Z Z Z Z,?_⟩,trivial⟩
    rintro _ _ ⟨rfl,rfl⟩
    refine ⟨[],[],Z,?_⟩
    refine ⟨zk4<|zk4<|zjk<|trivial,by kernel_rfl,?_⟩
    exact J _ _ ⟨b10,⟨(some ⟨b6,0,none⟩),1,[(n,([120]++(subl y 0 k))++[120])],s7,o8⟩,Z,⟨Z,Z,Z,Z,trivial⟩,Z⟩
   ·rintro _ _ ⟨b9,rfl,rfl⟩
    refine ⟨[],[8],Z,?_⟩
    refine ⟨zj4<|⟨zpr Z Z Z (zcZ (l:=y) 0 k Z (zab Z Z) kQ kQ Z Z),⟨zpr Z Z Z (zkI Z Z (by simp only [zC6,zC7,zC8,zal hk2]; omega)),⟨zpr Z Z Z (zkI Z Z (by simp only [zC6,zC7,zC8,zal hk2]; omega)),⟨zpr Z Z Z (zcc (cs:=[str n,str (([120]++(subl y 0 k))++[120])]) zfq Z Z),trivial⟩⟩⟩⟩,zFi _ _,by kernel_rfl,by kernel_rfl,⟨_,Z,Z,Z,_,ze6 zbm (l:=([(n,([120]++(subl y 0 k))++[120])]:List (yB×yB))) (za2 (cs:=[str n,str (([120]++(subl y 0 k))++[120])]) Z zbB zcB Z Z Z Z) Z Z kT,?_⟩,trivial⟩
    rintro _ _ ⟨b11,s12,o13,rfl,rfl⟩
    refine ⟨[(9,.agg #[str [65],str [47],vV 0,.slice (some ⟨b11,0,none⟩) ([(n,([120]++(subl y 0 k))++[120])]).length 1])],[11],Z,?_⟩
    refine ⟨⟨zpr Z Z Z (zcc (cs:=[str [65],str [47],vV 0,.slice (some ⟨b11,0,none⟩) ([(n,([120]++(subl y 0 k))++[120])]).length 1]) zex Z Z),zk4<|zk4<|trivial⟩,zFi _ _,by kernel_rfl,by kernel_rfl,⟨_,Z,Z,Z,_,zaS (H':=s12::[(b9,.cells #[str [65],str [47],vV 0,.slice (some ⟨b11,0,none⟩) ([(n,([120]++(subl y 0 k))++[120])]).length 1] 257 (0,0))]::[(b1,.cells #[str n,str v] 112 (0,0))]::H) 1 0 zoC Z Z Z Z Z Z Z Z Z,?_⟩,trivial⟩
    rintro _ _ ⟨rfl,rfl⟩
    refine ⟨[],[],Z,?_⟩
    refine ⟨zk4<|zk4<|zjk<|trivial,by kernel_rfl,?_⟩
    refine zpk [1,0,2] 3 ?_
    exact J _ _ ⟨b9,⟨(some ⟨b11,0,none⟩),1,[(n,([120]++(subl y 0 k))++[120])],s12,o13⟩,Z,⟨Z,Z,Z,Z,trivial⟩,Z⟩
  ·rintro E2 H2 ⟨b5,xs3,hxs3,hsub,rfl⟩
   refine At.mono hsub ?_
   clear hsub
   obtain ⟨Axs3,Cxs3,lxs3,sxs3,oxs3⟩:=xs3
   dsimp only at hxs3 ⊢
   obtain rfl:[(n,([120]++(subl y 0 k))++[120])]=lxs3:=hxs3.symm
   refine a4 ?_
   refine zca Z (zxe (m:=[65]) (t:=[47]) (minor:=0) (fs:=[(n,([120]++(subl y 0 k))++[120])]) (oxs3.rd (i:=1) Z) kY (by simp only [szF,zDo,zEd,zFk,zGc,zC6,zC7,zC8,zal hk2]; omega)) ?_
   rintro _ _ ⟨rfl,rfl⟩
   refine a2 ?_
   refine zaT Z ?_ ?_
   ·intro hc2
    have hc2:¬ ((zfk ⟨[65],[47],0,[(n,([120]++(subl y 0 k))++[120])]⟩:Int)=0):=zDm (zat hc2)
    refine a4 ?_
    refine zpk [] 3 ?_
    exact zad Tryz.func165 Z Z (⟨zDh Value.bool (zz2 hf hc2 hk1 hk2).symm,Z⟩)
   ·intro hc2
    have hc2:(zfk ⟨[65],[47],0,[(n,([120]++(subl y 0 k))++[120])]⟩:Int)=0:=zDf (zas hc2)
    have hf2:=ztq hf hc2 hk1 hk2
    refine a5 ?_
    refine zb7 (l:=y) k y.length (zab Z Z) Z kQ kQ Z zg0 Z Z<|a5 ?_
    refine zfb (a:=subl y k y.length) (b:=[]) zg0 Z Z Z<|a1 ?_
    refine zac Z ?_ ?_
    ·intro hc3
     try dsimp only at hc3
     refine a4 ?_
     refine zpk [] 3 ?_
     exact zad Tryz.func165 Z Z (⟨zDh Value.bool (by rw [hc3,hf2.2] at hf2; exact hf2.1),Z⟩)
    ·intro hc3
     try dsimp only at hc3
     refine a2 ?_
     refine zpk [2] 3 ?_
     refine ihL1 (subl y k y.length) (⟨hf2.1,by rw [zal (zDe _)]; omega⟩) (by have h0:(subl y k y.length).length≠0:=fun h => hc3 (zDk h); rw [zal (zDe _)] at h0 ⊢; omega) _ ?_
     exact zen
theorem zxd (h:(zbn r.st=[]∨(16:Int) < (r.fs.length:Int))∨(65535:Int) < (r.body.length:Int)):zdi r=2:=by
 unfold zdi
 rw [zDb]
 intro ho
 simp only [okR,zC9,zD7] at ho
 obtain ⟨⟨⟨⟨h1,h2⟩,h3⟩,_⟩,_⟩:=ho
 rcases h with (h | h) | h
 ·exact h1 h
 ·omega
 ·omega
theorem zAA (hk:k < r.fs.length) (h:fldR (r.fs.getD k (([],[]):yB×yB))=false∨4096 < sumF (r.fs.take (k + 1))):zdi r=2:=by
 unfold zdi
 rw [zDb]
 intro ho
 simp only [okR,zC9,zD7] at ho
 obtain ⟨⟨_,h4⟩,h5⟩:=ho
 rcases h with h | h
 ·rw [zDa.1 h4 _ (zaA hk)] at h; cases h
 ·have:=zl0 r.fs (k + 1); omega
theorem zCu (h:¬ ((zbn r.st=[]∨(16:Int) < (r.fs.length:Int))∨(65535:Int) < (r.body.length:Int))) (hk:r.fs.length≤k) (ha:(r.fs.take k).all fldR=true) (hs:sumF (r.fs.take k)≤4096):zdi r=0:=by
 rw [zDc hk] at ha hs
 unfold zdi
 rw [zDi]
 simp only [zGb] at h
 obtain ⟨⟨h1,h2⟩,h3⟩:=h
 simp only [okR,ha,zC9,zD7]
 exact ⟨⟨⟨⟨h1,by omega⟩,by omega⟩,trivial⟩,hs⟩
theorem zwC (h:ownF f=true):fldR f=false:=by rw [fldR,h]; simp
theorem zwB (h:zbt f=false):fldR f=false:=by rw [fldR,h]; rfl
theorem zwA (h1:¬ ownF f=true) (h2:¬ zbt f=false):fldR f=true:=by
 rw [fldR]; cases h3:ownF f <;> cases h4:zbt f <;> simp_all
theorem zxy {p:Fld→Bool}{fs:List Fld}(h:k < fs.length) (ha:(fs.take k).all p=true) (hp:p (fs.getD k (([],[]):yB×yB))=true):(fs.take (k + 1)).all p=true:=by
 rw [zDA h,zEP,ha]
 simpa [List.getD,h] using hp
theorem zvQ {st:Int}{b:yB}(h:Rd zbm w0 base H A C fs) (h2:Rd tyB w0 base H A2 C2 b) (hb:∀ f ∈ fs,f.1.length≤140737488355000∧f.2.length≤140737488355000) :
  SCalls Tryz.prog 100 [.agg #[vV st,.slice A fs.length C,.slice A2 b.length C2,.bool kp]] w0 base (H) (fun u H' => u=int (zdi ⟨st,fs,b,kp⟩)∧H' = H):=by
 have hle0:=h.le
 have hcap0:=h.cap
 have hle2:=h2.le
 have hcap2:=h2.cap
 refine zaa (n:=50) Tryz.func100 Z Z Z fun cs => ?_
 refine a2 ?_
 refine zaU (cs:=#[vV st,.slice A fs.length C,.slice A2 b.length C2,.bool kp]) Z zg0 Z Z ?_
 intro b1
 refine a7 ?_
 refine zca Z (zl8 st) ?_
 rintro _ _ ⟨rfl,rfl⟩
 refine zfb (a:=zbn st) (b:=[]) zg0 Z Z Z<|a1 ?_
 refine zjn 5 10 [(15,.bool (decide ((zbn st=[])∨(16 < (fs.length:Int))))),(1,pB b1)] ?_
 skip
 refine a1 ?_
 refine zjn 5 16 [(21,.bool (decide (((zbn st=[])∨(16 < (fs.length:Int)))∨(65535 < (b.length:Int))))),(1,pB b1)] ?_
 skip
 refine a1 ?_
 refine zac Z ?_ ?_
 ·intro hc1
  try dsimp only at hc1
  refine a4 ?_
  refine zpk [] 1 ?_
  exact zad Tryz.func100 Z Z (⟨zDh int (zxd (r:=⟨st,fs,b,kp⟩) hc1).symm,Z⟩)
 ·intro hc1
  try dsimp only at hc1
  have hfl:fs.length≤1000:=by by_cases hx:(16:Int) < (fs.length:Int); exact absurd (.inl (.inr hx)) hc1; omega
  refine a14 ?_
  refine zcC (fun (k:Nat) (s:Nat) => [(3,vV (s:Int)),(23,.slice A fs.length C),(24,vV (fs.length:Int)),(25,vV (k:Int))]) (fun k s => [(b1,.cells #[vV st,.slice A fs.length C,.slice A2 b.length C2,.bool kp] 55 (0,0))]::H) (fun k s => k≤fs.length∧(fs.take k).all fldR=true∧s=sumF (fs.take k)∧s≤4096) (fun k s => fs.length - k) 0 0 (⟨zDq _,Z,Z,by omega⟩) ⟨Z,Z,Z,Z,trivial⟩ Z ?_
  rintro k s ⟨hk,ha,hs,hsb⟩ ihL1
  refine a5 ?_
  refine zac Z ?_ ?_
  ·intro hc2
   try dsimp only at hc2
   have hbk:=hb _ (zaA (l:=fs) (i:=k) (d:=(([],[]):yB×yB)) kQ)
   refine a5 ?_
   refine zah k (Rd.skip 1 h) Z zcB zg0 Z Z Z Z kQ ?_
   refine zaM (n:=0) (Rd.skip 1 h) (getD_some (([],[]):yB×yB) kQ) Z zfr zg0 Z Z<|AtL.alloc zbB (cs:=#[str [],str []]) Z zg0 Z ?_
   intro b2
   refine a7 ?_
   refine zbu (l:=(fs.getD k (([],[]):yB×yB)).1) Z zg0 Z Z<|a2 ?_
   refine zbu (l:=(fs.getD k (([],[]):yB×yB)).2) Z zg0 Z Z<|a9 ?_
   refine zaI 3 (E':=[(43,.bool (decide ((4096 < ((s:Int) + ((((fs.getD k (([],[]):yB×yB)).1).length:Int) + (((fs.getD k (([],[]):yB×yB)).2).length:Int))))∨((ownF ((fs.getD k (([],[]):yB×yB)).1,(fs.getD k (([],[]):yB×yB)).2))=true)))),(3,vV ((s:Int) + ((((fs.getD k (([],[]):yB×yB)).1).length:Int) + (((fs.getD k (([],[]):yB×yB)).2).length:Int)))),(5,pB b2),(23,.slice A fs.length C),(24,vV (fs.length:Int)),(25,vV (k:Int))]) (fun J => ?_) ?_
   ·refine zaG (t:=40) Z ?_ ?_
    ·intro hs40
     try dsimp only at hs40
     refine a3 ?_
     exact J _ zej
    ·intro hs40
     try dsimp only at hs40
     refine a1 ?_
     refine zca Z (zBJ (n:=(fs.getD k (([],[]):yB×yB)).1) (v:=(fs.getD k (([],[]):yB×yB)).2) kQ kQ) ?_
     rintro _ _ ⟨rfl,rfl⟩
     refine a1 ?_
     exact J _ zej
   ·refine a1 ?_
    refine zaI 4 (E':=[(48,.bool (decide (((4096 < ((s:Int) + ((((fs.getD k (([],[]):yB×yB)).1).length:Int) + (((fs.getD k (([],[]):yB×yB)).2).length:Int))))∨((ownF ((fs.getD k (([],[]):yB×yB)).1,(fs.getD k (([],[]):yB×yB)).2))=true))∨((zbt ((fs.getD k (([],[]):yB×yB)).1,(fs.getD k (([],[]):yB×yB)).2))=false)))),(3,vV ((s:Int) + ((((fs.getD k (([],[]):yB×yB)).1).length:Int) + (((fs.getD k (([],[]):yB×yB)).2).length:Int)))),(23,.slice A fs.length C),(24,vV (fs.length:Int)),(25,vV (k:Int))]) (fun J => ?_) ?_
    ·refine zaG (t:=44) Z ?_ ?_
     ·intro hs44
      try dsimp only at hs44
      refine a4 ?_
      exact J _ zej
     ·intro hs44
      try dsimp only at hs44
      refine a1 ?_
      refine zca Z (zv0 (n:=(fs.getD k (([],[]):yB×yB)).1) (v:=(fs.getD k (([],[]):yB×yB)).2) kQ kQ) ?_
      rintro _ _ ⟨rfl,rfl⟩
      refine a2 ?_
      exact J _ zej
    ·refine a1 ?_
     refine zac Z ?_ ?_
     ·intro hc3
      try dsimp only at hc3
      refine a4 ?_
      refine zpk [] 2 ?_
      exact zad Tryz.func100 Z Z (⟨zDh int (zAA (r:=⟨st,fs,b,kp⟩) (k:=k) (by show k < fs.length; omega) (by rcases hc3 with (h | h) | h; exact .inr (by show 4096 < sumF (fs.take (k + 1)); rw [zl1 fs k kQ,← hs]; omega); exact .inl (zwC h); exact .inl (zwB h))).symm,Z⟩)
     ·intro hc3
      try dsimp only at hc3
      simp only [zGb] at hc3
      have hfR:fldR (fs.getD k (([],[]):yB×yB))=true:=zwA hc3.1.2 hc3.2
      have hall2:=zxy (p:=fldR) kQ ha hfR
      refine a6 ?_
      refine zpk [1] 2 ?_
      refine ihL1 (k + 1) (s + ((((fs.getD k (([],[]):yB×yB)).1).length) + (((fs.getD k (([],[]):yB×yB)).2).length))) (⟨by omega,hall2,by rw [zl1 fs k kQ,← hs] <;> omega,by omega⟩) kQ _ ?_
      exact zen
  ·intro hc2
   try dsimp only at hc2
   refine a5 ?_
   refine zpk [] 1 ?_
   exact zad Tryz.func100 Z Z (⟨zDh int (zCu (r:=⟨st,fs,b,kp⟩) hc1 (by show fs.length≤k; omega) ha (by show sumF (fs.take k)≤4096; omega)).symm,Z⟩)
theorem noesc (x:Value) (w:World):(callFunc 238 #[x]).run Tryz.prog w = .ok (.value x) w:=by
 rw [run_callFunc_extern Tryz.func238 kW kW kW (e:=Extern.AbiNoEscape.same) kW]
 rfl
theorem zxq {v:Value} :
  SCalls Tryz.prog 166 [pB b] w0 base ([(b,.cells #[.pointer none,v] 199 (0,0))]::H) (fun u H' => u = .tuple #[]∧H' = [(b,.cells #[pB b,v] 199 (0,0))]::H):=by
 refine zaa (n:=20) Tryz.func166 Z Z Z fun cs => ?_
 refine a6 ?_
 refine zcN Z zg0 Z Z Z<|a5 ?_
 refine znf (n:=2) 0 0 Z Z zkQ kE zg0 Z Z Z kY Z<|zuY (v:=pB b) (fun w S => noesc _ w) zg0 Z Z ?_
 refine zjS 0 0 Z Z zkQ zg0 Z Z Z kW Z<|a4 ?_
 exact zlK Tryz.func166 Z Z (⟨Z,Z⟩)
theorem zxp {v:Value} :
  SCalls Tryz.prog 166 [pB b] w0 base ([(b,.cells #[pB b,v] 199 (0,0))]::H) (fun u H' => u = .tuple #[]∧H' = [(b,.cells #[pB b,v] 199 (0,0))]::H):=by
 refine zaa (n:=20) Tryz.func166 Z Z Z fun cs => ?_
 refine a6 ?_
 refine zcN Z zg0 Z Z Z<|a9 ?_
 refine zlH (n:=2) Z zkQ kE zg0 Z Z Z<|a3 ?_
 exact zlK Tryz.func166 Z Z (⟨Z,Z⟩)
def bown (b:Nat) (p:Value):Prop:=p = .pointer none∨p = .pointer (some ⟨b,0,none⟩)
theorem zAI {v:Value}(h:bown b p):SCalls Tryz.prog 166 [pB b] w0 base ([(b,.cells #[p,v] 199 (0,0))]::H) (fun u H' => u = .tuple #[]∧H' = [(b,.cells #[pB b,v] 199 (0,0))]::H):=by
 rcases h with rfl | rfl
 ·exact zxq
 ·exact zxp
theorem zmW (hp:bown b p) {x:Sl tyB 5}{v:yB}(hl:x.l.length + v.length≤140737488355328) :
  SCalls Tryz.prog 102 [pB b,str v] w0 base (x.s::[(b,.cells #[p,.slice x.A x.l.length x.C] 199 (0,0))]::H) (fun u H' => ∃ y:Sl tyB 5,y.l=x.l++v∧u = .tuple #[int (v.length:Int),.nilIface]∧H' = y.s::[(b,.cells #[pB b,.slice y.A y.l.length y.C] 199 (0,0))]::H):=by
 refine zaa (n:=19) Tryz.func102 Z Z Z fun cs => ?_
 refine a8 ?_
 refine zpk [1,0] 2 ?_
 refine zca Z (zAI hp) ?_
 rintro _ _ ⟨rfl,rfl⟩
 refine a9 ?_
 refine zb2 (l:=x.l) (news:=v) 1 zav Z Z x.own kQ zg0 Z Z Z ?_
 intro A1 C2 s3 o4
 refine a7 ?_
 refine zbu (l:=v) Z zg0 Z Z<|a3 ?_
 refine zpk [1,0] 2 ?_
 exact zad Tryz.func102 Z Z (⟨⟨A1,C2,x.l++v,s3,o4⟩,Z,Z,Z⟩)
theorem zqW (o:Own tyB 5 (some a) C l s) (h0:l≠[]) (hl0:l.length≠0) (hC:C≠0) :
  SCalls Tryz.prog 104 [pB b] w0 base (s::[(b,.cells #[p,.slice (some a) l.length C] 199 (0,0))]::H) (fun u H' => ∃ s',u=str l∧H' = s'::H):=by
 refine zaa (n:=14) Tryz.func104 Z Z Z fun cs => ?_
 refine a5 ?_
 refine zaN (es:=[10]) (pv:=[(0,pB b),(1,pB b),(2,.pointer (some ⟨b,1,none⟩)),(3,.slice (some a) l.length C),(4,.pointer (some a)),(5,pB b),(6,pB b),(7,.pointer (some ⟨b,1,none⟩)),(8,.slice (some a) l.length C),(9,vV (l.length:Int))]) zaz kW kW kW ?_
 refine ⟨zj4<|⟨zpr Z Z Z (zm8 hC Z),zj4<|⟨zpr Z Z Z (zoj Z Z),trivial⟩⟩,Z,Z,by kernel_rfl,_,Z,Z,Z,_,zm7 (l:=l) 0 Z kW Z o h0 Z Z,?_⟩
 rintro _ _ ⟨s1,rfl,rfl⟩
 refine ⟨[(11,str l)],Z,?_⟩
 refine ⟨zjz<|zk4<|zk4<|zjk<|zjk<|trivial,by kernel_rfl,?_⟩
 refine At.mono (E':=[(2,str l)]) ⟨Z,trivial⟩<|zpk [0] 2 ?_
 exact zad Tryz.func104 Z Z (⟨_,Z,Z⟩)
theorem zuh {x:Sl tyB 5}(h0:x.l≠[]):SCalls Tryz.prog 104 [pB b] w0 base (x.s::[(b,.cells #[p,.slice x.A x.l.length x.C] 199 (0,0))]::H) (fun u H' => ∃ s',u=str x.l∧H' = s'::H):=by
 obtain ⟨A,C,l,s,o⟩:=x
 have hl0:l.length≠0:=fun h => h0 (zDk h)
 have hle:=o.le_cap
 cases A with
 | none =>
  obtain ⟨r,_,h⟩:=o
  rcases h with ⟨_,h,_⟩ | ⟨_,_,_,_,h,_⟩
  ·exact absurd h h0
  ·cases h
 | some a =>
  have hC:C≠0:=by have:=hle; omega
  exact zqW o h0 hl0 hC
structure Tab10 (w0:World) (base:Nat):Prop where
  lt:2 < base
  var:Lib.TabIs Tryz.prog w0 "internal/strconv.uint64pow10" .u64 Lib.pow10Tab
theorem Tab10.at (T:Tab10 w0 base) (S:Sep w0 base w H):Lib.TabIs Tryz.prog w "internal/strconv.uint64pow10" .u64 Lib.pow10Tab:=by
 have h:=T.var
 have hg:Tryz.prog.globalNamed "internal/strconv.uint64pow10" = some 2:=by kernel_rfl
 have hb:=S.below.block _ T.lt
 unfold Lib.TabIs World.var? at h ⊢
 rw [hg] at h ⊢
 simp only [zFh] at h ⊢
 rw [hb]; exact h
theorem zw9 (n:Nat):decF n=Lib.decDigits n:=by
 induction n using Nat.strongRecOn with
 | _ n ih =>
  rw [decF,Lib.decDigits]
  by_cases h:n < 10
  ·rw [zDi h,dif_pos h]
  ·rw [zDb h,dif_neg h,ih (n / 10) kQ]
theorem zqX {os:Array Obj}:Go.RowKit.Below w.heap.size w (Go.Sort.grow (w.drewN k) os) :=
 ⟨rfl,rfl,rfl,by simp [Go.Sort.grow],fun j hj => by
  show (w.heap++os)[j]? = _
  rw [zEx hj]⟩
theorem zlp {n:Int}(h0:0≤n) (h1:n≤9223372036854775807) (T:Tab10 w0 base):SCalls Tryz.prog 44 [int n] w0 base H (fun v H' => v=str (decF n.toNat)∧H' = H):=by
 refine zfN fun w S => ?_
 refine (Tryz.strconv_Itoa n kQ h1 w (T.at S)).mono ?_
 rintro e w' ⟨he,k,os,rfl⟩
 refine ⟨?_,zqX⟩
 rw [he,zw9,Lib.itoa,zDb kQ]
 rfl
theorem zg2 (n:Nat) (h:n≤1073741824):(decF n).length≤10:=by
 refine (zf9 n).2.2 9 ?_
 have h2:(10:Nat) ^ 10=10000000000:=by decide
 omega
theorem zwl (n:Nat) (h1:n≤9223372036854775807) (T:Tab10 w0 base):SCalls Tryz.prog 44 [int (n:Int)] w0 base H (fun v H' => v=str (decF n)∧H' = H) :=
 zlp (n:=(n:Int)) kQ kQ T
theorem zgT (ls:List yB) (k:Nat):((ls.take k).flatten).length≤(ls.flatten).length:=by
 conv => rhs; rw [← zDB k ls,List.flatten_append,zC6]
 omega
theorem zlY (h:k < ls.length):(ls.take k).flatten++ls.getD k []=(ls.take (k + 1)).flatten:=by
 rw [zDA h,List.flatten_append]
 simp [List.getD,h]
theorem zwt (h:k < ls.length):((ls.take k).flatten).length + (ls.getD k []).length≤(ls.flatten).length:=by
 have:=zgT ls (k + 1)
 rw [← zlY h,zC6] at this; exact this
theorem zhm (hp:bown b p) {x:Sl tyB 5}(h:Rd tyS w0 base H A C ls) (hl:x.l.length + (ls.flatten).length + 2≤140737488355328) :
  SCalls Tryz.prog 101 [.slice A ls.length C,pB b] w0 base (x.s::[(b,.cells #[p,.slice x.A x.l.length x.C] 199 (0,0))]::H) (fun u H' => ∃ y:Sl tyB 5,y.l=x.l++(ls.flatten++[13,10])∧u = .tuple #[]∧H' = y.s::[(b,.cells #[pB b,.slice y.A y.l.length y.C] 199 (0,0))]::H):=by
 have hle0:=h.le
 have hcap0:=h.cap
 refine zaa (n:=15) Tryz.func101 Z Z Z fun cs => ?_
 refine a8 ?_
 refine zcd (fun (k:Nat) (y:Sl tyB 5) (q:Value) => [(1,pB b),(5,.slice A ls.length C),(6,vV (ls.length:Int)),(7,vV (k:Int))]) (fun k y q => y.s::[(b,.cells #[q,.slice y.A y.l.length y.C] 199 (0,0))]::H) (fun k y q => k≤ls.length∧y.l=x.l++(ls.take k).flatten∧bown b q) (fun k y q => ls.length - k) 0 x p (⟨zDq _,by simp,hp⟩) ⟨Z,Z,Z,Z,trivial⟩ Z ?_
 rintro k y q ⟨hk,hy,hq⟩ ihL1
 have hyl:y.l.length=x.l.length + ((ls.take k).flatten).length:=by rw [hy,zC6]
 have hfl:=zgT ls k
 refine a5 ?_
 refine zac Z ?_ ?_
 ·intro hc1
  try dsimp only at hc1
  have hgf:=zwt (ls:=ls) (k:=k) kQ
  refine a5 ?_
  refine zah k (Rd.skip 2 h) Z zdh zg0 Z Z Z Z kQ ?_
  refine zax (v:=str (ls.getD k [])) zbz zg0 Z Z (zaL (Rd.skip 2 h) (getD_some [] kQ) Z)<|a4 ?_
  refine zca Z (zmW hq (x:=y) (v:=(ls.getD k [])) (by first | omega | (simp only [zC6,zC7,zC8]; omega))) ?_
  rintro _ _ ⟨⟨A1,C2,l3,s4,o5⟩,hx6,rfl,rfl⟩
  obtain rfl:y.l++(ls.getD k [])=l3:=hx6.symm
  refine a6 ?_
  refine ihL1 (k + 1) (⟨A1,C2,y.l++(ls.getD k []),s4,o5⟩) (pB b) (⟨by omega,by dsimp only; rw [hy,List.append_assoc,zlY kQ],.inr Z⟩) kQ _ ?_
  exact zen
 ·intro hc1
  try dsimp only at hc1
  rw [zDc kQ] at hy
  refine a2 ?_
  refine zca Z (zmW hq (x:=y) (v:=[13,10]) (by first | omega | (simp only [zC6,zC7,zC8]; omega))) ?_
  rintro _ _ ⟨⟨A7,C8,l9,s10,o11⟩,hx12,rfl,rfl⟩
  obtain rfl:y.l++[13,10]=l9:=hx12.symm
  refine a1 ?_
  exact zlK Tryz.func101 Z Z (⟨⟨A7,C8,y.l++[13,10],s10,o11⟩,by dsimp only; rw [hy,List.append_assoc],Z,Z⟩)
theorem zvK (h:¬ zdi r=0):zdi r=2∧zds r=[]:=by
 unfold zdi zds at *
 split
 ·rename_i h2; rw [zDi h2] at h; exact absurd rfl h
 ·exact ⟨rfl,rfl⟩
theorem zr1 (h:zdi r=0):zds r=zei r∧200≤r.st∧r.st≤505∧r.fs.length≤16∧r.body.length≤65535∧sumF r.fs≤4096:=by
 have ho:=zoQ h
 refine ⟨by rw [zds,zDi ho],?_⟩
 simp only [okR,zC9,zD7] at ho
 obtain ⟨⟨⟨⟨h1,h2⟩,h3⟩,_⟩,h5⟩:=ho
 have:=zkf h1
 exact ⟨this.1,this.2,h2,h3,h5⟩
theorem zoG (st:Int):([[72,84,84,80,47,49,46,49,32],decF st.toNat,[32],zbn st]:List yB).flatten++[13,10]=stB st:=by simp [stB,H11]
theorem zmo (n:Nat):([[67,111,110,116,101,110,116,45,76,101,110,103,116,104,58,32],decF n]:List yB).flatten++[13,10]=zdo n:=by simp [zdo,CLN]
theorem zpx (f:Fld):([f.1,[58,32],f.2]:List yB).flatten++[13,10]=f.1++([58,32]++(f.2++[13,10])):=by simp
theorem zpF:([[67,111,110,110,101,99,116,105,111,110,58,32,99,108,111,115,101]]:List yB).flatten++[13,10]=CCL++[13,10]:=by decide
theorem zik:([]:List yB).flatten++[13,10]=[13,10]:=rfl
theorem zrM (st:Int) (h:(decF st.toNat).length≤10):(stB st).length≤62:=by
 have:=ziQ st
 simp only [stB,H11,zC6,zC7,zC8]; omega
theorem zpf (n:Nat) (h:(decF n).length≤10):(zdo n).length≤28:=by
 simp only [zdo,CLN,zC6,zC7,zC8]; omega
theorem zjg {fs:List Fld}(k:Nat):(zcf (fs.take k)).length≤(zcf fs).length:=by
 rw [ze3,ze3]
 have h1:=zl0 fs k
 have h2:(fs.take k).length≤fs.length:=by rw [zDs]; omega
 omega
theorem ztu {fs:List Fld}(h:k < fs.length):(zcf (fs.take k)).length + (((fs.getD k (([],[]):yB×yB)).1++([58,32]++((fs.getD k (([],[]):yB×yB)).2++[13,10]))).length)≤(zcf fs).length:=by
 have:=zjg (fs:=fs) (k + 1)
 rw [zhR fs k h,zC6] at this; exact this
theorem zkd {st:Int}{b:yB}(h:Rd zbm w0 base H A C fs) (h2:Rd tyB w0 base H A2 C2 b) (hb:∀ f ∈ fs,f.1.length≤140737488355000∧f.2.length≤140737488355000) (T10:Tab10 w0 base) :
  SCalls Tryz.prog 45 [.agg #[vV st,.slice A fs.length C,.slice A2 b.length C2,.bool kp]] w0 base (H) (fun v H' => ∃ x:Sl tyB 5,x.l=zds ⟨st,fs,b,kp⟩∧v = .tuple #[.slice x.A x.l.length x.C,int (zdi ⟨st,fs,b,kp⟩)]∧H' = x.s::H):=by
 have hle0:=h.le
 have hcap0:=h.cap
 have hle2:=h2.le
 have hcap2:=h2.cap
 refine zaa (n:=59) Tryz.func45 Z Z Z fun cs => ?_
 refine a2 ?_
 refine zaU (cs:=#[vV st,.slice A fs.length C,.slice A2 b.length C2,.bool kp]) Z zg0 Z Z ?_
 intro b1
 refine a7 ?_
 refine zca Z (zvQ (st:=st) (fs:=fs) (b:=b) (kp:=kp) (Rd.skip 1 h) (Rd.skip 1 h2) hb) ?_
 rintro _ _ ⟨rfl,rfl⟩
 refine a7 ?_
 refine zaT Z ?_ ?_
 ·intro hc1
  have hc1:¬ ((zdi ⟨st,fs,b,kp⟩:Int)=0):=zDm (zat hc1)
  refine a6 ?_
  obtain ⟨he2,hl0⟩:=zvK (r:=⟨st,fs,b,kp⟩) hc1
  refine At.nil<|zpk [0] 2 ?_
  exact zad Tryz.func45 Z Z (⟨Sl.nil,by rw [hl0]; rfl,by rw [he2]; rfl,Z⟩)
 ·intro hc1
  have hc1:(zdi ⟨st,fs,b,kp⟩:Int)=0:=zDf (zas hc1)
  have he0:zdi ⟨st,fs,b,kp⟩=0:=by simpa using hc1
  obtain ⟨hgL,hg1,hg2,hg3,hg4,hg5⟩:=zr1 he0
  dsimp only at hg1 hg2 hg3 hg4 hg5
  have hdl:=zg2 st.toNat kQ
  have hdb:=zg2 b.length kQ
  have hrl:=ziQ st
  have hsl:=zrM st hdl
  have hll:=zpf b.length hdb
  have hfsl:(zcf fs).length≤5000:=by rw [ze3]; omega
  refine a3 ?_
  refine AtL.alloc zqa (cs:=#[.pointer none,.slice none 0 0]) Z zg0 Z ?_
  intro b2
  refine a3 ?_
  refine zbV zg0 Z Z Z<|a2 ?_
  refine At.nil<|a1 ?_
  refine zaN (es:=[7,8]) (pv:=[(0,.func (.func 101) #[] #[pB b2]),(1,pB b1),(2,vV st),(3,str (decF (Int.toNat st))),(4,pB b1),(5,vV st),(6,str (zbn st))]) zaz kW kW kW ?_
  refine ⟨zj2<|zjz<|⟨zpr Z Z Z (zbo zrE Z (zlp (n:=st) kQ kQ T10)),zj2<|⟨zpr Z Z Z (zbo zqe Z (zl8 st)),trivial⟩⟩,Z,Z,by kernel_rfl,_,Z,Z,Z,_,ze6 tyS (l:=([[72,84,84,80,47,49,46,49,32],decF (Int.toNat st),[32],zbn st]:List yB)) (za2 (cs:=[str [72,84,84,80,47,49,46,49,32],str (decF (Int.toNat st)),str [32],str (zbn st)]) Z zeP zdh Z Z Z Z) Z Z kT,?_⟩
  rintro _ _ ⟨b3,s4,o5,rfl,rfl⟩
  refine ⟨[],Z,?_⟩
  refine ⟨zjz<|zk4<|zjk<|zjk<|trivial,Z,Z,by kernel_rfl,_,Z,Z,Z,_,Does.pick (H':=[]::[(b2,.cells #[.pointer none,.slice none 0 0] 199 (0,0))]::s4::[(b1,.cells #[vV st,.slice A fs.length C,.slice A2 b.length C2,.bool kp] 55 (0,0))]::H) [1,2,0,3] 4 Z Z (zpV zdD Z Z Z (zhm (.inl Z) (x:=Sl.nil) (ls:=[[72,84,84,80,47,49,46,49,32],decF (Int.toNat st),[32],zbn st]) (o5.rd (i:=0) Z) (by have hq:=zDh List.length (zoG st); rw [zC6] at hq; first | (simp only [zC7,zC8,Sl.nil] at hq ⊢; omega) | (simp only [zC7,zC8,Sl.nil,zC6,CCL] at hq ⊢; omega)))),?_⟩
  rintro _ _ ⟨⟨A6,C7,l8,s9,o10⟩,hx11,rfl,rfl⟩
  rw [zoG st] at hx11
  obtain rfl:stB st=l8:=hx11.symm
  refine ⟨[],Z,?_⟩
  refine ⟨zk4<|zjk<|zjk<|zjk<|trivial,by kernel_rfl,?_⟩
  refine At.mono (E':=[(1,pB b1),(5,pB b2),(6,.func (.func 101) #[] #[pB b2])]) ⟨Z,Z,Z,trivial⟩<|a9 ?_
  refine zpk [0,1,3] 4 ?_
  refine zcC (fun (k:Nat) (y:Sl tyB 5) => [(1,pB b1),(5,pB b2),(6,.func (.func 101) #[] #[pB b2]),(25,.slice A fs.length C),(26,vV (fs.length:Int)),(27,vV (k:Int))]) (fun k y => y.s::[(b2,.cells #[pB b2,.slice y.A y.l.length y.C] 199 (0,0))]::[(b1,.cells #[vV st,.slice A fs.length C,.slice A2 b.length C2,.bool kp] 55 (0,0))]::H) (fun k y => k≤fs.length∧y.l=stB st++zcf (fs.take k)) (fun k y => fs.length - k) 0 (⟨A6,C7,stB st,s9,o10⟩) (⟨zDq _,by simp [zcf]⟩) ⟨Z,Z,Z,Z,Z,Z,trivial⟩ Z ?_
  rintro k y ⟨hk,hy⟩ ihL1
  have hyl:y.l.length=(stB st).length + (zcf (fs.take k)).length:=by rw [hy,zC6]
  have hfu:=zjg (fs:=fs) k
  refine a5 ?_
  refine zac Z ?_ ?_
  ·intro hc2
   try dsimp only at hc2
   have hfa:=ztu (fs:=fs) (k:=k) kQ
   have hbk:=hb _ (zaA (l:=fs) (i:=k) (d:=(([],[]):yB×yB)) kQ)
   refine a5 ?_
   refine zah k (Rd.skip 3 h) Z zcB zg0 Z Z Z Z kQ ?_
   refine zaM (n:=0) (Rd.skip 3 h) (getD_some (([],[]):yB×yB) kQ) Z zfr zg0 Z Z<|AtL.alloc zbB (cs:=#[str [],str []]) Z zg0 Z ?_
   intro b21
   refine a8 ?_
   refine zae (cs:=[str ((fs.getD k (([],[]):yB×yB)).1),str [58,32],str ((fs.getD k (([],[]):yB×yB)).2)]) Z zeP zdh Z Z zg0 Z Z Z ?_
   intro b22
   refine zau tyS (l:=([(fs.getD k (([],[]):yB×yB)).1,[58,32],(fs.getD k (([],[]):yB×yB)).2]:List yB)) Z Z kT ?_
   intro s23 o24
   refine zpk [2,3,0,1,4] 5 ?_
   refine zcz zdD zg0 Z Z Z Z (zhm (.inr Z) (x:=y) (ls:=[(fs.getD k (([],[]):yB×yB)).1,[58,32],(fs.getD k (([],[]):yB×yB)).2]) (o24.rd (i:=0) Z) (by have hq:=zDh List.length (zpx (fs.getD k (([],[]):yB×yB))); rw [zC6] at hq; first | (simp only [zC7,zC8,Sl.nil] at hq ⊢; omega) | (simp only [zC7,zC8,Sl.nil,zC6,CCL] at hq ⊢; omega))) ?_
   rintro _ _ ⟨⟨A25,C26,l27,s28,o29⟩,hx30,rfl,rfl⟩
   rw [zpx (fs.getD k (([],[]):yB×yB))] at hx30
   obtain rfl:y.l++((fs.getD k (([],[]):yB×yB)).1++([58,32]++((fs.getD k (([],[]):yB×yB)).2++[13,10])))=l27:=hx30.symm
   refine a6 ?_
   refine zpk [0,1,4] 5 ?_
   refine ihL1 (k + 1) (⟨A25,C26,y.l++((fs.getD k (([],[]):yB×yB)).1++([58,32]++((fs.getD k (([],[]):yB×yB)).2++[13,10]))),s28,o29⟩) (⟨by omega,by dsimp only; rw [hy,zhR fs k kQ,List.append_assoc]⟩) kQ _ ?_
   exact zen
  ·intro hc2
   try dsimp only at hc2
   rw [zDc kQ] at hy hyl
   refine a7 ?_
   refine zca Z (zwl b.length kQ T10) ?_
   rintro _ _ ⟨rfl,rfl⟩
   refine zae (cs:=[str [67,111,110,116,101,110,116,45,76,101,110,103,116,104,58,32],str (decF b.length)]) Z zeP zdh Z Z zg0 Z Z Z ?_
   intro b31
   refine zau tyS (l:=([[67,111,110,116,101,110,116,45,76,101,110,103,116,104,58,32],decF b.length]:List yB)) Z Z kT ?_
   intro s32 o33
   refine zpk [1,2,0,3] 4 ?_
   refine zcz zdD zg0 Z Z Z Z (zhm (.inr Z) (x:=y) (ls:=[[67,111,110,116,101,110,116,45,76,101,110,103,116,104,58,32],decF b.length]) (o33.rd (i:=0) Z) (by have hq:=zDh List.length (zmo b.length); rw [zC6] at hq; first | (simp only [zC7,zC8,Sl.nil] at hq ⊢; omega) | (simp only [zC7,zC8,Sl.nil,zC6,CCL] at hq ⊢; omega))) ?_
   rintro _ _ ⟨⟨A34,C35,l36,s37,o38⟩,hx39,rfl,rfl⟩
   rw [zmo b.length] at hx39
   obtain rfl:y.l++zdo b.length=l36:=hx39.symm
   refine a8 ?_
   refine zaT Z ?_ ?_
   ·intro hc3
    have hc3:kp=false:=zat hc3
    refine a2 ?_
    refine zae (cs:=[str [67,111,110,110,101,99,116,105,111,110,58,32,99,108,111,115,101]]) Z zeP zdh Z Z zg0 Z Z Z ?_
    intro b40
    refine zau tyS (l:=([[67,111,110,110,101,99,116,105,111,110,58,32,99,108,111,115,101]]:List yB)) Z Z kT ?_
    intro s41 o42
    refine zpk [1,2,0,3,4] 5 ?_
    refine zcz zdD zg0 Z Z Z Z (zhm (.inr Z) (x:=⟨A34,C35,y.l++zdo b.length,s37,o38⟩) (ls:=[[67,111,110,110,101,99,116,105,111,110,58,32,99,108,111,115,101]]) (o42.rd (i:=0) Z) (by have hq:=zDh List.length (zpF); rw [zC6] at hq; first | (simp only [zC7,zC8,Sl.nil] at hq ⊢; omega) | (simp only [zC7,zC8,Sl.nil,zC6,CCL] at hq ⊢; omega))) ?_
    rintro _ _ ⟨⟨A43,C44,l45,s46,o47⟩,hx48,rfl,rfl⟩
    rw [zpF] at hx48
    obtain rfl:(y.l++zdo b.length)++(CCL++[13,10])=l45:=hx48.symm
    refine a4 ?_
    refine zcz zdD zg0 Z Z Z Z (zhm (.inr Z) (x:=⟨A43,C44,(y.l++zdo b.length)++(CCL++[13,10]),s46,o47⟩) (ls:=[]) Rd.nil_ (by have hq:=zDh List.length (zik); rw [zC6] at hq; first | (simp only [zC7,zC8,Sl.nil] at hq ⊢; omega) | (simp only [zC7,zC8,Sl.nil,zC6,CCL] at hq ⊢; omega))) ?_
    rintro _ _ ⟨⟨A49,C50,l51,s52,o53⟩,hx54,rfl,rfl⟩
    rw [zik] at hx54
    obtain rfl:((y.l++zdo b.length)++(CCL++[13,10]))++[13,10]=l51:=hx54.symm
    refine a2 ?_
    refine zaN (es:=[0,1,4]) (pv:=[(2,.pointer (some ⟨b1,2,none⟩)),(3,.slice A2 b.length C2)]) zaz kW kW kW ?_
    refine ⟨zj2<|trivial,Z,Z,by kernel_rfl,_,Z,Z,Z,_,zbo zj9 Z (zuh (x:=⟨A49,C50,((y.l++zdo b.length)++(CCL++[13,10]))++[13,10],s52,o53⟩) kY),?_⟩
    rintro _ _ ⟨s55,rfl,rfl⟩
    refine ⟨[],Z,?_⟩
    refine ⟨zj2<|trivial,Z,Z,by kernel_rfl,_,Z,Z,Z,_,zhC (l:=((y.l++zdo b.length)++(CCL++[13,10]))++[13,10]) Z Z Z (by simp only [zC6,zC7,zC8,CCL] <;> omega) Z,?_⟩
    rintro _ _ ⟨A56,C57,s58,n60,o59,rfl,rfl⟩
    refine ⟨[],Z,?_⟩
    refine ⟨zj2<|trivial,Z,Z,by kernel_rfl,_,Z,Z,Z,_,zc1 (l:=((y.l++zdo b.length)++(CCL++[13,10]))++[13,10]) (news:=b) 0 zav Z o59 (Rd.skip 5 h2) (by simp only [zC6,zC7,zC8,CCL] <;> omega) Z Z,?_⟩
    rintro _ _ ⟨A61,C62,s63,o64,rfl,rfl⟩
    refine ⟨[(5,.slice A61 ((((y.l++zdo b.length)++(CCL++[13,10]))++[13,10])++b).length C62),(6,vV 0)],Z,?_⟩
    refine ⟨zj2<|zjk<|zjk<|trivial,by kernel_rfl,?_⟩
    refine At.mono (E':=[(2,.slice A61 ((((y.l++zdo b.length)++(CCL++[13,10]))++[13,10])++b).length C62),(3,vV 0)]) ⟨Z,Z,trivial⟩<|zpk [0] 5 ?_
    exact zad Tryz.func45 Z Z (⟨⟨A61,C62,(((y.l++zdo b.length)++(CCL++[13,10]))++[13,10])++b,s63,o64⟩,by dsimp only; rw [hgL,hy]; simp [zei,zqG,endB,hc3,zDg],by rw [he0]; rfl,Z⟩)
   ·intro hc3
    have hc3:kp=true:=zas hc3
    refine a4 ?_
    refine zcz zdD zg0 Z Z Z Z (zhm (.inr Z) (x:=⟨A34,C35,y.l++zdo b.length,s37,o38⟩) (ls:=[]) Rd.nil_ (by have hq:=zDh List.length (zik); rw [zC6] at hq; first | (simp only [zC7,zC8,Sl.nil] at hq ⊢; omega) | (simp only [zC7,zC8,Sl.nil,zC6,CCL] at hq ⊢; omega))) ?_
    rintro _ _ ⟨⟨A75,C76,l77,s78,o79⟩,hx80,rfl,rfl⟩
    rw [zik] at hx80
    obtain rfl:(y.l++zdo b.length)++[13,10]=l77:=hx80.symm
    refine a2 ?_
    refine zaN (es:=[0,1,4]) (pv:=[(2,.pointer (some ⟨b1,2,none⟩)),(3,.slice A2 b.length C2)]) zaz kW kW kW ?_
    refine ⟨zj2<|trivial,Z,Z,by kernel_rfl,_,Z,Z,Z,_,zbo zj9 Z (zuh (x:=⟨A75,C76,(y.l++zdo b.length)++[13,10],s78,o79⟩) kY),?_⟩
    rintro _ _ ⟨s81,rfl,rfl⟩
    refine ⟨[],Z,?_⟩
    refine ⟨zj2<|trivial,Z,Z,by kernel_rfl,_,Z,Z,Z,_,zhC (l:=(y.l++zdo b.length)++[13,10]) Z Z Z (by simp only [zC6,zC7,zC8,CCL] <;> omega) Z,?_⟩
    rintro _ _ ⟨A82,C83,s84,n86,o85,rfl,rfl⟩
    refine ⟨[],Z,?_⟩
    refine ⟨zj2<|trivial,Z,Z,by kernel_rfl,_,Z,Z,Z,_,zc1 (l:=(y.l++zdo b.length)++[13,10]) (news:=b) 0 zav Z o85 (Rd.skip 4 h2) (by simp only [zC6,zC7,zC8,CCL] <;> omega) Z Z,?_⟩
    rintro _ _ ⟨A87,C88,s89,o90,rfl,rfl⟩
    refine ⟨[(5,.slice A87 (((y.l++zdo b.length)++[13,10])++b).length C88),(6,vV 0)],Z,?_⟩
    refine ⟨zj2<|zjk<|zjk<|trivial,by kernel_rfl,?_⟩
    refine At.mono (E':=[(2,.slice A87 (((y.l++zdo b.length)++[13,10])++b).length C88),(3,vV 0)]) ⟨Z,Z,trivial⟩<|zpk [0] 4 ?_
    exact zad Tryz.func45 Z Z (⟨⟨A87,C88,((y.l++zdo b.length)++[13,10])++b,s89,o90⟩,by dsimp only; rw [hgL,hy]; simp [zei,zqG,endB,hc3,zDg],by rw [he0]; rfl,Z⟩)
def CTN16:yB:=[67,111,110,116,101,110,116,45,84,121,112,101]
def MED16:yB:=[97,112,112,108,105,99,97,116,105,111,110,47,100,110,115,45,109,101,115,115,97,103,101]
def CCN16:yB:=[67,97,99,104,101,45,67,111,110,116,114,111,108]
def MAX16:yB:=[109,97,120,45,97,103,101,61]
def zdU (age:Int):List Fld:=[(CTN16,MED16),(CCN16,MAX16++decF age.toNat)]
def ansF (b:yB) (age:Int) (kp:Bool):yB×Int :=
 if b.length < 12 then ([],4) else if 65535 < b.length then ([],3) else if age < 0∨2147483648≤age then ([],5) else (zds ⟨200,zdU age,b,kp⟩,zdi ⟨200,zdU age,b,kp⟩)
theorem zCH {b:yB}(h:b.length < 12):ansF b age kp=([],4):=by rw [ansF,zDi h]
theorem zCI {b:yB}(h:¬ b.length < 12) (h2:65535 < b.length):ansF b age kp=([],3):=by rw [ansF,zDb h,zDi h2]
theorem zCG {b:yB}(h:¬ b.length < 12) (h2:¬ 65535 < b.length) (h3:age < 0∨2147483648≤age):ansF b age kp=([],5):=by rw [ansF,zDb h,zDb h2,zDi h3]
theorem zuy {b:yB}(h:¬ b.length < 12) (h2:¬ 65535 < b.length) (h3:¬ (age < 0∨2147483648≤age)):ansF b age kp=(zds ⟨200,zdU age,b,kp⟩,zdi ⟨200,zdU age,b,kp⟩):=by rw [ansF,zDb h,zDb h2,zDb h3]
theorem zn9 {b:yB}(h:Rd tyB w0 base H A C b) (hbl:b.length≤4294967280) (age:Int) (kp:Bool) (T10:Tab10 w0 base) :
  SCalls Tryz.prog 17 [.slice A b.length C,vV age,.bool kp] w0 base (H) (fun v H' => ∃ x:Sl tyB 5,x.l=(ansF b age kp).1∧v = .tuple #[.slice x.A x.l.length x.C,int (ansF b age kp).2]∧H' = x.s::H):=by
 have hle0:=h.le
 have hcap0:=h.cap
 refine zaa (n:=37) Tryz.func17 Z Z Z fun cs => ?_
 refine a14 ?_
 refine zac Z ?_ ?_
 ·intro hc1
  try dsimp only at hc1
  refine a5 ?_
  refine At.nil ?_
  exact zad Tryz.func17 Z Z (⟨Sl.nil,by rw [zCH kQ]; rfl,by rw [zCH kQ]; rfl,Z⟩)
 ·intro hc1
  try dsimp only at hc1
  refine a7 ?_
  refine zac Z ?_ ?_
  ·intro hc2
   try dsimp only at hc2
   refine a5 ?_
   refine At.nil ?_
   exact zad Tryz.func17 Z Z (⟨Sl.nil,by rw [zCI kQ kQ]; rfl,by rw [zCI kQ kQ]; rfl,Z⟩)
  ·intro hc2
   try dsimp only at hc2
   refine a5 ?_
   refine zjn 3 20 [(23,.bool (decide (((age:Int) < 0)∨(2147483648≤(age:Int))))),(0,.slice A b.length C),(1,vV age),(2,.bool kp)] ?_
   skip
   refine a2 ?_
   refine zac Z ?_ ?_
   ·intro hc3
    try dsimp only at hc3
    refine a5 ?_
    refine At.nil ?_
    exact zad Tryz.func17 Z Z (⟨Sl.nil,by rw [zCG kQ kQ kQ]; rfl,by rw [zCG kQ kQ kQ]; rfl,Z⟩)
   ·intro hc3
    try dsimp only at hc3
    have hdec:(decF age.toNat).length≤19:=by
          have h2:(10:Nat) ^ 19=10000000000000000000:=by decide
          exact (zf9 age.toNat).2.2 18 kQ
    refine a4 ?_
    refine zak (cs:=[str [67,111,110,116,101,110,116,45,84,121,112,101],str [97,112,112,108,105,99,97,116,105,111,110,47,100,110,115,45,109,101,115,115,97,103,101]]) zfq zg0 Z Z Z<|a1 ?_
    refine zca Z (zlp (n:=age) kQ kQ T10) ?_
    rintro _ _ ⟨rfl,hHq⟩
    obtain rfl:=hHq.symm
    refine zos zg0 Z Z Z (by first | omega | (simp only [zC6,zC7,zC8]; omega) | (simp; omega))<|zak (cs:=[str [67,97,99,104,101,45,67,111,110,116,114,111,108],str ([109,97,120,45,97,103,101,61]++(decF (Int.toNat age)))]) zfq zg0 Z Z Z<|zae (cs:=[str [67,111,110,116,101,110,116,45,84,121,112,101],str [97,112,112,108,105,99,97,116,105,111,110,47,100,110,115,45,109,101,115,115,97,103,101],str [67,97,99,104,101,45,67,111,110,116,114,111,108],str ([109,97,120,45,97,103,101,61]++(decF (Int.toNat age)))]) Z zbB zcB Z Z zg0 Z Z Z ?_
    intro b1
    refine zau zbm (l:=([(([67,111,110,116,101,110,116,45,84,121,112,101]:yB),([97,112,112,108,105,99,97,116,105,111,110,47,100,110,115,45,109,101,115,115,97,103,101]:yB)),(([67,97,99,104,101,45,67,111,110,116,114,111,108]:yB),([109,97,120,45,97,103,101,61]++(decF (Int.toNat age)):yB))]:List (yB×yB))) Z Z kT ?_
    intro s2 o3
    refine a7 ?_
    refine zak (cs:=[vV 200,.slice (some ⟨b1,0,none⟩) ([(([67,111,110,116,101,110,116,45,84,121,112,101]:yB),([97,112,112,108,105,99,97,116,105,111,110,47,100,110,115,45,109,101,115,115,97,103,101]:yB)),(([67,97,99,104,101,45,67,111,110,116,114,111,108]:yB),([109,97,120,45,97,103,101,61]++(decF (Int.toNat age)):yB))]).length 2,.slice A b.length C,.bool kp]) zd0 zg0 Z Z Z ?_
    have hfb:∀ f ∈ zdU age,f.1.length≤140737488355000∧f.2.length≤140737488355000:=by
     intro f hf
     rcases zDp.1 hf with rfl | hf
     ·exact ⟨by decide,by decide⟩
     ·obtain rfl:=zDx.1 hf
      refine ⟨(by decide:CCN16.length≤140737488355000),?_⟩
      show (MAX16++decF age.toNat).length≤_; rw [zC6]; have:MAX16.length=8:=rfl; omega
    refine zca Z (zkd (st:=200) (fs:=[(([67,111,110,116,101,110,116,45,84,121,112,101]:yB),([97,112,112,108,105,99,97,116,105,111,110,47,100,110,115,45,109,101,115,115,97,103,101]:yB)),(([67,97,99,104,101,45,67,111,110,116,114,111,108]:yB),([109,97,120,45,97,103,101,61]++(decF (Int.toNat age)):yB))]) (b:=b) (kp:=kp) (o3.rd (i:=0) Z) (Rd.skip 1 h) hfb T10) ?_
    rintro _ _ ⟨⟨A4,C5,l6,s7,o8⟩,hx9,rfl,rfl⟩
    obtain rfl:zds ⟨200,[(([67,111,110,116,101,110,116,45,84,121,112,101]:yB),([97,112,112,108,105,99,97,116,105,111,110,47,100,110,115,45,109,101,115,115,97,103,101]:yB)),(([67,97,99,104,101,45,67,111,110,116,114,111,108]:yB),([109,97,120,45,97,103,101,61]++(decF (Int.toNat age)):yB))],b,kp⟩=l6:=hx9.symm
    refine a5 ?_
    refine zpk [0] 2 ?_
    exact zad Tryz.func17 Z Z (⟨⟨A4,C5,zds ⟨200,[(([67,111,110,116,101,110,116,45,84,121,112,101]:yB),([97,112,112,108,105,99,97,116,105,111,110,47,100,110,115,45,109,101,115,115,97,103,101]:yB)),(([67,97,99,104,101,45,67,111,110,116,114,111,108]:yB),([109,97,120,45,97,103,101,61]++(decF (Int.toNat age)):yB))],b,kp⟩,s7,o8⟩,by rw [zuy kQ kQ kQ]; rfl,by rw [zuy kQ kQ kQ]; rfl,Z⟩)
theorem zlv {y:Sl tyB 5}(hl:y.l.length≤1000000000) (ho:off≤y.l.length) :
  SCalls Tryz.prog 41 [.pointer (some ⟨b,2,none⟩)] w0 base (y.s::O0 b m br y.A y.l.length y.C (off:Int) lr e::H) (fun v H' => v=int ((y.l.length - off:Nat):Int)∧H' = y.s::O0 b m br y.A y.l.length y.C (off:Int) lr e::H):=by
 refine zaa (n:=13) Tryz.func41 Z Z Z fun cs => ?_
 refine a5 ?_
 refine zaN (es:=[]) (pv:=[(0,.pointer (some ⟨b,2,none⟩)),(1,.pointer (some ⟨b,2,none⟩)),(2,.pointer (some ⟨b,2,none⟩)),(3,.slice y.A y.l.length y.C),(4,vV (y.l.length:Int)),(5,.pointer (some ⟨b,2,none⟩)),(6,.pointer (some ⟨b,2,none⟩)),(7,.pointer (some ⟨b,3,none⟩)),(8,vV (off:Int)),(9,vV ((y.l.length - off:Nat):Int)),(10,vV ((y.l.length - off:Nat):Int))]) zaz kW kW kW ?_
 refine ⟨zj4<|⟨zpr Z Z Z (zoj Z Z),zj4<|⟨zpr Z Z Z (Do.sub (z:=((y.l.length - off:Nat):Int)) Z Z (by rw [w64 kQ kQ]; omega)),zjz<|trivial⟩⟩,by kernel_rfl,?_⟩
 refine At.mono (E':=[(2,vV ((y.l.length - off:Nat):Int))]) ⟨Z,trivial⟩ ?_
 exact zad Tryz.func41 Z Z (⟨Z,Z⟩)
theorem zun {y:Sl tyB 5}(hl:y.l.length≤1000000000) (ho:off≤y.l.length) :
  SCalls Tryz.prog 162 [.pointer (some ⟨b,2,none⟩)] w0 base (y.s::O0 b m br y.A y.l.length y.C (off:Int) lr e::H) (fun v H' => ∃ A' C',Own tyB 5 A' C' (subl y.l off y.l.length) y.s∧v = .slice A' (subl y.l off y.l.length).length C'∧H' = y.s::O0 b m br y.A y.l.length y.C (off:Int) lr e::H):=by
 refine zaa (n:=12) Tryz.func162 Z Z Z fun cs => ?_
 refine a5 ?_
 have hleo3:=Own.le_cap y.own
 obtain ⟨A1,eA1⟩:∃ A1:Option Addr,A1=(if y.C=off then y.A else Option.map (fun a => a.add (off * tyB.sz)) y.A):=⟨_,rfl⟩
 obtain ⟨C2,eC2⟩:∃ C2:Nat,C2=y.C - off:=⟨_,rfl⟩
 have o3:Own tyB 5 A1 C2 (subl y.l off y.l.length) y.s:=by rw [eA1,eC2]; exact Own.cut y.own kQ kQ kQ kQ
 refine zaN (es:=[]) (pv:=[(0,.pointer (some ⟨b,2,none⟩)),(1,.pointer (some ⟨b,2,none⟩)),(2,.pointer (some ⟨b,2,none⟩)),(3,.slice y.A y.l.length y.C),(4,.pointer (some ⟨b,2,none⟩)),(5,.pointer (some ⟨b,2,none⟩)),(6,.pointer (some ⟨b,3,none⟩)),(7,vV (off:Int)),(8,.slice A1 (subl y.l off y.l.length).length C2),(9,.slice A1 (subl y.l off y.l.length).length C2)]) zaz kW kW kW ?_
 refine ⟨zj4<|zj4<|⟨zpr Z Z Z (zaZ (T:=tyB) (l:=y.l) off y.l.length y.C (zab Z Z) Z Z (by intro h; cases h) kQ kQ (zDe _) Z zaF Z eA1 (zal (l:=y.l) (i:=off) (j:=y.l.length) kQ) eC2),zjz<|trivial⟩,by kernel_rfl,?_⟩
 refine At.mono (E':=[(2,.slice A1 (subl y.l off y.l.length).length C2)]) ⟨Z,trivial⟩ ?_
 exact zad Tryz.func162 Z Z (⟨_,_,o3,Z,Z⟩)
theorem zmY {y:Sl tyB 5}:
  SCalls Tryz.prog 40 [.pointer (some ⟨b,2,none⟩)] w0 base (y.s::O0 b m br y.A y.l.length y.C (off:Int) lr e::H) (fun v H' => ∃ z:Sl tyB 5,z.l=[]∧z.C≤y.C∧v = .tuple #[]∧H' = z.s::O0 b m br z.A z.l.length z.C 0 0 e::H):=by
 refine zaa (n:=16) Tryz.func40 Z Z Z fun cs => ?_
 refine a7 ?_
 have hleo3:=Own.le_cap y.own
 obtain ⟨A1,eA1⟩:∃ A1:Option Addr,A1=(if y.C=0 then y.A else Option.map (fun a => a.add (0 * tyB.sz)) y.A):=⟨_,rfl⟩
 obtain ⟨C2,eC2⟩:∃ C2:Nat,C2=y.C - 0:=⟨_,rfl⟩
 have o3:Own tyB 5 A1 C2 (subl y.l 0 0) y.s:=by rw [eA1,eC2]; exact Own.cut y.own kQ kQ kQ kQ
 refine zai (zaZ (T:=tyB) (l:=y.l) 0 0 y.C Z (zab Z Z) Z (by intro h; cases h) kQ kQ (zDe _) Z zaF Z eA1 (zal (l:=y.l) (i:=0) (j:=0) kQ) eC2) zg0 Z ?_
 have hlo3:(subl y.l 0 0).length=0 - 0:=zal kQ
 refine a17 ?_
 exact zlK Tryz.func40 Z Z (⟨⟨A1,C2,subl y.l 0 0,y.s,o3⟩,by simp [subl],by dsimp only; omega,Z,Z⟩)
theorem zn2 {y:Sl tyB 5}(n:Nat) (hl:y.l.length≤1000000000) (hn:n≤1000000000) :
  SCalls Tryz.prog 92 [.pointer (some ⟨b,2,none⟩),vV (n:Int)] w0 base (y.s::O0 b m br y.A y.l.length y.C (off:Int) lr e::H) (fun v H' => ∃ (z:Sl tyB 5) (ok:Bool) (k:Nat),(ok=true→k=y.l.length∧z.l.take y.l.length=y.l∧z.l.length=y.l.length + n)∧(ok=false→z.l=y.l∧z.C < y.l.length + n)∧v = .tuple #[int (k:Int),.bool ok]∧H' = z.s::O0 b m br z.A z.l.length z.C (off:Int) lr e::H):=by
 have hcap:=Own.cap_le y.own
 have hcap2:=Own.le_cap y.own
 refine zaa (n:=33) Tryz.func92 Z Z Z fun cs => ?_
 refine a22 ?_
 refine zg7 Z zg0 Z Z<|a4 ?_
 refine zac Z ?_ ?_
 ·intro hc1
  try dsimp only at hc1
  refine a10 ?_
  obtain ⟨r1,hr2,o3⟩:=Own.grow y.own (j:=y.l.length + n) kQ kQ
  obtain ⟨A4,eA4⟩:∃ A4:Option Addr,A4=(if y.C=0 then y.A else Option.map (fun a => a.add (0 * tyB.sz)) y.A):=⟨_,rfl⟩
  rw [← eA4] at o3
  refine zai (zaZ (T:=tyB) (l:=y.l) (n':=(y.l++r1).length) (C':=y.C) 0 (y.l.length + n) y.C Z (zab Z kY) Z (by intro h; cases h) (zDq _) kQ (zDe _) Z zaF Z eA4 (by rw [zC6,hr2]; omega) kQ) zg0 Z<|a10 ?_
  exact zad Tryz.func92 Z Z (⟨⟨A4,y.C,y.l++r1,y.s,o3⟩,true,y.l.length,fun _ => ⟨Z,by simp,by simp only [zC6,hr2]; omega⟩,(fun h => by cases h),Z,Z⟩)
 ·intro hc1
  try dsimp only at hc1
  refine a6 ?_
  exact zad Tryz.func92 Z Z (⟨y,false,0,(fun h => by cases h),fun _ => ⟨Z,by have:=Own.le_cap y.own; omega⟩,Z,Z⟩)
theorem zmv (l z:yB) (h:l.length≤z.length):subl (l.take z.length++z.drop l.length) 0 (min l.length z.length)=l:=by
 grind [zbK,List.take_of_length_le,Nat.min_eq_left,List.take_left]
theorem zmw :
  DCalls Tryz.prog 231 [] w0 base (H) .returning (fun m' H' => m' = .returning∧H' = H):=by
 refine DCalls.of_walk (n:=3) Tryz.func231 Z Z Z fun fr cs => ?_
 refine a2 ?_
 refine zdW Z<|zer Z zg0 Z Z<|a3 ?_
 refine zhF Z ?_
 exact zed (vs:=[]) Tryz.func231 Z trivial (⟨Z,Z⟩)
theorem zmu (h:Rd tyB w0 base H A C l) (n:Nat) (h0:1≤n) (hl:l.length≤1000000000) (hn:n≤1000000000) (hC:C≤2000000000) :
  SCalls Tryz.prog 161 [.slice A l.length C,vV (n:Int)] w0 base (H) (fun v H' => ∃ z:Sl tyB 5,z.l=l∧l.length + n≤z.C∧v = .slice z.A z.l.length z.C∧H' = z.s::H):=by
 refine zaa (n:=28) Tryz.func161 Z Z Z fun cs => ?_
 refine a6 ?_
 refine zfU Z zg0 Z Z Z<|a14 ?_
 refine zg7 Z zg0 Z Z<|a3 ?_
 refine zac Z ?_ ?_
 ·intro hc1
  try dsimp only at hc1
  refine a2 ?_
  refine zg7 Z zg0 Z Z<|a6 ?_
  refine AtL.nil ?_
  refine zjD (l:=[]) (m:=2 * C) 0 zav Z Z (Own.nil tyB 5) kE kQ (by first | omega | (simp only [zC6,zC7,zC8]; omega) | (simp; done) | (simp; omega)) (by first | omega | (simp only [zC6,zC7,zC8]; omega) | (simp; done) | (simp; omega)) zg0 Z Z Z ?_
  intro A1 C2 s3 o4
  refine a2 ?_
  have hb3:([]++List.replicate (2 * C) (0:UInt8)).length=2 * C:=by simp
  refine a4 ?_
  refine zpY 0 Z zaF Z o4 (Rd.skip 1 h) zg0 Z Z Z ?_
  intro s5 o6
  refine zg5 (m:=(l.take ([]++List.replicate (2 * C) (0:UInt8)).length++([]++List.replicate (2 * C) (0:UInt8)).drop l.length).length) 6 Z (ze5 _ _)<|a2 ?_
  have hb2:(l.take ([]++List.replicate (2 * C) (0:UInt8)).length++([]++List.replicate (2 * C) (0:UInt8)).drop l.length).length=2 * C:=by rw [ze5]; simp
  refine a4 ?_
  have hleo9:=Own.le_cap o6
  obtain ⟨A7,eA7⟩:∃ A7:Option Addr,A7=(if C2=0 then A1 else Option.map (fun a => a.add (0 * tyB.sz)) A1):=⟨_,rfl⟩
  obtain ⟨C8,eC8⟩:∃ C8:Nat,C8=C2 - 0:=⟨_,rfl⟩
  have o9:Own tyB 5 A7 C8 (subl (l.take ([]++List.replicate (2 * C) (0:UInt8)).length++([]++List.replicate (2 * C) (0:UInt8)).drop l.length) 0 (min l.length ([]++List.replicate (2 * C) (0:UInt8)).length:Nat)) s5:=by rw [eA7,eC8]; exact Own.cut o6 kQ kQ kQ kQ
  refine zai (zaZ (T:=tyB) (l:=l.take ([]++List.replicate (2 * C) (0:UInt8)).length++([]++List.replicate (2 * C) (0:UInt8)).drop l.length) 0 (min l.length ([]++List.replicate (2 * C) (0:UInt8)).length:Nat) C2 Z (zab Z Z) Z (by intro h; cases h) kQ kQ (zDe _) Z zaF Z eA7 (zal (l:=l.take ([]++List.replicate (2 * C) (0:UInt8)).length++([]++List.replicate (2 * C) (0:UInt8)).drop l.length) (i:=0) (j:=(min l.length ([]++List.replicate (2 * C) (0:UInt8)).length:Nat)) kQ) eC8) zg0 Z ?_
  have hlo9:(subl (l.take ([]++List.replicate (2 * C) (0:UInt8)).length++([]++List.replicate (2 * C) (0:UInt8)).drop l.length) 0 (min l.length ([]++List.replicate (2 * C) (0:UInt8)).length:Nat)).length=(min l.length ([]++List.replicate (2 * C) (0:UInt8)).length:Nat) - 0:=zal kQ
  refine a2 ?_
  refine zbv Z<|zbk zj5 Z Z zmw ?_
  rintro _ _ ⟨rfl,rfl⟩
  exact zaW (vs:=[.slice A7 (subl (l.take ([]++List.replicate (2 * C) (0:UInt8)).length++([]++List.replicate (2 * C) (0:UInt8)).drop l.length) 0 (min l.length ([]++List.replicate (2 * C) (0:UInt8)).length:Nat)).length C8]) [0] 1 Z Z Tryz.func161 Z ⟨Z,trivial⟩ (⟨⟨A7,C8,subl (l.take ([]++List.replicate (2 * C) (0:UInt8)).length++([]++List.replicate (2 * C) (0:UInt8)).drop l.length) 0 (min l.length ([]++List.replicate (2 * C) (0:UInt8)).length:Nat),s5,o9⟩,zmv l _ (by rw [hb3]; omega),by dsimp only; omega,Z,Z⟩)
 ·intro hc1
  try dsimp only at hc1
  refine a4 ?_
  refine AtL.nil ?_
  refine zjD (l:=[]) (m:=l.length + n) 0 zav Z Z (Own.nil tyB 5) kE kQ (by first | omega | (simp only [zC6,zC7,zC8]; omega) | (simp; done) | (simp; omega)) (by first | omega | (simp only [zC6,zC7,zC8]; omega) | (simp; done) | (simp; omega)) zg0 Z Z Z ?_
  intro A10 C11 s12 o13
  refine a2 ?_
  have hb3:([]++List.replicate (l.length + n) (0:UInt8)).length=l.length + n:=by simp
  refine a4 ?_
  refine zpY 0 Z zaF Z o13 (Rd.skip 1 h) zg0 Z Z Z ?_
  intro s14 o15
  refine zg5 (m:=(l.take ([]++List.replicate (l.length + n) (0:UInt8)).length++([]++List.replicate (l.length + n) (0:UInt8)).drop l.length).length) 6 Z (ze5 _ _)<|a2 ?_
  have hb2:(l.take ([]++List.replicate (l.length + n) (0:UInt8)).length++([]++List.replicate (l.length + n) (0:UInt8)).drop l.length).length=l.length + n:=by rw [ze5]; simp
  refine a4 ?_
  have hleo18:=Own.le_cap o15
  obtain ⟨A16,eA16⟩:∃ A16:Option Addr,A16=(if C11=0 then A10 else Option.map (fun a => a.add (0 * tyB.sz)) A10):=⟨_,rfl⟩
  obtain ⟨C17,eC17⟩:∃ C17:Nat,C17=C11 - 0:=⟨_,rfl⟩
  have o18:Own tyB 5 A16 C17 (subl (l.take ([]++List.replicate (l.length + n) (0:UInt8)).length++([]++List.replicate (l.length + n) (0:UInt8)).drop l.length) 0 (min l.length ([]++List.replicate (l.length + n) (0:UInt8)).length:Nat)) s14:=by rw [eA16,eC17]; exact Own.cut o15 kQ kQ kQ kQ
  refine zai (zaZ (T:=tyB) (l:=l.take ([]++List.replicate (l.length + n) (0:UInt8)).length++([]++List.replicate (l.length + n) (0:UInt8)).drop l.length) 0 (min l.length ([]++List.replicate (l.length + n) (0:UInt8)).length:Nat) C11 Z (zab Z Z) Z (by intro h; cases h) kQ kQ (zDe _) Z zaF Z eA16 (zal (l:=l.take ([]++List.replicate (l.length + n) (0:UInt8)).length++([]++List.replicate (l.length + n) (0:UInt8)).drop l.length) (i:=0) (j:=(min l.length ([]++List.replicate (l.length + n) (0:UInt8)).length:Nat)) kQ) eC17) zg0 Z ?_
  have hlo18:(subl (l.take ([]++List.replicate (l.length + n) (0:UInt8)).length++([]++List.replicate (l.length + n) (0:UInt8)).drop l.length) 0 (min l.length ([]++List.replicate (l.length + n) (0:UInt8)).length:Nat)).length=(min l.length ([]++List.replicate (l.length + n) (0:UInt8)).length:Nat) - 0:=zal kQ
  refine a2 ?_
  refine zbv Z<|zbk zj5 Z Z zmw ?_
  rintro _ _ ⟨rfl,rfl⟩
  exact zaW (vs:=[.slice A16 (subl (l.take ([]++List.replicate (l.length + n) (0:UInt8)).length++([]++List.replicate (l.length + n) (0:UInt8)).drop l.length) 0 (min l.length ([]++List.replicate (l.length + n) (0:UInt8)).length:Nat)).length C17]) [0] 1 Z Z Tryz.func161 Z ⟨Z,trivial⟩ (⟨⟨A16,C17,subl (l.take ([]++List.replicate (l.length + n) (0:UInt8)).length++([]++List.replicate (l.length + n) (0:UInt8)).drop l.length) 0 (min l.length ([]++List.replicate (l.length + n) (0:UInt8)).length:Nat),s14,o18⟩,zmv l _ (by rw [hb3]; omega),by dsimp only; omega,Z,Z⟩)
theorem zxl {y:Sl tyB 5}(n:Nat) (hl:y.l.length + n≤500000000) (ho:off≤y.l.length) :
  SCalls Tryz.prog 93 [.pointer (some ⟨b,2,none⟩),vV (n:Int)] w0 base (y.s::O0 b m br y.A y.l.length y.C (off:Int) 0 e::H) (fun v H' => ∃ (z:Sl tyB 5) (o' m' : Nat),o'≤m'∧m'≤y.l.length∧z.l.length=m' + n∧(z.l.take m').drop o' = y.l.drop off∧v=int (m' : Int)∧H' = z.s::O0 b m br z.A z.l.length z.C (o' : Int) 0 e::H):=by
 have hcap:=Own.cap_le y.own
 have hcap2:=Own.le_cap y.own
 refine zaa (n:=110) Tryz.func93 Z Z Z fun cs => ?_
 refine a7 ?_
 refine zca Z (zlv (y:=y) (off:=off) kQ kQ) ?_
 rintro _ _ ⟨rfl,rfl⟩
 refine a8 ?_
 refine AtL.join 6 (E':=[(19,.bool (decide ((((y.l.length - off:Nat):Int)=0)∧(¬ ((off:Int)=0))))),(0,.pointer (some ⟨b,2,none⟩)),(1,vV (n:Int)),(5,vV ((y.l.length - off:Nat):Int))]) (H':=y.s::O0 b m br y.A y.l.length y.C (off:Int) 0 e::H) (fun J => ?_) ?_
 ·refine zaK (t:=13) Z ?_ ?_
  ·intro hs13
   have hs13:((y.l.length - off:Nat):Int)=0:=zDf hs13
   refine a6 ?_
   exact J _ zej
  ·intro hs13
   have hs13:¬ (((y.l.length - off:Nat):Int)=0):=zDm hs13
   refine a6 ?_
   exact J _ zej
 ·refine a1 ?_
  refine zaT Z ?_ ?_
  ·intro hc1
   have hc1:(((y.l.length - off:Nat):Int)=0)∧(¬ ((off:Int)=0)):=zDf hc1
   refine a2 ?_
   refine zca Z (zmY (y:=y)) ?_
   rintro _ _ ⟨⟨A1,C2,l3,s4,o5⟩,h6,h7,rfl,rfl⟩
   obtain rfl:([]:yB)=l3:=h6.symm
   have hrc:=h7
   dsimp only at hrc
   refine a6 ?_
   refine zca Z (zn2 (y:=⟨A1,C2,([]:yB),s4,o5⟩) n (by first | omega | (simp only [zC6,zC7,zC8,subl]; omega) | (simp [subl]; done) | (simp [subl]; omega)) kQ) ?_
   rintro _ _ ⟨⟨A8,C9,l10,s11,o12⟩,ok13,k16,h14,h15,rfl,rfl⟩
   have hok1:=h14
   have hok2:=h15
   dsimp only at hok1 hok2
   refine a10 ?_
   refine zaT Z ?_ ?_
   ·intro hc2
    have hc2:ok13=true:=hc2
    obtain ⟨hzk,hzt,hzn⟩:=hok1 hc2
    refine a5 ?_
    have hd:y.l.drop off=[]:=zDn kQ
    try dsimp only [List.length_nil,List.take_zero] at hzt hzn
    exact zad Tryz.func93 Z Z (⟨⟨A8,C9,l10,s11,o12⟩,0,0,by omega,by omega,by dsimp only; omega,by rw [hd]; simp,zDh int (by rw [hzk]; rfl),Z⟩)
   ·intro hc2
    have hc2:ok13=false:=hc2
    obtain ⟨hzl,hzC⟩:=hok2 hc2
    try simp only [zC8] at hzC
    subst hzl
    refine a8 ?_
    refine zcy Z zg0 Z Z Z<|a1 ?_
    refine AtL.join 3 (E':=[(38,.bool (decide ((A8.isNone=true)∧((n:Int)≤64)))),(0,.pointer (some ⟨b,2,none⟩)),(1,vV (n:Int)),(5,vV ((y.l.length - off:Nat):Int))]) (H':=s11::[(b,.cells #[vV m,.bool br,.slice A8 ([]:yB).length C9,vV 0,.int .i8 0,vV e] 101 (0,0))]::H) (fun J => ?_) ?_
    ·refine zaK (t:=35) Z ?_ ?_
     ·intro hs35
      have hs35:A8.isNone=true:=hs35
      refine a3 ?_
      exact J _ zej
     ·intro hs35
      have hs35:A8.isNone=false:=hs35
      refine a3 ?_
      exact J _ zej
    ·refine a1 ?_
     refine zaT Z ?_ ?_
     ·intro hc3
      have hc3:(A8.isNone=true)∧((n:Int)≤64):=zDf hc3
      refine a4 ?_
      refine zg6 (n:=n) (c:=64) zav kE zg0 Z Z Z kQ kQ ?_
      intro A17 s18 o19 q20
      refine a8 ?_
      refine zpk [0,2] 3 ?_
      have hd:y.l.drop off=[]:=zDn kQ
      have hn0:=hd
      exact zad Tryz.func93 Z Z (⟨⟨A17,64,List.replicate n (0:UInt8),s18,o19⟩,0,0,by omega,by omega,by simp,by rw [hn0]; simp,zDh int (Z),Z⟩)
     ·intro hc3
      have hc3:¬ ((A8.isNone=true)∧((n:Int)≤64)):=zDm hc3
      refine a7 ?_
      refine zg7 Z zg0 Z Z<|a7 ?_
      refine zuT (z:=(C9:Int) / 2) zg0 Z Z Z kQ (zx1 kQ kQ kQ)<|a4 ?_
      refine zao false Z (zDl kQ)<|a9 ?_
      refine zao false Z (zDl kQ) ?_
      have hleo23:=Own.le_cap o12
      obtain ⟨A21,eA21⟩:∃ A21:Option Addr,A21=(if C9=0 then A8 else Option.map (fun a => a.add (0 * tyB.sz)) A8):=⟨_,rfl⟩
      obtain ⟨C22,eC22⟩:∃ C22:Nat,C22=C9 - 0:=⟨_,rfl⟩
      have o23:Own tyB 5 A21 C22 (subl ([]:yB) 0 ([]:yB).length) s11:=by rw [eA21,eC22]; exact Own.cut o12 kQ kQ kQ kQ
      refine zaN (es:=[16,19]) (pv:=[(0,.pointer (some ⟨b,2,none⟩)),(1,.pointer (some ⟨b,2,none⟩)),(2,.pointer (some ⟨b,2,none⟩)),(3,.pointer (some ⟨b,2,none⟩)),(4,.slice A8 ([]:yB).length C9),(5,.pointer (some ⟨b,2,none⟩)),(6,.pointer (some ⟨b,2,none⟩)),(7,.pointer (some ⟨b,3,none⟩)),(8,vV 0),(9,.slice A21 (subl ([]:yB) 0 ([]:yB).length).length C22),(10,.pointer (some ⟨b,2,none⟩)),(11,.pointer (some ⟨b,2,none⟩)),(12,.pointer (some ⟨b,3,none⟩)),(13,vV 0),(14,vV (n:Int)),(15,vV (0 + (n:Int)))]) zaz kW kW kW ?_
      refine ⟨zj4<|zj4<|zjz<|⟨zpr Z Z Z (zaZ (T:=tyB) (l:=([]:yB)) 0 ([]:yB).length C9 (zab Z Z) Z Z (by intro h; cases h) kQ kQ (zDe _) Z zaF Z eA21 (zal (l:=([]:yB)) (i:=0) (j:=([]:yB).length) kQ) eC22),zj4<|zjz<|⟨zpr Z Z Z (Do.add (z:=0 + (n:Int)) Z Z (w64 kQ kQ)),trivial⟩⟩,Z,Z,by kernel_rfl,_,Z,Z,Z,_,zbo zj7 Z (zmu (l:=subl ([]:yB) 0 ([]:yB).length) (o23.rd (i:=0) Z) (0 + n) kQ (by first | omega | (simp only [zC6,zC7,zC8,subl]; omega) | (simp [subl]; done) | (simp [subl]; omega)) kQ kQ),?_⟩
      rintro _ _ ⟨⟨A24,C25,l26,s27,o28⟩,h29,h30,rfl,rfl⟩
      obtain rfl:subl ([]:yB) 0 ([]:yB).length=l26:=h29.symm
      have hgs:=h30
      dsimp only at hgs
      refine ⟨[(17,.pointer (some ⟨b,2,none⟩)),(18,.pointer (some ⟨b,2,none⟩))],Z,?_⟩
      refine ⟨zj2<|zjz<|zk4<|zk4<|zk4<|zjk<|zjk<|zjk<|trivial,Z,Z,by kernel_rfl,_,Z,Z,Z,_,zaS (H':=s27::s11::[(b,.cells #[vV m,.bool br,.slice A24 (subl ([]:yB) 0 ([]:yB).length).length C25,vV 0,.int .i8 0,vV e] 101 (0,0))]::H) 2 0 zha Z Z Z Z Z Z Z Z Z,?_⟩
      rintro _ _ ⟨rfl,rfl⟩
      refine ⟨[],Z,?_⟩
      refine ⟨zk4<|zk4<|zk4<|zk4<|zjk<|zjk<|trivial,by kernel_rfl,?_⟩
      refine At.mono (E':=[(0,.pointer (some ⟨b,2,none⟩)),(1,vV (n:Int)),(5,vV ((y.l.length - off:Nat):Int))]) ⟨Z,Z,Z,trivial⟩<|a17 ?_
      have hz0:(subl ([]:yB) 0 ([]:yB).length).length=0:=by simp [subl]
      obtain ⟨r38,hr39,o40⟩:=Own.grow o28 (j:=(y.l.length - off) + n) kQ kQ
      obtain ⟨A41,eA41⟩:∃ A41:Option Addr,A41=(if C25=0 then A24 else Option.map (fun a => a.add (0 * tyB.sz)) A24):=⟨_,rfl⟩
      rw [← eA41] at o40
      refine zai (zaZ (T:=tyB) (l:=subl ([]:yB) 0 ([]:yB).length) (n':=((subl ([]:yB) 0 ([]:yB).length)++r38).length) (C':=C25) 0 ((y.l.length - off) + n) C25 Z (zab Z kQ) Z (by intro h; cases h) (zDq _) kQ (zDe _) Z zaF Z eA41 (by rw [zC6,hr39]; omega) kQ) zg0 Z<|a9 ?_
      refine zpk [0,2] 3 ?_
      have hd:y.l.drop off=[]:=zDn kQ
      exact zad Tryz.func93 Z Z (⟨⟨A41,C25,(subl ([]:yB) 0 ([]:yB).length)++r38,s27,o40⟩,0,0,by omega,by omega,by dsimp only; rw [List.length_append,hr39]; omega,by rw [hd]; simp,zDh int kQ,Z⟩)
  ·intro hc1
   have hc1:¬ ((((y.l.length - off:Nat):Int)=0)∧(¬ ((off:Int)=0))):=zDm hc1
   refine a6 ?_
   refine zca Z (zn2 (y:=y) n (by first | omega | (simp only [zC6,zC7,zC8,subl]; omega) | (simp [subl]; done) | (simp [subl]; omega)) kQ) ?_
   rintro _ _ ⟨⟨A42,C43,l44,s45,o46⟩,ok47,k50,h48,h49,rfl,rfl⟩
   have hok1:=h48
   have hok2:=h49
   dsimp only at hok1 hok2
   refine a10 ?_
   refine zaT Z ?_ ?_
   ·intro hc2
    have hc2:ok47=true:=hc2
    obtain ⟨hzk,hzt,hzn⟩:=hok1 hc2
    refine a5 ?_
    try dsimp only [List.length_nil,List.take_zero] at hzt hzn
    exact zad Tryz.func93 Z Z (⟨⟨A42,C43,l44,s45,o46⟩,off,y.l.length,by omega,by omega,hzn,by dsimp only; rw [hzt],zDh int (by rw [hzk]),Z⟩)
   ·intro hc2
    have hc2:ok47=false:=hc2
    obtain ⟨hzl,hzC⟩:=hok2 hc2
    try simp only [zC8] at hzC
    subst hzl
    refine a8 ?_
    refine zcy Z zg0 Z Z Z<|a1 ?_
    refine AtL.join 3 (E':=[(38,.bool (decide ((A42.isNone=true)∧((n:Int)≤64)))),(0,.pointer (some ⟨b,2,none⟩)),(1,vV (n:Int)),(5,vV ((y.l.length - off:Nat):Int))]) (H':=s45::O0 b m br A42 y.l.length C43 (off:Int) 0 e::H) (fun J => ?_) ?_
    ·refine zaK (t:=35) Z ?_ ?_
     ·intro hs35
      have hs35:A42.isNone=true:=hs35
      refine a3 ?_
      exact J _ zej
     ·intro hs35
      have hs35:A42.isNone=false:=hs35
      refine a3 ?_
      exact J _ zej
    ·refine a1 ?_
     refine zaT Z ?_ ?_
     ·intro hc3
      have hc3:(A42.isNone=true)∧((n:Int)≤64):=zDf hc3
      refine a4 ?_
      refine zg6 (n:=n) (c:=64) zav kE zg0 Z Z Z kQ kQ ?_
      intro A51 s52 o53 q54
      refine a8 ?_
      refine zpk [0,2] 3 ?_
      have hy0:y.l.length=0:=by rw [zm5 o46 (by simpa using hc3.1)]; rfl
      have hn0:y.l.drop off=[]:=by rw [zDk (l:=y.l) kQ]; simp
      exact zad Tryz.func93 Z Z (⟨⟨A51,64,List.replicate n (0:UInt8),s52,o53⟩,off,0,by omega,by omega,by simp,by rw [hn0]; simp,zDh int (Z),Z⟩)
     ·intro hc3
      have hc3:¬ ((A42.isNone=true)∧((n:Int)≤64)):=zDm hc3
      refine a7 ?_
      refine zg7 Z zg0 Z Z<|a7 ?_
      refine zuT (z:=(C43:Int) / 2) zg0 Z Z Z kQ (zx1 kQ kQ kQ)<|a4 ?_
      refine zaT Z ?_ ?_
      ·intro hc4
       have hc4:(n:Int)≤(((C43:Int) / 2) - ((y.l.length - off:Nat):Int)):=zDf hc4
       have hleo57:=Own.le_cap o46
       obtain ⟨A55,eA55⟩:∃ A55:Option Addr,A55=(if C43=off then A42 else Option.map (fun a => a.add (off * tyB.sz)) A42):=⟨_,rfl⟩
       obtain ⟨C56,eC56⟩:∃ C56:Nat,C56=C43 - off:=⟨_,rfl⟩
       have o57:Own tyB 5 A55 C56 (subl y.l off y.l.length) s45:=by rw [eA55,eC56]; exact Own.cut o46 kQ kQ kQ kQ
       refine zaN (es:=[13]) (pv:=[(0,.pointer (some ⟨b,2,none⟩)),(1,.pointer (some ⟨b,2,none⟩)),(2,.pointer (some ⟨b,2,none⟩)),(3,.slice A42 y.l.length C43),(4,.pointer (some ⟨b,2,none⟩)),(5,.pointer (some ⟨b,2,none⟩)),(6,.pointer (some ⟨b,2,none⟩)),(7,.slice A42 y.l.length C43),(8,.pointer (some ⟨b,2,none⟩)),(9,.pointer (some ⟨b,2,none⟩)),(10,.pointer (some ⟨b,3,none⟩)),(11,vV (off:Int)),(12,.slice A55 (subl y.l off y.l.length).length C56)]) zaz kW kW kW ?_
       refine ⟨zj4<|zj4<|zj4<|⟨zpr Z Z Z (zaZ (T:=tyB) (l:=y.l) off y.l.length C43 (zab Z Z) Z Z (by intro h; cases h) kQ kQ (zDe _) Z zaF Z eA55 (zal (l:=y.l) (i:=off) (j:=y.l.length) kQ) eC56),trivial⟩,Z,Z,by kernel_rfl,_,Z,Z,Z,_,zuS 0 Z zaF Z o46 (o57.rd (i:=0) Z) Z Z,?_⟩
       rintro _ _ ⟨s58,o59,rfl,rfl⟩
       refine ⟨[],Z,?_⟩
       refine ⟨zk4<|zk4<|zk4<|zjk<|trivial,by kernel_rfl,?_⟩
       refine zC5 (H':=s58::[(b,.cells #[vV m,.bool br,.slice A42 ((subl y.l off y.l.length).take y.l.length++y.l.drop (subl y.l off y.l.length).length).length C43,vV (off:Int),.int .i8 0,vV e] 101 (0,0))]::H) (by first | (rw [show ((subl y.l off y.l.length).take y.l.length++y.l.drop (subl y.l off y.l.length).length).length=y.l.length from (ze5 _ _)]; done) | (rw [show ((subl y.l off y.l.length).take y.l.length++y.l.drop (subl y.l off y.l.length).length).length=y.l.length from (ze5 _ _)]; rfl))<|At.mono (E':=[(0,.pointer (some ⟨b,2,none⟩)),(1,vV (n:Int)),(5,vV ((y.l.length - off:Nat):Int))]) ⟨Z,Z,Z,trivial⟩ ?_
       have hb4:((subl y.l off y.l.length).take y.l.length++y.l.drop (subl y.l off y.l.length).length).length=y.l.length:=ze5 _ _
       refine a17 ?_
       have hleo64:=Own.le_cap o59
       obtain ⟨A62,eA62⟩:∃ A62:Option Addr,A62=(if C43=0 then A42 else Option.map (fun a => a.add (0 * tyB.sz)) A42):=⟨_,rfl⟩
       obtain ⟨C63,eC63⟩:∃ C63:Nat,C63=C43 - 0:=⟨_,rfl⟩
       have o64:Own tyB 5 A62 C63 (subl ((subl y.l off y.l.length).take y.l.length++y.l.drop (subl y.l off y.l.length).length) 0 ((y.l.length - off:Nat) + n)) s58:=by rw [eA62,eC63]; exact Own.cut o59 kQ kQ kQ kQ
       refine zai (zaZ (T:=tyB) (l:=(subl y.l off y.l.length).take y.l.length++y.l.drop (subl y.l off y.l.length).length) 0 ((y.l.length - off:Nat) + n) C43 Z (zab Z Z) Z (by intro h; cases h) kQ kQ (zDe _) Z zaF Z eA62 (zal (l:=(subl y.l off y.l.length).take y.l.length++y.l.drop (subl y.l off y.l.length).length) (i:=0) (j:=((y.l.length - off:Nat) + n)) kQ) eC63) zg0 Z ?_
       have hlo64:(subl ((subl y.l off y.l.length).take y.l.length++y.l.drop (subl y.l off y.l.length).length) 0 ((y.l.length - off:Nat) + n)).length=((y.l.length - off:Nat) + n) - 0:=zal kQ
       refine a9 ?_
       have hsl:(subl y.l off y.l.length).length=y.l.length - off:=zal (zDe _)
       exact zad Tryz.func93 Z Z (⟨⟨A62,C63,subl ((subl y.l off y.l.length).take y.l.length++y.l.drop (subl y.l off y.l.length).length) 0 ((y.l.length - off:Nat) + n),s58,o64⟩,0,y.l.length - off,by omega,by omega,by dsimp only; rw [zal kQ]; omega,by dsimp only; rw [zbK,List.drop_zero,List.take_take,Nat.min_eq_left kQ,List.take_append_of_le_length (by rw [List.length_take]; omega),zDc (by rw [zDs]; omega),zDc kQ,zbx],zDh int (Z),Z⟩)
      ·intro hc4
       have hc4:¬ ((n:Int)≤(((C43:Int) / 2) - ((y.l.length - off:Nat):Int))):=zDm hc4
       refine a9 ?_
       refine zao false Z (zDl kQ) ?_
       have hleo67:=Own.le_cap o46
       obtain ⟨A65,eA65⟩:∃ A65:Option Addr,A65=(if C43=off then A42 else Option.map (fun a => a.add (off * tyB.sz)) A42):=⟨_,rfl⟩
       obtain ⟨C66,eC66⟩:∃ C66:Nat,C66=C43 - off:=⟨_,rfl⟩
       have o67:Own tyB 5 A65 C66 (subl y.l off y.l.length) s45:=by rw [eA65,eC66]; exact Own.cut o46 kQ kQ kQ kQ
       refine zaN (es:=[16,19]) (pv:=[(0,.pointer (some ⟨b,2,none⟩)),(1,.pointer (some ⟨b,2,none⟩)),(2,.pointer (some ⟨b,2,none⟩)),(3,.pointer (some ⟨b,2,none⟩)),(4,.slice A42 y.l.length C43),(5,.pointer (some ⟨b,2,none⟩)),(6,.pointer (some ⟨b,2,none⟩)),(7,.pointer (some ⟨b,3,none⟩)),(8,vV (off:Int)),(9,.slice A65 (subl y.l off y.l.length).length C66),(10,.pointer (some ⟨b,2,none⟩)),(11,.pointer (some ⟨b,2,none⟩)),(12,.pointer (some ⟨b,3,none⟩)),(13,vV (off:Int)),(14,vV (n:Int)),(15,vV ((off:Int) + (n:Int)))]) zaz kW kW kW ?_
       refine ⟨zj4<|zj4<|zjz<|⟨zpr Z Z Z (zaZ (T:=tyB) (l:=y.l) off y.l.length C43 (zab Z Z) Z Z (by intro h; cases h) kQ kQ (zDe _) Z zaF Z eA65 (zal (l:=y.l) (i:=off) (j:=y.l.length) kQ) eC66),zj4<|zjz<|⟨zpr Z Z Z (Do.add (z:=(off:Int) + (n:Int)) Z Z (w64 kQ kQ)),trivial⟩⟩,Z,Z,by kernel_rfl,_,Z,Z,Z,_,zbo zj7 Z (zmu (l:=subl y.l off y.l.length) (o67.rd (i:=0) Z) (off + n) kQ (by first | omega | (simp only [zC6,zC7,zC8,subl]; omega) | (simp [subl]; done) | (simp [subl]; omega)) kQ kQ),?_⟩
       rintro _ _ ⟨⟨A68,C69,l70,s71,o72⟩,h73,h74,rfl,rfl⟩
       obtain rfl:subl y.l off y.l.length=l70:=h73.symm
       have hgs:=h74
       dsimp only at hgs
       refine ⟨[(17,.pointer (some ⟨b,2,none⟩)),(18,.pointer (some ⟨b,2,none⟩))],Z,?_⟩
       refine ⟨zj2<|zjz<|zk4<|zk4<|zk4<|zjk<|zjk<|zjk<|trivial,Z,Z,by kernel_rfl,_,Z,Z,Z,_,zaS (H':=s71::s45::[(b,.cells #[vV m,.bool br,.slice A68 (subl y.l off y.l.length).length C69,vV (off:Int),.int .i8 0,vV e] 101 (0,0))]::H) 2 0 zha Z Z Z Z Z Z Z Z Z,?_⟩
       rintro _ _ ⟨rfl,rfl⟩
       refine ⟨[],Z,?_⟩
       refine ⟨zk4<|zk4<|zk4<|zk4<|zjk<|zjk<|trivial,by kernel_rfl,?_⟩
       refine At.mono (E':=[(0,.pointer (some ⟨b,2,none⟩)),(1,vV (n:Int)),(5,vV ((y.l.length - off:Nat):Int))]) ⟨Z,Z,Z,trivial⟩<|a17 ?_
       have hsl0:(subl y.l off y.l.length).length=y.l.length - off:=zal (zDe _)
       obtain ⟨r82,hr83,o84⟩:=Own.grow o72 (j:=(y.l.length - off) + n) kQ kQ
       obtain ⟨A85,eA85⟩:∃ A85:Option Addr,A85=(if C69=0 then A68 else Option.map (fun a => a.add (0 * tyB.sz)) A68):=⟨_,rfl⟩
       rw [← eA85] at o84
       refine zai (zaZ (T:=tyB) (l:=subl y.l off y.l.length) (n':=((subl y.l off y.l.length)++r82).length) (C':=C69) 0 ((y.l.length - off) + n) C69 Z (zab Z kQ) Z (by intro h; cases h) (zDq _) kQ (zDe _) Z zaF Z eA85 (by rw [zC6,hr83]; omega) kQ) zg0 Z<|a9 ?_
       refine zpk [0,2] 3 ?_
       have hsl:(subl y.l off y.l.length).length=y.l.length - off:=zal (zDe _)
       exact zad Tryz.func93 Z Z (⟨⟨A85,C69,(subl y.l off y.l.length)++r82,s71,o84⟩,0,y.l.length - off,by omega,by omega,by dsimp only; rw [List.length_append,hr83,hsl]; omega,by dsimp only; rw [List.drop_zero,List.take_append_of_le_length kQ,List.take_of_length_le kQ,zbx],zDh int (Z),Z⟩)
theorem zov (z p:yB) (k:Nat) (h:z.length=k + p.length):z.take k++p.take (subl z k z.length).length++z.drop (k + min p.length (subl z k z.length).length)=z.take k++p:=by
 have h1:(subl z k z.length).length=p.length:=by simp_all [zal,zDe]
 grind
theorem zqM {y:Sl tyB 5}(h:Rd tyB w0 base H A C l) (hl:y.l.length + l.length≤500000000) (ho:off≤y.l.length) :
  SCalls Tryz.prog 38 [.pointer (some ⟨b,2,none⟩),.slice A l.length C] w0 base (y.s::O0 b m br y.A y.l.length y.C (off:Int) lr e::H) (fun v H' => ∃ (z:Sl tyB 5) (o' : Nat),o'≤z.l.length∧z.l.drop o' = y.l.drop off++l∧z.l.length≤y.l.length + l.length∧v = .tuple #[int (l.length:Int),.nilIface]∧H' = z.s::O0 b m br z.A z.l.length z.C (o' : Int) 0 e::H):=by
 refine zaa (n:=32) Tryz.func38 Z Z Z fun cs => ?_
 refine a17 ?_
 refine zca Z (zn2 (y:=y) l.length (by first | omega | (simp only [zC6,zC7,zC8]; omega) | (simp; done) | (simp; omega)) kQ) ?_
 rintro _ _ ⟨⟨A1,C2,l3,s4,o5⟩,ok6,k9,h7,h8,rfl,rfl⟩
 have hok1:=h7
 have hok2:=h8
 dsimp only at hok1 hok2
 refine a12 ?_
 refine zaT Z ?_ ?_
 ·intro hc1
  have hc1:ok6=false:=zat hc1
  obtain ⟨hzl,hzC⟩:=hok2 hc1
  subst hzl
  refine a4 ?_
  refine zca Z (zxl (y:=⟨A1,C2,y.l,s4,o5⟩) (off:=off) l.length kO kO) ?_
  rintro _ _ ⟨⟨A10,C11,l12,s13,o14⟩,p15,m16,h17,h18,h19,h20,rfl,rfl⟩
  have hg1:=h17
  have hg2:=h18
  have hg3:=h19
  have hg4:=h20
  dsimp only at hg2 hg3 hg4
  refine a9 ?_
  have hleo23:=Own.le_cap o14
  obtain ⟨A21,eA21⟩:∃ A21:Option Addr,A21=(if C11=m16 then A10 else Option.map (fun a => a.add (m16 * tyB.sz)) A10):=⟨_,rfl⟩
  obtain ⟨C22,eC22⟩:∃ C22:Nat,C22=C11 - m16:=⟨_,rfl⟩
  have o23:Own tyB 5 A21 C22 (subl l12 m16 l12.length) s13:=by rw [eA21,eC22]; exact Own.cut o14 kQ kQ kQ kQ
  refine zai (zaZ (T:=tyB) (l:=l12) m16 l12.length C11 (zab Z Z) Z Z (by intro h; cases h) kQ kQ (zDe _) Z zaF Z eA21 (zal (l:=l12) (i:=m16) (j:=l12.length) kQ) eC22) zg0 Z ?_
  have hlo23:(subl l12 m16 l12.length).length=l12.length - m16:=zal kQ
  refine a1 ?_
  refine AtL.of (znd (j:=m16) 0 Z zaF Z o14 eA21 (by have:=Own.le_cap o14; simp only [zal (zDe _)]; omega) (by simp only [zal (zDe _)]; omega) (Rd.skip 2 h) Z Z) zg0 Z ?_
  rintro _ _ ⟨s24,o25,rfl,rfl⟩
  refine zlI (H':=s24::[(b,.cells #[vV m,.bool br,.slice A10 (l12.take m16++l.take (subl l12 m16 l12.length).length++l12.drop (m16 + min l.length (subl l12 m16 l12.length).length)).length C11,vV (p15:Int),.int .i8 0,vV e] 101 (0,0))]::H) (by first | (rw [show (l12.take m16++l.take (subl l12 m16 l12.length).length++l12.drop (m16 + min l.length (subl l12 m16 l12.length).length)).length=l12.length from kP]; done) | (rw [show (l12.take m16++l.take (subl l12 m16 l12.length).length++l12.drop (m16 + min l.length (subl l12 m16 l12.length).length)).length=l12.length from kP]; rfl))<|a3 ?_
  have hm:min l.length (subl l12 m16 l12.length).length=l.length:=by rw [zal (zDe _)]; omega
  have hL:=zov l12 l m16 kQ
  have hgt:(l12.take m16).length=m16:=by rw [zDs]; omega
  exact zad Tryz.func38 Z Z (⟨⟨A10,C11,l12.take m16++l.take (subl l12 m16 l12.length).length++l12.drop (m16 + min l.length (subl l12 m16 l12.length).length),s24,o25⟩,p15,by dsimp only; rw [hL,List.length_append,hgt]; omega,by dsimp only; rw [hL,List.drop_append_of_le_length kQ,hg4],by dsimp only; rw [hL,List.length_append,hgt]; omega,by dsimp only [zc3]; rw [hm],Z⟩)
 ·intro hc1
  have hc1:ok6=true:=zas hc1
  obtain ⟨hzk,hzt,hzn⟩:=hok1 hc1
  refine a8 ?_
  have hleo28:=Own.le_cap o5
  obtain ⟨A26,eA26⟩:∃ A26:Option Addr,A26=(if C2=k9 then A1 else Option.map (fun a => a.add (k9 * tyB.sz)) A1):=⟨_,rfl⟩
  obtain ⟨C27,eC27⟩:∃ C27:Nat,C27=C2 - k9:=⟨_,rfl⟩
  have o28:Own tyB 5 A26 C27 (subl l3 k9 l3.length) s4:=by rw [eA26,eC27]; exact Own.cut o5 kQ kQ kQ kQ
  refine zai (zaZ (T:=tyB) (l:=l3) k9 l3.length C2 (zab Z Z) Z Z (by intro h; cases h) kQ kQ (zDe _) Z zaF Z eA26 (zal (l:=l3) (i:=k9) (j:=l3.length) kQ) eC27) zg0 Z ?_
  have hlo28:(subl l3 k9 l3.length).length=l3.length - k9:=zal kQ
  refine a1 ?_
  refine AtL.of (znd (j:=k9) 0 Z zaF Z o5 eA26 (by have:=Own.le_cap o5; simp only [zal (zDe _)]; omega) (by simp only [zal (zDe _)]; omega) (Rd.skip 2 h) Z Z) zg0 Z ?_
  rintro _ _ ⟨s29,o30,rfl,rfl⟩
  refine zlI (H':=s29::[(b,.cells #[vV m,.bool br,.slice A1 (l3.take k9++l.take (subl l3 k9 l3.length).length++l3.drop (k9 + min l.length (subl l3 k9 l3.length).length)).length C2,vV (off:Int),.int .i8 0,vV e] 101 (0,0))]::H) (by first | (rw [show (l3.take k9++l.take (subl l3 k9 l3.length).length++l3.drop (k9 + min l.length (subl l3 k9 l3.length).length)).length=l3.length from kP]; done) | (rw [show (l3.take k9++l.take (subl l3 k9 l3.length).length++l3.drop (k9 + min l.length (subl l3 k9 l3.length).length)).length=l3.length from kP]; rfl))<|a3 ?_
  have hm:min l.length (subl l3 k9 l3.length).length=l.length:=by rw [zal (zDe _)]; omega
  have hL:=zov l3 l k9 kQ
  exact zad Tryz.func38 Z Z (⟨⟨A1,C2,l3.take k9++l.take (subl l3 k9 l3.length).length++l3.drop (k9 + min l.length (subl l3 k9 l3.length).length),s29,o30⟩,off,by dsimp only; rw [hL,hzk,hzt,List.length_append]; omega,by dsimp only; rw [hL,hzk,hzt,List.drop_append_of_le_length ho],by dsimp only; rw [hL,hzk,hzt,List.length_append]; omega,by dsimp only [zc3]; rw [hm],Z⟩)
theorem zpI {y:Sl tyB 5}(n:Nat) (hl:y.l.length≤500000000) (ho:off + n≤y.l.length) :
  SCalls Tryz.prog 96 [.pointer (some ⟨b,2,none⟩),vV (n:Int)] w0 base (y.s::O0 b m br y.A y.l.length y.C (off:Int) lr e::H) (fun v H' => ∃ A' C' lr',Own tyB 5 A' C' (subl y.l off (off + n)) y.s∧v = .slice A' (subl y.l off (off + n)).length C'∧H' = y.s::O0 b m br y.A y.l.length y.C ((off:Int) + (n:Int)) (lr' : Int) e::H):=by
 refine zaa (n:=45) Tryz.func96 Z Z Z fun cs => ?_
 refine a14 ?_
 refine zca Z (zlv (y:=y) (off:=off) kQ kQ) ?_
 rintro _ _ ⟨rfl,rfl⟩
 refine a9 ?_
 refine zao false Z (zDl kQ)<|a2 ?_
 have hleo3:=Own.le_cap y.own
 obtain ⟨A1,eA1⟩:∃ A1:Option Addr,A1=(if y.C=off then y.A else Option.map (fun a => a.add (off * tyB.sz)) y.A):=⟨_,rfl⟩
 obtain ⟨C2,eC2⟩:∃ C2:Nat,C2=y.C - off:=⟨_,rfl⟩
 have o3:Own tyB 5 A1 C2 (subl y.l off (off + n)) y.s:=by rw [eA1,eC2]; exact Own.cut y.own kQ kQ kQ kQ
 refine zaN (es:=[]) (pv:=[(0,.pointer (some ⟨b,2,none⟩)),(1,.pointer (some ⟨b,2,none⟩)),(2,.pointer (some ⟨b,2,none⟩)),(3,.slice y.A y.l.length y.C),(4,.pointer (some ⟨b,2,none⟩)),(5,.pointer (some ⟨b,2,none⟩)),(6,.pointer (some ⟨b,3,none⟩)),(7,vV (off:Int)),(8,.pointer (some ⟨b,2,none⟩)),(9,.pointer (some ⟨b,2,none⟩)),(10,.pointer (some ⟨b,3,none⟩)),(11,vV (off:Int)),(12,vV (n:Int)),(13,vV ((off:Int) + (n:Int))),(14,.slice A1 (subl y.l off (off + n)).length C2),(15,.slice A1 (subl y.l off (off + n)).length C2)]) zaz kW kW kW ?_
 refine ⟨zj4<|zj4<|zj4<|zjz<|⟨zpr Z Z Z (Do.add (z:=(off:Int) + (n:Int)) Z Z (w64 kQ kQ)),⟨zpr Z Z Z (zaZ (T:=tyB) (l:=y.l) off (off + n) y.C (zab Z Z) (zab Z Z) Z (by intro h; cases h) kQ kQ (zDe _) Z zaF Z eA1 (zal (l:=y.l) (i:=off) (j:=(off + n)) kQ) eC2),zjz<|trivial⟩⟩,by kernel_rfl,?_⟩
 refine At.mono (E':=[(0,.pointer (some ⟨b,2,none⟩)),(1,vV (n:Int)),(6,.slice A1 (subl y.l off (off + n)).length C2)]) ⟨Z,Z,Z,trivial⟩<|a18 ?_
 refine zac Z ?_ ?_
 ·intro hc2
  try dsimp only at hc2
  refine a11 ?_
  exact zad Tryz.func96 Z Z (⟨_,_,_,o3,Z,Z⟩)
 ·intro hc2
  try dsimp only at hc2
  refine a6 ?_
  exact zad Tryz.func96 Z Z (⟨_,_,_,o3,Z,Z⟩)
theorem zqN (h:Rd tyB w0 base H A C l) (hl:l.length≤140737488355000) :
  SCalls Tryz.prog 97 [.slice A l.length C] w0 base (H) (fun v H' => ∃ x:Sl tyB 5,x.l=l∧v = .slice x.A x.l.length x.C∧H' = x.s::H):=by
 refine zaa (n:=8) Tryz.func97 Z Z Z fun cs => ?_
 refine a8 ?_
 refine zcy Z zg0 Z Z Z<|a1 ?_
 refine zaT Z ?_ ?_
 ·intro hc1
  have hc1:A.isNone=true:=hc1
  have hA:A=none:=by simpa using hc1
  have hl0:l=[]:=zDk (by have:=h.le; have:=h.nil hA; omega)
  refine a4 ?_
  refine At.nil ?_
  exact zad Tryz.func97 Z Z (⟨Sl.nil,hl0.symm,Z,Z⟩)
 ·intro hc1
  have hc1:A.isNone=false:=hc1
  refine a3 ?_
  refine zae (cs:=[]) Z zbO zaF Z Z zg0 Z Z Z ?_
  intro b1
  refine zau tyB (l:=([]:yB)) Z Z kT ?_
  intro s2 o3
  refine a1 ?_
  refine zap (l:=[]) (news:=l) 0 zav Z o3 (Rd.skip 1 h) (by first | omega | (simp only [zC6,zC7,zC8]; omega) | (simp; done) | (simp; omega)) zg0 Z Z Z ?_
  intro A4 C5 s6 o7
  refine a2 ?_
  exact zad Tryz.func97 Z Z (⟨⟨A4,C5,[]++l,s6,o7⟩,Z,Z,Z⟩)
theorem zsn {y:Sl tyB 5}:
  SCalls Tryz.prog 37 [pB b] w0 base (O0 b m br y.A y.l.length y.C (off:Int) lr e::H) (fun v H' => v = .bool (decide (m=0))∧H' = (O0 b m br y.A y.l.length y.C (off:Int) lr e)::H):=by
 refine zaa (n:=12) Tryz.func37 Z Z Z fun cs => ?_
 refine a7 ?_
 refine zcN Z zg0 Z Z Z<|a9 ?_
 exact zad Tryz.func37 Z Z (⟨Z,Z⟩)
def fszF (c:yB):Nat:=256 * (c.getD 0 0).toNat + (c.getD 1 0).toNat
theorem zkS {i:Nat}(h:i≤c.length):(subl c i c.length).length=c.length - i:=zal (zDe _)
structure FrS where
  e:Int
  n:Nat
def frS (most:Int) (c:yB):FrS :=
 if c.length < 2 then ⟨0,0⟩ else if fszF c < 12 then ⟨4,0⟩ else if most < (fszF c:Int) then ⟨3,0⟩ else if c.length < fszF c + 2 then ⟨0,0⟩ else ⟨0,fszF c⟩
theorem zqJ (most:Int) (c:yB):((frS most c).n≠0→(frS most c).e=0∧12≤(frS most c).n∧(frS most c).n + 2≤c.length∧(frS most c).n=fszF c):=by
 grind [frS]
structure FrmR where
  out:List yB
  e:Int
  rest:yB
def frF (most:Int) (c:yB):FrmR :=
 if (frS most c).e≠0 then ⟨[],(frS most c).e,[]⟩
 else if hn:(frS most c).n=0 then ⟨[],0,c⟩
 else ⟨subl c 2 (2 + (frS most c).n)::(frF most (c.drop (2 + (frS most c).n))).out,(frF most (c.drop (2 + (frS most c).n))).e,(frF most (c.drop (2 + (frS most c).n))).rest⟩
termination_by c.length
decreasing_by grind [zqJ]
theorem zls (h:(frS most c).e≠0):frF most c=⟨[],(frS most c).e,[]⟩:=by rw [frF,zDi h]
theorem ziq (h:(frS most c).e=0) (hn:(frS most c).n=0):frF most c=⟨[],0,c⟩:=by simp_all [frF,zDb,dif_pos]
theorem zgS (hn:(frS most c).n≠0):frF most c=⟨subl c 2 (2 + (frS most c).n)::(frF most (c.drop (2 + (frS most c).n))).out,(frF most (c.drop (2 + (frS most c).n))).e,(frF most (c.drop (2 + (frS most c).n))).rest⟩:=by
 have:=zqJ most c hn
 conv => lhs; rw [frF,zDb kQ,dif_neg hn]
theorem zzU (c:yB):fszF c≤65535:=by
 unfold fszF
 have:=(c.getD 0 0).toNat_lt
 have:=(c.getD 1 0).toNat_lt
 omega
theorem zyO {y:Sl tyB 5}(hl:y.l.length≤500000000) (ho:off≤y.l.length) :
  SCalls Tryz.prog 95 [pB b] w0 base (y.s::O0 b m br y.A y.l.length y.C (off:Int) lr e::H) (fun v H' => v = .tuple #[int (if 2≤(y.l.drop off).length then (fszF (y.l.drop off):Int) else 0),.bool (if 2≤(y.l.drop off).length then true else false)]∧H' = y.s::O0 b m br y.A y.l.length y.C (off:Int) lr e::H):=by
 refine zaa (n:=22) Tryz.func95 Z Z Z fun cs => ?_
 refine a10 ?_
 refine zca Z (zun (y:=y) (off:=off) kO kO) ?_
 rintro _ _ ⟨A1,C2,o3,rfl,rfl⟩
 refine a2 ?_
 have hlen:=zkS ho
 refine a7 ?_
 refine zac Z ?_ ?_
 ·intro hc1
  try dsimp only at hc1
  refine a5 ?_
  have hc0:subl y.l off y.l.length=y.l.drop off:=zbx _ _
  have hlen:(y.l.drop off).length=y.l.length - off:=zDK
  exact zad Tryz.func95 Z Z (⟨by rw [zDb (show ¬ 2≤(y.l.drop off).length by omega),zDb kQ]; rfl,Z⟩)
 ·intro hc1
  try dsimp only at hc1
  refine a2 ?_
  have hB4:=zeh (((subl y.l off y.l.length).getD 0 0))
  have hB5:=zeh (((subl y.l off y.l.length).getD 1 0))
  refine zaN (es:=[]) (pv:=[(0,.slice A1 (subl y.l off y.l.length).length C2),(1,.pointer (some (zdt A1 (0 * tyB.sz)))),(2,.int .u8 (((subl y.l off y.l.length).getD 0 0).toNat:Int)),(3,vV (((subl y.l off y.l.length).getD 0 0).toNat:Int)),(4,vV ((((subl y.l off y.l.length).getD 0 0).toNat:Int) * 256)),(5,.slice A1 (subl y.l off y.l.length).length C2),(6,.pointer (some (zdt A1 (1 * tyB.sz)))),(7,.int .u8 (((subl y.l off y.l.length).getD 1 0).toNat:Int)),(8,vV (((subl y.l off y.l.length).getD 1 0).toNat:Int)),(9,vV (((((subl y.l off y.l.length).getD 0 0).toNat:Int) * 256) + (((subl y.l off y.l.length).getD 1 0).toNat:Int))),(10,vV (((((subl y.l off y.l.length).getD 0 0).toNat:Int) * 256) + (((subl y.l off y.l.length).getD 1 0).toNat:Int))),(11,.bool true)]) zaz kW kW kW ?_
  refine ⟨zjz<|⟨zpr Z Z Z (zju 0 (o3.rd (i:=0) Z) Z zaF Z Z Z kQ),⟨zpr Z Z Z (zdV (v:=.int .u8 (((subl y.l off y.l.length).getD 0 0).toNat:Int)) zcP Z (zaL (o3.rd (i:=0) Z) (getD_some 0 kQ) Z)),⟨zpr Z Z Z (zda (z:=(((subl y.l off y.l.length).getD 0 0).toNat:Int)) Z Z Z (zcG _)),⟨zpr Z Z Z (zys (z:=(((subl y.l off y.l.length).getD 0 0).toNat:Int) * 256) Z Z kQ (ziK _ _ 8 Z kE _ kE kQ kQ)),zjz<|⟨zpr Z Z Z (zju 1 (o3.rd (i:=0) Z) Z zaF Z Z Z kQ),⟨zpr Z Z Z (zdV (v:=.int .u8 (((subl y.l off y.l.length).getD 1 0).toNat:Int)) zcP Z (zaL (o3.rd (i:=0) Z) (getD_some 0 kQ) Z)),⟨zpr Z Z Z (zda (z:=(((subl y.l off y.l.length).getD 1 0).toNat:Int)) Z Z Z (zcG _)),⟨zpr Z Z Z (zyv (z:=((((subl y.l off y.l.length).getD 0 0).toNat:Int) * 256) + (((subl y.l off y.l.length).getD 1 0).toNat:Int)) Z Z (zhK 8 (Int.toNat (((subl y.l off y.l.length).getD 0 0).toNat:Int)) _ kQ Z kQ kQ)),zj2<|trivial⟩⟩⟩⟩⟩⟩⟩⟩,by kernel_rfl,?_⟩
  refine At.mono (E':=[(2,vV (((((subl y.l off y.l.length).getD 0 0).toNat:Int) * 256) + (((subl y.l off y.l.length).getD 1 0).toNat:Int))),(3,.bool true)]) ⟨Z,Z,trivial⟩ ?_
  have hc0:subl y.l off y.l.length=y.l.drop off:=zbx _ _
  have hlen:(y.l.drop off).length=y.l.length - off:=zDK
  exact zad Tryz.func95 Z Z (⟨by rw [zDi (show 2≤(y.l.drop off).length by omega),zDi (show 2≤(y.l.drop off).length by omega),← hc0]; exact zDh (fun z => Value.tuple #[int z,.bool true]) (by unfold fszF; omega),Z⟩)
theorem zzH {y:Sl tyB 5}(hl:y.l.length≤500000000) (ho:off≤y.l.length) (hm:m≠0) :
  SCalls Tryz.prog 15 [pB b] w0 base (y.s::O0 b m br y.A y.l.length y.C (off:Int) lr e::H) (fun v H' => v=int ((y.l.drop off).length:Int)∧H' = y.s::O0 b m br y.A y.l.length y.C (off:Int) lr e::H):=by
 refine zaa (n:=9) Tryz.func15 Z Z Z fun cs => ?_
 refine a8 ?_
 refine zpk [1,0] 2 ?_
 refine zca Z (zsn (y:=y) (off:=off)) ?_
 rintro _ _ ⟨rfl,rfl⟩
 refine a1 ?_
 refine zao false Z (zDl hm)<|a6 ?_
 refine zpk [1,0] 2 ?_
 refine zca Z (zlv (y:=y) (off:=off) kQ kQ) ?_
 rintro _ _ ⟨rfl,rfl⟩
 refine a2 ?_
 exact zad Tryz.func15 Z Z (⟨by rw [zDK]; rfl,Z⟩)
def frmE (l:yB):Int:=if l.length < 12 then 4 else if 65535 < l.length then 3 else 0
def frmL (l:yB):yB:=if frmE l=0 then [UInt8.ofInt ((l.length:Int) / 256),UInt8.ofInt (l.length:Int)]++l else []
theorem zhv (a:Int):UInt8.ofInt (a % 256)=UInt8.ofInt a:=by
 apply zFE.1
 rw [zdN,zdN,Int.emod_emod_of_dvd _ (Int.dvd_refl _)]
theorem zzX (l:yB):frmE l=0→12≤l.length∧l.length≤65535:=by
 unfold frmE
 repeat' split
 all_goals omega
theorem zwx (l:yB):(frmL l).length≤l.length + 2:=by
 unfold frmL
 split <;> simp
theorem zBD (h:Rd tyB w0 base H A C l) (hl:l.length≤1000000) :
  SCalls Tryz.prog 10 [.slice A l.length C] w0 base (H) (fun v H' => ∃ x:Sl tyB 5,x.l=frmL l∧v = .tuple #[.slice x.A x.l.length x.C,int (frmE l)]∧H' = x.s::H):=by
 refine zaa (n:=22) Tryz.func10 Z Z Z fun cs => ?_
 refine a14 ?_
 refine zac Z ?_ ?_
 ·intro hc1
  try dsimp only at hc1
  refine a5 ?_
  refine At.nil ?_
  have hE:frmE l=4:=by rw [frmE,zDi kQ]
  exact zad Tryz.func10 Z Z (⟨Sl.nil,by rw [frmL,hE]; first | rfl | (simp [zhv]),by rw [hE]; rfl,Z⟩)
 ·intro hc1
  try dsimp only at hc1
  refine a7 ?_
  refine zac Z ?_ ?_
  ·intro hc2
   try dsimp only at hc2
   refine a5 ?_
   refine At.nil ?_
   have hE:frmE l=3:=by rw [frmE,zDb kQ,zDi kQ]
   exact zad Tryz.func10 Z Z (⟨Sl.nil,by rw [frmL,hE]; first | rfl | (simp [zhv]),by rw [hE]; rfl,Z⟩)
  ·intro hc2
   try dsimp only at hc2
   refine a6 ?_
   refine zeq (z:=(l.length:Int) / 256) zg0 Z Z Z kQ (zgf _ _ 8 Z kE _ kE)<|zay (z:=((UInt8.ofInt ((l.length:Int) / 256)).toNat:Int)) Z Z zg0 Z Z (zfm _)<|a2 ?_
   refine zay (z:=((UInt8.ofInt (l.length:Int)).toNat:Int)) Z Z zg0 Z Z (zfm _)<|zae (cs:=[.int .u8 ((UInt8.ofInt ((l.length:Int) / 256)).toNat:Int),.int .u8 ((UInt8.ofInt (l.length:Int)).toNat:Int)]) Z zbO zaF Z Z zg0 Z Z Z ?_
   intro b1
   refine zau tyB (l:=([(UInt8.ofInt ((l.length:Int) / 256)),(UInt8.ofInt (l.length:Int))]:yB)) Z Z kT ?_
   intro s2 o3
   refine a1 ?_
   refine zap (l:=[(UInt8.ofInt ((l.length:Int) / 256)),(UInt8.ofInt (l.length:Int))]) (news:=l) 0 zav Z o3 (Rd.skip 1 h) (by first | omega | (simp only [zC6,zC7,zC8]; omega) | (simp; done) | (simp; omega)) zg0 Z Z Z ?_
   intro A4 C5 s6 o7
   refine a3 ?_
   have hE:frmE l=0:=by rw [frmE,zDb kQ,zDb kQ]
   exact zad Tryz.func10 Z Z (⟨⟨A4,C5,[(UInt8.ofInt ((l.length:Int) / 256)),(UInt8.ofInt (l.length:Int))]++l,s6,o7⟩,by rw [frmL,hE]; first | rfl | (simp [zhv]),by rw [hE]; rfl,Z⟩)
theorem zBP (m:Int) (hm:¬ (m < 12∨65535 < m)) :
  SCalls Tryz.prog 11 [vV m] w0 base (H) (fun v H' => ∃ b:Nat,v = .tuple #[pB b,int 0]∧H' = (O0 b m false none 0 0 0 0 0)::H):=by
 refine zaa (n:=13) Tryz.func11 Z Z Z fun cs => ?_
 refine a11 ?_
 refine zjn 3 6 [(9,.bool (decide (((m:Int) < 12)∨(65535 < (m:Int))))),(0,vV m)] ?_
 skip
 refine a1 ?_
 refine zao false Z (zDl hm)<|a4 ?_
 refine zak (cs:=[vV m,.bool false,.slice none 0 0,vV 0,.int .i8 0,vV 0]) zrs zg0 Z Z Z<|zaU (cs:=#[vV m,.bool false,.slice none 0 0,vV 0,.int .i8 0,vV 0]) Z zg0 Z Z ?_
 intro b1
 refine a3 ?_
 exact zad Tryz.func11 Z Z (⟨_,Z,Z⟩)
def frP (br:Bool) (m:Int) (k l:yB):FrmR:=if br=true then ⟨[],9,k⟩ else frF m (k++l)
def frB (br:Bool) (m:Int) (k l:yB):Bool:=if br=true then true else decide ((frF m (k++l)).e≠0)
theorem zwy (m:Int) (c:yB):(frF m c).e≠0→(frF m c).rest=[]:=by
 induction c using (measure List.length).wf.induction with
 | _ c ih =>
  by_cases h:(frS m c).e=0
  ·by_cases hn:(frS m c).n=0
   ·rw [ziq h hn]; simp
   ·have:=zqJ m c hn
    rw [zgS hn]
    exact ih _ (show (List.drop _ _).length < _ by simp; omega)
  ·rw [zls h]; simp
theorem zu9 :
  SCalls Tryz.prog 39 [pB b] w0 base (H) (fun v H' => ∃ vr:Nat,v = .func (.func 94) #[] #[pB vr]∧H' = (O8 vr b)::H):=by
 refine zaa (n:=4) Tryz.func39 Z Z Z fun cs => ?_
 refine a2 ?_
 refine zaU (cs:=#[pB b]) Z zg0 Z Z ?_
 intro b1
 refine a4 ?_
 refine zbV zg0 Z Z Z<|a2 ?_
 exact zad Tryz.func39 Z Z (⟨_,Z,Z⟩)
theorem zvA {y:Sl tyB 5}(hl:y.l.length≤500000000) (ho:off≤y.l.length) :
  SCalls Tryz.prog 95 [pB b] w0 base (y.s::O0 b m br y.A y.l.length y.C (off:Int) lr e::H) (fun v H' => ∃ (n:Nat) (z:Bool),(z=true→n=fszF (y.l.drop off)∧2≤(y.l.drop off).length)∧(z=false→(y.l.drop off).length < 2)∧v = .tuple #[int (n:Int),.bool z]∧H' = y.s::O0 b m br y.A y.l.length y.C (off:Int) lr e::H):=by
 refine (zyO hl ho).mono fun v H' h => ?_
 by_cases h2:2≤(y.l.drop off).length
 ·rw [zDi h2,zDi h2] at h
  exact ⟨_,true,fun _ => ⟨Z,h2⟩,(fun h => by cases h),h⟩
 ·rw [zDb h2,zDb h2] at h
  exact ⟨0,false,(fun h => by cases h),fun _ => by omega,h⟩
theorem zvt (l:yB) (off n:Nat):subl l (off + 2) (off + 2 + n)=subl (l.drop off) 2 (2 + n):=by
 simp only [subl,zEj]
 congr 1
 omega
theorem zp2 {T Hc:List Seg}{lp vr:Nat}{y:Sl tyB 5}{J:yB→List Seg→Prop}(hl:y.l.length≤400000000) (ho:off≤y.l.length) (hm:12≤m∧m≤65535)
  (hY:∀ c Hc,(frS m c).n≠0→J c Hc→∀ (z:Sl tyB 5),z.l=subl c 2 (2 + (frS m c).n)→∀ T',YCalls Tryz.prog lp [.slice z.A z.l.length z.C] w0 base (z.s::(Hc++T')) (fun v H' => v = .bool true∧∃ Hc',H' = Hc'++T'∧J (c.drop (2 + (frS m c).n)) Hc'))
  (h0:J (y.l.drop off) Hc) :
  SCalls Tryz.prog 94 [.func (.yield lp) #[] #[],pB vr] w0 base (O8 vr b::y.s::O0 b m false y.A y.l.length y.C (off:Int) lr 0::(Hc++T)) (fun v H' => ∃ (off' : Nat) (lr' : Int) (Hc' : List Seg),off'≤y.l.length∧(frS m (y.l.drop off')).n=0∧J (y.l.drop off') Hc'∧v = .tuple #[]∧H' = (O8 vr b)::y.s::O0 b m false y.A y.l.length y.C (off' : Int) lr' ((frS m (y.l.drop off')).e)::(Hc'++T)):=by
 refine zaa (n:=49) Tryz.func94 Z Z Z fun cs => ?_
 refine At.block<|zcd (fun (off:Nat) (lr:Int) (Hc2:List Seg) => [(0,.func (.yield lp) #[] #[]),(1,pB vr)]) (fun off lr Hc2 => (O8 vr b)::y.s::O0 b m false y.A y.l.length y.C (off:Int) lr 0::(Hc2++T)) (fun off lr Hc2 => J (y.l.drop off) Hc2∧off≤y.l.length) (fun off lr Hc2 => y.l.length - off) off lr Hc (⟨h0,ho⟩) ⟨Z,Z,trivial⟩ Z ?_
 rintro off lr Hc2 ⟨hJ,hoff⟩ ihL1
 have hszl:=zzU (y.l.drop off)
 have hld:=zDK (l:=y.l) (i:=off)
 refine At.block<|zfg<|zcA<|zax zdK zg0 Z Z (Cell.own 0 0 Z Z Z)<|AtL.pick (H':=y.s::O0 b m false y.A y.l.length y.C (off:Int) lr 0::O8 vr b::(Hc2++T)) [1,2,0] 3 Z Z ?_
 refine zge zry zg0 Z Z (zvA (y:=y) (off:=off) kO kO) ?_
 rintro _ _ ⟨n1,z2,h3,h4,rfl,rfl⟩
 have hs1:=h3
 have hs2:=h4
 refine AtL.move zg0 Z Z<|AtL.extract zg0 Z Z Z<|AtL.extract zg0 Z Z Z<|AtL.assign zg0 Z Z<|AtL.assign zg0 Z Z<|AtL.done ?_
 refine zfg<|zfg<|zcA<|AtL.move zg0 Z Z<|zoo zg0 Z Z<|AtL.done ?_
 refine zaT Z ?_ ?_
 ·intro hc1
  have hc1:z2=false:=zat hc1
  refine At.pick (H':=O8 vr b::y.s::O0 b m false y.A y.l.length y.C (off:Int) lr 0::(Hc2++T)) [2,0,1] 3 Z Z ?_
  have hS:frS m (y.l.drop off)=⟨0,0⟩:=by rw [frS,zDi (hs2 hc1)]
  exact zad Tryz.func94 Z Z (⟨off,lr,Hc2,hoff,by rw [hS],hJ,Z,by rw [hS]⟩)
 ·intro hc1
  have hc1:z2=true:=zas hc1
  obtain ⟨hn9,h2⟩:=hs1 hc1
  subst hn9
  refine zlJ<|zfg<|At.block<|zfg<|zcA<|AtL.move zg0 Z Z ?_
  refine zop zg0 Z Z Z<|AtL.assign zg0 Z Z<|AtL.done<|zac Z ?_ ?_
  ·intro hc2
   try dsimp only at hc2
   refine zfg<|zcA<|zax zdK zg0 Z Z (Cell.own 2 0 Z Z Z)<|zci zg0 Z Z<|zbL zj3 zg0 Z Z Z<|zjw (H':=y.s::O0 b m false y.A y.l.length y.C (off:Int) lr 4::O8 vr b::(Hc2++T)) 1 0 zrq zg0 Z Z Z Z Z Z Z Z Z ?_
   refine AtL.done<|At.pick (H':=O8 vr b::y.s::O0 b m false y.A y.l.length y.C (off:Int) lr 4::(Hc2++T)) [2,0,1] 3 Z Z ?_
   have hS:frS m (y.l.drop off)=⟨4,0⟩:=by rw [frS,zDb kQ,zDi kQ]
   exact zad Tryz.func94 Z Z (⟨off,lr,Hc2,hoff,by rw [hS],hJ,Z,by rw [hS]⟩)
  ·intro hc2
   try dsimp only at hc2
   refine zfg<|zcA<|AtL.move zg0 Z Z<|zax zdK zg0 Z Z (Cell.own 2 0 Z Z Z)<|zci zg0 Z Z<|zbL zqb zg0 Z Z Z ?_
   refine zax zcl zg0 Z Z (Cell.own 1 0 Z Z Z)<|zuW zg0 Z Z Z<|AtL.assign zg0 Z Z<|AtL.done<|zac Z ?_ ?_
   ·intro hc3
    try dsimp only at hc3
    refine zfg<|zcA<|zax zdK zg0 Z Z (Cell.own 2 0 Z Z Z)<|zci zg0 Z Z<|zbL zj3 zg0 Z Z Z<|zjw (H':=y.s::O0 b m false y.A y.l.length y.C (off:Int) lr 3::O8 vr b::(Hc2++T)) 1 0 zrq zg0 Z Z Z Z Z Z Z Z Z ?_
    refine AtL.done<|At.pick (H':=O8 vr b::y.s::O0 b m false y.A y.l.length y.C (off:Int) lr 3::(Hc2++T)) [2,0,1] 3 Z Z ?_
    have hS:frS m (y.l.drop off)=⟨3,0⟩:=by rw [frS,zDb kQ,zDb kQ,zDi kQ]
    exact zad Tryz.func94 Z Z (⟨off,lr,Hc2,hoff,by rw [hS],hJ,Z,by rw [hS]⟩)
   ·intro hc3
    try dsimp only at hc3
    refine zfg<|zcA<|zax zdK zg0 Z Z (Cell.own 2 0 Z Z Z)<|zci zg0 Z Z<|zbL zhb zg0 Z Z Z ?_
    refine zge zrF zg0 Z Z (zlv (y:=y) (off:=off) kQ kQ) ?_
    rintro _ _ ⟨rfl,rfl⟩
    refine AtL.move zg0 Z Z ?_
    refine AtL.add (z:=(fszF (y.l.drop off):Int) + 2) zg0 Z Z Z (w64 kQ kQ)<|zop zg0 Z Z Z<|AtL.assign zg0 Z Z<|AtL.done<|zac Z ?_ ?_
    ·intro hc4
     try dsimp only at hc4
     refine At.pick (H':=O8 vr b::y.s::O0 b m false y.A y.l.length y.C (off:Int) lr 0::(Hc2++T)) [2,0,1] 3 Z Z ?_
     have hS:frS m (y.l.drop off)=⟨0,0⟩:=by rw [frS,zDb kQ,zDb kQ,zDb kQ,zDi kQ]
     exact zad Tryz.func94 Z Z (⟨off,lr,Hc2,hoff,by rw [hS],hJ,Z,by rw [hS]⟩)
    ·intro hc4
     try dsimp only at hc4
     have hS:frS m (y.l.drop off)=⟨0,fszF (y.l.drop off)⟩:=by rw [frS,zDb kQ,zDb kQ,zDb kQ,zDb kQ]
     refine zlJ<|zhE<|zfg<|zcA<|zax zdK zg0 Z Z (Cell.own 2 0 Z Z Z)<|zci zg0 Z Z ?_
     refine zbL zhb zg0 Z Z Z ?_
     refine zge zlU zg0 Z Z (zpI (y:=y) (off:=off) 2 kO kO) ?_
     rintro _ _ ⟨A5,C6,lr8,o7,rfl,rfl⟩
     refine AtL.done<|zfg<|zcA<|AtL.move zg0 Z Z<|zax zdK zg0 Z Z (Cell.own 2 0 Z Z Z)<|zci zg0 Z Z ?_
     refine zbL zhb zg0 Z Z Z<|AtL.move zg0 Z Z ?_
     refine zge zlU zg0 Z Z (zpI (y:=y) (off:=off + 2) (fszF (y.l.drop off)) kO kO) ?_
     rintro _ _ ⟨A9,C10,lr12,o11,rfl,rfl⟩
     refine zge zrx zg0 Z Z (zqN (l:=subl y.l (off + 2) ((off + 2) + (fszF (y.l.drop off)))) (o11.rd (i:=0) Z) (by have h9:=zal (l:=y.l) (i:=off + 2) (j:=off + 2 + fszF (y.l.drop off)) kQ; omega)) ?_
     rintro _ _ ⟨⟨A13,C14,l15,s16,o17⟩,hx18,rfl,rfl⟩
     obtain rfl:subl y.l (off + 2) ((off + 2) + (fszF (y.l.drop off)))=l15:=hx18.symm
     refine AtL.pick (H':=s16::O8 vr b::y.s::O0 b m false y.A y.l.length y.C (((off:Int) + (2:Int)) + (fszF (y.l.drop off):Int)) lr12 0::(Hc2++T)) [0,3,1,2] 4 Z Z ?_
     refine zfR zg0 Z Z Z (YCalls.perm ((zBI (O8 vr b) y.s (O0 b m false y.A y.l.length y.C (((off:Int) + (2:Int)) + (fszF (y.l.drop off):Int)) lr12 0) Hc2 T).cons s16) (hY (y.l.drop off) Hc2 (by rw [hS]; dsimp only; omega) hJ ⟨A13,C14,subl y.l (off + 2) ((off + 2) + (fszF (y.l.drop off))),s16,o17⟩ (by rw [hS]; exact zvt _ _ _) (O8 vr b::y.s::O0 b m false y.A y.l.length y.C (((off:Int) + (2:Int)) + (fszF (y.l.drop off):Int)) lr12 0::T))) ?_
     rintro _ _ ⟨rfl,Hc3,rfl,hJ3⟩
     refine AtL.perm (zBI _ _ _ Hc3 T).symm<|zoo zg0 Z Z<|AtL.done<|zp0 Z<|zlJ<|zhE ?_
     rw [hS] at hJ3; dsimp only at hJ3; rw [List.drop_drop] at hJ3
     refine ihL1 ((off + 2) + (fszF (y.l.drop off))) lr12 Hc3 (⟨by rw [show (off + 2) + (fszF (y.l.drop off))=off + (2 + fszF (y.l.drop off)) by omega]; exact hJ3,by omega⟩) kQ _ ?_
     exact ⟨Z,Z,trivial⟩
theorem zy7 {y:Sl tyB 5}(h:Rd tyB w0 base H A C l) (hl:y.l.length + l.length≤300000000) (ho:off≤y.l.length) (hm:12≤m∧m≤65535) (he:br=false→e=0) :
  SCalls Tryz.prog 13 [pB b,.slice A l.length C] w0 base (y.s::O0 b m br y.A y.l.length y.C (off:Int) lr e::H) (fun v H' => ∃ (x:Sl tyL 31) (ys:List (Sl tyB 5)) (z:Sl tyB 5) (off' : Nat) (lr' : Int),x.l=ys.map Sl.v∧ys.map (·.l)=(frP br m (y.l.drop off) l).out∧off'≤z.l.length∧z.l.length≤y.l.length + l.length∧z.l.drop off' = (frP br m (y.l.drop off) l).rest∧v = .tuple #[.slice x.A x.l.length x.C,int (frP br m (y.l.drop off) l).e]∧H' = x.s::zbU ys::z.s::O0 b m (frB br m (y.l.drop off) l) z.A z.l.length z.C (off' : Int) lr' (if br=true then e else (frF m (y.l.drop off++l)).e)::H):=by
 refine zaa (n:=45) Tryz.func13 Z Z Z fun cs => ?_
 refine a10 ?_
 refine zpk [1,0] 2 ?_
 refine zca Z (zsn (y:=y) (off:=off)) ?_
 rintro _ _ ⟨rfl,rfl⟩
 refine a2 ?_
 refine zao false Z (zDl kQ)<|a8 ?_
 refine zaT Z ?_ ?_
 ·intro hc2
  have hc2:br=true:=hc2
  refine a5 ?_
  refine At.nil<|At.nil<|zpk [0,1,3,2] 4 ?_
  exact zad Tryz.func13 Z Z (⟨Sl.nil,[],y,off,lr,Z,by rw [frP,zDi hc2]; rfl,ho,zFC _ _,by rw [frP,zDi hc2],by rw [frP,zDi hc2]; rfl,by rw [frB,zDi hc2,zDi hc2,hc2]; rfl⟩)
 ·intro hc2
  have hc2:br=false:=hc2
  subst hc2
  obtain rfl:=he rfl
  refine a8 ?_
  refine zpk [1,0] 2 ?_
  refine zca Z (zqM (y:=y) (off:=off) (l:=l) h kO kO) ?_
  rintro _ _ ⟨⟨A1,C2,l3,s4,o5⟩,p6,h7,h8,h9,rfl,rfl⟩
  have hw1:=h7
  have hw2:=h8
  have hw3:=h9
  dsimp only at hw1 hw2 hw3
  refine a3 ?_
  refine AtL.alloc zro (cs:=#[.slice none 0 0]) Z zg0 Z ?_
  intro b10
  refine a5 ?_
  refine zca Z (zu9 (b:=b)) ?_
  rintro _ _ ⟨vr11,rfl,rfl⟩
  refine a2 ?_
  obtain ⟨c0,hc0⟩:∃ c0,c0=l3.drop p6:=⟨_,rfl⟩
  have hc0l:c0.length=l3.length - p6:=by rw [hc0,zDK]
  refine At.nil<|At.nil ?_
  refine znl (R:=fun L lp rr v H' => ∃ off1:Nat,∃ lr1:Int,∃ x:Sl tyL 31,∃ ys:List (Sl tyB 5),x.l=ys.map Sl.v∧ys.map (·.l)=(frF m c0).out∧off1≤l3.length∧((frF m c0).e=0→l3.drop off1=(frF m c0).rest)∧H' = (O8 vr11 b)::s4::O0 b m false A1 l3.length C2 (off1:Int) lr1 ((frF m c0).e)::[(lp,.loop L)]::[(rr,.deferred (some []))]::x.s::zbU ys::[(b10,.cells #[.slice x.A x.l.length x.C] 44 (0,0))]::H) Z zrz Z (fun lp => Z) (fun L lp rr hL => ?_) (fun L lp rr v H1 hL hR => ?_)
  ·refine SCalls.pick (H':=O8 vr11 b::s4::O0 b m false A1 l3.length C2 (p6:Int) 0 0::[(lp,.loop L)]::[(rr,.deferred (some []))]::[]::[]::[(b10,.cells #[.slice none 0 0] 44 (0,0))]::H) [4,6,7,0,1,2,3,5] 8 Z Z ?_
   refine SCalls.mono (zp2 (y:=⟨A1,C2,l3,s4,o5⟩) (off:=p6) (T:=H) (Hc:=[[(lp,.loop L)],[(rr,.deferred (some []))],[],[],[(b10,.cells #[.slice none 0 0] 44 (0,0))]]) (J:=(fun cu Hc => ∃ x:Sl tyL 31,∃ ys:List (Sl tyB 5),x.l=ys.map Sl.v∧ys.map (·.l)++(frF m cu).out=(frF m c0).out∧(frF m cu).e=(frF m c0).e∧(frF m cu).rest=(frF m c0).rest∧ys.length + cu.length≤c0.length∧Hc=[[(lp,.loop L)],[(rr,.deferred (some []))],x.s,zbU ys,[(b10,.cells #[.slice x.A x.l.length x.C] 44 (0,0))]])) (by dsimp only; omega) (by dsimp only; omega) hm (fun cu Hc hn9 hJ z hz T' => ?_) ⟨Sl.nil,[],Z,by dsimp only; rw [hc0]; rfl,by dsimp only; rw [hc0],by dsimp only; rw [hc0],by dsimp only; rw [hc0]; simp,Z⟩) (fun v H' hp => ?_)
   ·obtain ⟨x,ys,hxy,hI,hIe,hIr,hlen,rfl⟩:=hJ
    have hxl:x.l.length=ys.length:=by rw [hxy,zD4]
    have hn8:=zqJ m cu hn9
    refine zfL hL (i:=1) (j:=0) Z Z Z Z Z (fun c cs => ?_)
    refine a3 ?_
    refine zjF 1 0 hL Z Z Z Z<|a4 ?_
    refine zae (cs:=[.slice z.A z.l.length z.C]) Z ziD zha Z Z zg0 Z Z Z ?_
    intro b12
    refine zau tyL (l:=([(⟨z.A,z.C,z.l⟩:Bs)]:List Bs)) Z Z kT ?_
    intro s13 o14
    refine zap (l:=x.l) (news:=[(⟨z.A,z.C,z.l⟩:Bs)]) 4 zno Z x.own (o14.rd (i:=0) Z) (by first | omega | (simp only [zC6,zC7,zC8]; omega) | (simp; done) | (simp; omega)) zg0 Z Z Z ?_
    intro A15 C16 s17 o18
    refine a3 ?_
    refine zpk [1,5,0,2,3,4,6] 7 ?_
    refine zu0 (zto z ys _)<|zpk [2,3,4,0,5] 6 ?_
    have hM:=zgS hn9
    exact zic 0 0 hL Z Z Z (⟨Z,[[(lp,.loop L)],[(rr,.deferred (some []))],s17,zbU (ys++[z]),[(b10,.cells #[.slice A15 (x.l++[(⟨z.A,z.C,z.l⟩:Bs)]).length C16] 44 (0,0))]],Z,⟨A15,C16,x.l++[(⟨z.A,z.C,z.l⟩:Bs)],s17,o18⟩,ys++[z],by dsimp only; rw [hxy]; simp [Sl.v],by rw [← hI,hM]; simp [hz],by rw [← hIe,hM],by rw [← hIr,hM],by have:=zqJ m cu hn9; simp; omega,Z⟩)
   ·obtain ⟨off1,lr1,Hc',ho1,hS1,⟨x,ys,hxy,hI,hIe,hIr,hlen,rfl⟩,rfl,rfl⟩:=hp
    dsimp only at ho1 hS1 hI hIe hIr hlen
    have hq:(frS m (l3.drop off1)).e=(frF m c0).e∧ys.map (·.l)=(frF m c0).out∧((frF m c0).e=0→l3.drop off1=(frF m c0).rest):=by
     by_cases h9:(frS m (l3.drop off1)).e=0
     ·have hM:=ziq h9 hS1
      rw [hM] at hI hIe hIr; dsimp only at hI hIe hIr
      exact ⟨by rw [h9,hIe],by rw [← hI]; simp,fun _ => hIr⟩
     ·have hM:=zls h9
      rw [hM] at hI hIe hIr; dsimp only at hI hIe hIr
      exact ⟨hIe,by rw [← hI]; simp,fun h8 => absurd (hIe.trans h8) h9⟩
    rw [hq.1]
    exact ⟨off1,lr1,x,ys,hxy,hq.2.1,ho1,hq.2.2,Z⟩
  ·obtain ⟨off1,lr1,x,ys,hxy,hI,ho1,hR1,rfl⟩:=hR
   refine ⟨3,0,_,L,_,Z,Z,zkp hL,Z,?_⟩
   rw [zpb hL]
   refine a10 ?_
   refine zaT Z ?_ ?_
   ·intro hc3
    have hc3:¬ (((frF m c0).e:Int)=0):=zDm (zat hc3)
    refine a11 ?_
    refine zpk [1,2,0,3,4,5,6,7] 8 ?_
    refine zca Z (zmY (y:=⟨A1,C2,l3,s4,o5⟩)) ?_
    rintro _ _ ⟨⟨A19,C20,l21,s22,o23⟩,h24,h25,rfl,rfl⟩
    obtain rfl:([]:yB)=l21:=h24.symm
    have hrc:=h25
    dsimp only at hrc
    refine a2 ?_
    refine zaN (es:=[]) (pv:=[(0,.slice x.A x.l.length x.C),(1,pB b),(2,pB b),(3,.pointer (some ⟨b,5,none⟩)),(4,vV ((frF m c0).e)),(5,.slice x.A x.l.length x.C),(6,vV ((frF m c0).e))]) zaz kW kW kW ?_
    refine ⟨zj4<|zj2<|zjz<|trivial,by kernel_rfl,?_⟩
    refine At.mono (E':=[(4,.slice x.A x.l.length x.C),(5,vV ((frF m c0).e))]) ⟨Z,Z,trivial⟩<|zbv Z<|zdn (i:=4) (j:=0) Z Z Z Z ?_
    have hc9:c0=y.l.drop off++l:=by rw [hc0,hw2]
    have hp:frP false m (y.l.drop off) l=frF m c0:=by rw [frP,zDb kY,hc9]
    have hb:frB false m (y.l.drop off) l=decide ((frF m c0).e≠0):=by rw [frB,zDb kY,hc9]
    have he9:(frF m c0).e≠0:=hc3
    have hr9:=zwy m c0 he9
    exact zaW (vs:=[.slice x.A x.l.length x.C,vV ((frF m c0).e)]) [5,6,0,1] 8 Z Z Tryz.func13 Z ⟨Z,Z,trivial⟩ (⟨x,ys,⟨A19,C20,([]:yB),s22,o23⟩,0,0,hxy,by rw [hp]; exact hI,by simp,by simp,by rw [hp,hr9]; simp,by rw [hp] <;> rfl,by rw [hb,zDI he9,zDb kY,← hc9] <;> rfl⟩)
   ·intro hc3
    have hc3:((frF m c0).e:Int)=0:=zDf (zas hc3)
    refine a2 ?_
    refine zaN (es:=[]) (pv:=[(0,.slice x.A x.l.length x.C),(1,pB b),(2,pB b),(3,.pointer (some ⟨b,5,none⟩)),(4,vV ((frF m c0).e)),(5,.slice x.A x.l.length x.C),(6,vV ((frF m c0).e))]) zaz kW kW kW ?_
    refine ⟨zj4<|zj2<|zjz<|trivial,by kernel_rfl,?_⟩
    refine At.mono (E':=[(4,.slice x.A x.l.length x.C),(5,vV ((frF m c0).e))]) ⟨Z,Z,trivial⟩<|zbv Z<|zdn (i:=4) (j:=0) Z Z Z Z ?_
    have hc9:c0=y.l.drop off++l:=by rw [hc0,hw2]
    have hp:frP false m (y.l.drop off) l=frF m c0:=by rw [frP,zDb kY,hc9]
    have hb:frB false m (y.l.drop off) l=decide ((frF m c0).e≠0):=by rw [frB,zDb kY,hc9]
    have he9:(frF m c0).e=0:=by omega
    exact zaW (vs:=[.slice x.A x.l.length x.C,vV ((frF m c0).e)]) [5,6,1,2] 8 Z Z Tryz.func13 Z ⟨Z,Z,trivial⟩ (⟨x,ys,⟨A1,C2,l3,s4,o5⟩,off1,lr1,hxy,by rw [hp]; exact hI,ho1,hw3,by rw [hp]; exact hR1 he9,by rw [hp] <;> rfl,by rw [hb,zDl (fun h => h he9),zDb kY,← hc9] <;> rfl⟩)
end Go.Proofs.YtjmnjkoekabioaaGreatDoor
