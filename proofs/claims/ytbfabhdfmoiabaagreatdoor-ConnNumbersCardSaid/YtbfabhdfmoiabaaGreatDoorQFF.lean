/- The parts of the proof that this law needs, in the order of their texts: the logic of walks, the plain laws, the walks. -/
import Derived.Test.YtbfabhdfmoiabaaGreatDoorQFE
namespace Go.Proofs.YtbfabhdfmoiabaaGreatDoor
set_option maxHeartbeats 400000
set_option linter.unusedVariables false
set_option linter.unusedSimpArgs false
open Go
open Go.RowKit (Below)
set_option maxRecDepth 100000
theorem sindex_ok {w0:World}{base:Nat}{H:List Seg}{x:List UInt8}(c:UInt8) (hx:x.length < 4294967281) (T:Tabs w0 base) :
  SCalls Tryz.prog 120 [str x,str [c]] w0 base H (fun v H' => ∃ z:Int,z=Lib.index x [c]∧v=int z∧H' = H):=by
 obtain ⟨m,hm⟩:=T.max
 refine (zeS fun w S => Any.strings_Index { zgc with } ⟨⟨x⟩⟩ ⟨⟨[c]⟩⟩ m w (by rw [zcr]; omega) (S.cellBelow T.lt0 hm)).mono ?_
 rintro v H' ⟨rfl,rfl⟩
 exact ⟨_,Z,Z,Z⟩
theorem sp_at {c:UInt8}{l:List UInt8}{z:Int}(hz:z=Lib.index l [c]) (h:¬ z < 0):∃ i:Nat,z=(i:Int)∧i < l.length∧spF c l=subl l 0 (i + 0)::spF c (subl l (i + [c].length) l.length):=by
 rcases ziI c l with ⟨h1,_⟩ | ⟨i,h1,h2,_,h4⟩
 ·omega
 ·refine ⟨i,by omega,h2,?_⟩
  rw [h4,zcp,za1]; rfl
theorem sp_no {c:UInt8}{l:List UInt8}{z:Int}(hz:z=Lib.index l [c]) (h:z < 0):spF c l=[l]:=by
 rcases ziI c l with ⟨_,_,h1⟩ | ⟨i,h1,_⟩
 ·exact h1
 ·omega
theorem seqit_ok {w0:World}{base:Nat}{T Hc:List Seg}{lp bp bs bv:Nat}{x:List UInt8}{c:UInt8}{J:List (List UInt8)→List Seg→Prop}{K:List Seg→Prop}(hx:x.length < 4294967281) (TT:Tabs w0 base)
  (hY:∀ u us Hc,u.length≤x.length→J (u::us) Hc→∀ T',YCalls Tryz.prog lp [str u] w0 base (Hc++T') (fun v H' => ∃ (b:Bool) (Hc' : List Seg),v = .bool b∧H' = Hc'++T'∧(b=true→J us Hc')∧(b=false→K Hc')))
  (h0:J (spF c x) Hc) :
  SCalls Tryz.prog 131 [.func (.yield lp) #[] #[],B bp,B bs,B bv] w0 base (O14 bp (str [c])::O14 bs (str x)::O15 bv 0::(Hc++T)) (fun v H' => ∃ (b:Bool) (y:List UInt8) (Hc' : List Seg),(b=true→J [] Hc')∧(b=false→K Hc')∧v = .tuple #[]∧H' = (O14 bp (str [c]))::O14 bs (str y)::O15 bv 0::(Hc'++T)):=by
 refine SCalls.of_walk (n:=52) Tryz.func131 Z Z Z fun cs => ?_
 refine zc<|zc<|za<|zh zaK zg0 Z Z (Cell.own 0 0 Z Z Z)<|zb7 (l:=[c]) Tryz.underlying9 zg0 Z Z<|zW zg0 Z Z Z ?_
 refine AtL.done ?_
 refine zU false Z (decide_eq_false (by simp))<|zj<|zc<|At.block<|zcI (fun (y:List UInt8) (Hc2:List Seg) => [(0,.func (.yield lp) #[] #[]),(1,B bp),(2,B bs),(3,B bv)]) (fun (y:List UInt8) (Hc2:List Seg) => (O14 bp (str [c]))::O14 bs (str y)::O15 bv 0::(Hc2++T)) (fun (y:List UInt8) (Hc2:List Seg) => J (spF c y) Hc2∧y.length≤x.length) (fun (y:List UInt8) (Hc2:List Seg) => y.length) x Hc (⟨h0,Nat.le_refl _⟩) ⟨Z,Z,Z,Z,trivial⟩ Z ?_
 rintro y Hc2 ⟨hJ,hy⟩ ihL2
 have hcl:([c]:List UInt8).length=1:=rfl
 refine At.block<|zc<|za<|zh zaK zg0 Z Z (Cell.own 1 0 Z Z Z)<|zh zaK zg0 Z Z (Cell.own 0 0 Z Z Z) ?_
 refine zk tf_body120 zg0 Z Z (sindex_ok c (by omega) TT) ?_
 rintro _ _ ⟨z1,hz2,rfl,rfl⟩
 refine AtL.assign zg0 Z Z<|AtL.done<|zc<|zc<|za<|zb zg0 Z Z ?_
 refine zA zg0 Z Z Z<|AtL.done<|zq Z ?_ ?_
 ·intro hc4
  refine zau Z<|za<|zb zg0 Z Z<|zh zaK zg0 Z Z (Cell.own 1 0 Z Z Z) ?_
  refine zeu zg0 Z Z Z (YCalls.perm (zjN (O14 bp (str [c])) (O14 bs (str y)) (O15 bv 0) Hc2 T) (hY y [] Hc2 (by omega) (by rw [← sp_no hz2 hc4]; exact hJ) (O14 bp (str [c])::O14 bs (str y)::O15 bv 0::T))) ?_
  rintro _ _ ⟨bb,Hc3,rfl,rfl,hJ3,hK3⟩
  refine AtL.perm (zjN _ _ _ Hc3 T).symm<|AtL.done ?_
  exact zbX Tryz.func131 Z Z (⟨bb,y,Hc3,fun h => hJ3 h,fun h => hK3 h,Z,Z⟩)
 ·intro hc4
  obtain ⟨i,hi,hil,hsp⟩:=sp_at hz2 hc4
  subst hi
  refine zj<|zc<|za<|zh zaK zg0 Z Z (Cell.own 1 0 Z Z Z)<|zb zg0 Z Z<|zh zo zg0 Z Z (Cell.own 2 0 Z Z Z) ?_
  refine AtL.add (z:=(i:Int) + 0) zg0 Z Z Z (w64 (by omega) (by omega)) ?_
  refine zfY (l:=y) 0 (i + 0) Z (zI Z Z) (by omega) (by omega) Tryz.underlying9 zg0 Z Z<|AtL.assign zg0 Z Z<|AtL.done<|zc<|zc<|za ?_
  refine zb zg0 Z Z<|zb zg0 Z Z ?_
  refine zeu zg0 Z Z Z (YCalls.perm (zjN (O14 bp (str [c])) (O14 bs (str y)) (O15 bv 0) Hc2 T) (hY (subl y 0 (i + 0)) (spF c (subl y (i + [c].length) y.length)) Hc2 (by rw [zP (by omega)]; omega) (by rw [← hsp]; exact hJ) (O14 bp (str [c])::O14 bs (str y)::O15 bv 0::T))) ?_
  rintro _ _ ⟨bb,Hc3,rfl,rfl,hJ3,hK3⟩
  refine AtL.perm (zjN _ _ _ Hc3 T).symm<|zag zg0 Z Z<|AtL.done<|zae Z ?_ ?_
  ·intro hc5
   have hc5:bb=false:=zO hc5
   exact zt Tryz.func131 Z Z (⟨false,y,Hc3,fun h => (by cases h),fun _ => hK3 hc5,Z,Z⟩)
  ·intro hc5
   have hc5:bb=true:=zJ hc5
   refine zj<|za<|zh zaK zg0 Z Z (Cell.own 1 0 Z Z Z)<|zb zg0 Z Z<|zh zaK zg0 Z Z (Cell.own 0 0 Z Z Z)<|zb7 (l:=[c]) Tryz.underlying9 zg0 Z Z ?_
   refine AtL.add (z:=(i:Int) + ([c].length:Int)) zg0 Z Z Z (w64 (by omega) (by omega)) ?_
   refine zfY (l:=y) (i + ([c].length)) y.length (zI Z Z) Z (by omega) (by omega) Tryz.underlying9 zg0 Z Z<|zr (H':=O14 bp (str [c])::O14 bs (str (subl y (i + ([c].length)) y.length))::O15 bv 0::(Hc3++T)) 1 0 zbY zg0 Z Z Z Z Z Z Z Z Z<|AtL.done<|zp ?_
   refine ihL2 (subl y (i + ([c].length)) y.length) Hc3 (⟨hJ3 hc5,by rw [zP (Nat.le_refl _)]; omega⟩) (by rw [zP (Nat.le_refl _)]; omega) _ ?_
   exact ⟨Z,Z,Z,Z,trivial⟩
theorem zjE {w0:World}{base:Nat}{H:List Seg}(x:List UInt8) (c:UInt8) :
  SCalls Tryz.prog 115 [str x,str [c],V 0] w0 base (H) (fun v H' => ∃ bp bs bv:Nat,v = .func (.func 131) #[] #[B bp,B bs,B bv]∧H' = (O14 bp (str [c]))::O14 bs (str x)::O15 bv 0::H):=by
 refine SCalls.of_walk (n:=8) Tryz.func115 Z Z Z fun cs => ?_
 refine zc<|za<|zbe (cs:=#[str x]) Z zg0 Z Z ?_
 intro b1
 refine zbe (cs:=#[str [c]]) Z zg0 Z Z ?_
 intro b2
 refine zbe (cs:=#[V 0]) Z zg0 Z Z ?_
 intro b3
 refine AtL.assign zg0 Z Z<|AtL.done<|zc<|za<|zbD zg0 Z Z Z<|AtL.assign zg0 Z Z ?_
 refine AtL.done<|At.pick [1,2,0] 3 Z Z ?_
 exact zt Tryz.func115 Z Z (⟨b2,b1,b3,Z,Z⟩)
theorem zkC {w0:World}{base:Nat}{H:List Seg}(x:List UInt8) (c:UInt8) :
  SCalls Tryz.prog 88 [str x,str [c]] w0 base (H) (fun v H' => ∃ bp bs bv:Nat,v = .func (.func 131) #[] #[B bp,B bs,B bv]∧H' = (O14 bp (str [c]))::O14 bs (str x)::O15 bv 0::H):=by
 refine SCalls.of_walk (n:=8) Tryz.func88 Z Z Z fun cs => ?_
 refine zc<|za<|AtL.assign zg0 Z Z<|AtL.done<|zc<|za ?_
 refine zb zg0 Z Z<|zb zg0 Z Z<|zk tf_body115 zg0 Z Z (zjE x c) ?_
 rintro _ _ ⟨bp1,bs2,bv3,rfl,rfl⟩
 refine AtL.assign zg0 Z Z<|AtL.done ?_
 exact zt Tryz.func88 Z Z (⟨bp1,bs2,bv3,Z,Z⟩)
def wdF (v:List UInt8):List (List UInt8):=(spF 44 v).map fun x => zbC (zc4 x)
theorem keep_start (fs:List Fld) (minor:Int):zeZ (decide (minor=1)) (((allF fs [99,111,110,110,101,99,116,105,111,110]).drop 0).flatMap wdF)=zfn fs minor:=rfl
theorem keep_end {k:Bool}{l:List (List UInt8)}{j:Nat}{r:Bool}(h:zeZ k ((l.drop j).flatMap wdF)=r) (hj:l.length≤j):k=r:=by
 rw [List.drop_eq_nil_of_le hj] at h; exact h
theorem keep_in {k:Bool}{l:List (List UInt8)}{j:Nat}{r:Bool}(h:zeZ k ((l.drop j).flatMap wdF)=r) (hj:j < l.length):zeZ k (((spF 44 (l.getD j [])).map fun x => zbC (zc4 x))++(l.drop (j + 1)).flatMap wdF)=r:=by
 rw [List.drop_eq_getElem_cons hj,List.flatMap_cons] at h
 rw [show l.getD j []=l[j] by simp [List.getD,hj]]
 exact h
theorem keep_close {k:Bool}{u:List UInt8}{us:List (List UInt8)}{rest:List (List UInt8)}{r:Bool}(h:zeZ k (((u::us).map fun x => zbC (zc4 x))++rest)=r) (hc:zbC (Lib.trimS u [9,32])=[99,108,111,115,101]):r=false:=by
 rw [zij] at hc
 rw [List.map_cons,List.cons_append,zeZ,if_pos (by exact hc)] at h
 exact h.symm
theorem zjU {k:Bool}{u:List UInt8}{us:List (List UInt8)}{rest:List (List UInt8)}{r:Bool}(h:zeZ k (((u::us).map fun x => zbC (zc4 x))++rest)=r) (hc:¬ zbC (Lib.trimS u [9,32])=[99,108,111,115,101]) :
  (zbC (Lib.trimS u [9,32])=[107,101,101,112,45,97,108,105,118,101]→zeZ true ((us.map fun x => zbC (zc4 x))++rest)=r)∧(¬ zbC (Lib.trimS u [9,32])=[107,101,101,112,45,97,108,105,118,101]→zeZ k ((us.map fun x => zbC (zc4 x))++rest)=r):=by
 rw [zij] at hc ⊢
 rw [List.map_cons,List.cons_append,zeZ,if_neg (by exact hc)] at h
 refine ⟨fun ha => ?_,fun ha => ?_⟩
 ·rw [show decide (zbC (zc4 u)=ALIVE)=true from decide_eq_true ha,Bool.or_true] at h; exact h
 ·rw [show decide (zbC (zc4 u)=ALIVE)=false from decide_eq_false ha,Bool.or_false] at h; exact h
theorem trimS_le2 (u cs:List UInt8):(Lib.trimS u cs).length≤u.length:=by
 unfold Lib.trimS Lib.trimLeftS Lib.trimRightS
 exact Nat.le_trans (zg1 _ _) (by rw [List.length_reverse]; exact Nat.le_trans (zg1 _ _) (by rw [List.length_reverse]; exact Nat.le_refl _))
set_option maxHeartbeats 1000000 in
theorem keep_ok {w0:World}{base:Nat}{H:List Seg}{m t:List UInt8}{minor:Int}{A:Option Addr}{C:Nat}{fs:List (List UInt8×List UInt8)}(h:Rd zbE w0 base H A C fs) (hfl:fs.length≤1000) (hb:∀ f ∈ fs,f.1.length≤140737488355000∧f.2.length≤140737488355000) (hb4:∀ f ∈ fs,f.2.length < 4294967281) (TT:Tabs w0 base) :
  SCalls Tryz.prog 58 [.agg #[str m,str t,V minor,.slice A fs.length C]] w0 base (H) (fun v H' => v = .bool (zfn fs minor)∧H' = H):=by
 have hle0:=h.le
 have hcap0:=h.cap
 refine SCalls.of_walk (n:=29) Tryz.func58 Z Z Z fun cs => ?_
 refine zc<|za<|zbe (cs:=#[str m,str t,V minor,.slice A fs.length C]) Z zg0 Z Z ?_
 intro b1
 refine AtL.alloc tf_zero4 (cs:=#[.bool false]) Z zg0 Z ?_
 intro b2
 refine AtL.done<|zc<|za<|zd zjh zg0 Z Z Z<|zh zo zg0 Z Z (Cell.own 1 0 Z Z Z)<|zW zg0 Z Z Z ?_
 refine AtL.alloc tf_zero4 (cs:=#[.bool false]) Z zg0 Z ?_
 intro b3
 refine zr (H':=O10 b3 (decide ((minor:Int)=1))::O10 b2 false::O7 b1 (str m) (str t) minor A fs.length C::H) 0 0 za0 zg0 Z Z Z Z Z Z Z Z Z<|AtL.done<|zc<|zc<|za<|zay (cs:=[str m,str t,V minor,.slice A fs.length C]) zaU zg0 Z Z Z (zad 2 0 0 Z Z Z) ?_
 refine zk zgD zg0 Z Z (all_ok (fs:=fs) (Rd.skip 3 h) (nm:=[99,111,110,110,101,99,116,105,111,110]) (by decide) hfl hb) ?_
 rintro _ _ ⟨⟨A4,C5,l6,s7,o8⟩,hx9,rfl,rfl⟩
 have hcapL:=z7 o8
 have hleL:=zab o8
 have hL:l6=allF fs [99,111,110,110,101,99,116,105,111,110]:=hx9
 have hLb:∀ u ∈ l6,u.length < 4294967281:=fun u hu => by
  rw [hL] at hu
  obtain ⟨f,hf,he⟩:=List.mem_map.1 hu
  have:=hb4 f (List.mem_filter.1 hf).1
  rw [← he]; exact this
 refine zC Tryz.underlying161 zg0 Z Z<|zb zg0 Z Z<|AtL.done<|At.block<|At.nil<|At.pick (H':=O10 b3 (decide ((minor:Int)=1))::O10 b2 false::O7 b1 (str m) (str t) minor A fs.length C::s7::[]::H) [2,3,4,1,0] 5 Z Z ?_
 refine At.loopD3 (fun (k:Nat) (kp:Bool) (rs:List Nat) => [(2,B b2),(3,B b3),(11,.slice A4 l6.length C5),(12,V (l6.length:Int)),(13,V (k:Int))]) (fun (k:Nat) (kp:Bool) (rs:List Nat) => (O10 b3 kp)::O10 b2 false::O7 b1 (str m) (str t) minor A fs.length C::s7::zdK rs::H) (fun (k:Nat) (kp:Bool) (rs:List Nat) => colsOf rs) (fun (k:Nat) (kp:Bool) (rs:List Nat) => k≤l6.length∧zeZ kp ((l6.drop k).flatMap wdF)=zfn fs minor) (fun (k:Nat) (kp:Bool) (rs:List Nat) => l6.length - k) 0 (decide ((minor:Int)=1)) [] ⟨Nat.zero_le _,by rw [hL]; exact keep_start fs minor⟩ ⟨Z,Z,Z,Z,Z,trivial⟩ Z Z ?_
 rintro k kp rs ⟨hk,hg⟩ ihL1
 refine zc<|za<|zA zg0 Z Z Z<|AtL.done<|zc<|zq Z ?_ ?_
 ·intro hc1
  have hvl:=hLb _ (zbh (l:=l6) (i:=k) (d:=([]:List UInt8)) (by omega))
  refine zj<|zc<|At.block<|zc<|za ?_
  refine zF k (o8.rd (i:=3) Z) Tryz.underlying161 zbY zg0 Z Z Z Z (by omega) ?_
  refine zh (v:=str (l6.getD k [])) zaK zg0 Z Z (zH (o8.rd (i:=3) Z) (zz [] (by omega)) Z)<|AtL.assign zg0 Z Z<|AtL.done<|zc<|za<|zb zg0 Z Z ?_
  refine zk tf_body88 zg0 Z Z (zkC (l6.getD k []) 44) ?_
  rintro _ _ ⟨bp10,bs11,bv12,rfl,rfl⟩
  refine AtL.done<|At.block ?_
  refine zfI (R:=(fun L lp rr v H' => ∃ (b kq:Bool) (y:List UInt8) (L' : Loop),(b=true→zeZ kq ((l6.drop (k + 1)).flatMap wdF)=zfn fs minor∧L' = L)∧(b=false→zfn fs minor=false∧L' = zjT L .ret)∧H' = (O14 bp10 (str [44]))::O14 bs11 (str y)::O15 bv12 0::[(lp,.loop L')]::[(rr,.deferred (some []))]::O10 b3 kq::O10 b2 false::O7 b1 (str m) (str t) minor A fs.length C::s7::zdK rs::H)) Z tf_body131 Z (fun lp => Z) (fun L lp rr hL => ?_) (fun L lp rr v H1 hL hR => ?_)
  ·refine SCalls.pick (H':=O14 bp10 (str [44])::O14 bs11 (str (l6.getD k []))::O15 bv12 0::[(lp,.loop L)]::[(rr,.deferred (some []))]::O10 b3 kp::O10 b2 false::O7 b1 (str m) (str t) minor A fs.length C::s7::zdK rs::H) [2,3,4,0,1,5,6] 7 Z Z ?_
   refine SCalls.mono (seqit_ok (x:=(l6.getD k [])) (c:=44) (T:=O7 b1 (str m) (str t) minor A fs.length C::s7::zdK rs::H) (Hc:=[[(lp,.loop L)],[(rr,.deferred (some []))],(O10 b3 kp),(O10 b2 false)]) (J:=(fun us Hc => ∃ kq:Bool,zeZ kq ((us.map fun x => zbC (zc4 x))++((l6.drop (k + 1)).flatMap wdF))=zfn fs minor∧Hc=[[(lp,.loop L)],[(rr,.deferred (some []))],(O10 b3 kq),(O10 b2 false)])) (K:=(fun Hc => ∃ kq:Bool,zfn fs minor=false∧Hc=[[(lp,.loop (zjT L .ret))],[(rr,.deferred (some []))],(O10 b3 kq),(O10 b2 false)])) (by omega) TT (fun u us Hc hul hJ T' => ?_) ⟨_,keep_in hg (by omega),Z⟩) (fun v H' hp => ?_)
   ·obtain ⟨kq,hq,rfl⟩:=hJ
    have htl:=trimS_le2 u [9,32]
    refine zdt hL (i:=0) (j:=0) Z Z Z Z Z (fun c cs => ?_)
    refine za<|AtL.assign zg0 Z Z<|AtL.done<|zfK 0 0 hL Z Z Z Z<|At.block<|zc ?_
    refine za<|zb zg0 Z Z ?_
    refine zk zgE zg0 Z Z (zkw (x:=u) (cs:=[9,32]) (by omega) (by decide) (by decide)) ?_
    rintro _ _ ⟨rfl,rfl⟩
    refine zk zgC zg0 Z Z (ziC (l:=Lib.trimS u [9,32]) (by omega)) ?_
    rintro _ _ ⟨rfl,rfl⟩
    refine AtL.done<|At.block<|zc<|za<|zcT (a:=zbC (Lib.trimS u [9,32])) (b:=[99,108,111,115,101]) zg0 Z Z Z<|AtL.assign zg0 Z Z ?_
    refine AtL.done<|zq Z ?_ ?_
    ·intro hc2
     refine zc<|za<|zr (H':=[(lp,.loop (zgi L))]::[(rr,.deferred (some []))]::O10 b3 kq::O10 b2 false::T') 3 0 za0 zg0 Z Z Z Z Z Z Z Z Z<|AtL.done ?_
     exact zkr 0 0 Z Z Z (⟨false,[[(lp,.loop (zjT L .ret))],[(rr,.deferred (some []))],(O10 b3 kq),(O10 b2 false)],Z,Z,fun h => (by cases h),fun _ => ⟨kq,keep_close hq hc2,Z⟩⟩)
    ·intro hc2
     refine zc<|za<|zcT (a:=zbC (Lib.trimS u [9,32])) (b:=[107,101,101,112,45,97,108,105,118,101]) zg0 Z Z Z<|AtL.assign zg0 Z Z<|AtL.done<|zq Z ?_ ?_
     ·intro hc3
      refine za<|zr (H':=[(lp,.loop (zgi L))]::[(rr,.deferred (some []))]::O10 b3 true::O10 b2 false::T') 2 0 za0 zg0 Z Z Z Z Z Z Z Z Z<|AtL.done<|zp<|zp ?_
      exact zcQ 0 0 hL Z Z Z (⟨true,[[(lp,.loop L)],[(rr,.deferred (some []))],(O10 b3 true),(O10 b2 false)],Z,Z,fun _ => ⟨true,(zjU hq hc2).1 hc3,Z⟩,fun h => (by cases h)⟩)
     ·intro hc3
      refine zj<|zp<|zp ?_
      exact zcQ 0 0 hL Z Z Z (⟨true,[[(lp,.loop L)],[(rr,.deferred (some []))],(O10 b3 kq),(O10 b2 false)],Z,Z,fun _ => ⟨kq,(zjU hq hc2).2 hc3,Z⟩,fun h => (by cases h)⟩)
   ·obtain ⟨b,y,Hc',h1,h2,rfl,rfl⟩:=hp
    cases b with
    | true => obtain ⟨kq,hq,rfl⟩:=h1 rfl; exact ⟨true,kq,y,L,fun _ => ⟨hq,rfl⟩,fun h => (by cases h),rfl⟩
    | false => obtain ⟨kq,hq,rfl⟩:=h2 rfl; exact ⟨false,kq,y,zjT L .ret,fun h => (by cases h),fun _ => ⟨hq,rfl⟩,rfl⟩
  ·obtain ⟨b,kq,y,L',h1,h2,rfl⟩:=hR
   cases b with
   | true =>
    obtain ⟨hg2,hL2⟩:=h1 rfl
    subst hL2
    refine ⟨3,0,_,_,_,Z,Z,zeI hL,Z,?_⟩
    rw [zgr hL]
    refine zp<|zp<|za ?_
    refine AtL.add (z:=(k:Int) + 1) zg0 Z Z Z (w64 (by omega) (by omega))<|zb zg0 Z Z<|AtL.done<|At.pick (H':=[(rr,.deferred (some []))]::zdK rs::O10 b3 kq::O10 b2 false::O7 b1 (str m) (str t) minor A fs.length C::s7::H) [4,9,5,6,7,8] 10 Z Z<|At.flat (flat_merge _ _ _)<|At.pick (H':=O10 b3 kq::O10 b2 false::O7 b1 (str m) (str t) minor A fs.length C::s7::zdK (rr::rs)::H) [1,2,3,4,0] 5 Z Z ?_
    refine ihL1 (k + 1) kq (rr::rs) ⟨by omega,hg2⟩ (by omega) _ ?_
    exact ⟨Z,Z,Z,Z,Z,trivial⟩
   | false =>
    obtain ⟨hgf,hL2⟩:=h2 rfl
    subst hL2
    refine ⟨3,0,_,_,_,Z,Z,loop_left,Z,?_⟩
    show At _ (.code .ret::_) _ _ _
    refine zaJ Z<|zcg (i:=4) (j:=0) Z Z Z Z ?_
    refine zfz (i:=9) Z Z (fun sD => ?_)
    show Un _ _ _ _ (O14 bp10 (str [44])::O14 bs11 (str y)::[(bv12,.cells #[.int .i64 0] 3 (0,0))]::[(lp,.loop (overL (zjT L .ret)))]::[(rr,.deferred none)]::O10 b3 kq::O10 b2 false::[(b1,.cells #[str m,str t,.int .i64 minor,.slice A fs.length C] 42 (0,0))]::s7::sD::H)
    exact zap (vs:=[.bool false]) [] 10 Z Z Tryz.func58 Z ⟨⟨_,Z,LoadsTo.flat zR (Cell.own 6 0 Z Z Z)⟩,trivial⟩ (⟨congrArg Value.bool hgf.symm,Z⟩)
 ·intro hc1
  refine zau Z<|zc<|za<|zh zR zg0 Z Z (Cell.own 0 0 Z Z Z)<|zr (H':=O10 b3 kp::O10 b2 kp::O7 b1 (str m) (str t) minor A fs.length C::s7::zdK rs::H) 1 0 za0 zg0 Z Z Z Z Z Z Z Z Z<|AtL.done ?_
  refine zaJ Z ?_
  refine zfz (i:=4) Z Z (fun sD => ?_)
  show Un _ _ _ _ (O10 b3 kp::O10 b2 kp::[(b1,.cells #[str m,str t,.int .i64 minor,.slice A fs.length C] 42 (0,0))]::s7::sD::H)
  exact zap (vs:=[.bool kp]) [] 5 Z Z Tryz.func58 Z ⟨⟨_,Z,LoadsTo.flat zR (Cell.own 1 0 Z Z Z)⟩,trivial⟩ (⟨congrArg Value.bool (keep_end hg (by omega)),Z⟩)
set_option maxRecDepth 100000
structure ItV where
  st:Int
  hd:HeadV
  body:List UInt8
  keep:Bool
deriving DecidableEq
def ItV.bad (s:Int):ItV:=⟨s,⟨[],[],0,[]⟩,[],false⟩
inductive HR where
  | wait
  | ends (s:Int)
  | ready (hd:HeadV) (long body:Nat) (keep:Bool)
def CR2:List UInt8:=[13,10,13,10]
def EXPECT:List UInt8:=[101,120,112,101,99,116]
def POSTH:List UInt8:=[80,79,83,84]
def askR (b:List UInt8) (long:Nat):HR :=
 if ¬ (zaT (b.take long)).2=200 then .ends (zaT (b.take long)).2
 else if 0 < (zbA (zaT (b.take long)).1.fs EXPECT).2 then .ends 417
 else if ¬ (zaQ (zaT (b.take long)).1.fs).2=200 then .ends (zaQ (zaT (b.take long)).1.fs).2
 else if (zaQ (zaT (b.take long)).1.fs).1 < 0∧(zaT (b.take long)).1.m=POSTH then .ends 411
 else .ready (zaT (b.take long)).1 long (zaQ (zaT (b.take long)).1.fs).1.toNat (zfn (zaT (b.take long)).1.fs (zaT (b.take long)).1.minor)
def zaP (b:List UInt8):HR :=
 if Go.Lib.index b CR2 < 0∨4096 < Go.Lib.index b CR2 + 4 then (if 4096 < b.length then .ends 431 else .wait)
 else askR b ((Go.Lib.index b CR2).toNat + 4)
theorem askR_long {b:List UInt8}{n:Nat}{hd:HeadV}{long body:Nat}{k:Bool}(h:askR b n = .ready hd long body k):long=n:=by
 unfold askR at h
 repeat' split at h
 all_goals first | cases h | skip
 all_goals rfl
theorem zeg {b:List UInt8}{hd:HeadV}{long body:Nat}{k:Bool}(h:zaP b = .ready hd long body k):4≤long∧long≤4096∧long≤b.length∧Go.Lib.index b CR2=(long:Int) - 4:=by
 unfold zaP at h
 split at h
 ·split at h <;> cases h
 ·rename_i hc
  have:=askR_long h
  have hr:=Go.Lib.index_room b CR2 (by omega)
  have e:CR2.length=4:=rfl
  omega
def runF (b:List UInt8):List ItV×List UInt8×Bool :=
 match h:zaP b with
 | .wait => ([],b,false)
 | .ends s => ([ItV.bad s],[],true)
 | .ready hd long body k =>
  if hlt:b.length < long + body then ([],b,false)
  else if k then (⟨200,hd,(b.drop long).take body,true⟩::(runF (b.drop (long + body))).1,(runF (b.drop (long + body))).2)
  else ([⟨200,hd,(b.drop long).take body,false⟩],[],true)
termination_by b.length
decreasing_by all_goals (have:=zeg h; rw [List.length_drop]; omega)
theorem run_wait {b:List UInt8}(h:zaP b = .wait):runF b=([],b,false):=by rw [runF]; split <;> simp_all
theorem run_ends {b:List UInt8}{s:Int}(h:zaP b = .ends s):runF b=([ItV.bad s],[],true):=by rw [runF]; split <;> simp_all
theorem zjI {b:List UInt8}{hd:HeadV}{long body:Nat}{k:Bool}(h:zaP b = .ready hd long body k) (hl:b.length < long + body):runF b=([],b,false):=by rw [runF]; split <;> simp_all
theorem run_last {b:List UInt8}{hd:HeadV}{long body:Nat}(h:zaP b = .ready hd long body false) (hl:¬ b.length < long + body):runF b=([⟨200,hd,(b.drop long).take body,false⟩],[],true):=by
 rw [runF]; split <;> simp_all
theorem run_more {b:List UInt8}{hd:HeadV}{long body:Nat}(h:zaP b = .ready hd long body true) (hl:¬ b.length < long + body):runF b=(⟨200,hd,(b.drop long).take body,true⟩::(runF (b.drop (long + body))).1,(runF (b.drop (long + body))).2):=by
 rw [runF]; split <;> simp_all
theorem zkH {b x s:List UInt8}{j:Nat}(hj:j + s.length≤b.length):Go.Lib.occAt (b++x) s j=Go.Lib.occAt b s j:=by
 rw [Go.Lib.occAt,Go.Lib.occAt,List.drop_append_of_le_length (by omega),Bool.eq_iff_iff,List.isPrefixOf_iff_prefix,List.isPrefixOf_iff_prefix]
 constructor
 ·intro h; exact List.prefix_of_prefix_length_le h (List.prefix_append _ _) (by rw [List.length_drop]; omega)
 ·intro h; exact h.trans (List.prefix_append _ _)
theorem index_app {b x s:List UInt8}(h:0≤Go.Lib.index b s):Go.Lib.index (b++x) s=Go.Lib.index b s:=by
 rcases Go.Lib.index_spec b s with ⟨h1,_⟩ | ⟨i,h1,h2,h3,h4⟩
 ·omega
 ·have hr:=Go.Lib.index_room b s h
  rw [h1]
  refine Go.Lib.index_first (by rw [List.length_append]; omega) (by rw [zkH (by omega)]; exact h3) fun j hj => ?_
  rw [zkH (by omega)]; exact h4 j hj
theorem askR_app {b x:List UInt8}{n:Nat}(h:n≤b.length):askR (b++x) n=askR b n:=by
 unfold askR
 rw [List.take_append_of_le_length h]
theorem head_app {b x:List UInt8}(h:zaP b≠.wait):zaP (b++x)=zaP b:=by
 have e4:CR2.length=4:=rfl
 by_cases hc:Go.Lib.index b CR2 < 0∨4096 < Go.Lib.index b CR2 + 4
 ·have hl:4096 < b.length:=by
   by_cases hl:4096 < b.length
   ·exact hl
   ·exact absurd (by rw [zaP,if_pos hc,if_neg hl]) h
  have hc2:Go.Lib.index (b++x) CR2 < 0∨4096 < Go.Lib.index (b++x) CR2 + 4:=by
   rcases Go.Lib.index_spec (b++x) CR2 with ⟨h1,_⟩ | ⟨i,h1,h2,h3,h4⟩
   ·omega
   ·by_cases hi:4096 < i + 4
    ·omega
    ·rw [zkH (by omega)] at h3
     rcases Go.Lib.index_spec b CR2 with ⟨_,k2⟩ | ⟨j,k1,k2,k3,k4⟩
     ·rw [k2 i (by omega)] at h3; cases h3
     ·have:j≤i:=by
       rcases Nat.lt_or_ge i j with q | q
       ·rw [k4 i q] at h3; cases h3
       ·exact q
      omega
  rw [zaP,zaP,if_pos hc,if_pos hc2,if_pos hl,if_pos (by rw [List.length_append]; omega)]
 ·have hi:=index_app (b:=b) (x:=x) (s:=CR2) (by omega)
  have hr:=Go.Lib.index_room b CR2 (by omega)
  rw [zaP,zaP,hi,if_neg hc,if_neg hc,askR_app (by omega)]
theorem zkS {fs:List Fld}{f:Fld}(h:f ∈ fs):f.1.length + f.2.length≤(ze0 fs).length:=by
 induction fs with
 | nil => cases h
 | cons g fs ih =>
  simp only [ze0,fieldB,List.length_append,List.length_cons]
  rcases List.mem_cons.1 h with rfl | h
  ·omega
  ·have:=ih h; omega
theorem zkF {p:HeadV×Int}{b:List UInt8}(hp:p=zaT b) (h:p.2=200) (hb:b.length≤4096):p.1.fs.length≤1000∧(∀ f ∈ p.1.fs,f.1.length≤140737488355000∧f.2.length≤140737488355000)∧(∀ f ∈ p.1.fs,f.2.length < 4294967281):=by
 obtain ⟨h1,h2⟩:=back2 b p.1 (by rw [← hp]; exact Prod.ext rfl h)
 simp only [okF,Bool.and_eq_true,decide_eq_true_eq] at h1
 have h3:∀ f ∈ p.1.fs,f.1.length + f.2.length≤4128:=fun f hf => by
  have:=zkS hf
  simp only [headB,List.length_append,List.length_cons] at h2
  omega
 exact ⟨by omega,fun f hf => by have:=h3 f hf; omega,fun f hf => by have:=h3 f hf; omega⟩
set_option maxRecDepth 100000
def zcJ:Ty (Int×List UInt8×List UInt8×Int×Vs (List UInt8×List UInt8)×Vs UInt8×Bool):={ val:=fun x => .agg #[int x.1,str x.2.1,str x.2.2.1,int x.2.2.2.1,.slice x.2.2.2.2.1.A x.2.2.2.2.1.l.length x.2.2.2.2.1.C,.slice x.2.2.2.2.2.1.A x.2.2.2.2.2.1.l.length x.2.2.2.2.2.1.C,.bool x.2.2.2.2.2.2],sz:=7,ok:=fun _ => rfl,plain:=fun x c hc => by simp [int,str,Value.cells] at hc; rcases hc with rfl | rfl | rfl | rfl | rfl | rfl | rfl <;> rfl }
theorem tf_el131:ElemOk Tryz.prog 131 130 zcJ ((0,[],[],0,⟨none,0,[]⟩,⟨none,0,[]⟩,false):Int×List UInt8×List UInt8×Int×Vs (List UInt8×List UInt8)×Vs UInt8×Bool) 104:=ElemOk.of Tryz.underlying131 (by kernel_rfl) (by kernel_rfl) rfl
structure It where
  st:Int
  m:List UInt8
  t:List UInt8
  minor:Int
  f:Sl zbE 173
  z:Sl tyB 5
  keep:Bool
def It.v (x:It):(Int×List UInt8×List UInt8×Int×Vs (List UInt8×List UInt8)×Vs UInt8×Bool):=(x.st,x.m,x.t,x.minor,x.f.v,x.z.v,x.keep)
def ziX (x:It):ItV:=⟨x.st,⟨x.m,x.t,x.minor,x.f.l⟩,x.z.l,x.keep⟩
def itS (l:List It):Seg:=l.flatMap fun x => x.f.s++x.z.s
def It.bad (s:Int):It:=⟨s,[],[],0,Sl.nil,Sl.nil,false⟩
inductive Rph where
  | over
  | head
  | rest (m t:List UInt8) (minor:Int) (f:Sl zbE 173) (keep:Bool) (long body:Nat)
def Rph.s:Rph→Seg
 | .rest _ _ _ f _ _ _ => f.s
 | _ => []
def headFn (r:Nat):Value:=.func (.func 48) #[.pointer (some ⟨r,0,none⟩)] #[]
def restFn (r:Nat):Value:=.func (.func 59) #[.pointer (some ⟨r,0,none⟩)] #[]
def rdC (r:Nat) (ph:Rph) (x:Sl tyB 5) (o:Value) (g:Nat→Value):Seg :=
 match ph with
 | .over => [(r,.cells #[.bool true,.slice none 0 0,.nilFunc,g 0,g 1,g 2,g 3,g 4,g 5,g 6,g 7,g 8,o] 133 (0,0))]
 | .head => [(r,.cells #[.bool true,.slice x.A x.l.length x.C,headFn r,g 0,g 1,g 2,g 3,g 4,g 5,g 6,g 7,g 8,o] 133 (0,0))]
 | .rest m t minor f keep long body => [(r,.cells #[.bool true,.slice x.A x.l.length x.C,restFn r,int 200,str m,str t,int minor,.slice f.A f.l.length f.C,.slice none 0 0,.bool keep,int (long:Int),int (body:Int),o] 133 (0,0))]
def waitsM (os:List Oper) (val:Env) (fs:List Nat):Bool:=os.zipIdx.all fun (o,i) => zaG val i || (fs.any fun e => Nat.beq i e) || (zdx o).any fun j => !zaG val j
def AllM:List Nat→(Nat→Prop)→Prop
 | [],_ => True
 | e::es,p => p e∧AllM es p
theorem AllM.get {p:Nat→Prop}:∀ {fs:List Nat},AllM fs p→∀ e ∈ fs,p e
 | _::_,h,e,he => by
  rcases List.mem_cons.1 he with rfl | he
  ·exact h.1
  ·exact AllM.get h.2 e he
def PhM (X:Pt) (os:List Oper) (k:List Item) (E0:Env) (ds:List Deferred):Nat→List Nat→Env→Env→List Seg→Prop
 | 0,_,pv,xv,H => PureL X os E0 (pv++xv) xv H pv∧(os.zipIdx.all fun (_,i) => zaG (pv++xv) i)=true∧At X k (finE os 0 (pv++xv) E0) ds H
 | n + 1,fs,pv,xv,H => PureL X os E0 (pv++xv) xv H pv∧fs≠[]∧(fs.all fun x => !zaG (pv++xv) x)=true∧waitsM os (pv++xv) fs=true ∧
  AllM fs fun e => ∃ o,os[e]? = some o∧zdJ X.n o.dst=true∧ze4 os (pre os E0 (pv++xv) e) o.guard true∧∃ R,Does X (pre os E0 (pv++xv) e) H o.op R ∧
   ∀ v H',R v H'→∃ pv' fs',(pv'.all fun p => !zaG (pv++xv) p.1 && !Nat.beq p.1 e)=true∧PhM X os k E0 ds n fs' (pv'++pv) ((e,v)::xv) H'
section
variable {X:Pt}{k:List Item}{E0:Env}{ds:List Deferred}{ops:Array Oper}
theorem draw_goM (hok:zgT ops.toList=true) (hdl:zf3 ops.toList=true) (hrd:(ops.toList.all fun o => (zdw ops.toList o).all fun t => Nat.blt t X.n)=true) :
  ∀ (fuel t:Nat) (l:Array Bool) (n:Nat) (fs:List Nat) (pv xv:Env) (H:List Seg) (a:Array Value) (w:World),l.size=ops.size→(∀ i o,ops.toList[i]? = some o→Dn l i→∀ j ∈ zdx o,Dn l j) →
   (∀ i o,ops.toList[i]? = some o→Dn l i→zaG (pv++xv) i=true)→(∀ p ∈ xv,Dn l p.1) →
   (ops.size≤fuel + ((List.range ops.size).filter fun i => l.getD i false).length)→PhM X ops.toList k E0 ds n fs pv xv H→AgD X.n ops.toList E0 (pv++xv) (Dn l) a→Sep X.w0 X.base w H →
   Ev X.P (lone (X.c.fr a ds (.inRegion ops (Region.linearise.go .any ops fuel t l [])::k)) X.cs w) X.G:=by
 intro fuel
 induction fuel with
 | zero =>
  intro t l n fs pv xv H a w hs hcl hkn hxv hf hp ha S
  have hall:∀ i o,ops.toList[i]? = some o→Dn l i:=by
   intro i o ho
   have hlt:i < ops.size:=by have:=(List.getElem?_eq_some_iff.1 ho).1; simpa using this
   have hle:((List.range ops.size).filter fun i => l.getD i false).length≤ops.size:=by
    have:=List.length_filter_le (fun i => l.getD i false) (List.range ops.size)
    simpa using this
   have heq:((List.range ops.size).filter fun i => l.getD i false).length=(List.range ops.size).length:=by rw [List.length_range]; omega
   have:=List.length_filter_eq_length_iff.1 heq i (List.mem_range.2 hlt)
   exact this
  cases n with
  | succ n =>
   obtain ⟨_,hne,hun,_,hall2⟩:=hp
   cases fs with
   | nil => exact absurd rfl hne
   | cons e es =>
    obtain ⟨o,ho,_⟩:=hall2.1
    have h1:=hkn e o ho (hall e o ho)
    have h2:=List.all_eq_true.1 hun e (by simp)
    rw [h1] at h2; cases h2
  | zero =>
   obtain ⟨_,hkn2,hat⟩:=hp
   simp only [Region.linearise.go,List.reverse_nil]
   refine .step zcv (hat a w (ha.fin hall (fun i o ho => ?_)) S)
   exact hkn i o ho (hall i o ho)
 | succ fuel ih =>
  intro t l n fs pv xv H a w hs hcl hkn hxv hf hp ha S
  simp only [Region.linearise.go]
  split
  ·rename_i i hi
   rw [linearise_go_acc]
   simp only [List.reverse_cons,List.reverse_nil,List.nil_append,List.singleton_append]
   have hmem:i ∈ Region.ready .any ops l:=List.mem_iff_getElem?.2 ⟨_,hi⟩
   obtain ⟨o,ho,hnl,hdeps⟩:=zjK hmem
   have hnd:=not_dn hnl
   have hoL:ops.toList[i]? = some o:=by rw [Array.getElem?_toList]; exact ho
   have hlt:i < ops.size:=(Array.getElem?_eq_some_iff.1 ho).1
   have hAg:=ha.pre hok hdl hcl hoL hnd hdeps
   have hprelt:∀ t v,Env.get (pre ops.toList E0 (pv++xv) i) t=some v→t < X.n:=by
    have h1:=List.all_eq_true.1 hrd o (List.mem_iff_getElem?.2 ⟨i,hoL⟩)
    have key:∀ ts:List Nat,(∀ t ∈ ts,t < X.n)→∀ t v,Env.get (preL ops.toList E0 (pv++xv) i ts) t=some v→t < X.n:=by
     intro ts
     induction ts with
     | nil => intro _ t v hv; simp [preL,Env.get] at hv
     | cons t0 ts ih =>
      intro hts t v hv
      simp only [preL] at hv
      split at hv
      ·simp only [Env.get] at hv
       by_cases e:t0=t
       ·subst e; exact hts t0 (by simp)
       ·rw [zcf e] at hv
        exact ih (fun t ht => hts t (by simp [ht])) t v hv
      ·exact ih (fun t ht => hts t (by simp [ht])) t v hv
    intro t v hv
    unfold pre at hv
    rw [hoL] at hv
    exact key _ (fun t ht => zdf (List.all_eq_true.1 h1 t ht)) t v hv
   -- what is the same in each case behind the operation
   have after:∀ (n' : Nat) (fs' : List Nat) (pv' xv' : Env) (H' : List Seg) (v:Value) (w' : World),PhM X ops.toList k E0 ds n' fs' pv' xv' H'→Sep X.w0 X.base w' H'→zdJ X.n o.dst=true→Env.get (pv'++xv') i=some v →
     (∀ j,zaG (pv++xv) j=true→Env.get (pv'++xv') j=Env.get (pv++xv) j)→(∀ p ∈ xv',Dn l p.1∨p.1=i) →
     Ev X.P (lone (X.c.fr (putA a o.dst v) ds (.inRegion ops (Region.linearise.go .any ops fuel (t / (Region.ready .any ops l).length) (l.setIfInBounds i true) [])::k)) X.cs w') X.G:=by
    intro n' fs' pv' xv' H' v w' hp' S' hd hv hsame hxv'
    have hds:=dn_set (l:=l) (i:=i) (by omega)
    have hAgD:AgD X.n ops.toList E0 (pv'++xv') (Dn l) a:=by
     refine ⟨ha.size,fun j p t u hDj hp hpd hlast hu => ?_,ha.old⟩
     refine ha.done j p t u hDj hp hpd hlast ?_
     rw [← hsame j (hkn j p hp hDj)]
     exact hu
    have hst:=hAgD.step hok hdl hcl hoL hnd hd hv
    refine ih _ _ n' fs' pv' xv' H' _ w' (by simpa using hs) ?_ ?_ ?_ ?_ hp' ?_ S'
    ·intro j p hj hDj m hm
     rw [hds] at hDj ⊢
     rcases hDj with hDj | rfl
     ·exact .inl (hcl j p hj hDj m hm)
     ·rw [hoL] at hj; cases hj
      exact .inl (hdeps m hm)
    ·intro j p hj hDj
     rw [hds] at hDj
     rcases hDj with hDj | rfl
     ·have:=hkn j p hj hDj
      unfold zaG at this ⊢
      rw [hsame j this]; exact this
     ·unfold zaG; rw [hv]; rfl
    ·intro p hp
     rw [hds]; exact hxv' p hp
    ·have hcount:((List.range ops.size).filter fun j => (l.setIfInBounds i true).getD j false).length=((List.range ops.size).filter fun j => l.getD j false).length + 1:=by
      have hp:∀ j,(l.setIfInBounds i true).getD j false=(l.getD j false || Nat.beq j i):=by
       intro j
       have:(l.setIfInBounds i true).getD j false=true↔l.getD j false=true∨j=i:=hds j
       rw [Bool.eq_iff_iff,Bool.or_eq_true,this]
       constructor
       ·rintro (h | h)
        ·exact .inl h
        ·exact .inr (by subst h; simp)
       ·rintro (h | h)
        ·exact .inl h
        ·exact .inr (Nat.eq_of_beq_eq_true h)
      have hif:l.getD i false=false:=by
       cases hb:l.getD i false with
       | false => rfl
       | true => exact absurd hb hnd
      have hset:(List.range ops.size).filter (fun j => (l.setIfInBounds i true).getD j false)=(List.range ops.size).filter fun j => ((fun j => l.getD j false) j || Nat.beq j i):=List.filter_congr fun j _ => hp j
      rw [hset]
      exact zh3 _ i hif _ List.nodup_range (List.mem_range.2 hlt)
     omega
    ·refine ⟨hst.size,?_,?_⟩
     ·intro j p t u hDj hp hpd hlast hu
      exact hst.done j p t u ((hds j).1 hDj) hp hpd (fun m hm hDm q hq => hlast m hm ((hds m).2 hDm) q hq) hu
     ·intro t u hno hu
      exact hst.old t u (fun m hDm p hp => hno m ((hds m).2 hDm) p hp) hu
   -- an operation whose value is known in this phase
   have pureCase:∀ v,Env.get pv i=some v→PureL X ops.toList E0 (pv++xv) xv H pv →
     Ev X.P (lone (X.c.fr a ds (.inRegion ops (i::Region.linearise.go .any ops fuel (t / (Region.ready .any ops l).length) (l.setIfInBounds i true) [])::k)) X.cs w) X.G:=by
    intro v hv hpl
    have hone:zhd X ops.toList E0 (pv++xv) H i v:=by
     rcases hpl.get hv with h | h
     ·obtain ⟨p,hp1,hp2⟩:=List.any_eq_true.1 h
      have hDp:=hxv p hp1
      cases hop:ops.toList[p.1]? with
      | none =>
       exfalso
       have hlen:(zcR ops.toList []).length=ops.toList.length:=by have:=zjQ ops.toList []; simpa using this
       have hnone:(zcR ops.toList []).getD p.1 0=0:=by
        rw [List.getElem?_eq_none_iff] at hop
        simp [List.getD,List.getElem?_eq_none (show (zcR ops.toList []).length≤p.1 by omega)]
       unfold befB at hp2
       rw [hnone] at hp2
       simp at hp2
      | some q => exact absurd (zfy hcl hdl p.1 q hop (hcl p.1 q hop hDp) i hp2) hnd
     ·exact h
    obtain ⟨o',ho',hd,hor⟩:=hone
    rw [hoL] at ho'; cases ho'
    have hget:Env.get (pv++xv) i=some v:=by rw [zbP,hv]
    have hcont:=fun (w' : World) (S' : Sep X.w0 X.base w' H) => after n fs pv xv H v w' hp S' hd hget (fun j _ => rfl) (fun p hp => .inl (hxv p hp))
    rcases hor with ⟨hw,hdo⟩ | ⟨hw,rfl⟩
    ·obtain ⟨v',H',w',⟨rfl,rfl⟩,S',hst⟩:=hdo o.dst o.type o.pos o.after o.guard ops i _ k ds a w ho (zez hAg hprelt hw) (fun x u hx => hAg.ev hx) S
     exact .steps hst (hcont w' S')
    ·exact .step (zeK ho (zgu hAg hprelt hw)) (hcont w S)
   cases n with
   | zero =>
    obtain ⟨hpl,hall,hat⟩:=hp
    have hk1:=List.all_eq_true.1 hall (o,i) (List.mem_iff_getElem?.2 ⟨i,by simp [List.getElem?_zipIdx,hoL]⟩)
    have hk1:zaG (pv++xv) i=true:=hk1
    cases hv:Env.get pv i with
    | some v => exact pureCase v hv hpl
    | none =>
     unfold zaG at hk1
     rw [zbP,hv] at hk1
     cases hx:Env.get xv i with
     | none => rw [hx] at hk1; cases hk1
     | some u => exact absurd (hxv _ (ziJ hx)) hnd
   | succ n =>
    have hp0:=hp
    obtain ⟨hpl,hne,hek,hwt,hAll⟩:=hp
    have hunk:∀ x ∈ fs,Env.get (pv++xv) x=none:=by
     intro x hx
     have:=List.all_eq_true.1 hek x hx
     unfold zaG at this
     cases hg:Env.get (pv++xv) x with
     | none => rfl
     | some u => rw [hg] at this; cases this
    by_cases hie:i ∈ fs
    ·obtain ⟨oe,hoe,hd,hw,R,hdo,hR⟩:=hAll.get i hie
     rw [hoL] at hoe; cases hoe
     obtain ⟨v,H',w',hRv,S',hst⟩:=hdo o.dst o.type o.pos o.after o.guard ops i (Region.linearise.go .any ops fuel (t / (Region.ready .any ops l).length) (l.setIfInBounds i true) []) k ds a w ho (zez hAg hprelt hw) (fun x u hx => hAg.ev hx) S
     obtain ⟨pv',fs',hpv',hp'⟩:=hR v H' hRv
     refine .steps hst ?_
     have hfresh:∀ j u,Env.get pv' j=some u→Env.get (pv++xv) j=none∧j≠i:=by
      intro j u hj
      have hm:∃ p ∈ pv',p.1=j:=by
       clear hp' hpv'
       induction pv' with
       | nil => simp [Env.get] at hj
       | cons p pv' ihp =>
        simp only [Env.get] at hj
        by_cases e:p.1=j
        ·exact ⟨p,by simp,e⟩
        ·rw [zcf e] at hj
         obtain ⟨q,hq,hq2⟩:=ihp hj
         exact ⟨q,by simp [hq],hq2⟩
      obtain ⟨p,hp1,rfl⟩:=hm
      have:=List.all_eq_true.1 hpv' p hp1
      rw [Bool.and_eq_true,Bool.not_eq_true',Bool.not_eq_true'] at this
      refine ⟨?_,?_⟩
      ·have h1:=this.1
       unfold zaG at h1
       cases hg:Env.get (pv++xv) p.1 with
       | none => rfl
       | some u => rw [hg] at h1; cases h1
      ·intro e
       have h2:=this.2
       rw [e] at h2
       simp at h2
     have hi0:=hunk i hie
     have hpi:Env.get pv i=none:=by
      rw [zbP] at hi0
      cases hg:Env.get pv i with
      | none => rfl
      | some u => rw [hg] at hi0; cases hi0
     have hget:Env.get ((pv'++pv)++((i,v)::xv)) i=some v:=by
      rw [zbP,zbP]
      cases hg:Env.get pv' i with
      | some u => exact absurd rfl (hfresh i u hg).2
      | none => simp [hpi,Env.get]
     refine after n fs' _ _ H' v w' hp' S' hd hget ?_ ?_
     ·intro j hj
      have hj0:Env.get (pv++xv) j≠none:=by
       unfold zaG at hj
       intro h; rw [h] at hj; cases hj
      have hji:j≠i:=by rintro rfl; exact hj0 hi0
      rw [zbP,zbP,zbP]
      cases hg:Env.get pv' j with
      | some u => exact absurd (hfresh j u hg).1 hj0
      | none =>
       cases hg2:Env.get pv j with
       | some u => rfl
       | none => simp only [Env.get,zcf (Ne.symm hji)]
     ·intro p hp
      rcases List.mem_cons.1 hp with rfl | hp
      ·exact .inr Z
      ·exact .inl (hxv p hp)
    ·have hk1:=List.all_eq_true.1 hwt (o,i) (List.mem_iff_getElem?.2 ⟨i,by simp [List.getElem?_zipIdx,hoL]⟩)
     have hk1:(zaG (pv++xv) i || (fs.any fun e => Nat.beq i e) || (zdx o).any fun j => !zaG (pv++xv) j)=true:=hk1
     have hany:((zdx o).any fun j => !zaG (pv++xv) j)=false:=by
      cases hb:((zdx o).any fun j => !zaG (pv++xv) j) with
      | false => rfl
      | true =>
       obtain ⟨j,hj,hjk⟩:=List.any_eq_true.1 hb
       have hDj:=hdeps j hj
       have hjlt:j < i:=by
        have h1:=List.all_eq_true.1 hdl (o,i) (List.mem_iff_getElem?.2 ⟨i,by simp [List.getElem?_zipIdx,hoL]⟩)
        exact zdf (List.all_eq_true.1 h1 j hj)
       have hjl:j < ops.toList.length:=by simpa using (show j < ops.size by omega)
       have:=hkn j _ (List.getElem?_eq_getElem hjl) hDj
       rw [this] at hjk; cases hjk
     have hfs:(fs.any fun e => Nat.beq i e)=false:=by
      cases hb:(fs.any fun e => Nat.beq i e) with
      | false => rfl
      | true =>
       obtain ⟨e,he,he2⟩:=List.any_eq_true.1 hb
       exact absurd (Nat.eq_of_beq_eq_true he2 ▸ he) hie
     rw [hfs,hany,Bool.or_false,Bool.or_false] at hk1
     cases hv:Env.get pv i with
     | some v => exact pureCase v hv hpl
     | none =>
      unfold zaG at hk1
      rw [zbP,hv] at hk1
      cases hx:Env.get xv i with
      | none => rw [hx] at hk1; cases hk1
      | some u => exact absurd (hxv _ (ziJ hx)) hnd
  ·rename_i hnone
   have hempty:Region.ready .any ops l=[]:=by
    cases hr:Region.ready .any ops l with
    | nil => rfl
    | cons b r =>
     have hlen:t % (Region.ready .any ops l).length < (Region.ready .any ops l).length:=Nat.mod_lt _ (by rw [hr]; simp)
     exact absurd hnone (by
      show ¬ (Region.ready .any ops l)[t % (Region.ready .any ops l).length]? = none
      rw [List.getElem?_eq_getElem hlen]; simp)
   have hall:=all_done hdl hs hempty
   cases n with
   | succ n =>
    obtain ⟨_,hne,hun,_,hall2⟩:=hp
    cases fs with
    | nil => exact absurd rfl hne
    | cons e es =>
     obtain ⟨o,ho,_⟩:=hall2.1
     have h1:=hkn e o ho (hall e o ho)
     have h2:=List.all_eq_true.1 hun e (by simp)
     rw [h1] at h2; cases h2
   | zero =>
    obtain ⟨_,hkn2,hat⟩:=hp
    simp only [List.reverse_nil]
    refine .step zcv (hat a w (ha.fin hall (fun i o ho => ?_)) S)
    exact hkn i o ho (hall i o ho)
theorem At.drawM {id:Nat}{n:Nat}{fs:List Nat}{pv:Env}{H:List Seg}(hm:X.P.follows .mixedOrders=true) (hok:zgT ops.toList=true) (hdl:zf3 ops.toList=true) (hrd:(ops.toList.all fun o => (zdw ops.toList o).all fun t => Nat.blt t X.n)=true)
  (hp:PhM X ops.toList k E0 ds n fs pv [] H):At X (.code (.region id ops true)::k) E0 ds H:=by
 intro a w ha S
 refine .step zeQ ?_
 have hno:∀ i,¬ Dn (Array.replicate ops.size false) i:=by
  intro i hi
  unfold Dn at hi
  rw [Array.getD_eq_getD_getElem?,Array.getElem?_replicate] at hi
  split at hi <;> simp at hi
 unfold Region.schedule Region.linearise
 rw [hm,Bool.true_or,if_pos rfl]
 refine draw_goM hok hdl hrd ops.size _ _ n fs pv [] H a _ (by simp) ?_ ?_ ?_ (Nat.le_add_right _ _) hp ⟨ha.size,?_,?_⟩ (S.drawn _)
 ·exact fun i o _ h => absurd h (hno i)
 ·exact fun i o _ h => absurd h (hno i)
 ·intro p h; cases h
 ·exact fun j o t v h => absurd h (hno j)
 ·exact fun t v _ h => ha.get t v h
end
section
variable {X:Pt}{k:List Item}{E:Env}{ds:List Deferred}{H:List Seg}{id:Nat}{rops:Array Oper}
theorem At.joinQ (Q:Env→List Seg→Prop) (h:(∀ E2 H2,Q E2 H2→At X k E2 ds H2)→At X (.code (.region id rops true)::k) E ds H) (K:∀ E2 H2,Q E2 H2→At X k E2 ds H2):At X (.code (.region id rops true)::k) E ds H:=h K
end
set_option maxRecDepth 100000
theorem zjO {w0:World}{base:Nat}{H:List Seg}{r:Nat}{a0 a1 a2 a3 a4 a5 a6 a7 a8 a9 a10 a11 a12:Value} :
  SCalls Tryz.prog 76 [B r] w0 base ([(r,.cells #[a0,a1,a2,a3,a4,a5,a6,a7,a8,a9,a10,a11,a12] 133 (0,0))]::H) (fun v H' => v = .tuple #[]∧H' = [(r,.cells #[a0,.slice none 0 0,.nilFunc,a3,a4,a5,a6,a7,a8,a9,a10,a11,a12] 133 (0,0))]::H):=by
 refine SCalls.of_walk (n:=8) Tryz.func76 Z Z Z fun cs => ?_
 refine za<|zb zg0 Z Z<|zb zg0 Z Z<|zf zg0 Z Z<|zd zba zg0 Z Z Z<|zr (H':=[(r,.cells #[a0,a1,.nilFunc,a3,a4,a5,a6,a7,a8,a9,a10,a11,a12] 133 (0,0))]::H) 0 0 zim zg0 Z Z Z Z Z Z Z Z Z ?_
 refine zf zg0 Z Z<|zd zbb zg0 Z Z Z<|zr (H':=[(r,.cells #[a0,.slice none 0 0,.nilFunc,a3,a4,a5,a6,a7,a8,a9,a10,a11,a12] 133 (0,0))]::H) 0 0 zaA zg0 Z Z Z Z Z Z Z Z Z<|AtL.done ?_
 exact zbX Tryz.func76 Z Z (⟨Z,Z⟩)
theorem zem {w0:World}{base:Nat}{H:List Seg}{r:Nat}{a0 a1 a2 a3 a4 a5 a6 a7 a8 a9 a10 a11:Value}{y:Sl zcJ 130}(hyl:y.l.length≤1000000) (s:Int) :
  SCalls Tryz.prog 54 [B r,V s] w0 base (y.s::[(r,.cells #[a0,a1,a2,a3,a4,a5,a6,a7,a8,a9,a10,a11,.slice y.A y.l.length y.C] 133 (0,0))]::H) (fun v H' => ∃ y' : Sl zcJ 130,y'.l=y.l++[(s,([]:List UInt8),([]:List UInt8),(0:Int),(⟨none,0,[]⟩:Vs (List UInt8×List UInt8)),(⟨none,0,[]⟩:Vs UInt8),false)]∧v = .bool false∧H' = y'.s::[(r,.cells #[a0,.slice none 0 0,.nilFunc,a3,a4,a5,a6,a7,a8,a9,a10,a11,.slice y'.A y'.l.length y'.C] 133 (0,0))]::H):=by
 have hcapy:=z7 y.own
 refine SCalls.of_walk (n:=18) Tryz.func54 Z Z Z fun cs => ?_
 refine zc<|za<|AtL.assign zg0 Z Z<|AtL.done<|zc<|za ?_
 refine zb zg0 Z Z<|zb zg0 Z Z<|zf zg0 Z Z<|zd za2 zg0 Z Z Z<|zh zcb zg0 Z Z (Cell.own 1 0 Z Z Z)<|zb zg0 Z Z ?_
 refine zaE (cs:=[V s,str [],str [],V 0,.slice none 0 0,.slice none 0 0,.bool false]) zi7 zg0 Z Z Z<|zG (cs:=[V s,str [],str [],V 0,.slice none 0 0,.slice none 0 0,.bool false]) Tryz.underlying131 zfN ze6 Z Z zg0 Z Z Z ?_
 intro b1
 refine zaD zcJ (l:=([((s:Int),([]:List UInt8),([]:List UInt8),(0:Int),(⟨none,0,[]⟩:Vs (List UInt8×List UInt8)),(⟨none,0,[]⟩:Vs UInt8),false)]:List (Int×List UInt8×List UInt8×Int×Vs (List UInt8×List UInt8)×Vs UInt8×Bool))) Z Z (by first | decide | simp) ?_
 intro s2 o3
 refine zam (l:=y.l) (news:=[((s:Int),([]:List UInt8),([]:List UInt8),(0:Int),(⟨none,0,[]⟩:Vs (List UInt8×List UInt8)),(⟨none,0,[]⟩:Vs UInt8),false)]) 1 tf_el131 Z y.own (o3.rd (i:=0) Z) (by first | omega | (simp only [List.length_append,List.length_cons,List.length_nil]; omega) | (simp; done) | (simp; omega)) zg0 Z Z Z ?_
 intro A4 C5 s6 o7
 refine zf zg0 Z Z<|zd za2 zg0 Z Z Z<|zr (H':=s2::s6::[(r,.cells #[a0,a1,a2,a3,a4,a5,a6,a7,a8,a9,a10,a11,.slice A4 (y.l++([((s:Int),([]:List UInt8),([]:List UInt8),(0:Int),(⟨none,0,[]⟩:Vs (List UInt8×List UInt8)),(⟨none,0,[]⟩:Vs UInt8),false)])).length C5] 133 (0,0))]::H) 2 0 zdQ zg0 Z Z Z Z Z Z Z Z Z<|AtL.done<|zc<|za ?_
 refine zb zg0 Z Z<|AtL.pick (H':=[(r,.cells #[a0,a1,a2,a3,a4,a5,a6,a7,a8,a9,a10,a11,.slice A4 (y.l++([((s:Int),([]:List UInt8),([]:List UInt8),(0:Int),(⟨none,0,[]⟩:Vs (List UInt8×List UInt8)),(⟨none,0,[]⟩:Vs UInt8),false)])).length C5] 133 (0,0))]::s2::s6::H) [2,0,1] 3 Z Z<|zk zjl zg0 Z Z zjO ?_
 rintro _ _ ⟨rfl,rfl⟩
 refine AtL.done<|zc<|za<|AtL.assign zg0 Z Z<|AtL.done<|At.pick [2,0] 3 Z Z ?_
 exact zt Tryz.func54 Z Z (⟨⟨A4,C5,y.l++([((s:Int),([]:List UInt8),([]:List UInt8),(0:Int),(⟨none,0,[]⟩:Vs (List UInt8×List UInt8)),(⟨none,0,[]⟩:Vs UInt8),false)]),s6,o7⟩,Z,Z,Z⟩)
theorem zkE {α:Type}{T:Ty α}{w0:World}{base:Nat}{H:List Seg}{A:Option Addr}{C:Nat}{l:List α}(h:Rd T w0 base H A C l) (hA:A.isNone=true):l=[]:=by
 cases A with
 | none => exact List.eq_nil_of_length_eq_zero (by have:=h.nil rfl; have:=h.le; omega)
 | some a => cases hA
theorem zjV {w0:World}{base:Nat}{H:List Seg}{A:Option Addr}{C:Nat}{l:List UInt8}(h:Rd tyB w0 base H A C l) (hbl:l.length≤4294967280) :
  SCalls Tryz.prog 90 [.slice A l.length C] w0 base (H) (fun v H' => ∃ x:Sl tyB 5,x.l=l∧v = .slice x.A x.l.length x.C∧H' = x.s::H):=by
 have hle0:=h.le
 have hcap0:=h.cap
 refine SCalls.of_walk (n:=8) Tryz.func90 Z Z Z fun cs => ?_
 refine zc<|za<|AtL.assign zg0 Z Z<|AtL.done<|zc<|zc ?_
 refine za<|zb zg0 Z Z<|zb3 Tryz.underlying34 zg0 Z Z Z<|AtL.done<|zae Z ?_ ?_
 ·intro hc1
  have hc1:A.isNone=true:=hc1
  refine zc<|za<|AtL.assign zg0 Z Z<|AtL.done<|At.nil ?_
  exact zt Tryz.func90 Z Z (⟨Sl.nil,(zkE h hc1).symm,Z,Z⟩)
 ·intro hc1
  have hc1:A.isNone=false:=hc1
  refine zj<|zc<|za<|zG (cs:=[]) Tryz.underlying34 zbf zQ Z Z zg0 Z Z Z ?_
  intro b1
  refine zaD tyB (l:=([]:List UInt8)) Z Z (by first | decide | simp) ?_
  intro s2 o3
  refine zb zg0 Z Z ?_
  refine zam (l:=[]) (news:=l) 0 zbq Z o3 (Rd.skip 1 h) (by first | omega | (simp only [List.length_append,List.length_cons,List.length_nil]; omega) | (simp; done) | (simp; omega)) zg0 Z Z Z ?_
  intro A4 C5 s6 o7
  refine AtL.assign zg0 Z Z<|AtL.done ?_
  exact zt Tryz.func90 Z Z (⟨⟨A4,C5,l,s6,o7⟩,by simp,Z,Z⟩)
set_option maxHeartbeats 1000000 in
theorem rdhead_ok {w0:World}{base:Nat}{H:List Seg}{r:Nat}{x:Sl tyB 5}{y:Sl zcJ 130}{g:Nat→Value}(hyl:y.l.length≤1000000) (hxl:x.l.length≤4294967280) (T:Tabs w0 base) :
  SCalls Tryz.prog 48 [B r] w0 base (y.s::x.s::[(r,.cells #[.bool true,.slice x.A x.l.length x.C,.func (.func 48) #[B r] #[],g 0,g 1,g 2,g 3,g 4,g 5,g 6,g 7,g 8,.slice y.A y.l.length y.C] 133 (0,0))]::H) (fun v H' => (zaP x.l = .wait∧v = .bool false∧H' = y.s::x.s::rdC r .head x (.slice y.A y.l.length y.C) g::H)∨(∃ (s:Int) (y' : Sl zcJ 130) (g' : Nat→Value),zaP x.l = .ends s∧y'.l=y.l++[(s,([]:List UInt8),([]:List UInt8),(0:Int),(⟨none,0,[]⟩:Vs (List UInt8×List UInt8)),(⟨none,0,[]⟩:Vs UInt8),false)]∧v = .bool false∧H' = y'.s::x.s::rdC r .over x (.slice y'.A y'.l.length y'.C) g'::H)∨(∃ (m t:List UInt8) (minor:Int) (f:Sl zbE 173) (keep:Bool) (long body:Nat),zaP x.l = .ready ⟨m,t,minor,f.l⟩ long body keep∧v = .bool true∧H' = f.s::y.s::x.s::rdC r (.rest m t minor f keep long body) x (.slice y.A y.l.length y.C) g::H)):=by
 have hcapx:=z7 x.own
 have hcapy:=z7 y.own
 refine SCalls.of_walk (n:=101) Tryz.func48 Z Z Z fun cs => ?_
 refine zc<|za<|AtL.assign zg0 Z Z<|AtL.done<|zc<|za ?_
 refine zb zg0 Z Z<|zf zg0 Z Z<|zd zbb zg0 Z Z Z<|zh zE zg0 Z Z (Cell.own 2 0 Z Z Z)<|zG (cs:=[.int .u8 13,.int .u8 10,.int .u8 13,.int .u8 10]) Tryz.underlying34 zbf zQ Z Z zg0 Z Z Z ?_
 intro b1
 refine zhn (l:=[13,10,13,10]) 0 Tryz.underlying34 Tryz.underlying5 Z Z Z (by decide) zg0 Z Z ?_
 intro s2 o3
 refine zk zjn zg0 Z Z (index_ok (l:=x.l) (l2:=[13,10,13,10]) (x.own.rd (i:=2) Z) (o3.rd (i:=0) Z) (by omega) (by decide) T) ?_
 rintro _ _ ⟨rfl,rfl⟩
 obtain ⟨zx,hzx⟩:∃ zx:Int,zx=Lib.index x.l CR2:=⟨_,rfl⟩
 rw [show Lib.index x.l [13,10,13,10]=zx from hzx.symm]
 have hzxg:=Lib.index_ge x.l CR2
 have hzxr:=Lib.index_room x.l CR2
 rw [← hzx] at hzxg hzxr
 refine AtL.assign zg0 Z Z<|AtL.done<|zc<|zc<|za<|zb zg0 Z Z ?_
 refine zA zg0 Z Z Z<|zb zg0 Z Z<|zy 4 (E':=[(22,.bool (decide (((zx:Int) < 0)∨(4096 < (zx + 4:Int))))),(0,B r),(3,V zx)]) (fun J => ?_) ?_
 ·refine zD (t:=18) Z ?_ ?_
  ·intro hs18
   refine ze Z Z Z Z Z Z<|ze Z Z Z Z Z Z<|ze Z Z Z Z Z Z<|zn zg0 Z Z Z ?_
   exact J _ (by exact ⟨(zw (by clear J; first | (simp [hs18]; done) | (simp_all; done) | grind)),Z,Z,trivial⟩)
  ·intro hs18
   refine zb (.inr ⟨_,_,_,Z,Z,Z,Z⟩) Z Z ?_
   refine AtL.add (z:=zx + 4) (.inr ⟨_,_,_,Z,Z,Z,Z⟩) Z Z Z (w64 (by omega) (by omega))<|zai (.inr ⟨_,_,_,Z,Z,Z,Z⟩) Z Z Z<|zm zg0 Z Z Z ?_
   exact J _ (by exact ⟨(zw (by clear J; first | (simp [hs18]; done) | (simp_all; done) | grind)),Z,Z,trivial⟩)
 ·refine AtL.done<|zq Z ?_ ?_
  ·intro hc1
   refine zc<|zc<|za<|zb zg0 Z Z<|zf zg0 Z Z<|zd zbb zg0 Z Z Z ?_
   refine zh zE zg0 Z Z (Cell.own 3 0 Z Z Z)<|zC Tryz.underlying34 zg0 Z Z<|zai zg0 Z Z Z<|AtL.done<|zq Z ?_ ?_
   ·intro hc2
    refine zc<|za<|zb zg0 Z Z<|AtL.pick (H':=y.s::[(r,.cells #[.bool true,.slice x.A x.l.length x.C,.func (.func 48) #[B r] #[],g 0,g 1,g 2,g 3,g 4,g 5,g 6,g 7,g 8,.slice y.A y.l.length y.C] 133 (0,0))]::s2::x.s::H) [1,3,0,2] 4 Z Z<|zk zd6 zg0 Z Z (zem (y:=y) hyl 431) ?_
    rintro _ _ ⟨⟨A4,C5,l6,s7,o8⟩,hx9,rfl,rfl⟩
    obtain rfl:y.l++[(431,([]:List UInt8),([]:List UInt8),(0:Int),(⟨none,0,[]⟩:Vs (List UInt8×List UInt8)),(⟨none,0,[]⟩:Vs UInt8),false)]=l6:=hx9.symm
    refine AtL.assign zg0 Z Z<|AtL.done<|At.pick (H':=s7::x.s::[(r,.cells #[.bool true,.slice none 0 0,.nilFunc,g 0,g 1,g 2,g 3,g 4,g 5,g 6,g 7,g 8,.slice A4 (y.l++[(431,([]:List UInt8),([]:List UInt8),(0:Int),(⟨none,0,[]⟩:Vs (List UInt8×List UInt8)),(⟨none,0,[]⟩:Vs UInt8),false)]).length C5] 133 (0,0))]::H) [0,3,1] 4 Z Z ?_
    exact zt Tryz.func48 Z Z (.inr (.inl ⟨_,⟨A4,C5,y.l++[(431,([]:List UInt8),([]:List UInt8),(0:Int),(⟨none,0,[]⟩:Vs (List UInt8×List UInt8)),(⟨none,0,[]⟩:Vs UInt8),false)],s7,o8⟩,fun | 0 => g 0 | 1 => g 1 | 2 => g 2 | 3 => g 3 | 4 => g 4 | 5 => g 5 | 6 => g 6 | 7 => g 7 | _ => g 8,by rw [zaP,← hzx,if_pos hc1,if_pos (by omega)],Z,Z,Z⟩))
   ·intro hc2
    refine zj<|zc<|za<|AtL.assign zg0 Z Z<|AtL.done<|At.pick [1,2,3] 4 Z Z ?_
    exact zt Tryz.func48 Z Z (.inl ⟨by rw [zaP,← hzx,if_pos hc1,if_neg (by omega)],Z,Z⟩)
  ·intro hc1
   obtain ⟨n,hn⟩:∃ n:Nat,zx=(n:Int):=⟨zx.toNat,by omega⟩
   subst hn
   have hroom:n + 4≤x.l.length:=by have:=hzxr (by omega); have e4:CR2.length=4:=rfl; omega
   have hask:zaP x.l=askR x.l (n + 4):=by rw [zaP,← hzx,if_neg (by omega)]; rfl
   obtain ⟨Pq,hPq⟩:∃ Pq:HeadV×Int,Pq=zaT (x.l.take (n + 4)):=⟨_,rfl⟩
   have hPe:zaT (subl x.l 0 (n + 4))=Pq:=by rw [hPq,zcp]
   rw [askR,← hPq] at hask
   refine zj<|zc<|za<|zb zg0 Z Z<|zb zg0 Z Z ?_
   refine AtL.add (z:=(n:Int) + 4) zg0 Z Z Z (w64 (by omega) (by omega))<|zf zg0 Z Z<|zd zcA zg0 Z Z Z<|zr (H':=s2::y.s::x.s::[(r,.cells #[.bool true,.slice x.A x.l.length x.C,.func (.func 48) #[B r] #[],g 0,g 1,g 2,g 3,g 4,g 5,g 6,V ((n:Int) + 4),g 8,.slice y.A y.l.length y.C] 133 (0,0))]::H) 3 0 zaB zg0 Z Z Z Z Z Z Z Z Z<|AtL.done<|zc ?_
   refine At.joinQ (fun E2 H2 => ∃ (b19:Nat),∃ (xs16:Sl zbE 173),xs16.l=Pq.1.fs∧Sub [(0,B r),(4,B b19),(5,V Pq.2)] E2∧H2=O7 b19 (str Pq.1.m) (str Pq.1.t) Pq.1.minor xs16.A xs16.l.length xs16.C::xs16.s::s2::y.s::x.s::[(r,.cells #[.bool true,.slice x.A x.l.length x.C,.func (.func 48) #[B r] #[],g 0,g 1,g 2,g 3,g 4,g 5,g 6,V ((n:Int) + 4),g 8,.slice y.A y.l.length y.C] 133 (0,0))]::H) (fun J => ?_) ?_
   ·have hleo22:=zab x.own
    obtain ⟨A20,eA20⟩:∃ A20:Option Addr,A20=(if x.C=0 then x.A else Option.map (fun a => a.add (0 * tyB.sz)) x.A):=⟨_,rfl⟩
    obtain ⟨C21,eC21⟩:∃ C21:Nat,C21=x.C - 0:=⟨_,rfl⟩
    have o22:Own tyB 5 A20 C21 (subl x.l 0 (n + 4)) x.s:=by rw [eA20,eC21]; exact Own.cut x.own (by omega) (by omega) (by omega) (by omega)
    refine At.drawM (n:=3) (fs:=[9,13]) (pv:=[(0,B r),(1,B r),(2,.pointer (some ⟨r,1,none⟩)),(3,.slice x.A x.l.length x.C),(4,B r),(5,B r),(6,.pointer (some ⟨r,10,none⟩)),(7,V ((n:Int) + 4)),(8,.slice A20 (subl x.l 0 (n + 4)).length C21)]) zV (by kernel_rfl) (by kernel_rfl) (by kernel_rfl) ?_
    refine ⟨⟨zpr Z Z Z (zi Z),zpr Z Z Z (zl Z),zpr Z Z Z (zg zbb Z Z),zpr Z Z Z (zu zE Z (Cell.own 3 0 Z Z Z)),zpr Z Z Z (zi Z),zpr Z Z Z (zl Z),zpr Z Z Z (zg zcA Z Z),zpr Z Z Z (zu zo Z (Cell.own 3 0 Z Z Z)),zpr Z Z Z (zaC (T:=tyB) (l:=x.l) 0 (n + 4) x.C Z (zI Z Z) Z (by intro h; cases h) (by omega) (by omega) (Nat.le_refl _) Tryz.underlying34 zQ Z eA20 (zP (l:=x.l) (i:=0) (j:=(n + 4)) (by omega)) eC21),trivial⟩,List.cons_ne_nil _ _,by kernel_rfl,by kernel_rfl,⟨_,Z,Z,Z,_,zaz zjm Z (parse_ok (b:=subl x.l 0 (n + 4)) (o22.rd (i:=2) Z) T),?_⟩,⟨_,Z,Z,Z,_,Do.alloc ze5 (cs:=#[str [],str [],V 0,.slice none 0 0]) Z,?_⟩,trivial⟩
    ·rintro _ _ ⟨⟨A23,C24,l25,s26,o27⟩,rfl,hx28,rfl⟩
     rw [show zaT (subl x.l 0 (n + 4))=Pq from hPe] at hx28
     obtain rfl:Pq.1.fs=l25:=hx28.symm
     rw [show zaT (subl x.l 0 (n + 4))=Pq from hPe]
     refine ⟨[(10,.tuple #[.agg #[str Pq.1.m,str Pq.1.t,V Pq.1.minor,.slice A23 Pq.1.fs.length C24],V Pq.2]),(11,.agg #[str Pq.1.m,str Pq.1.t,V Pq.1.minor,.slice A23 Pq.1.fs.length C24]),(12,V Pq.2)],[13],Z,?_⟩
     refine ⟨⟨zpr Z Z Z (zi Z),zpr Z Z Z (Do.extract Z Z),zpr Z Z Z (Do.extract Z Z),.inl (by kernel_rfl),.inl (by kernel_rfl),.inl (by kernel_rfl),.inl (by kernel_rfl),.inl (by kernel_rfl),.inl (by kernel_rfl),.inl (by kernel_rfl),.inl (by kernel_rfl),.inl (by kernel_rfl),trivial⟩,List.cons_ne_nil _ _,by kernel_rfl,by kernel_rfl,⟨_,Z,Z,Z,_,Do.alloc ze5 (cs:=#[str [],str [],V 0,.slice none 0 0]) Z,?_⟩,trivial⟩
     rintro _ _ ⟨b30,rfl,rfl⟩
     refine ⟨[],[14],Z,?_⟩
     refine ⟨⟨zpr Z Z Z (zi Z),zpr Z Z Z (Do.extract Z Z),zpr Z Z Z (Do.extract Z Z),.inl (by kernel_rfl),.inl (by kernel_rfl),.inl (by kernel_rfl),.inl (by kernel_rfl),.inl (by kernel_rfl),.inl (by kernel_rfl),.inl (by kernel_rfl),.inl (by kernel_rfl),.inl (by kernel_rfl),trivial⟩,List.cons_ne_nil _ _,by kernel_rfl,by kernel_rfl,⟨_,Z,Z,Z,_,zbF (H':=O7 b30 (str Pq.1.m) (str Pq.1.t) Pq.1.minor A23 Pq.1.fs.length C24::s26::s2::y.s::x.s::[(r,.cells #[.bool true,.slice x.A x.l.length x.C,.func (.func 48) #[B r] #[],g 0,g 1,g 2,g 3,g 4,g 5,g 6,V ((n:Int) + 4),g 8,.slice y.A y.l.length y.C] 133 (0,0))]::H) 0 0 zcm Z Z Z Z Z Z Z Z Z,?_⟩,trivial⟩
     rintro _ _ ⟨rfl,rfl⟩
     refine ⟨[(15,V Pq.2)],[],Z,?_⟩
     refine ⟨⟨zpr Z Z Z (Do.assign Z),.inl (by kernel_rfl),.inl (by kernel_rfl),zpr Z Z Z (Do.extract Z Z),.inl (by kernel_rfl),.inl (by kernel_rfl),.inl (by kernel_rfl),.inl (by kernel_rfl),.inl (by kernel_rfl),.inl (by kernel_rfl),.inl (by kernel_rfl),.inl (by kernel_rfl),.inl (by kernel_rfl),trivial⟩,by kernel_rfl,?_⟩
     exact J _ _ ⟨b30,⟨A23,C24,Pq.1.fs,s26,o27⟩,Z,⟨Z,Z,Z,trivial⟩,Z⟩
    ·rintro _ _ ⟨b29,rfl,rfl⟩
     refine ⟨[],[9],Z,?_⟩
     refine ⟨⟨zpr Z Z Z (zi Z),zpr Z Z Z (zl Z),zpr Z Z Z (zg zbb Z Z),zpr Z Z Z (zu zE Z (Cell.own 4 0 Z Z Z)),zpr Z Z Z (zi Z),zpr Z Z Z (zl Z),zpr Z Z Z (zg zcA Z Z),zpr Z Z Z (zu zo Z (Cell.own 4 0 Z Z Z)),zpr Z Z Z (zaC (T:=tyB) (l:=x.l) 0 (n + 4) x.C Z (zI Z Z) Z (by intro h; cases h) (by omega) (by omega) (Nat.le_refl _) Tryz.underlying34 zQ Z eA20 (zP (l:=x.l) (i:=0) (j:=(n + 4)) (by omega)) eC21),trivial⟩,List.cons_ne_nil _ _,by kernel_rfl,by kernel_rfl,⟨_,Z,Z,Z,_,zaz zjm Z (parse_ok (b:=subl x.l 0 (n + 4)) (o22.rd (i:=3) Z) T),?_⟩,trivial⟩
     rintro _ _ ⟨⟨A31,C32,l33,s34,o35⟩,rfl,hx36,rfl⟩
     rw [show zaT (subl x.l 0 (n + 4))=Pq from hPe] at hx36
     obtain rfl:Pq.1.fs=l33:=hx36.symm
     rw [show zaT (subl x.l 0 (n + 4))=Pq from hPe]
     refine ⟨[(10,.tuple #[.agg #[str Pq.1.m,str Pq.1.t,V Pq.1.minor,.slice A31 Pq.1.fs.length C32],V Pq.2]),(11,.agg #[str Pq.1.m,str Pq.1.t,V Pq.1.minor,.slice A31 Pq.1.fs.length C32]),(12,V Pq.2)],[14],Z,?_⟩
     refine ⟨⟨zpr Z Z Z (zi Z),zpr Z Z Z (Do.extract Z Z),zpr Z Z Z (Do.extract Z Z),.inl (by kernel_rfl),.inl (by kernel_rfl),.inl (by kernel_rfl),.inl (by kernel_rfl),.inl (by kernel_rfl),.inl (by kernel_rfl),.inl (by kernel_rfl),.inl (by kernel_rfl),.inl (by kernel_rfl),trivial⟩,List.cons_ne_nil _ _,by kernel_rfl,by kernel_rfl,⟨_,Z,Z,Z,_,zbF (H':=s34::O7 b29 (str Pq.1.m) (str Pq.1.t) Pq.1.minor A31 Pq.1.fs.length C32::s2::y.s::x.s::[(r,.cells #[.bool true,.slice x.A x.l.length x.C,.func (.func 48) #[B r] #[],g 0,g 1,g 2,g 3,g 4,g 5,g 6,V ((n:Int) + 4),g 8,.slice y.A y.l.length y.C] 133 (0,0))]::H) 1 0 zcm Z Z Z Z Z Z Z Z Z,?_⟩,trivial⟩
     rintro _ _ ⟨rfl,rfl⟩
     refine ⟨[(15,V Pq.2)],[],Z,?_⟩
     refine ⟨⟨zpr Z Z Z (Do.assign Z),.inl (by kernel_rfl),.inl (by kernel_rfl),zpr Z Z Z (Do.extract Z Z),.inl (by kernel_rfl),.inl (by kernel_rfl),.inl (by kernel_rfl),.inl (by kernel_rfl),.inl (by kernel_rfl),.inl (by kernel_rfl),.inl (by kernel_rfl),.inl (by kernel_rfl),.inl (by kernel_rfl),trivial⟩,by kernel_rfl,?_⟩
     refine At.pick [1,0,2,3,4,5] 6 Z Z ?_
     exact J _ _ ⟨b29,⟨A31,C32,Pq.1.fs,s34,o35⟩,Z,⟨Z,Z,Z,trivial⟩,Z⟩
   ·rintro E2 H2 ⟨b19,xs16,hxs16,hsub,rfl⟩
    refine At.mono hsub ?_
    clear hsub
    obtain ⟨Axs16,Cxs16,lxs16,sxs16,oxs16⟩:=xs16
    dsimp only at hxs16 ⊢
    obtain rfl:Pq.1.fs=lxs16:=hxs16.symm
    refine zc<|zc<|za<|zb zg0 Z Z<|zT zg0 Z Z Z<|AtL.done ?_
    refine zae Z ?_ ?_
    ·intro hc3
     have hc3:¬ ((Pq.2:Int)=200):=of_decide_eq_false (zO hc3)
     rw [if_pos hc3] at hask
     refine zc<|za<|zb zg0 Z Z<|zb zg0 Z Z<|AtL.pick (H':=y.s::[(r,.cells #[.bool true,.slice x.A x.l.length x.C,.func (.func 48) #[B r] #[],g 0,g 1,g 2,g 3,g 4,g 5,g 6,V ((n:Int) + 4),g 8,.slice y.A y.l.length y.C] 133 (0,0))]::O7 b19 (str Pq.1.m) (str Pq.1.t) Pq.1.minor Axs16 Pq.1.fs.length Cxs16::sxs16::s2::x.s::H) [3,5,0,1,2,4] 6 Z Z<|zk zd6 zg0 Z Z (zem (y:=y) hyl Pq.2) ?_
     rintro _ _ ⟨⟨A37,C38,l39,s40,o41⟩,hx42,rfl,rfl⟩
     obtain rfl:y.l++[(Pq.2,([]:List UInt8),([]:List UInt8),(0:Int),(⟨none,0,[]⟩:Vs (List UInt8×List UInt8)),(⟨none,0,[]⟩:Vs UInt8),false)]=l39:=hx42.symm
     refine AtL.assign zg0 Z Z<|AtL.done<|At.pick (H':=s40::x.s::[(r,.cells #[.bool true,.slice none 0 0,.nilFunc,g 0,g 1,g 2,g 3,g 4,g 5,g 6,V ((n:Int) + 4),g 8,.slice A37 (y.l++[(Pq.2,([]:List UInt8),([]:List UInt8),(0:Int),(⟨none,0,[]⟩:Vs (List UInt8×List UInt8)),(⟨none,0,[]⟩:Vs UInt8),false)]).length C38] 133 (0,0))]::H) [0,5,1] 6 Z Z ?_
     exact zt Tryz.func48 Z Z (.inr (.inl ⟨_,⟨A37,C38,y.l++[(Pq.2,([]:List UInt8),([]:List UInt8),(0:Int),(⟨none,0,[]⟩:Vs (List UInt8×List UInt8)),(⟨none,0,[]⟩:Vs UInt8),false)],s40,o41⟩,fun | 0 => g 0 | 1 => g 1 | 2 => g 2 | 3 => g 3 | 4 => g 4 | 5 => g 5 | 6 => g 6 | 7 => V ((n:Int) + 4) | _ => g 8,hask,Z,Z,Z⟩))
    ·intro hc3
     have hc3:(Pq.2:Int)=200:=of_decide_eq_true (zJ hc3)
     rw [if_neg (by simpa using hc3)] at hask
     obtain ⟨hfl,hb,hb4⟩:Pq.1.fs.length≤1000∧(∀ f ∈ Pq.1.fs,f.1.length≤140737488355000∧f.2.length≤140737488355000)∧(∀ f ∈ Pq.1.fs,f.2.length < 4294967281):=zkF (p:=Pq) (b:=x.l.take (n + 4)) (by assumption) (by simpa using hc3) (by rw [List.length_take]; omega)
     refine zj<|zc<|zc<|za<|zay (cs:=[str Pq.1.m,str Pq.1.t,V Pq.1.minor,.slice Axs16 Pq.1.fs.length Cxs16]) zaU zg0 Z Z Z (zad 0 0 0 Z Z Z) ?_
     refine zk zgF zg0 Z Z (ziM (fs:=Pq.1.fs) (oxs16.rd (i:=1) Z) (nm:=[101,120,112,101,99,116]) (by first | omega | decide) hfl hb) ?_
     rintro _ _ ⟨rfl,rfl⟩
     refine zb zg0 Z Z<|AtL.extract zg0 Z Z Z<|AtL.extract zg0 Z Z Z<|AtL.assign zg0 Z Z<|AtL.assign zg0 Z Z<|AtL.done ?_
     refine zc<|za<|zb zg0 Z Z<|zai zg0 Z Z Z<|AtL.done<|zq Z ?_ ?_
     ·intro hc4
      rw [if_pos (show 0 < (zbA Pq.1.fs EXPECT).2 from by have h9:=hc4; show 0 < (zbA Pq.1.fs [101,120,112,101,99,116]).2; omega)] at hask
      refine zc<|za<|zb zg0 Z Z<|AtL.pick (H':=y.s::[(r,.cells #[.bool true,.slice x.A x.l.length x.C,.func (.func 48) #[B r] #[],g 0,g 1,g 2,g 3,g 4,g 5,g 6,V ((n:Int) + 4),g 8,.slice y.A y.l.length y.C] 133 (0,0))]::O7 b19 (str Pq.1.m) (str Pq.1.t) Pq.1.minor Axs16 Pq.1.fs.length Cxs16::sxs16::s2::x.s::H) [3,5,0,1,2,4] 6 Z Z<|zk zd6 zg0 Z Z (zem (y:=y) hyl 417) ?_
      rintro _ _ ⟨⟨A43,C44,l45,s46,o47⟩,hx48,rfl,rfl⟩
      obtain rfl:y.l++[(417,([]:List UInt8),([]:List UInt8),(0:Int),(⟨none,0,[]⟩:Vs (List UInt8×List UInt8)),(⟨none,0,[]⟩:Vs UInt8),false)]=l45:=hx48.symm
      refine AtL.assign zg0 Z Z<|AtL.done<|At.pick (H':=s46::x.s::[(r,.cells #[.bool true,.slice none 0 0,.nilFunc,g 0,g 1,g 2,g 3,g 4,g 5,g 6,V ((n:Int) + 4),g 8,.slice A43 (y.l++[(417,([]:List UInt8),([]:List UInt8),(0:Int),(⟨none,0,[]⟩:Vs (List UInt8×List UInt8)),(⟨none,0,[]⟩:Vs UInt8),false)]).length C44] 133 (0,0))]::H) [0,5,1] 6 Z Z ?_
      exact zt Tryz.func48 Z Z (.inr (.inl ⟨_,⟨A43,C44,y.l++[(417,([]:List UInt8),([]:List UInt8),(0:Int),(⟨none,0,[]⟩:Vs (List UInt8×List UInt8)),(⟨none,0,[]⟩:Vs UInt8),false)],s46,o47⟩,fun | 0 => g 0 | 1 => g 1 | 2 => g 2 | 3 => g 3 | 4 => g 4 | 5 => g 5 | 6 => g 6 | 7 => V ((n:Int) + 4) | _ => g 8,hask,Z,Z,Z⟩))
     ·intro hc4
      rw [if_neg (show ¬ 0 < (zbA Pq.1.fs EXPECT).2 from by have h9:=hc4; show ¬ 0 < (zbA Pq.1.fs [101,120,112,101,99,116]).2; omega)] at hask
      refine zj<|zc<|za<|zay (cs:=[str Pq.1.m,str Pq.1.t,V Pq.1.minor,.slice Axs16 Pq.1.fs.length Cxs16]) zaU zg0 Z Z Z (zad 0 0 0 Z Z Z)<|zk tf_body57 zg0 Z Z (length_ok (m:=Pq.1.m) (t:=Pq.1.t) (minor:=Pq.1.minor) (fs:=Pq.1.fs) (oxs16.rd (i:=1) Z) hfl hb) ?_
      rintro _ _ ⟨rfl,rfl⟩
      refine zb zg0 Z Z<|AtL.extract zg0 Z Z Z<|AtL.extract zg0 Z Z Z<|AtL.assign zg0 Z Z<|AtL.assign zg0 Z Z<|AtL.done ?_
      refine zc<|At.block<|zc<|za<|zb zg0 Z Z<|zT zg0 Z Z Z ?_
      refine AtL.assign zg0 Z Z<|AtL.done<|zae Z ?_ ?_
      ·intro hc5
       have hc5:¬ (((zaQ Pq.1.fs).2:Int)=200):=of_decide_eq_false (zO hc5)
       rw [if_pos (by first | assumption | omega | (simp; omega) | simpa using hc5)] at hask
       refine zc<|za<|zb zg0 Z Z<|zb zg0 Z Z<|AtL.pick (H':=y.s::[(r,.cells #[.bool true,.slice x.A x.l.length x.C,.func (.func 48) #[B r] #[],g 0,g 1,g 2,g 3,g 4,g 5,g 6,V ((n:Int) + 4),g 8,.slice y.A y.l.length y.C] 133 (0,0))]::O7 b19 (str Pq.1.m) (str Pq.1.t) Pq.1.minor Axs16 Pq.1.fs.length Cxs16::sxs16::s2::x.s::H) [3,5,0,1,2,4] 6 Z Z<|zk zd6 zg0 Z Z (zem (y:=y) hyl ((zaQ Pq.1.fs).2)) ?_
       rintro _ _ ⟨⟨A49,C50,l51,s52,o53⟩,hx54,rfl,rfl⟩
       obtain rfl:y.l++[((zaQ Pq.1.fs).2,([]:List UInt8),([]:List UInt8),(0:Int),(⟨none,0,[]⟩:Vs (List UInt8×List UInt8)),(⟨none,0,[]⟩:Vs UInt8),false)]=l51:=hx54.symm
       refine AtL.assign zg0 Z Z<|AtL.done<|At.pick (H':=s52::x.s::[(r,.cells #[.bool true,.slice none 0 0,.nilFunc,g 0,g 1,g 2,g 3,g 4,g 5,g 6,V ((n:Int) + 4),g 8,.slice A49 (y.l++[((zaQ Pq.1.fs).2,([]:List UInt8),([]:List UInt8),(0:Int),(⟨none,0,[]⟩:Vs (List UInt8×List UInt8)),(⟨none,0,[]⟩:Vs UInt8),false)]).length C50] 133 (0,0))]::H) [0,5,1] 6 Z Z ?_
       exact zt Tryz.func48 Z Z (.inr (.inl ⟨_,⟨A49,C50,y.l++[((zaQ Pq.1.fs).2,([]:List UInt8),([]:List UInt8),(0:Int),(⟨none,0,[]⟩:Vs (List UInt8×List UInt8)),(⟨none,0,[]⟩:Vs UInt8),false)],s52,o53⟩,fun | 0 => g 0 | 1 => g 1 | 2 => g 2 | 3 => g 3 | 4 => g 4 | 5 => g 5 | 6 => g 6 | 7 => V ((n:Int) + 4) | _ => g 8,hask,Z,Z,Z⟩))
      ·intro hc5
       have hc5:((zaQ Pq.1.fs).2:Int)=200:=of_decide_eq_true (zJ hc5)
       rw [if_neg (by first | assumption | omega | (simp; omega) | simpa using hc5)] at hask
       refine zc<|za<|zb zg0 Z Z<|zA zg0 Z Z Z<|zb zg0 Z Z<|zy 4 (E':=[(81,.bool (decide ((((zaQ Pq.1.fs).1:Int) < 0)∧(Pq.1.m=[80,79,83,84])))),(0,B r),(4,B b19),(8,V ((zaQ Pq.1.fs).1))]) (fun J => ?_) ?_
       ·refine zD (t:=77) Z ?_ ?_
        ·intro hs77
         refine zd tf_fo42_0 (.inr ⟨_,_,_,Z,Z,Z,Z⟩) Z Z Z<|zh zaK (.inr ⟨_,_,_,Z,Z,Z,Z⟩) Z Z (Cell.own 0 0 Z Z Z)<|zcT (a:=Pq.1.m) (b:=[80,79,83,84]) (.inr ⟨_,_,_,Z,Z,Z,Z⟩) Z Z Z<|zn zg0 Z Z Z ?_
         exact J _ (by exact ⟨(zw (by clear J; first | (simp [hs77]; done) | (simp_all; done) | grind)),Z,Z,Z,trivial⟩)
        ·intro hs77
         refine ze Z Z Z Z Z Z<|ze Z Z Z Z Z Z<|ze Z Z Z Z Z Z<|zm zg0 Z Z Z ?_
         exact J _ (by exact ⟨(zw (by clear J; first | (simp [hs77]; done) | (simp_all; done) | grind)),Z,Z,Z,trivial⟩)
       ·refine AtL.assign zg0 Z Z<|AtL.done<|zq Z ?_ ?_
        ·intro hc6
         rw [if_pos (by first | assumption | omega | (simp; omega) | simpa using hc6)] at hask
         refine zc<|za<|zb zg0 Z Z<|AtL.pick (H':=y.s::[(r,.cells #[.bool true,.slice x.A x.l.length x.C,.func (.func 48) #[B r] #[],g 0,g 1,g 2,g 3,g 4,g 5,g 6,V ((n:Int) + 4),g 8,.slice y.A y.l.length y.C] 133 (0,0))]::O7 b19 (str Pq.1.m) (str Pq.1.t) Pq.1.minor Axs16 Pq.1.fs.length Cxs16::sxs16::s2::x.s::H) [3,5,0,1,2,4] 6 Z Z<|zk zd6 zg0 Z Z (zem (y:=y) hyl 411) ?_
         rintro _ _ ⟨⟨A55,C56,l57,s58,o59⟩,hx60,rfl,rfl⟩
         obtain rfl:y.l++[(411,([]:List UInt8),([]:List UInt8),(0:Int),(⟨none,0,[]⟩:Vs (List UInt8×List UInt8)),(⟨none,0,[]⟩:Vs UInt8),false)]=l57:=hx60.symm
         refine AtL.assign zg0 Z Z<|AtL.done<|At.pick (H':=s58::x.s::[(r,.cells #[.bool true,.slice none 0 0,.nilFunc,g 0,g 1,g 2,g 3,g 4,g 5,g 6,V ((n:Int) + 4),g 8,.slice A55 (y.l++[(411,([]:List UInt8),([]:List UInt8),(0:Int),(⟨none,0,[]⟩:Vs (List UInt8×List UInt8)),(⟨none,0,[]⟩:Vs UInt8),false)]).length C56] 133 (0,0))]::H) [0,5,1] 6 Z Z ?_
         exact zt Tryz.func48 Z Z (.inr (.inl ⟨_,⟨A55,C56,y.l++[(411,([]:List UInt8),([]:List UInt8),(0:Int),(⟨none,0,[]⟩:Vs (List UInt8×List UInt8)),(⟨none,0,[]⟩:Vs UInt8),false)],s58,o59⟩,fun | 0 => g 0 | 1 => g 1 | 2 => g 2 | 3 => g 3 | 4 => g 4 | 5 => g 5 | 6 => g 6 | 7 => V ((n:Int) + 4) | _ => g 8,hask,Z,Z,Z⟩))
        ·intro hc6
         rw [if_neg (by first | assumption | omega | (simp; omega) | simpa using hc6)] at hask
         refine zj<|zp<|zc<|za<|zb zg0 Z Z<|zb zg0 Z Z ?_
         refine zcZ (z:=max ((zaQ Pq.1.fs).1) 0) zg0 Z Z Z (by omega)<|zf zg0 Z Z<|zd zeC zg0 Z Z Z<|zr (H':=O7 b19 (str Pq.1.m) (str Pq.1.t) Pq.1.minor Axs16 Pq.1.fs.length Cxs16::sxs16::s2::y.s::x.s::[(r,.cells #[.bool true,.slice x.A x.l.length x.C,.func (.func 48) #[B r] #[],g 0,g 1,g 2,g 3,g 4,g 5,g 6,V ((n:Int) + 4),V (max ((zaQ Pq.1.fs).1) 0),.slice y.A y.l.length y.C] 133 (0,0))]::H) 5 0 zaB zg0 Z Z Z Z Z Z Z Z Z<|AtL.done ?_
         rw [show max (zaQ Pq.1.fs).1 0=(((zaQ Pq.1.fs).1.toNat:Nat):Int) by omega]
         refine zc ?_
         refine zac (es:=[7]) (pv:=[(0,B r),(1,.agg #[str Pq.1.m,str Pq.1.t,V Pq.1.minor,.slice Axs16 Pq.1.fs.length Cxs16]),(2,.agg #[str Pq.1.m,str Pq.1.t,V Pq.1.minor,.slice Axs16 Pq.1.fs.length Cxs16]),(3,.bool (zfn Pq.1.fs Pq.1.minor)),(4,.agg #[V 200,str Pq.1.m,str Pq.1.t,V Pq.1.minor,.slice Axs16 Pq.1.fs.length Cxs16,.slice none 0 0,.bool (zfn Pq.1.fs Pq.1.minor)]),(5,B r),(6,.pointer (some ⟨r,3,none⟩))]) zV (by kernel_rfl) (by kernel_rfl) (by kernel_rfl) ?_
         refine ⟨⟨zpr Z Z Z (zi Z),zpr Z Z Z (zcY (cs:=[str Pq.1.m,str Pq.1.t,V Pq.1.minor,.slice Axs16 Pq.1.fs.length Cxs16]) zaU Z Z (zad 0 0 0 Z Z Z)),zpr Z Z Z (zcY (cs:=[str Pq.1.m,str Pq.1.t,V Pq.1.minor,.slice Axs16 Pq.1.fs.length Cxs16]) zaU Z Z (zad 0 0 0 Z Z Z)),zpr Z Z Z (zaz tf_body58 Z (keep_ok (m:=Pq.1.m) (t:=Pq.1.t) (minor:=Pq.1.minor) (fs:=Pq.1.fs) (oxs16.rd (i:=1) Z) hfl hb hb4 T)),zpr Z Z Z (zbx (cs:=[V 200,str Pq.1.m,str Pq.1.t,V Pq.1.minor,.slice Axs16 Pq.1.fs.length Cxs16,.slice none 0 0,.bool (zfn Pq.1.fs Pq.1.minor)]) zi7 Z Z),zpr Z Z Z (zl Z),zpr Z Z Z (zg zeD Z Z),trivial⟩,Z,Z,by kernel_rfl,_,Z,Z,Z,_,zbF (H':=O7 b19 (str Pq.1.m) (str Pq.1.t) Pq.1.minor Axs16 Pq.1.fs.length Cxs16::sxs16::s2::y.s::x.s::[(r,.cells #[.bool true,.slice x.A x.l.length x.C,.func (.func 48) #[B r] #[],V 200,str Pq.1.m,str Pq.1.t,V Pq.1.minor,.slice Axs16 Pq.1.fs.length Cxs16,.slice none 0 0,.bool (zfn Pq.1.fs Pq.1.minor),V ((n:Int) + 4),V ((zaQ Pq.1.fs).1.toNat:Int),.slice y.A y.l.length y.C] 133 (0,0))]::H) 5 0 ze6 Z Z Z Z Z Z Z Z Z,?_⟩
         rintro _ _ ⟨rfl,rfl⟩
         refine ⟨[],Z,?_⟩
         refine ⟨⟨.inl (by kernel_rfl),.inl (by kernel_rfl),.inl (by kernel_rfl),.inl (by kernel_rfl),.inl (by kernel_rfl),.inl (by kernel_rfl),.inl (by kernel_rfl),trivial⟩,by kernel_rfl,?_⟩
         refine At.mono (E':=[(0,B r)]) ⟨Z,trivial⟩<|zc<|za<|zb zg0 Z Z<|zb zg0 Z Z<|zbD zg0 Z Z Z ?_
         refine zf zg0 Z Z<|zd zba zg0 Z Z Z<|zr (H':=O7 b19 (str Pq.1.m) (str Pq.1.t) Pq.1.minor Axs16 Pq.1.fs.length Cxs16::sxs16::s2::y.s::x.s::[(r,.cells #[.bool true,.slice x.A x.l.length x.C,.func (.func 59) #[B r] #[],V 200,str Pq.1.m,str Pq.1.t,V Pq.1.minor,.slice Axs16 Pq.1.fs.length Cxs16,.slice none 0 0,.bool (zfn Pq.1.fs Pq.1.minor),V ((n:Int) + 4),V ((zaQ Pq.1.fs).1.toNat:Int),.slice y.A y.l.length y.C] 133 (0,0))]::H) 5 0 zim zg0 Z Z Z Z Z Z Z Z Z<|AtL.done<|zc<|za ?_
         refine AtL.assign zg0 Z Z<|AtL.done<|At.pick (H':=sxs16::y.s::x.s::[(r,.cells #[.bool true,.slice x.A x.l.length x.C,.func (.func 59) #[B r] #[],V 200,str Pq.1.m,str Pq.1.t,V Pq.1.minor,.slice Axs16 Pq.1.fs.length Cxs16,.slice none 0 0,.bool (zfn Pq.1.fs Pq.1.minor),V ((n:Int) + 4),V ((zaQ Pq.1.fs).1.toNat:Int),.slice y.A y.l.length y.C] 133 (0,0))]::H) [1,3,4,5] 6 Z Z ?_
         exact zt Tryz.func48 Z Z (.inr (.inr ⟨_,_,_,⟨Axs16,Cxs16,Pq.1.fs,sxs16,oxs16⟩,_,n + 4,(zaQ Pq.1.fs).1.toNat,hask,Z,Z⟩))
set_option maxRecDepth 100000
theorem subl_mid (l:List UInt8) (a b:Nat):subl l a (a + b)=(l.drop a).take b:=by
 rw [subl]; first | (rw [Nat.add_sub_cancel_left]) | (simp [List.drop_take]) | (simp [List.take_drop])
set_option maxHeartbeats 1000000 in
theorem rdrest_ok {w0:World}{base:Nat}{H:List Seg}{r:Nat}{x:Sl tyB 5}{y:Sl zcJ 130}{m t:List UInt8}{minor:Int}{f:Sl zbE 173}{keep:Bool}{long body:Nat}{g:Nat→Value}(hyl:y.l.length≤1000000) (hxl:x.l.length≤4294967280) (hlo:long≤x.l.length) (hbo:body≤4294967280) :
  SCalls Tryz.prog 59 [B r] w0 base (f.s::y.s::x.s::[(r,.cells #[.bool true,.slice x.A x.l.length x.C,.func (.func 59) #[B r] #[],V 200,str m,str t,V minor,.slice f.A f.l.length f.C,.slice none 0 0,.bool keep,V (long:Int),V (body:Int),.slice y.A y.l.length y.C] 133 (0,0))]::H) (fun v H' => (x.l.length < long + body∧v = .bool false∧H' = f.s::y.s::x.s::rdC r (.rest m t minor f keep long body) x (.slice y.A y.l.length y.C) g::H)∨(¬ x.l.length < long + body∧∃ (z:Sl tyB 5) (y' : Sl zcJ 130) (x' : Sl tyB 5) (g' : Nat→Value),z.l=(x.l.drop long).take body∧y'.l=y.l++[(200,m,t,minor,f.v,z.v,keep)]∧((keep=true∧x'.l=x.l.drop (long + body)∧v = .bool true∧H' = z.s::f.s::y'.s::x'.s::rdC r .head x' (.slice y'.A y'.l.length y'.C) g'::H)∨(keep=false∧v = .bool false∧H' = z.s::f.s::y'.s::x'.s::rdC r .over x' (.slice y'.A y'.l.length y'.C) g'::H)))):=by
 have hcapx:=z7 x.own
 have hcapy:=z7 y.own
 refine SCalls.of_walk (n:=85) Tryz.func59 Z Z Z fun cs => ?_
 refine zc<|za<|AtL.assign zg0 Z Z<|AtL.done<|zc<|zc ?_
 refine zac (es:=[]) (pv:=[(0,B r),(1,B r),(2,.pointer (some ⟨r,1,none⟩)),(3,.slice x.A x.l.length x.C),(4,V (x.l.length:Int)),(5,B r),(6,B r),(7,.pointer (some ⟨r,10,none⟩)),(8,V (long:Int)),(9,V ((x.l.length:Int) - (long:Int))),(10,B r),(11,B r),(12,.pointer (some ⟨r,11,none⟩)),(13,V (body:Int)),(14,.bool (decide (((x.l.length:Int) - (long:Int)) < (body:Int))))]) zV (by kernel_rfl) (by kernel_rfl) (by kernel_rfl) ?_
 refine ⟨⟨zpr Z Z Z (zi Z),zpr Z Z Z (zl Z),zpr Z Z Z (zg zbb Z Z),zpr Z Z Z (zu zE Z (Cell.own 3 0 Z Z Z)),zpr Z Z Z (zbt Tryz.underlying34 Z),zpr Z Z Z (zi Z),zpr Z Z Z (zl Z),zpr Z Z Z (zg zcA Z Z),zpr Z Z Z (zu zo Z (Cell.own 3 0 Z Z Z)),zpr Z Z Z (Do.sub (z:=(x.l.length:Int) - (long:Int)) Z Z (w64 (by omega) (by omega))),zpr Z Z Z (zi Z),zpr Z Z Z (zl Z),zpr Z Z Z (zg zeC Z Z),zpr Z Z Z (zu zo Z (Cell.own 3 0 Z Z Z)),zpr Z Z Z (zig Z Z),trivial⟩,by kernel_rfl,?_⟩
 refine At.mono (E':=[(0,B r),(17,.bool (decide (((x.l.length:Int) - (long:Int)) < (body:Int))))]) ⟨Z,Z,trivial⟩<|zq Z ?_ ?_
 ·intro hc1
  refine zc<|za<|AtL.assign zg0 Z Z<|AtL.done ?_
  exact zt Tryz.func59 Z Z (.inl ⟨by omega,Z,Z⟩)
 ·intro hc1
  refine zj<|zc ?_
  have hleo3:=zab x.own
  obtain ⟨A1,eA1⟩:∃ A1:Option Addr,A1=(if x.C=long then x.A else Option.map (fun a => a.add (long * tyB.sz)) x.A):=⟨_,rfl⟩
  obtain ⟨C2,eC2⟩:∃ C2:Nat,C2=x.C - long:=⟨_,rfl⟩
  have o3:Own tyB 5 A1 C2 (subl x.l long (long + body)) x.s:=by rw [eA1,eC2]; exact Own.cut x.own (by omega) (by omega) (by omega) (by omega)
  refine zac (es:=[19,23]) (pv:=[(0,B r),(1,B r),(2,B r),(3,.pointer (some ⟨r,1,none⟩)),(4,.slice x.A x.l.length x.C),(5,B r),(6,B r),(7,.pointer (some ⟨r,10,none⟩)),(8,V (long:Int)),(9,B r),(10,B r),(11,.pointer (some ⟨r,10,none⟩)),(12,V (long:Int)),(13,B r),(14,B r),(15,.pointer (some ⟨r,11,none⟩)),(16,V (body:Int)),(17,V ((long:Int) + (body:Int))),(18,.slice A1 (subl x.l long (long + body)).length C2)]) zV (by kernel_rfl) (by kernel_rfl) (by kernel_rfl) ?_
  refine ⟨⟨zpr Z Z Z (zi Z),zpr Z Z Z (zi Z),zpr Z Z Z (zl Z),zpr Z Z Z (zg zbb Z Z),zpr Z Z Z (zu zE Z (Cell.own 3 0 Z Z Z)),zpr Z Z Z (zi Z),zpr Z Z Z (zl Z),zpr Z Z Z (zg zcA Z Z),zpr Z Z Z (zu zo Z (Cell.own 3 0 Z Z Z)),zpr Z Z Z (zi Z),zpr Z Z Z (zl Z),zpr Z Z Z (zg zcA Z Z),zpr Z Z Z (zu zo Z (Cell.own 3 0 Z Z Z)),zpr Z Z Z (zi Z),zpr Z Z Z (zl Z),zpr Z Z Z (zg zeC Z Z),zpr Z Z Z (zu zo Z (Cell.own 3 0 Z Z Z)),zpr Z Z Z (Do.add (z:=(long:Int) + (body:Int)) Z Z (w64 (by omega) (by omega))),zpr Z Z Z (zaC (T:=tyB) (l:=x.l) long (long + body) x.C (zI Z Z) (zI Z Z) Z (by intro h; cases h) (by omega) (by omega) (Nat.le_refl _) Tryz.underlying34 zQ Z eA1 (zP (l:=x.l) (i:=long) (j:=(long + body)) (by omega)) eC2),trivial⟩,Z,Z,by kernel_rfl,_,Z,Z,Z,_,zaz zgB Z (zjV (l:=subl x.l long (long + body)) (o3.rd (i:=2) Z) (by rw [zP (by omega)]; omega)),?_⟩
  rintro _ _ ⟨⟨A4,C5,l6,s7,o8⟩,hx9,rfl,rfl⟩
  obtain rfl:subl x.l long (long + body)=l6:=hx9.symm
  refine ⟨[(20,B r),(21,.pointer (some ⟨r,3,none⟩)),(22,.pointer (some ⟨r,8,none⟩))],Z,?_⟩
  refine ⟨⟨zpr Z Z Z (zl Z),zpr Z Z Z (zg zeD Z Z),zpr Z Z Z (zg zhF Z Z),zpr Z Z Z (zi Z),.inl (by kernel_rfl),.inl (by kernel_rfl),.inl (by kernel_rfl),.inl (by kernel_rfl),.inl (by kernel_rfl),.inl (by kernel_rfl),.inl (by kernel_rfl),.inl (by kernel_rfl),.inl (by kernel_rfl),.inl (by kernel_rfl),.inl (by kernel_rfl),.inl (by kernel_rfl),.inl (by kernel_rfl),.inl (by kernel_rfl),.inl (by kernel_rfl),.inl (by kernel_rfl),.inl (by kernel_rfl),.inl (by kernel_rfl),trivial⟩,Z,Z,by kernel_rfl,_,Z,Z,Z,_,zbF (H':=s7::f.s::y.s::x.s::[(r,.cells #[.bool true,.slice x.A x.l.length x.C,.func (.func 59) #[B r] #[],V 200,str m,str t,V minor,.slice f.A f.l.length f.C,.slice A4 (subl x.l long (long + body)).length C5,.bool keep,V (long:Int),V (body:Int),.slice y.A y.l.length y.C] 133 (0,0))]::H) 4 0 zaA Z Z Z Z Z Z Z Z Z,?_⟩
  rintro _ _ ⟨rfl,rfl⟩
  refine ⟨[],Z,?_⟩
  refine ⟨⟨.inl (by kernel_rfl),.inl (by kernel_rfl),.inl (by kernel_rfl),.inl (by kernel_rfl),.inl (by kernel_rfl),.inl (by kernel_rfl),.inl (by kernel_rfl),.inl (by kernel_rfl),.inl (by kernel_rfl),.inl (by kernel_rfl),.inl (by kernel_rfl),.inl (by kernel_rfl),.inl (by kernel_rfl),.inl (by kernel_rfl),.inl (by kernel_rfl),.inl (by kernel_rfl),.inl (by kernel_rfl),.inl (by kernel_rfl),.inl (by kernel_rfl),.inl (by kernel_rfl),.inl (by kernel_rfl),.inl (by kernel_rfl),trivial⟩,by kernel_rfl,?_⟩
  refine At.mono (E':=[(0,B r)]) ⟨Z,trivial⟩<|zc ?_
  have hleo18:=zab x.own
  obtain ⟨A16,eA16⟩:∃ A16:Option Addr,A16=(if x.C=(long + body) then x.A else Option.map (fun a => a.add ((long + body) * tyB.sz)) x.A):=⟨_,rfl⟩
  obtain ⟨C17,eC17⟩:∃ C17:Nat,C17=x.C - (long + body):=⟨_,rfl⟩
  have o18:Own tyB 5 A16 C17 (subl x.l (long + body) x.l.length) x.s:=by rw [eA16,eC17]; exact Own.cut x.own (by omega) (by omega) (by omega) (by omega)
  refine zac (es:=[15,18]) (pv:=[(0,B r),(1,B r),(2,B r),(3,.pointer (some ⟨r,1,none⟩)),(4,.slice x.A x.l.length x.C),(5,B r),(6,B r),(7,.pointer (some ⟨r,10,none⟩)),(8,V (long:Int)),(9,B r),(10,B r),(11,.pointer (some ⟨r,11,none⟩)),(12,V (body:Int)),(13,V ((long:Int) + (body:Int))),(14,.slice A16 (subl x.l (long + body) x.l.length).length C17)]) zV (by kernel_rfl) (by kernel_rfl) (by kernel_rfl) ?_
  refine ⟨⟨zpr Z Z Z (zi Z),zpr Z Z Z (zi Z),zpr Z Z Z (zl Z),zpr Z Z Z (zg zbb Z Z),zpr Z Z Z (zu zE Z (Cell.own 4 0 Z Z Z)),zpr Z Z Z (zi Z),zpr Z Z Z (zl Z),zpr Z Z Z (zg zcA Z Z),zpr Z Z Z (zu zo Z (Cell.own 4 0 Z Z Z)),zpr Z Z Z (zi Z),zpr Z Z Z (zl Z),zpr Z Z Z (zg zeC Z Z),zpr Z Z Z (zu zo Z (Cell.own 4 0 Z Z Z)),zpr Z Z Z (Do.add (z:=(long:Int) + (body:Int)) Z Z (w64 (by omega) (by omega))),zpr Z Z Z (zaC (T:=tyB) (l:=x.l) (long + body) x.l.length x.C (zI Z Z) Z Z (by intro h; cases h) (by omega) (by omega) (Nat.le_refl _) Tryz.underlying34 zQ Z eA16 (zP (l:=x.l) (i:=(long + body)) (j:=x.l.length) (by omega)) eC17),trivial⟩,Z,Z,by kernel_rfl,_,Z,Z,Z,_,zaz zgB Z (zjV (l:=subl x.l (long + body) x.l.length) (o18.rd (i:=3) Z) (by rw [zP (by omega)]; omega)),?_⟩
  rintro _ _ ⟨⟨A19,C20,l21,s22,o23⟩,hx24,rfl,rfl⟩
  obtain rfl:subl x.l (long + body) x.l.length=l21:=hx24.symm
  refine ⟨[(16,B r),(17,.pointer (some ⟨r,1,none⟩))],Z,?_⟩
  refine ⟨⟨zpr Z Z Z (zl Z),zpr Z Z Z (zg zbb Z Z),zpr Z Z Z (zi Z),.inl (by kernel_rfl),.inl (by kernel_rfl),.inl (by kernel_rfl),.inl (by kernel_rfl),.inl (by kernel_rfl),.inl (by kernel_rfl),.inl (by kernel_rfl),.inl (by kernel_rfl),.inl (by kernel_rfl),.inl (by kernel_rfl),.inl (by kernel_rfl),.inl (by kernel_rfl),.inl (by kernel_rfl),.inl (by kernel_rfl),trivial⟩,Z,Z,by kernel_rfl,_,Z,Z,Z,_,zbF (H':=s22::s7::f.s::y.s::x.s::[(r,.cells #[.bool true,.slice A19 (subl x.l (long + body) x.l.length).length C20,.func (.func 59) #[B r] #[],V 200,str m,str t,V minor,.slice f.A f.l.length f.C,.slice A4 (subl x.l long (long + body)).length C5,.bool keep,V (long:Int),V (body:Int),.slice y.A y.l.length y.C] 133 (0,0))]::H) 5 0 zaA Z Z Z Z Z Z Z Z Z,?_⟩
  rintro _ _ ⟨rfl,rfl⟩
  refine ⟨[],Z,?_⟩
  refine ⟨⟨.inl (by kernel_rfl),.inl (by kernel_rfl),.inl (by kernel_rfl),.inl (by kernel_rfl),.inl (by kernel_rfl),.inl (by kernel_rfl),.inl (by kernel_rfl),.inl (by kernel_rfl),.inl (by kernel_rfl),.inl (by kernel_rfl),.inl (by kernel_rfl),.inl (by kernel_rfl),.inl (by kernel_rfl),.inl (by kernel_rfl),.inl (by kernel_rfl),.inl (by kernel_rfl),.inl (by kernel_rfl),trivial⟩,by kernel_rfl,?_⟩
  refine At.mono (E':=[(0,B r)]) ⟨Z,trivial⟩<|zc ?_
  refine zac (es:=[9,10,13]) (pv:=[(0,B r),(1,B r),(2,B r),(3,.pointer (some ⟨r,12,none⟩)),(4,.slice y.A y.l.length y.C),(5,B r),(6,B r),(7,.pointer (some ⟨r,3,none⟩)),(8,.agg #[V 200,str m,str t,V minor,.slice f.A f.l.length f.C,.slice A4 (subl x.l long (long + body)).length C5,.bool keep])]) zV (by kernel_rfl) (by kernel_rfl) (by kernel_rfl) ?_
  refine ⟨⟨zpr Z Z Z (zi Z),zpr Z Z Z (zi Z),zpr Z Z Z (zl Z),zpr Z Z Z (zg za2 Z Z),zpr Z Z Z (zu zcb Z (Cell.own 5 0 Z Z Z)),zpr Z Z Z (zi Z),zpr Z Z Z (zl Z),zpr Z Z Z (zg zeD Z Z),zpr Z Z Z (zcY (cs:=[V 200,str m,str t,V minor,.slice f.A f.l.length f.C,.slice A4 (subl x.l long (long + body)).length C5,.bool keep]) zjB Z Z (zad 5 0 3 Z Z Z)),trivial⟩,Z,Z,by kernel_rfl,_,Z,Z,Z,_,Do.own1 zcJ (l:=([((200:Int),(m:List UInt8),(t:List UInt8),(minor:Int),(⟨f.A,f.C,f.l⟩:Vs (List UInt8×List UInt8)),(⟨A4,C5,subl x.l long (long + body)⟩:Vs UInt8),keep)]:List (Int×List UInt8×List UInt8×Int×Vs (List UInt8×List UInt8)×Vs UInt8×Bool))) (zfC (cs:=[V 200,str m,str t,V minor,.slice f.A f.l.length f.C,.slice A4 (subl x.l long (long + body)).length C5,.bool keep]) Tryz.underlying131 zfN ze6 Z Z Z Z) Z Z (by first | decide | simp),?_⟩
  rintro _ _ ⟨b31,s32,o33,rfl,rfl⟩
  refine ⟨[],Z,?_⟩
  refine ⟨⟨zpr Z Z Z (zi Z),zpr Z Z Z (zi Z),zpr Z Z Z (zl Z),zpr Z Z Z (zg za2 Z Z),zpr Z Z Z (zu zcb Z (Cell.own 6 0 Z Z Z)),.inl (by kernel_rfl),.inl (by kernel_rfl),.inl (by kernel_rfl),.inl (by kernel_rfl),trivial⟩,Z,Z,by kernel_rfl,_,Z,Z,Z,_,zhh (l:=y.l) (news:=[((200:Int),(m:List UInt8),(t:List UInt8),(minor:Int),(⟨f.A,f.C,f.l⟩:Vs (List UInt8×List UInt8)),(⟨A4,C5,subl x.l long (long + body)⟩:Vs UInt8),keep)]) 4 tf_el131 Z y.own (o33.rd (i:=0) Z) (by first | omega | (simp only [List.length_append,List.length_cons,List.length_nil]; omega) | (simp; done) | (simp; omega)) Z Z,?_⟩
  rintro _ _ ⟨A34,C35,s36,o37,rfl,rfl⟩
  refine ⟨[(11,B r),(12,.pointer (some ⟨r,12,none⟩))],Z,?_⟩
  refine ⟨⟨zpr Z Z Z (zl Z),zpr Z Z Z (zg za2 Z Z),zpr Z Z Z (zi Z),.inl (by kernel_rfl),.inl (by kernel_rfl),.inl (by kernel_rfl),.inl (by kernel_rfl),.inl (by kernel_rfl),.inl (by kernel_rfl),.inl (by kernel_rfl),.inl (by kernel_rfl),trivial⟩,Z,Z,by kernel_rfl,_,Z,Z,Z,_,zbF (H':=s32::s22::s7::f.s::s36::x.s::[(r,.cells #[.bool true,.slice A19 (subl x.l (long + body) x.l.length).length C20,.func (.func 59) #[B r] #[],V 200,str m,str t,V minor,.slice f.A f.l.length f.C,.slice A4 (subl x.l long (long + body)).length C5,.bool keep,V (long:Int),V (body:Int),.slice A34 (y.l++[((200:Int),(m:List UInt8),(t:List UInt8),(minor:Int),(⟨f.A,f.C,f.l⟩:Vs (List UInt8×List UInt8)),(⟨A4,C5,subl x.l long (long + body)⟩:Vs UInt8),keep)]).length C35] 133 (0,0))]::H) 6 0 zdQ Z Z Z Z Z Z Z Z Z,?_⟩
  rintro _ _ ⟨rfl,rfl⟩
  refine ⟨[],Z,?_⟩
  refine ⟨⟨.inl (by kernel_rfl),.inl (by kernel_rfl),.inl (by kernel_rfl),.inl (by kernel_rfl),.inl (by kernel_rfl),.inl (by kernel_rfl),.inl (by kernel_rfl),.inl (by kernel_rfl),.inl (by kernel_rfl),.inl (by kernel_rfl),.inl (by kernel_rfl),trivial⟩,by kernel_rfl,?_⟩
  refine At.mono (E':=[(0,B r)]) ⟨Z,trivial⟩<|zc<|zc<|za<|zb zg0 Z Z<|zf zg0 Z Z ?_
  refine zd zeD zg0 Z Z Z<|zd tf_fo130_3 zg0 Z Z Z<|zh zR zg0 Z Z (Cell.own 6 0 Z Z Z)<|zag zg0 Z Z<|AtL.done<|zae Z ?_ ?_
  ·intro hc2
   have hc2:keep=false:=zO hc2
   refine zc<|za<|zb zg0 Z Z<|AtL.pick (H':=[(r,.cells #[.bool true,.slice A19 (subl x.l (long + body) x.l.length).length C20,.func (.func 59) #[B r] #[],V 200,str m,str t,V minor,.slice f.A f.l.length f.C,.slice A4 (subl x.l long (long + body)).length C5,.bool keep,V (long:Int),V (body:Int),.slice A34 (y.l++[((200:Int),(m:List UInt8),(t:List UInt8),(minor:Int),(⟨f.A,f.C,f.l⟩:Vs (List UInt8×List UInt8)),(⟨A4,C5,subl x.l long (long + body)⟩:Vs UInt8),keep)]).length C35] 133 (0,0))]::s32::s22::s7::f.s::s36::x.s::H) [6,0,1,2,3,4,5] 7 Z Z<|zk zjl zg0 Z Z zjO ?_
   rintro _ _ ⟨rfl,rfl⟩
   refine AtL.done<|zc<|za<|AtL.assign zg0 Z Z<|AtL.done<|At.pick (H':=s7::f.s::s36::s22::[(r,.cells #[.bool true,.slice none 0 0,.nilFunc,V 200,str m,str t,V minor,.slice f.A f.l.length f.C,.slice A4 (subl x.l long (long + body)).length C5,.bool keep,V (long:Int),V (body:Int),.slice A34 (y.l++[((200:Int),(m:List UInt8),(t:List UInt8),(minor:Int),(⟨f.A,f.C,f.l⟩:Vs (List UInt8×List UInt8)),(⟨A4,C5,subl x.l long (long + body)⟩:Vs UInt8),keep)]).length C35] 133 (0,0))]::H) [3,4,5,2,0] 7 Z Z ?_
   exact zt Tryz.func59 Z Z (.inr ⟨by omega,⟨A4,C5,subl x.l long (long + body),s7,o8⟩,⟨A34,C35,y.l++[((200:Int),(m:List UInt8),(t:List UInt8),(minor:Int),(⟨f.A,f.C,f.l⟩:Vs (List UInt8×List UInt8)),(⟨A4,C5,subl x.l long (long + body)⟩:Vs UInt8),keep)],s36,o37⟩,⟨A19,C20,subl x.l (long + body) x.l.length,s22,o23⟩,fun | 0 => V 200 | 1 => str m | 2 => str t | 3 => V minor | 4 => .slice f.A f.l.length f.C | 5 => .slice A4 (subl x.l long (long + body)).length C5 | 6 => .bool keep | 7 => V (long:Int) | _ => V (body:Int),by dsimp only; rw [subl_mid],Z,.inr ⟨by simpa using hc2,Z,Z⟩⟩)
  ·intro hc2
   have hc2:keep=true:=zJ hc2
   refine zj<|zc<|za<|zb zg0 Z Z<|zb zg0 Z Z<|zbD zg0 Z Z Z ?_
   refine zf zg0 Z Z<|zd zba zg0 Z Z Z<|zr (H':=s32::s22::s7::f.s::s36::x.s::[(r,.cells #[.bool true,.slice A19 (subl x.l (long + body) x.l.length).length C20,.func (.func 48) #[B r] #[],V 200,str m,str t,V minor,.slice f.A f.l.length f.C,.slice A4 (subl x.l long (long + body)).length C5,.bool keep,V (long:Int),V (body:Int),.slice A34 (y.l++[((200:Int),(m:List UInt8),(t:List UInt8),(minor:Int),(⟨f.A,f.C,f.l⟩:Vs (List UInt8×List UInt8)),(⟨A4,C5,subl x.l long (long + body)⟩:Vs UInt8),keep)]).length C35] 133 (0,0))]::H) 6 0 zim zg0 Z Z Z Z Z Z Z Z Z<|AtL.done<|zc<|za ?_
   refine AtL.assign zg0 Z Z<|AtL.done<|At.pick (H':=s7::f.s::s36::s22::[(r,.cells #[.bool true,.slice A19 (subl x.l (long + body) x.l.length).length C20,.func (.func 48) #[B r] #[],V 200,str m,str t,V minor,.slice f.A f.l.length f.C,.slice A4 (subl x.l long (long + body)).length C5,.bool keep,V (long:Int),V (body:Int),.slice A34 (y.l++[((200:Int),(m:List UInt8),(t:List UInt8),(minor:Int),(⟨f.A,f.C,f.l⟩:Vs (List UInt8×List UInt8)),(⟨A4,C5,subl x.l long (long + body)⟩:Vs UInt8),keep)]).length C35] 133 (0,0))]::H) [2,3,4,1,6] 7 Z Z ?_
   exact zt Tryz.func59 Z Z (.inr ⟨by omega,⟨A4,C5,subl x.l long (long + body),s7,o8⟩,⟨A34,C35,y.l++[((200:Int),(m:List UInt8),(t:List UInt8),(minor:Int),(⟨f.A,f.C,f.l⟩:Vs (List UInt8×List UInt8)),(⟨A4,C5,subl x.l long (long + body)⟩:Vs UInt8),keep)],s36,o37⟩,⟨A19,C20,subl x.l (long + body) x.l.length,s22,o23⟩,fun | 0 => V 200 | 1 => str m | 2 => str t | 3 => V minor | 4 => .slice f.A f.l.length f.C | 5 => .slice A4 (subl x.l long (long + body)).length C5 | 6 => .bool keep | 7 => V (long:Int) | _ => V (body:Int),by dsimp only; rw [subl_mid],Z,.inl ⟨by simpa using hc2,by dsimp only; rw [za1],Z,Z⟩⟩)
set_option maxRecDepth 100000
theorem rdnew_ok {w0:World}{base:Nat}{H:List Seg}  :
  SCalls Tryz.prog 43 [] w0 base (H) (fun v H' => ∃ (r:Nat) (g:Nat→Value),v = B r∧H' = rdC r .head Sl.nil (.slice none 0 0) g::H):=by
 refine SCalls.of_walk (n:=10) Tryz.func43 Z Z Z fun cs => ?_
 refine zc<|za<|AtL.assign zg0 Z Z<|AtL.done<|zc<|za ?_
 refine zaE (cs:=[.bool true,.slice none 0 0,.nilFunc,V 0,str [],str [],V 0,.slice none 0 0,.slice none 0 0,.bool false,V 0,V 0,.slice none 0 0]) tf_lay133 zg0 Z Z Z<|zbe (cs:=#[.bool true,.slice none 0 0,.nilFunc,V 0,str [],str [],V 0,.slice none 0 0,.slice none 0 0,.bool false,V 0,V 0,.slice none 0 0]) Z zg0 Z Z ?_
 intro b1
 refine AtL.assign zg0 Z Z<|AtL.done<|zc<|za<|zb zg0 Z Z<|zb zg0 Z Z ?_
 refine zbD zg0 Z Z Z<|zf zg0 Z Z<|zd zba zg0 Z Z Z<|zr (H':=[(b1,.cells #[.bool true,.slice none 0 0,.func (.func 48) #[B b1] #[],V 0,str [],str [],V 0,.slice none 0 0,.slice none 0 0,.bool false,V 0,V 0,.slice none 0 0] 133 (0,0))]::H) 0 0 zim zg0 Z Z Z Z Z Z Z Z Z<|AtL.done<|zc ?_
 refine za<|zb zg0 Z Z<|AtL.assign zg0 Z Z<|AtL.done ?_
 exact zt Tryz.func43 Z Z (⟨b1,fun | 0 => V 0 | 1 => str [] | 2 => str [] | 3 => V 0 | 4 => .slice none 0 0 | 5 => .slice none 0 0 | 6 => .bool false | 7 => V 0 | _ => V 0,Z,Z⟩)
theorem zkD {w0:World}{base:Nat}{H:List Seg}{r:Nat}{a3 a4 a5 a6 a7 a8 a9 a10 a11 a12:Value} :
  SCalls Tryz.prog 249 [B r] w0 base ([(r,.cells #[.bool true,.slice none 0 0,.nilFunc,a3,a4,a5,a6,a7,a8,a9,a10,a11,a12] 133 (0,0))]::H) (fun v H' => v = .bool true∧H' = [(r,.cells #[.bool true,.slice none 0 0,.nilFunc,a3,a4,a5,a6,a7,a8,a9,a10,a11,a12] 133 (0,0))]::H):=by
 refine SCalls.of_walk (n:=18) Tryz.func249 Z Z Z fun cs => ?_
 refine zc<|za<|AtL.assign zg0 Z Z<|AtL.done<|zc<|za ?_
 refine zb zg0 Z Z<|zgf Tryz.underlying113 zg0 Z Z Z<|zb zg0 Z Z<|zb (.inr ⟨_,_,_,Z,Z,Z,Z⟩) Z Z<|zf (.inr ⟨_,_,_,Z,Z,Z,Z⟩) Z Z<|zd zeE (.inr ⟨_,_,_,Z,Z,Z,Z⟩) Z Z Z ?_
 refine zh zR (.inr ⟨_,_,_,Z,Z,Z,Z⟩) Z Z (Cell.own 0 0 Z Z Z)<|zn zg0 Z Z Z<|zb zg0 Z Z<|zb (.inr ⟨_,_,_,Z,Z,Z,Z⟩) Z Z<|zf (.inr ⟨_,_,_,Z,Z,Z,Z⟩) Z Z<|zd zba (.inr ⟨_,_,_,Z,Z,Z,Z⟩) Z Z Z ?_
 refine zh zcn (.inr ⟨_,_,_,Z,Z,Z,Z⟩) Z Z (Cell.own 0 0 Z Z Z)<|zfG Tryz.underlying24 (.inr ⟨_,_,_,Z,Z,Z,Z⟩) Z Z Z<|zn zg0 Z Z Z<|AtL.assign zg0 Z Z<|AtL.done ?_
 exact zt Tryz.func249 Z Z (⟨Z,Z⟩)
theorem zjL {w0:World}{base:Nat}{H:List Seg}{r:Nat}{x:Sl tyB 5}{k:Nat}{p:Value}{a3 a4 a5 a6 a7 a8 a9 a10 a11 a12:Value} :
  SCalls Tryz.prog 249 [B r] w0 base (x.s::[(r,.cells #[.bool true,.slice x.A x.l.length x.C,.func (.func k) #[p] #[],a3,a4,a5,a6,a7,a8,a9,a10,a11,a12] 133 (0,0))]::H) (fun v H' => v = .bool false∧H' = x.s::[(r,.cells #[.bool true,.slice x.A x.l.length x.C,.func (.func k) #[p] #[],a3,a4,a5,a6,a7,a8,a9,a10,a11,a12] 133 (0,0))]::H):=by
 refine SCalls.of_walk (n:=18) Tryz.func249 Z Z Z fun cs => ?_
 refine zc<|za<|AtL.assign zg0 Z Z<|AtL.done<|zc<|za ?_
 refine zb zg0 Z Z<|zgf Tryz.underlying113 zg0 Z Z Z<|zb zg0 Z Z<|zb (.inr ⟨_,_,_,Z,Z,Z,Z⟩) Z Z<|zf (.inr ⟨_,_,_,Z,Z,Z,Z⟩) Z Z<|zd zeE (.inr ⟨_,_,_,Z,Z,Z,Z⟩) Z Z Z ?_
 refine zh zR (.inr ⟨_,_,_,Z,Z,Z,Z⟩) Z Z (Cell.own 1 0 Z Z Z)<|zn zg0 Z Z Z<|zb zg0 Z Z<|zb (.inr ⟨_,_,_,Z,Z,Z,Z⟩) Z Z<|zf (.inr ⟨_,_,_,Z,Z,Z,Z⟩) Z Z<|zd zba (.inr ⟨_,_,_,Z,Z,Z,Z⟩) Z Z Z ?_
 refine zh zcn (.inr ⟨_,_,_,Z,Z,Z,Z⟩) Z Z (Cell.own 1 0 Z Z Z)<|zfH Tryz.underlying24 (.inr ⟨_,_,_,Z,Z,Z,Z⟩) Z Z Z<|zn zg0 Z Z Z<|AtL.assign zg0 Z Z<|AtL.done ?_
 exact zt Tryz.func249 Z Z (⟨Z,Z⟩)
def Rph.isOver:Rph→Bool
 | .over => true
 | _ => false
theorem rdover_ok {w0:World}{base:Nat}{H:List Seg}{r:Nat}{ph:Rph}{x:Sl tyB 5}{o:Value}{g:Nat→Value}:SCalls Tryz.prog 249 [B r] w0 base (x.s::rdC r ph x o g::H) (fun v H' => v = .bool ph.isOver∧H' = x.s::rdC r ph x o g::H):=by
 cases ph with
 | over =>
  refine SCalls.pick (H':=rdC r .over x o g::x.s::H) [1,0] 2 Z Z ((zkD (H:=x.s::H)).permR ?_)
  rintro v H' ⟨rfl,rfl⟩
  exact ⟨_,List.Perm.swap _ _ _,Z,Z⟩
 | head => exact zjL
 | rest m t minor f keep long body => exact zjL
set_option maxRecDepth 100000
def remF:Rph→List UInt8→List ItV×List UInt8×Bool
 | .over,_ => ([],[],true)
 | .head,b => runF b
 | .rest ..,b => runF b
def stOk:Rph→List UInt8→Prop
 | .rest m t minor f keep long body,b => zaP b = .ready ⟨m,t,minor,f.l⟩ long body keep
 | _,_ => True
def wtR:Rph→Nat
 | .head => 1
 | _ => 0
def okPh:Rph→List UInt8→Prop
 | .over,_ => True
 | .head,b => zaP b = .wait
 | .rest m t minor f keep long body,b => zaP b = .ready ⟨m,t,minor,f.l⟩ long body keep∧b.length < long + body
theorem ziH (l:List It) (i:It):itS (l++[i])=itS l++(i.f.s++i.z.s):=by simp [itS]
theorem itS_bad (l:List It) (s:Int):itS (l++[It.bad s])=itS l:=by rw [ziH]; simp [It.bad,Sl.nil]
theorem zdT (a b c:Seg) (H:List Seg):(a::b::c::H).flatten.Perm ((a++(b++c))::H).flatten:=by simp
theorem zfj {its:List It}{R Q:List ItV×List UInt8×Bool}(h:(its.map ziX++R.1,R.2)=Q) {is:List ItV}{b:List UInt8}{o:Bool}(hr:R=(is,b,o)):its.map ziX++is=Q.1∧Q.2=(b,o):=by
 subst hr; subst h; exact ⟨rfl,rfl⟩
theorem len_small (fs:List Fld):(zaQ fs).1.toNat≤65535:=by
 unfold zaQ
 repeat' split
 all_goals (try simp only [Int.toNat_natCast])
 all_goals first | omega | decide
theorem body_small {b:List UInt8}{hd:HeadV}{long body:Nat}{k:Bool}(h:zaP b = .ready hd long body k):body≤65535:=by
 unfold zaP at h
 split at h
 ·split at h <;> cases h
 ·unfold askR at h
  repeat' split at h
  all_goals first | (cases h; done) | skip
  all_goals (injection h with _ _ h3 _; rw [← h3]; exact len_small _)
theorem run_step {its:List It}{x:List UInt8}{Q:List ItV×List UInt8×Bool}{m t:List UInt8}{minor:Int}{f:Sl zbE 173}{keep:Bool}{long body:Nat}{z x' : Sl tyB 5}(hr:(its.map ziX++(remF (.rest m t minor f keep long body) x).1,(remF (.rest m t minor f keep long body) x).2)=Q) (hs:zaP x = .ready ⟨m,t,minor,f.l⟩ long body keep) (hsh:¬ x.length < long + body) (hk:keep=true) (hz:z.l=(x.drop long).take body) (hx' : x'.l=x.drop (long + body)) :
  ((its++[(⟨200,m,t,minor,f,z,keep⟩:It)]).map ziX++(remF .head x'.l).1,(remF .head x'.l).2)=Q:=by
 subst hk
 rw [← hr]
 simp only [remF]
 rw [run_more hs hsh,hx',List.map_append]
 simp only [List.map_cons,List.map_nil,ziX,hz,List.append_assoc,List.cons_append,List.nil_append]
set_option maxHeartbeats 2000000 in
theorem push_gen {w0:World}{base:Nat}{H:List Seg}{r:Nat}{x:Sl tyB 5}{ph:Rph}{g:Nat→Value}{k:Nat}{q a3 a4 a5 a6 a7 a8 a9 a10 a11:Value}{A:Option Addr}{C:Nat}{l:List UInt8}(h:Rd tyB w0 base H A C l) (hC:∀ x:Sl tyB 5,([(r,.cells #[.bool true,.slice x.A x.l.length x.C,.func (.func k) #[q] #[],a3,a4,a5,a6,a7,a8,a9,a10,a11,.slice none 0 0] 133 (0,0))]:Seg)=rdC r ph x (.slice none 0 0) g) (hst:stOk ph (x.l++l)) (hrem:(remF ph (x.l++l))=runF (x.l++l)) (hsz:x.l.length + l.length≤999990) (T:Tabs w0 base) :
  SCalls Tryz.prog 247 [B r,.slice A l.length C] w0 base (ph.s::x.s::[(r,.cells #[.bool true,.slice x.A x.l.length x.C,.func (.func k) #[q] #[],a3,a4,a5,a6,a7,a8,a9,a10,a11,.slice none 0 0] 133 (0,0))]::H) (fun v H' => ∃ (its:List It) (o:Sl zcJ 130) (ph' : Rph) (x' : Sl tyB 5) (g' : Nat→Value),o.l=its.map It.v∧its.map ziX=(runF (x.l++l)).1∧okPh ph' x'.l∧ph'.isOver=(runF (x.l++l)).2.2∧(ph'.isOver=false→x'.l=(runF (x.l++l)).2.1)∧v = .tuple #[.slice o.A o.l.length o.C,int 0]∧H' = itS its::o.s::ph'.s::x'.s::rdC r ph' x' (.slice none 0 0) g'::H):=by
 have hle0:=h.le
 have hcap0:=h.cap
 have hcapx:=z7 x.own
 have hsa:(subl x.l 0 x.l.length).length=x.l.length:=by rw [subl_all]
 refine SCalls.of_walk (n:=63) Tryz.func247 Z Z Z fun cs => ?_
 refine zc<|za<|AtL.assign zg0 Z Z<|AtL.assign zg0 Z Z<|AtL.done<|zc ?_
 refine At.block<|zc<|za<|zb zg0 Z Z<|zbo Tryz.underlying113 zg0 Z Z Z<|zb zg0 Z Z ?_
 refine zb (.inr ⟨_,_,_,Z,Z,Z,Z⟩) Z Z<|zf (.inr ⟨_,_,_,Z,Z,Z,Z⟩) Z Z<|zd zeE (.inr ⟨_,_,_,Z,Z,Z,Z⟩) Z Z Z<|zh zR (.inr ⟨_,_,_,Z,Z,Z,Z⟩) Z Z (Cell.own 2 0 Z Z Z)<|zag (.inr ⟨_,_,_,Z,Z,Z,Z⟩) Z Z<|zm zg0 Z Z Z ?_
 refine AtL.assign zg0 Z Z<|AtL.done<|zB Z<|zc<|za<|zb zg0 Z Z ?_
 refine zf zg0 Z Z<|zd zba zg0 Z Z Z<|zh zcn zg0 Z Z (Cell.own 2 0 Z Z Z)<|zfH Tryz.underlying24 zg0 Z Z Z<|AtL.assign zg0 Z Z<|AtL.done ?_
 refine zB Z<|zj<|zp<|zc ?_
 have hleo3:=zab x.own
 obtain ⟨A1,eA1⟩:∃ A1:Option Addr,A1=(if x.l.length=0 then x.A else Option.map (fun a => a.add (0 * tyB.sz)) x.A):=⟨_,rfl⟩
 obtain ⟨C2,eC2⟩:∃ C2:Nat,C2=x.l.length - 0:=⟨_,rfl⟩
 have o3:Own tyB 5 A1 C2 (subl x.l 0 x.l.length) x.s:=by rw [eA1,eC2]; exact Own.cut x.own (by omega) (by omega) (by omega) (by omega)
 refine zac (es:=[17,20]) (pv:=[(0,B r),(1,B r),(2,B r),(3,.pointer (some ⟨r,1,none⟩)),(4,.slice x.A x.l.length x.C),(5,B r),(6,B r),(7,.pointer (some ⟨r,1,none⟩)),(8,.slice x.A x.l.length x.C),(9,V (x.l.length:Int)),(10,B r),(11,B r),(12,.pointer (some ⟨r,1,none⟩)),(13,.slice x.A x.l.length x.C),(14,V (x.l.length:Int)),(15,.slice A1 (subl x.l 0 x.l.length).length C2),(16,.slice A l.length C)]) zV (by kernel_rfl) (by kernel_rfl) (by kernel_rfl) ?_
 refine ⟨⟨zpr Z Z Z (zi Z),zpr Z Z Z (zi Z),zpr Z Z Z (zl Z),zpr Z Z Z (zg zbb Z Z),zpr Z Z Z (zu zE Z (Cell.own 2 0 Z Z Z)),zpr Z Z Z (zi Z),zpr Z Z Z (zl Z),zpr Z Z Z (zg zbb Z Z),zpr Z Z Z (zu zE Z (Cell.own 2 0 Z Z Z)),zpr Z Z Z (zbt Tryz.underlying34 Z),zpr Z Z Z (zi Z),zpr Z Z Z (zl Z),zpr Z Z Z (zg zbb Z Z),zpr Z Z Z (zu zE Z (Cell.own 2 0 Z Z Z)),zpr Z Z Z (zbt Tryz.underlying34 Z),zpr Z Z Z (zaC (T:=tyB) (l:=x.l) 0 x.l.length x.l.length Z (zI Z Z) (zI Z Z) (fun _ => Z) (by omega) (by omega) (by omega) Tryz.underlying34 zQ Z eA1 (zP (l:=x.l) (i:=0) (j:=x.l.length) (by omega)) eC2),zpr Z Z Z (zi Z),trivial⟩,Z,Z,by kernel_rfl,_,Z,Z,Z,_,zhh (l:=subl x.l 0 x.l.length) (news:=l) 1 zbq Z o3 (Rd.skip 3 h) (by first | omega | (simp only [List.length_append,List.length_cons,List.length_nil]; omega) | (simp; done) | (simp; omega)) Z Z,?_⟩
 rintro _ _ ⟨A4,C5,s6,o7,rfl,rfl⟩
 refine ⟨[(18,B r),(19,.pointer (some ⟨r,1,none⟩))],Z,?_⟩
 refine ⟨⟨zpr Z Z Z (zl Z),zpr Z Z Z (zg zbb Z Z),zpr Z Z Z (zi Z),.inl (by kernel_rfl),.inl (by kernel_rfl),.inl (by kernel_rfl),.inl (by kernel_rfl),.inl (by kernel_rfl),.inl (by kernel_rfl),.inl (by kernel_rfl),.inl (by kernel_rfl),.inl (by kernel_rfl),.inl (by kernel_rfl),.inl (by kernel_rfl),.inl (by kernel_rfl),.inl (by kernel_rfl),.inl (by kernel_rfl),.inl (by kernel_rfl),.inl (by kernel_rfl),trivial⟩,Z,Z,by kernel_rfl,_,Z,Z,Z,_,zbF (H':=ph.s::s6::[(r,.cells #[.bool true,.slice A4 ((subl x.l 0 x.l.length)++l).length C5,.func (.func k) #[q] #[],a3,a4,a5,a6,a7,a8,a9,a10,a11,.slice none 0 0] 133 (0,0))]::H) 2 0 zaA Z Z Z Z Z Z Z Z Z,?_⟩
 rintro _ _ ⟨rfl,rfl⟩
 refine ⟨[],Z,?_⟩
 refine ⟨⟨.inl (by kernel_rfl),.inl (by kernel_rfl),.inl (by kernel_rfl),.inl (by kernel_rfl),.inl (by kernel_rfl),.inl (by kernel_rfl),.inl (by kernel_rfl),.inl (by kernel_rfl),.inl (by kernel_rfl),.inl (by kernel_rfl),.inl (by kernel_rfl),.inl (by kernel_rfl),.inl (by kernel_rfl),.inl (by kernel_rfl),.inl (by kernel_rfl),.inl (by kernel_rfl),.inl (by kernel_rfl),.inl (by kernel_rfl),.inl (by kernel_rfl),trivial⟩,by kernel_rfl,?_⟩
 refine At.mono (E':=[(0,B r)]) ⟨Z,trivial⟩<|zc<|At.block<|At.nil<|At.nil ?_
 obtain ⟨xb,hxb⟩:∃ xb:Sl tyB 5,xb=(⟨A4,C5,(subl x.l 0 x.l.length)++l,s6,o7⟩:Sl tyB 5):=⟨_,rfl⟩
 have hxbl:xb.l=x.l++l:=by rw [hxb]; dsimp only; rw [subl_all]
 refine At.pick (H':=[]::[]::ph.s::(⟨A4,C5,(subl x.l 0 x.l.length)++l,s6,o7⟩:Sl tyB 5).s::[(r,.cells #[.bool true,.slice (⟨A4,C5,(subl x.l 0 x.l.length)++l,s6,o7⟩:Sl tyB 5).A (⟨A4,C5,(subl x.l 0 x.l.length)++l,s6,o7⟩:Sl tyB 5).l.length (⟨A4,C5,(subl x.l 0 x.l.length)++l,s6,o7⟩:Sl tyB 5).C,.func (.func k) #[q] #[],a3,a4,a5,a6,a7,a8,a9,a10,a11,.slice none 0 0] 133 (0,0))]::H) [0,1,2,3,4] 5 Z Z ?_
 rw [← hxb,hC xb]
 refine At.loop5 (fun (ph2:Rph) (x2:Sl tyB 5) (o2:Sl zcJ 130) (its:List It) (g2:Nat→Value) => [(0,B r)]) (fun (ph2:Rph) (x2:Sl tyB 5) (o2:Sl zcJ 130) (its:List It) (g2:Nat→Value) => itS its::o2.s::ph2.s::x2.s::rdC r ph2 x2 (.slice o2.A o2.l.length o2.C) g2::H) (fun (ph2:Rph) (x2:Sl tyB 5) (o2:Sl zcJ 130) (its:List It) (g2:Nat→Value) => o2.l=its.map It.v∧(its.map ziX++(remF ph2 x2.l).1,(remF ph2 x2.l).2)=runF (x.l++l)∧stOk ph2 x2.l∧its.length + x2.l.length≤x.l.length + l.length) (fun (ph2:Rph) (x2:Sl tyB 5) (o2:Sl zcJ 130) (its:List It) (g2:Nat→Value) => 2 * x2.l.length + wtR ph2) ph xb Sl.nil [] g (⟨Z,by rw [hxbl]; exact hrem,by rw [hxbl]; exact hst,by rw [hxbl,List.length_append]; exact Nat.le_of_eq (Nat.zero_add _)⟩) ⟨Z,trivial⟩ Z ?_
 rintro ph2 x2 o2 its g2 ⟨ho,hr,hs,hn⟩ ihL1
 have hol:o2.l.length=its.length:=by rw [ho,List.length_map]
 have hcapx2:=z7 x2.own
 have hcapo2:=z7 o2.own
 refine zc<|zc ?_
 cases ph2 with
 | over =>
  refine At.pick (H':=itS its::o2.s::[]::x2.s::[(r,.cells #[.bool true,.slice none 0 0,.nilFunc,g2 0,g2 1,g2 2,g2 3,g2 4,g2 5,g2 6,g2 7,g2 8,.slice o2.A o2.l.length o2.C] 133 (0,0))]::H) [0,1,2,3,4] 5 Z Z<|za<|zb zg0 Z Z<|zf zg0 Z Z<|zd zba zg0 Z Z Z<|zh zcn zg0 Z Z (Cell.own 4 0 Z Z Z) ?_
  refine zi3 Tryz.underlying24 zg0 Z Z Z<|zb zg0 Z Z<|ze Z Z Z Z Z Z<|ze Z Z Z Z Z Z<|ze Z Z Z Z Z Z<|ze Z Z Z Z Z Z ?_
  refine ze Z Z Z Z Z Z<|zm zg0 Z Z Z<|AtL.done<|zB Z<|zau Z<|zc ?_
  refine za<|zb zg0 Z Z<|zf zg0 Z Z<|zd za2 zg0 Z Z Z<|zh zcb zg0 Z Z (Cell.own 4 0 Z Z Z)<|AtL.assign zg0 Z Z ?_
  refine AtL.done<|zc<|za<|zb zg0 Z Z<|zf zg0 Z Z<|zd za2 zg0 Z Z Z ?_
  refine zr (H':=itS its::o2.s::[]::x2.s::[(r,.cells #[.bool true,.slice none 0 0,.nilFunc,g2 0,g2 1,g2 2,g2 3,g2 4,g2 5,g2 6,g2 7,g2 8,.slice none 0 0] 133 (0,0))]::H) 4 0 zdQ zg0 Z Z Z Z Z Z Z Z Z<|AtL.done<|zc<|za<|zb zg0 Z Z<|AtL.assign zg0 Z Z ?_
  refine AtL.assign zg0 Z Z<|AtL.done ?_
  have hq:=zfj hr rfl
  exact zt Tryz.func247 Z Z (⟨its,o2,.over,x2,g2,ho,by rw [← hq.1,List.append_nil],trivial,(congrArg Prod.snd hq.2).symm,fun h => (by cases h),Z,Z⟩)
 | head =>
  refine At.pick (H':=itS its::o2.s::[]::x2.s::[(r,.cells #[.bool true,.slice x2.A x2.l.length x2.C,.func (.func 48) #[B r] #[],g2 0,g2 1,g2 2,g2 3,g2 4,g2 5,g2 6,g2 7,g2 8,.slice o2.A o2.l.length o2.C] 133 (0,0))]::H) [0,1,2,3,4] 5 Z Z<|za<|zb zg0 Z Z<|zf zg0 Z Z<|zd zba zg0 Z Z Z<|zh zcn zg0 Z Z (Cell.own 4 0 Z Z Z) ?_
  refine zfE Tryz.underlying24 zg0 Z Z Z<|zb zg0 Z Z<|zb (.inr ⟨_,_,_,Z,Z,Z,Z⟩) Z Z<|zf (.inr ⟨_,_,_,Z,Z,Z,Z⟩) Z Z<|zd zba (.inr ⟨_,_,_,Z,Z,Z,Z⟩) Z Z Z<|zh zcn (.inr ⟨_,_,_,Z,Z,Z,Z⟩) Z Z (Cell.own 4 0 Z Z Z) ?_
  refine AtL.pick (H':=o2.s::x2.s::[(r,.cells #[.bool true,.slice x2.A x2.l.length x2.C,.func (.func 48) #[B r] #[],g2 0,g2 1,g2 2,g2 3,g2 4,g2 5,g2 6,g2 7,g2 8,.slice o2.A o2.l.length o2.C] 133 (0,0))]::itS its::[]::H) [1,3,4,0,2] 5 Z Z ?_
  refine zkq tf_body48 (.inr ⟨_,_,_,Z,Z,Z,Z⟩) Z Z Z Z (rdhead_ok (x:=x2) (y:=o2) (g:=g2) (by omega) (by omega) T) ?_
  rintro _ _ (⟨hwt,rfl,rfl⟩ | ⟨s,y',g',hen,hy',rfl,rfl⟩ | ⟨m,t,minor,f,keep,long,body,hrd,rfl,rfl⟩)
  ·refine AtL.pick (H':=o2.s::x2.s::[(r,.cells #[.bool true,.slice x2.A x2.l.length x2.C,.func (.func 48) #[B r] #[],g2 0,g2 1,g2 2,g2 3,g2 4,g2 5,g2 6,g2 7,g2 8,.slice o2.A o2.l.length o2.C] 133 (0,0))]::itS its::[]::H) [0,1,2,3,4] 5 Z Z<|zn zg0 Z Z Z<|AtL.done<|zB Z<|zau Z<|zc ?_
   refine za<|zb zg0 Z Z<|zf zg0 Z Z<|zd za2 zg0 Z Z Z<|zh zcb zg0 Z Z (Cell.own 2 0 Z Z Z)<|AtL.assign zg0 Z Z ?_
   refine AtL.done<|zc<|za<|zb zg0 Z Z<|zf zg0 Z Z<|zd za2 zg0 Z Z Z ?_
   refine zr (H':=o2.s::x2.s::[(r,.cells #[.bool true,.slice x2.A x2.l.length x2.C,.func (.func 48) #[B r] #[],g2 0,g2 1,g2 2,g2 3,g2 4,g2 5,g2 6,g2 7,g2 8,.slice none 0 0] 133 (0,0))]::itS its::[]::H) 2 0 zdQ zg0 Z Z Z Z Z Z Z Z Z<|AtL.done<|zc<|za<|zb zg0 Z Z<|AtL.assign zg0 Z Z ?_
   refine AtL.assign zg0 Z Z<|AtL.done ?_
   have hq:=zfj hr (run_wait hwt)
   refine At.pick [3,0,4,1,2] 5 Z Z ?_
   exact zt Tryz.func247 Z Z (⟨its,o2,.head,x2,g2,ho,by rw [← hq.1,List.append_nil],hwt,(congrArg Prod.snd hq.2).symm,fun _ => (congrArg Prod.fst hq.2).symm,Z,Z⟩)
  ·refine AtL.pick (H':=y'.s::x2.s::[(r,.cells #[.bool true,.slice none 0 0,.nilFunc,g' 0,g' 1,g' 2,g' 3,g' 4,g' 5,g' 6,g' 7,g' 8,.slice y'.A y'.l.length y'.C] 133 (0,0))]::itS its::[]::H) [0,1,2,3,4] 5 Z Z<|zn zg0 Z Z Z<|AtL.done<|zB Z<|zau Z<|zc ?_
   refine za<|zb zg0 Z Z<|zf zg0 Z Z<|zd za2 zg0 Z Z Z<|zh zcb zg0 Z Z (Cell.own 2 0 Z Z Z)<|AtL.assign zg0 Z Z ?_
   refine AtL.done<|zc<|za<|zb zg0 Z Z<|zf zg0 Z Z<|zd za2 zg0 Z Z Z ?_
   refine zr (H':=y'.s::x2.s::[(r,.cells #[.bool true,.slice none 0 0,.nilFunc,g' 0,g' 1,g' 2,g' 3,g' 4,g' 5,g' 6,g' 7,g' 8,.slice none 0 0] 133 (0,0))]::itS its::[]::H) 2 0 zdQ zg0 Z Z Z Z Z Z Z Z Z<|AtL.done<|zc<|za<|zb zg0 Z Z<|AtL.assign zg0 Z Z ?_
   refine AtL.assign zg0 Z Z<|AtL.done ?_
   have hq:=zfj hr (run_ends hen)
   rw [show itS its=itS (its++[It.bad s]) from (itS_bad its s).symm]
   refine At.pick [3,0,4,1,2] 5 Z Z ?_
   exact zt Tryz.func247 Z Z (⟨its++[It.bad s],y',.over,x2,g',by rw [hy',ho,List.map_append]; rfl,by rw [List.map_append]; exact hq.1,trivial,(congrArg Prod.snd hq.2).symm,fun h => (by cases h),Z,Z⟩)
  ·refine zn zg0 Z Z Z<|AtL.done<|zX Z<|zj<|At.block<|zj ?_
   refine zp<|At.pick (H':=itS its::o2.s::f.s::x2.s::rdC r (.rest m t minor f keep long body) x2 (.slice o2.A o2.l.length o2.C) g2::H) [4,1,0,2,3] 6 Z Z ?_
   refine ihL1 (.rest m t minor f keep long body) x2 o2 its g2 (⟨ho,hr,hrd,hn⟩) (by have h1:wtR Rph.head=1:=Z; have h2:wtR ((.rest m t minor f keep long body))=0:=Z; omega) _ ?_
   exact ⟨Z,trivial⟩
 | rest m t minor f keep long body =>
  have hs:zaP x2.l = .ready ⟨m,t,minor,f.l⟩ long body keep:=hs
  obtain ⟨hlg1,hlg2,hlg3,_⟩:=zeg hs
  have hbd:=body_small hs
  refine At.pick (H':=itS its::o2.s::f.s::x2.s::[(r,.cells #[.bool true,.slice x2.A x2.l.length x2.C,.func (.func 59) #[B r] #[],V 200,str m,str t,V minor,.slice f.A f.l.length f.C,.slice none 0 0,.bool keep,V (long:Int),V (body:Int),.slice o2.A o2.l.length o2.C] 133 (0,0))]::H) [0,1,2,3,4] 5 Z Z<|za<|zb zg0 Z Z<|zf zg0 Z Z<|zd zba zg0 Z Z Z<|zh zcn zg0 Z Z (Cell.own 4 0 Z Z Z) ?_
  refine zfE Tryz.underlying24 zg0 Z Z Z<|zb zg0 Z Z<|zb (.inr ⟨_,_,_,Z,Z,Z,Z⟩) Z Z<|zf (.inr ⟨_,_,_,Z,Z,Z,Z⟩) Z Z<|zd zba (.inr ⟨_,_,_,Z,Z,Z,Z⟩) Z Z Z<|zh zcn (.inr ⟨_,_,_,Z,Z,Z,Z⟩) Z Z (Cell.own 4 0 Z Z Z) ?_
  refine AtL.pick (H':=f.s::o2.s::x2.s::[(r,.cells #[.bool true,.slice x2.A x2.l.length x2.C,.func (.func 59) #[B r] #[],V 200,str m,str t,V minor,.slice f.A f.l.length f.C,.slice none 0 0,.bool keep,V (long:Int),V (body:Int),.slice o2.A o2.l.length o2.C] 133 (0,0))]::itS its::H) [2,1,3,4,0] 5 Z Z ?_
  refine zkq tf_body59 (.inr ⟨_,_,_,Z,Z,Z,Z⟩) Z Z Z Z (rdrest_ok (x:=x2) (y:=o2) (g:=g2) (by omega) (by omega) (by omega) (by omega)) ?_
  rintro _ _ (⟨hsh,rfl,rfl⟩ | ⟨hsh,z,y',x',g',hz,hy',(⟨hk,hx',rfl,rfl⟩ | ⟨hk,rfl,rfl⟩)⟩)
  ·refine AtL.pick (H':=f.s::o2.s::x2.s::[(r,.cells #[.bool true,.slice x2.A x2.l.length x2.C,.func (.func 59) #[B r] #[],V 200,str m,str t,V minor,.slice f.A f.l.length f.C,.slice none 0 0,.bool keep,V (long:Int),V (body:Int),.slice o2.A o2.l.length o2.C] 133 (0,0))]::itS its::H) [0,1,2,3,4] 5 Z Z<|zn zg0 Z Z Z<|AtL.done<|zB Z<|zau Z<|zc ?_
   refine za<|zb zg0 Z Z<|zf zg0 Z Z<|zd za2 zg0 Z Z Z<|zh zcb zg0 Z Z (Cell.own 3 0 Z Z Z)<|AtL.assign zg0 Z Z ?_
   refine AtL.done<|zc<|za<|zb zg0 Z Z<|zf zg0 Z Z<|zd za2 zg0 Z Z Z ?_
   refine zr (H':=f.s::o2.s::x2.s::[(r,.cells #[.bool true,.slice x2.A x2.l.length x2.C,.func (.func 59) #[B r] #[],V 200,str m,str t,V minor,.slice f.A f.l.length f.C,.slice none 0 0,.bool keep,V (long:Int),V (body:Int),.slice none 0 0] 133 (0,0))]::itS its::H) 3 0 zdQ zg0 Z Z Z Z Z Z Z Z Z<|AtL.done<|zc<|za<|zb zg0 Z Z<|AtL.assign zg0 Z Z ?_
   refine AtL.assign zg0 Z Z<|AtL.done ?_
   have hq:=zfj hr (zjI hs hsh)
   refine At.pick [4,1,0,2,3] 5 Z Z ?_
   exact zt Tryz.func247 Z Z (⟨its,o2,(.rest m t minor f keep long body),x2,g2,ho,by rw [← hq.1,List.append_nil],⟨hs,hsh⟩,(congrArg Prod.snd hq.2).symm,fun _ => (congrArg Prod.fst hq.2).symm,Z,Z⟩)
  ·refine zn zg0 Z Z Z<|AtL.done<|zX Z<|zj<|At.block<|zj ?_
   refine zp<|At.pick (H':=itS its::f.s::z.s::y'.s::x'.s::rdC r .head x' (.slice y'.A y'.l.length y'.C) g'::H) [5,1,0,2,3,4] 6 Z Z<|At.flat (zdT _ _ _ _) ?_
   rw [show (itS its++(f.s++z.s):Seg)=itS (its++[(⟨200,m,t,minor,f,z,keep⟩:It)]) from (ziH its (⟨200,m,t,minor,f,z,keep⟩:It)).symm]
   refine At.nil<|At.pick (H':=itS (its++[(⟨200,m,t,minor,f,z,keep⟩:It)])::y'.s::[]::x'.s::rdC r .head x' (.slice y'.A y'.l.length y'.C) g'::H) [1,2,0,3,4] 5 Z Z ?_
   refine ihL1 .head x' y' (its++[(⟨200,m,t,minor,f,z,keep⟩:It)]) g' (⟨by rw [hy',ho,List.map_append]; rfl,run_step hr hs hsh hk hz hx',trivial,by rw [hx',List.length_append,List.length_drop]; have:=zeg hs; simp only [List.length_cons,List.length_nil]; omega⟩) (by have h1:wtR Rph.head=1:=Z; have h2:wtR ((.rest m t minor f keep long body))=0:=Z; have:=zeg hs; rw [hx',List.length_drop]; omega) _ ?_
   exact ⟨Z,trivial⟩
  ·refine AtL.pick (H':=z.s::f.s::y'.s::x'.s::[(r,.cells #[.bool true,.slice none 0 0,.nilFunc,g' 0,g' 1,g' 2,g' 3,g' 4,g' 5,g' 6,g' 7,g' 8,.slice y'.A y'.l.length y'.C] 133 (0,0))]::itS its::H) [0,1,2,3,4,5] 6 Z Z<|zn zg0 Z Z Z<|AtL.done<|zB Z<|zau Z<|zc ?_
   refine za<|zb zg0 Z Z<|zf zg0 Z Z<|zd za2 zg0 Z Z Z<|zh zcb zg0 Z Z (Cell.own 4 0 Z Z Z)<|AtL.assign zg0 Z Z ?_
   refine AtL.done<|zc<|za<|zb zg0 Z Z<|zf zg0 Z Z<|zd za2 zg0 Z Z Z ?_
   refine zr (H':=z.s::f.s::y'.s::x'.s::[(r,.cells #[.bool true,.slice none 0 0,.nilFunc,g' 0,g' 1,g' 2,g' 3,g' 4,g' 5,g' 6,g' 7,g' 8,.slice none 0 0] 133 (0,0))]::itS its::H) 4 0 zdQ zg0 Z Z Z Z Z Z Z Z Z<|AtL.done<|zc<|za<|zb zg0 Z Z<|AtL.assign zg0 Z Z ?_
   refine AtL.assign zg0 Z Z<|AtL.done ?_
   have hq:=zfj hr (run_last (by rw [← hk]; exact hs) hsh)
   refine At.pick (H':=itS its::f.s::z.s::y'.s::x'.s::[(r,.cells #[.bool true,.slice none 0 0,.nilFunc,g' 0,g' 1,g' 2,g' 3,g' 4,g' 5,g' 6,g' 7,g' 8,.slice none 0 0] 133 (0,0))]::H) [5,1,0,2,3,4] 6 Z Z<|At.flat (zdT _ _ _ _) ?_
   rw [show (itS its++(f.s++z.s):Seg)=itS (its++[(⟨200,m,t,minor,f,z,keep⟩:It)]) from (ziH its (⟨200,m,t,minor,f,z,keep⟩:It)).symm]
   refine At.nil<|At.pick [1,2,0,3,4] 5 Z Z ?_
   exact zt Tryz.func247 Z Z (⟨its++[(⟨200,m,t,minor,f,z,keep⟩:It)],y',.over,x',g',by rw [hy',ho,List.map_append]; rfl,by rw [List.map_append]; simp only [List.map_cons,List.map_nil,ziX,hz,hk]; exact hq.1,trivial,(congrArg Prod.snd hq.2).symm,fun h => (by cases h),Z,Z⟩)
theorem rph_cases {ph:Rph}(h:ph.isOver=false):ph = .head∨∃ m t minor f keep long body,ph = .rest m t minor f keep long body:=by
 cases ph with
 | over => cases h
 | head => exact .inl rfl
 | rest m t minor f keep long body => exact .inr ⟨_,_,_,_,_,_,_,rfl⟩
theorem rdpush_ok {w0:World}{base:Nat}{H:List Seg}{r:Nat}{x:Sl tyB 5}{ph:Rph}{g:Nat→Value}{A:Option Addr}{C:Nat}{l:List UInt8}(h:Rd tyB w0 base H A C l) (hno:ph.isOver=false) (hok:okPh ph x.l) (hsz:x.l.length + l.length≤999990) (T:Tabs w0 base) :
  SCalls Tryz.prog 247 [B r,.slice A l.length C] w0 base (ph.s::x.s::rdC r ph x (.slice none 0 0) g::H) (fun v H' => ∃ (its:List It) (o:Sl zcJ 130) (ph' : Rph) (x' : Sl tyB 5) (g' : Nat→Value),o.l=its.map It.v∧its.map ziX=(runF (x.l++l)).1∧okPh ph' x'.l∧ph'.isOver=(runF (x.l++l)).2.2∧(ph'.isOver=false→x'.l=(runF (x.l++l)).2.1)∧v = .tuple #[.slice o.A o.l.length o.C,int 0]∧H' = itS its::o.s::ph'.s::x'.s::rdC r ph' x' (.slice none 0 0) g'::H):=by
 rcases rph_cases hno with rfl | ⟨m,t,minor,f,keep,long,body,rfl⟩
 ·exact push_gen (ph:=.head) (g:=g) h (fun _ => Z) trivial Z hsz T
 ·exact push_gen (ph:=.rest m t minor f keep long body) (g:=g) h (fun _ => Z) ((head_app (by rw [hok.1]; simp)).trans hok.1) Z hsz T
theorem push_over {w0:World}{base:Nat}{H:List Seg}{r:Nat}{a1 a3 a4 a5 a6 a7 a8 a9 a10 a11 a12:Value}{A:Option Addr}{C:Nat}{l:List UInt8} :
  SCalls Tryz.prog 247 [B r,.slice A l.length C] w0 base ([(r,.cells #[.bool true,a1,.nilFunc,a3,a4,a5,a6,a7,a8,a9,a10,a11,a12] 133 (0,0))]::H) (fun v H' => v = .tuple #[.slice none 0 0,int 9]∧H' = [(r,.cells #[.bool true,a1,.nilFunc,a3,a4,a5,a6,a7,a8,a9,a10,a11,a12] 133 (0,0))]::H):=by
 refine SCalls.of_walk (n:=63) Tryz.func247 Z Z Z fun cs => ?_
 refine zc<|za<|AtL.assign zg0 Z Z<|AtL.assign zg0 Z Z<|AtL.done<|zc ?_
 refine At.block<|zc<|za<|zb zg0 Z Z<|zbo Tryz.underlying113 zg0 Z Z Z<|zb zg0 Z Z ?_
 refine zb (.inr ⟨_,_,_,Z,Z,Z,Z⟩) Z Z<|zf (.inr ⟨_,_,_,Z,Z,Z,Z⟩) Z Z<|zd zeE (.inr ⟨_,_,_,Z,Z,Z,Z⟩) Z Z Z<|zh zR (.inr ⟨_,_,_,Z,Z,Z,Z⟩) Z Z (Cell.own 0 0 Z Z Z)<|zag (.inr ⟨_,_,_,Z,Z,Z,Z⟩) Z Z<|zm zg0 Z Z Z ?_
 refine AtL.assign zg0 Z Z<|AtL.done<|zB Z<|zc<|za<|zb zg0 Z Z ?_
 refine zf zg0 Z Z<|zd zba zg0 Z Z Z<|zh zcn zg0 Z Z (Cell.own 0 0 Z Z Z)<|zfG Tryz.underlying24 zg0 Z Z Z<|AtL.assign zg0 Z Z<|AtL.done ?_
 refine zX Z<|zc<|za<|AtL.assign zg0 Z Z<|AtL.assign zg0 Z Z<|AtL.done ?_
 exact zt Tryz.func247 Z Z (⟨Z,Z⟩)
set_option maxRecDepth 100000
theorem rdnew2 {w0:World}{base:Nat}{H:List Seg}:SCalls Tryz.prog 43 [] w0 base H (fun v H' => ∃ (r:Nat) (ph:Rph) (x:Sl tyB 5) (g:Nat→Value),ph = .head∧x=Sl.nil∧v = B r∧H' = ph.s::x.s::rdC r ph x (.slice none 0 0) g::H):=by
 refine rdnew_ok.flatR ?_
 rintro v H1 ⟨r,g,rfl,rfl⟩
 exact ⟨_,by show (rdC r .head Sl.nil (.slice none 0 0) g::H).flatten.Perm ([]::[]::rdC r .head Sl.nil (.slice none 0 0) g::H).flatten; simp,r,.head,Sl.nil,g,Z,Z,Z,Z⟩
structure RdOk (ph:Rph) (x:Sl tyB 5) (b:List UInt8) (o:Bool):Prop where
  ok:okPh ph x.l
  over:ph.isOver=o
  kept:o=false→x.l=b
theorem RdOk.new {ph:Rph}{x:Sl tyB 5}(h1:ph = .head) (h2:x=Sl.nil):RdOk ph x [] false:=by
 subst h1; subst h2
 exact ⟨by show zaP [] = .wait; rw [zaP]; rfl,rfl,fun _ => rfl⟩
theorem pushE {w0:World}{base:Nat}{H:List Seg}{r:Nat}{x:Sl tyB 5}{ph:Rph}{g:Nat→Value}{A:Option Addr}{C:Nat}{l b:List UInt8}(hr:RdOk ph x b true) :
  SCalls Tryz.prog 247 [B r,.slice A l.length C] w0 base (ph.s::x.s::rdC r ph x (.slice none 0 0) g::H) (fun v H' => v = .tuple #[.slice none 0 0,int 9]∧H' = ph.s::x.s::rdC r ph x (.slice none 0 0) g::H):=by
 have ho:=hr.over
 cases ph with
 | over =>
  refine SCalls.pick (H':=rdC r .over x (.slice none 0 0) g::[]::x.s::H) [2,0,1] 3 Z Z ((push_over (H:=[]::x.s::H)).permR ?_)
  rintro v H' ⟨rfl,rfl⟩
  exact ⟨_,(List.perm_append_comm (l₁:=[rdC r .over x (.slice none 0 0) g]) (l₂:=[[],x.s])).append_right H,Z,Z⟩
 | head => cases ho
 | rest m t minor f keep long body => cases ho
theorem over2 {w0:World}{base:Nat}{H:List Seg}{r:Nat}{ph:Rph}{x:Sl tyB 5}{g:Nat→Value}{b:List UInt8}{o:Bool}(hr:RdOk ph x b o):SCalls Tryz.prog 249 [B r] w0 base (ph.s::x.s::rdC r ph x (.slice none 0 0) g::H) (fun v H' => v = .bool o∧H' = ph.s::x.s::rdC r ph x (.slice none 0 0) g::H):=by
 refine SCalls.pick (H':=x.s::rdC r ph x (.slice none 0 0) g::ph.s::H) [1,2,0] 3 Z Z ((rdover_ok (H:=ph.s::H)).permR ?_)
 rintro v H' ⟨rfl,rfl⟩
 exact ⟨_,(List.perm_append_comm (l₁:=[x.s,rdC r ph x (.slice none 0 0) g]) (l₂:=[ph.s])).append_right H,by rw [hr.over],Z⟩
set_option maxRecDepth 100000
theorem cnew_ok {w0:World}{base:Nat}{H:List Seg}{most idle buffer:Int}(h1:1≤most∧most≤256) (h2:1≤idle∧idle≤1073741824) (h3:512≤buffer∧buffer≤1048576) :
  SCalls Tryz.prog 9 [V most,V idle,V buffer] w0 base (H) (fun v H' => ∃ c mb:Nat,v = .tuple #[B c,int 0]∧H' = (O0 c most idle buffer 0 mb)::[(mb,mapG kyI Lk.v [] 0)]::H):=by
 refine SCalls.of_walk (n:=36) Tryz.func9 Z Z Z fun cs => ?_
 refine zc<|za<|AtL.assign zg0 Z Z<|AtL.assign zg0 Z Z<|AtL.done<|zc ?_
 refine zc<|za<|zb zg0 Z Z<|zA zg0 Z Z Z<|zb zg0 Z Z<|zy 3 (E':=[(13,.bool (decide (((most:Int) < 1)∨(256 < (most:Int))))),(0,V most),(1,V idle),(2,V buffer)]) (fun J => ?_) ?_
 ·refine zD (t:=10) Z ?_ ?_
  ·intro hs10
   refine ze Z Z Z Z Z Z<|ze Z Z Z Z Z Z<|zn zg0 Z Z Z ?_
   exact J _ (by exact ⟨(zw (by clear J; first | (simp [hs10]; done) | (simp_all; done) | grind)),Z,Z,Z,trivial⟩)
  ·intro hs10
   refine zb (.inr ⟨_,_,_,Z,Z,Z,Z⟩) Z Z<|zai (.inr ⟨_,_,_,Z,Z,Z,Z⟩) Z Z Z<|zm zg0 Z Z Z ?_
   exact J _ (by exact ⟨(zw (by clear J; first | (simp [hs10]; done) | (simp_all; done) | grind)),Z,Z,Z,trivial⟩)
 ·refine zb zg0 Z Z<|zy 3 (E':=[(17,.bool (decide ((((most:Int) < 1)∨(256 < (most:Int)))∨((idle:Int) < 1)))),(0,V most),(1,V idle),(2,V buffer)]) (fun J => ?_) ?_
  ·refine zD (t:=14) Z ?_ ?_
   ·intro hs14
    refine ze Z Z Z Z Z Z<|ze Z Z Z Z Z Z<|zn zg0 Z Z Z ?_
    exact J _ (by exact ⟨(zw (by clear J; first | (simp [hs14]; done) | (simp_all; done) | grind)),Z,Z,Z,trivial⟩)
   ·intro hs14
    refine zb (.inr ⟨_,_,_,Z,Z,Z,Z⟩) Z Z<|zA (.inr ⟨_,_,_,Z,Z,Z,Z⟩) Z Z Z<|zm zg0 Z Z Z ?_
    exact J _ (by exact ⟨(zw (by clear J; first | (simp [hs14]; done) | (simp_all; done) | grind)),Z,Z,Z,trivial⟩)
  ·refine zb zg0 Z Z<|zy 3 (E':=[(21,.bool (decide (((((most:Int) < 1)∨(256 < (most:Int)))∨((idle:Int) < 1))∨(1073741824 < (idle:Int))))),(0,V most),(1,V idle),(2,V buffer)]) (fun J => ?_) ?_
   ·refine zD (t:=18) Z ?_ ?_
    ·intro hs18
     refine ze Z Z Z Z Z Z<|ze Z Z Z Z Z Z<|zn zg0 Z Z Z ?_
     exact J _ (by exact ⟨(zw (by clear J; first | (simp [hs18]; done) | (simp_all; done) | grind)),Z,Z,Z,trivial⟩)
    ·intro hs18
     refine zb (.inr ⟨_,_,_,Z,Z,Z,Z⟩) Z Z<|zai (.inr ⟨_,_,_,Z,Z,Z,Z⟩) Z Z Z<|zm zg0 Z Z Z ?_
     exact J _ (by exact ⟨(zw (by clear J; first | (simp [hs18]; done) | (simp_all; done) | grind)),Z,Z,Z,trivial⟩)
   ·refine zb zg0 Z Z<|zy 3 (E':=[(25,.bool (decide ((((((most:Int) < 1)∨(256 < (most:Int)))∨((idle:Int) < 1))∨(1073741824 < (idle:Int)))∨((buffer:Int) < 512)))),(0,V most),(1,V idle),(2,V buffer)]) (fun J => ?_) ?_
    ·refine zD (t:=22) Z ?_ ?_
     ·intro hs22
      refine ze Z Z Z Z Z Z<|ze Z Z Z Z Z Z<|zn zg0 Z Z Z ?_
      exact J _ (by exact ⟨(zw (by clear J; first | (simp [hs22]; done) | (simp_all; done) | grind)),Z,Z,Z,trivial⟩)
     ·intro hs22
      refine zb (.inr ⟨_,_,_,Z,Z,Z,Z⟩) Z Z<|zA (.inr ⟨_,_,_,Z,Z,Z,Z⟩) Z Z Z<|zm zg0 Z Z Z ?_
      exact J _ (by exact ⟨(zw (by clear J; first | (simp [hs22]; done) | (simp_all; done) | grind)),Z,Z,Z,trivial⟩)
    ·refine zb zg0 Z Z<|zy 3 (E':=[(29,.bool (decide (((((((most:Int) < 1)∨(256 < (most:Int)))∨((idle:Int) < 1))∨(1073741824 < (idle:Int)))∨((buffer:Int) < 512))∨(1048576 < (buffer:Int))))),(0,V most),(1,V idle),(2,V buffer)]) (fun J => ?_) ?_
     ·refine zD (t:=26) Z ?_ ?_
      ·intro hs26
       refine ze Z Z Z Z Z Z<|ze Z Z Z Z Z Z<|zn zg0 Z Z Z ?_
       exact J _ (by exact ⟨(zw (by clear J; first | (simp [hs26]; done) | (simp_all; done) | grind)),Z,Z,Z,trivial⟩)
      ·intro hs26
       refine zb (.inr ⟨_,_,_,Z,Z,Z,Z⟩) Z Z<|zai (.inr ⟨_,_,_,Z,Z,Z,Z⟩) Z Z Z<|zm zg0 Z Z Z ?_
       exact J _ (by exact ⟨(zw (by clear J; first | (simp [hs26]; done) | (simp_all; done) | grind)),Z,Z,Z,trivial⟩)
     ·refine AtL.done<|zq Z ?_ ?_
      ·intro hc1
       exfalso; omega
      ·intro hc1
       refine zj<|zc<|za<|zb zg0 Z Z<|zb zg0 Z Z<|zb zg0 Z Z ?_
       refine zgg kyI Lk.v zg0 Z ?_
       intro b1
       refine zaE (cs:=[V most,V idle,V buffer,V 0,.map (some b1)]) tf_lay64 zg0 Z Z Z<|zbe (cs:=#[V most,V idle,V buffer,V 0,.map (some b1)]) Z zg0 Z Z ?_
       intro b2
       refine AtL.assign zg0 Z Z<|AtL.assign zg0 Z Z<|AtL.done ?_
       exact zt Tryz.func9 Z Z (⟨_,_,Z,Z⟩)
theorem onew_ok {w0:World}{base:Nat}{H:List Seg}  :
  SCalls Tryz.prog 42 [V 16] w0 base (H) (fun v H' => ∃ wb mb:Nat,v = .tuple #[B wb,int 0]∧H' = [(wb,.cells #[int 16,int 1,int 1,.map (some mb)] 128 (0,0))]::[(mb,mapG kyI tvB ([]:List (Int×Sl tyB 5×Nat)) 0)]::H):=by
 refine SCalls.of_walk (n:=14) Tryz.func42 Z Z Z fun cs => ?_
 refine zc<|za<|AtL.assign zg0 Z Z<|AtL.assign zg0 Z Z<|AtL.done<|zc ?_
 refine zc<|za<|zb zg0 Z Z<|zA zg0 Z Z Z<|zb zg0 Z Z<|zb (.inr ⟨_,_,_,Z,Z,Z,Z⟩) Z Z ?_
 refine zai (.inr ⟨_,_,_,Z,Z,Z,Z⟩) Z Z Z<|zm zg0 Z Z Z<|AtL.done<|zB Z<|zj<|zc ?_
 refine za<|zb zg0 Z Z<|zgg kyI tvB zg0 Z ?_
 intro b1
 refine zaE (cs:=[V 16,V 1,V 1,.map (some b1)]) tf_lay128 zg0 Z Z Z<|zbe (cs:=#[V 16,V 1,V 1,.map (some b1)]) Z zg0 Z Z ?_
 intro b2
 refine AtL.assign zg0 Z Z<|AtL.assign zg0 Z Z<|AtL.done ?_
 exact zt Tryz.func42 Z Z (⟨_,_,Z,Z⟩)
theorem open_str {w0:World}{base:Nat}{H:List Seg}{client wh bf:Int}{sd:Bool} :
  SCalls Tryz.prog 33 [V 1,.agg #[.nilIface,.bool sd,V client,V wh,V bf,.slice none 0 0,.bool false,.bool false]] w0 base (H) (fun v H' => ∃ x:Str,x.p=⟨⟨sd,[],false,false,false,false,false⟩,sd,client,wh,bf,[],false,[],false⟩∧x.ok∧x.y.l=[]∧v = .iface 106 (B x.b)∧H' = (O4 x.b x.ch.v x.sd x.client x.wh x.buffer x.wait.A x.wait.l.length x.wait.C x.closing false x.r)::O1 x.r 65535 x.br x.y.A x.y.l.length x.y.C (x.off:Int) x.lr x.e::x.ch.s::x.wait.s::x.y.s::H):=by
 refine SCalls.of_walk (n:=36) Tryz.func33 Z Z Z fun cs => ?_
 refine zc<|za<|zbe (cs:=#[.nilIface,.bool sd,V client,V wh,V bf,.slice none 0 0,.bool false,.bool false]) Z zg0 Z Z ?_
 intro b1
 refine AtL.assign zg0 Z Z<|AtL.done<|zc<|za<|zk zjy zg0 Z Z zhX ?_
 rintro _ _ ⟨ch2,hch3,rfl,rfl⟩
 refine zd zbI zg0 Z Z Z<|zr (H':=ch2.s::[(b1,.cells #[ch2.v,.bool sd,V client,V wh,V bf,.slice none 0 0,.bool false,.bool false] 80 (0,0))]::H) 1 0 zik zg0 Z Z Z Z Z Z Z Z Z<|AtL.done<|zc<|zc<|za ?_
 refine zd zb1 zg0 Z Z Z<|zh zR zg0 Z Z (Cell.own 1 0 Z Z Z)<|AtL.done<|zae Z ?_ ?_
 ·intro hc1
  have hc1:sd=true:=hc1
  refine za<|zk zjx zg0 Z Z zgP ?_
  rintro _ _ ⟨ch4,hch5,rfl,rfl⟩
  refine zd zbI zg0 Z Z Z<|zr (H':=ch4.s::ch2.s::[(b1,.cells #[ch4.v,.bool sd,V client,V wh,V bf,.slice none 0 0,.bool false,.bool false] 80 (0,0))]::H) 2 0 zik zg0 Z Z Z Z Z Z Z Z Z<|AtL.done<|zc<|zc<|za ?_
  refine zb zg0 Z Z<|zW zg0 Z Z Z<|AtL.done<|zX Z<|zc<|za ?_
  refine zk zjr zg0 Z Z (new_ok 65535 (by omega)) ?_
  rintro _ _ ⟨b6,rfl,rfl⟩
  refine zb zg0 Z Z<|AtL.extract zg0 Z Z Z<|AtL.extract zg0 Z Z Z<|AtL.assign zg0 Z Z<|AtL.assign zg0 Z Z<|AtL.done ?_
  refine zc<|za<|zay (cs:=[ch4.v,.bool sd,V client,V wh,V bf,.slice none 0 0,.bool false,.bool false]) zeG zg0 Z Z Z (zad 3 0 0 Z Z Z)<|zb zg0 Z Z<|zaE (cs:=[ch4.v,.bool sd,V client,V wh,V bf,.slice none 0 0,.bool false,.bool false,B b6]) zi9 zg0 Z Z Z<|zbe (cs:=#[ch4.v,.bool sd,V client,V wh,V bf,.slice none 0 0,.bool false,.bool false,B b6]) Z zg0 Z Z ?_
  intro b7
  refine zc0 Tryz.underlying106 Z zg0 Z Z<|AtL.assign zg0 Z Z<|AtL.done<|At.nil<|At.nil<|At.pick [2,3,4,0,1] 7 Z Z ?_
  exact zt Tryz.func33 Z Z (⟨(⟨b7,ch4,sd,client,wh,bf,Sl.nil,false,b6,Sl.nil,0,0,0,false⟩:Str),by rw [(show sd=true from hc1)]; simp only [Str.p,hch5]; rfl,⟨Nat.le_refl _,fun _ => Z⟩,Z,Z,Z⟩)
 ·intro hc1
  have hc1:sd=false:=hc1
  refine zj<|zc<|zc<|za<|zb zg0 Z Z<|zW zg0 Z Z Z ?_
  refine AtL.done<|zX Z<|zc<|za ?_
  refine zk zjr zg0 Z Z (new_ok 65535 (by omega)) ?_
  rintro _ _ ⟨b8,rfl,rfl⟩
  refine zb zg0 Z Z<|AtL.extract zg0 Z Z Z<|AtL.extract zg0 Z Z Z<|AtL.assign zg0 Z Z<|AtL.assign zg0 Z Z<|AtL.done ?_
  refine zc<|za<|zay (cs:=[ch2.v,.bool sd,V client,V wh,V bf,.slice none 0 0,.bool false,.bool false]) zeG zg0 Z Z Z (zad 2 0 0 Z Z Z)<|zb zg0 Z Z<|zaE (cs:=[ch2.v,.bool sd,V client,V wh,V bf,.slice none 0 0,.bool false,.bool false,B b8]) zi9 zg0 Z Z Z<|zbe (cs:=#[ch2.v,.bool sd,V client,V wh,V bf,.slice none 0 0,.bool false,.bool false,B b8]) Z zg0 Z Z ?_
  intro b9
  refine zc0 Tryz.underlying106 Z zg0 Z Z<|AtL.assign zg0 Z Z<|AtL.done<|At.nil<|At.nil<|At.pick [2,3,4,0,1] 6 Z Z ?_
  exact zt Tryz.func33 Z Z (⟨(⟨b9,ch2,sd,client,wh,bf,Sl.nil,false,b8,Sl.nil,0,0,0,false⟩:Str),by rw [(show sd=false from (by simpa using hc1))]; simp only [Str.p,hch3]; rfl,⟨Nat.le_refl _,fun _ => Z⟩,Z,Z,Z⟩)
theorem open_req {w0:World}{base:Nat}{H:List Seg}{client wh bf:Int}{sd:Bool} :
  SCalls Tryz.prog 33 [V 2,.agg #[.nilIface,.bool sd,V client,V wh,V bf,.slice none 0 0,.bool false,.bool false]] w0 base (H) (fun v H' => ∃ (x:Req) (ph:Rph) (y:Sl tyB 5) (g:Nat→Value),x.hs=(ph.s++(y.s++rdC x.hr ph y (.slice none 0 0) g))∧RdOk ph y [] false∧x.ch.p=⟨sd,[],false,false,false,false,false⟩∧x.sd=sd∧x.client=client∧x.wh=wh∧x.buffer=bf∧(x.wait=Sl.nil∧x.closing=false∧x.first=1∧x.next=1∧x.dn=[]∧x.last=0∧x.behind=0)∧v = .iface 112 (B x.b)∧H' = (O2 x.b x.ch.v x.sd x.client x.wh x.buffer x.wait.A x.wait.l.length x.wait.C x.closing false x.hr x.wb x.last x.behind)::O3 x.wb 16 x.first x.next x.mb::[(x.mb,mapG kyI tvB x.dn x.n)]::x.ch.s::x.wait.s::x.hs::x.dn.flatMap (fun e => e.2.1.s)::H):=by
 refine SCalls.of_walk (n:=36) Tryz.func33 Z Z Z fun cs => ?_
 refine zc<|za<|zbe (cs:=#[.nilIface,.bool sd,V client,V wh,V bf,.slice none 0 0,.bool false,.bool false]) Z zg0 Z Z ?_
 intro b1
 refine AtL.assign zg0 Z Z<|AtL.done<|zc<|za<|zk zjy zg0 Z Z zhX ?_
 rintro _ _ ⟨ch2,hch3,rfl,rfl⟩
 refine zd zbI zg0 Z Z Z<|zr (H':=ch2.s::[(b1,.cells #[ch2.v,.bool sd,V client,V wh,V bf,.slice none 0 0,.bool false,.bool false] 80 (0,0))]::H) 1 0 zik zg0 Z Z Z Z Z Z Z Z Z<|AtL.done<|zc<|zc<|za ?_
 refine zd zb1 zg0 Z Z Z<|zh zR zg0 Z Z (Cell.own 1 0 Z Z Z)<|AtL.done<|zae Z ?_ ?_
 ·intro hc1
  have hc1:sd=true:=hc1
  refine za<|zk zjx zg0 Z Z zgP ?_
  rintro _ _ ⟨ch4,hch5,rfl,rfl⟩
  refine zd zbI zg0 Z Z Z<|zr (H':=ch4.s::ch2.s::[(b1,.cells #[ch4.v,.bool sd,V client,V wh,V bf,.slice none 0 0,.bool false,.bool false] 80 (0,0))]::H) 2 0 zik zg0 Z Z Z Z Z Z Z Z Z<|AtL.done<|zc<|zc<|za ?_
  refine zb zg0 Z Z<|zW zg0 Z Z Z<|AtL.done<|zB Z<|zj<|zc ?_
  refine za<|zk zjq zg0 Z Z onew_ok ?_
  rintro _ _ ⟨wb6,mb7,rfl,rfl⟩
  refine zb zg0 Z Z<|AtL.extract zg0 Z Z Z<|AtL.extract zg0 Z Z Z<|AtL.assign zg0 Z Z<|AtL.assign zg0 Z Z<|AtL.done ?_
  refine zc ?_
  refine zac (es:=[1,4]) (pv:=[(0,.agg #[ch4.v,.bool sd,V client,V wh,V bf,.slice none 0 0,.bool false,.bool false]),(2,B wb6)]) zV (by kernel_rfl) (by kernel_rfl) (by kernel_rfl) ?_
  refine ⟨⟨zpr Z Z Z (zcY (cs:=[ch4.v,.bool sd,V client,V wh,V bf,.slice none 0 0,.bool false,.bool false]) zeG Z Z (zad 4 0 0 Z Z Z)),zpr Z Z Z (zi Z),trivial⟩,Z,Z,by kernel_rfl,_,Z,Z,Z,_,zaz zjp Z rdnew2,?_⟩
  rintro _ _ ⟨r8,ph9,x10,g11,h12,h13,rfl,rfl⟩
  have hr14:=RdOk.new h12 h13
  refine ⟨[(3,.agg #[ch4.v,.bool sd,V client,V wh,V bf,.slice none 0 0,.bool false,.bool false,B r8,B wb6,V 0,V 0])],Z,?_⟩
  refine ⟨⟨zpr Z Z Z (zbx (cs:=[ch4.v,.bool sd,V client,V wh,V bf,.slice none 0 0,.bool false,.bool false,B r8,B wb6,V 0,V 0]) zi8 Z Z),zpr Z Z Z (zcY (cs:=[ch4.v,.bool sd,V client,V wh,V bf,.slice none 0 0,.bool false,.bool false]) zeG Z Z (zad 7 0 0 Z Z Z)),zpr Z Z Z (zi Z),trivial⟩,Z,Z,by kernel_rfl,_,Z,Z,Z,_,Do.box (cs:=#[ch4.v,.bool sd,V client,V wh,V bf,.slice none 0 0,.bool false,.bool false,B r8,B wb6,V 0,V 0]) Z Z,?_⟩
  rintro _ _ ⟨b15,rfl,rfl⟩
  refine ⟨[(5,.iface 112 (B b15)),(6,.iface 112 (B b15))],Z,?_⟩
  refine ⟨⟨zpr Z Z Z (zes Tryz.underlying112 Z Z),zpr Z Z Z (Do.assign Z),.inl (by kernel_rfl),.inl (by kernel_rfl),.inl (by kernel_rfl),trivial⟩,by kernel_rfl,?_⟩
  refine At.mono (E':=[(4,.iface 112 (B b15))]) ⟨Z,trivial⟩<|At.nil<|At.nil<|At.pick (H':=ph9.s::x10.s::rdC r8 ph9 x10 (.slice none 0 0) g11::O2 b15 ch4.v sd client wh bf none 0 0 false false r8 wb6 0 0::O3 wb6 16 1 1 mb7::[(mb7,mapG kyI tvB ([]:List (Int×Sl tyB 5×Nat)) 0)]::ch4.s::[]::[]::H) [3,4,5,2,6,7,8,0,1] 11 Z Z<|At.flat (zdT _ _ _ _)<|At.pick [1,2,3,4,5,0,6] 7 Z Z ?_
  exact zt Tryz.func33 Z Z (⟨(⟨b15,ch4,sd,client,wh,bf,Sl.nil,false,r8,(ph9.s++(x10.s++rdC r8 ph9 x10 (.slice none 0 0) g11)),wb6,mb7,1,1,[],0,0,0⟩:Req),ph9,x10,g11,Z,hr14,by rw [(show sd=true from hc1)]; exact hch5,Z,Z,Z,Z,⟨Z,Z,Z,Z,Z,Z,Z⟩,Z,Z⟩)
 ·intro hc1
  have hc1:sd=false:=hc1
  refine zj<|zc<|zc<|za<|zb zg0 Z Z<|zW zg0 Z Z Z ?_
  refine AtL.done<|zB Z<|zj<|zc<|za<|zk zjq zg0 Z Z onew_ok ?_
  rintro _ _ ⟨wb24,mb25,rfl,rfl⟩
  refine zb zg0 Z Z<|AtL.extract zg0 Z Z Z<|AtL.extract zg0 Z Z Z<|AtL.assign zg0 Z Z<|AtL.assign zg0 Z Z<|AtL.done ?_
  refine zc ?_
  refine zac (es:=[1,4]) (pv:=[(0,.agg #[ch2.v,.bool sd,V client,V wh,V bf,.slice none 0 0,.bool false,.bool false]),(2,B wb24)]) zV (by kernel_rfl) (by kernel_rfl) (by kernel_rfl) ?_
  refine ⟨⟨zpr Z Z Z (zcY (cs:=[ch2.v,.bool sd,V client,V wh,V bf,.slice none 0 0,.bool false,.bool false]) zeG Z Z (zad 3 0 0 Z Z Z)),zpr Z Z Z (zi Z),trivial⟩,Z,Z,by kernel_rfl,_,Z,Z,Z,_,zaz zjp Z rdnew2,?_⟩
  rintro _ _ ⟨r26,ph27,x28,g29,h30,h31,rfl,rfl⟩
  have hr32:=RdOk.new h30 h31
  refine ⟨[(3,.agg #[ch2.v,.bool sd,V client,V wh,V bf,.slice none 0 0,.bool false,.bool false,B r26,B wb24,V 0,V 0])],Z,?_⟩
  refine ⟨⟨zpr Z Z Z (zbx (cs:=[ch2.v,.bool sd,V client,V wh,V bf,.slice none 0 0,.bool false,.bool false,B r26,B wb24,V 0,V 0]) zi8 Z Z),zpr Z Z Z (zcY (cs:=[ch2.v,.bool sd,V client,V wh,V bf,.slice none 0 0,.bool false,.bool false]) zeG Z Z (zad 6 0 0 Z Z Z)),zpr Z Z Z (zi Z),trivial⟩,Z,Z,by kernel_rfl,_,Z,Z,Z,_,Do.box (cs:=#[ch2.v,.bool sd,V client,V wh,V bf,.slice none 0 0,.bool false,.bool false,B r26,B wb24,V 0,V 0]) Z Z,?_⟩
  rintro _ _ ⟨b33,rfl,rfl⟩
  refine ⟨[(5,.iface 112 (B b33)),(6,.iface 112 (B b33))],Z,?_⟩
  refine ⟨⟨zpr Z Z Z (zes Tryz.underlying112 Z Z),zpr Z Z Z (Do.assign Z),.inl (by kernel_rfl),.inl (by kernel_rfl),.inl (by kernel_rfl),trivial⟩,by kernel_rfl,?_⟩
  refine At.mono (E':=[(4,.iface 112 (B b33))]) ⟨Z,trivial⟩<|At.nil<|At.nil<|At.pick (H':=ph27.s::x28.s::rdC r26 ph27 x28 (.slice none 0 0) g29::O2 b33 ch2.v sd client wh bf none 0 0 false false r26 wb24 0 0::O3 wb24 16 1 1 mb25::[(mb25,mapG kyI tvB ([]:List (Int×Sl tyB 5×Nat)) 0)]::ch2.s::[]::[]::H) [3,4,5,2,6,7,8,0,1] 10 Z Z<|At.flat (zdT _ _ _ _)<|At.pick [1,2,3,4,5,0,6] 7 Z Z ?_
  exact zt Tryz.func33 Z Z (⟨(⟨b33,ch2,sd,client,wh,bf,Sl.nil,false,r26,(ph27.s++(x28.s++rdC r26 ph27 x28 (.slice none 0 0) g29)),wb24,mb25,1,1,[],0,0,0⟩:Req),ph27,x28,g29,Z,hr32,by rw [(show sd=false from (by simpa using hc1))]; exact hch3,Z,Z,Z,Z,⟨Z,Z,Z,Z,Z,Z,Z⟩,Z,Z⟩)
set_option maxRecDepth 100000
structure KvOk (kvs:List (Int×Lk×Nat)) (mn:Nat) (last:Int):Prop where
  lt:∀ e ∈ kvs,e.2.2 < mn
  nd:(kvs.map fun e => e.2.2).Nodup
  sorted:(kvs.map fun e => e.1).Pairwise (· < ·)
  le:∀ e ∈ kvs,1≤e.1∧e.1≤last
  wh:∀ e ∈ kvs,inT e.2.1.wh
  few:kvs.length≤256
  last:0≤last
theorem atG_none {l:List (Int×Lk×Nat)}{a:Int}(h:∀ e ∈ l,e.1≠a):atG a l=none:=by
 induction l with
 | nil => rfl
 | cons p r ih => rw [atG,if_neg (fun q => h p (List.mem_cons_self ..) q.symm)]; exact ih fun e he => h e (List.mem_cons_of_mem _ he)
theorem KvOk.next {kvs:List (Int×Lk×Nat)}{mn:Nat}{last:Int}(h:KvOk kvs mn last):atG (last + 1) kvs=none:=atG_none fun e he q => by have:=(h.le e he).2; omega
theorem KvOk.keys {kvs:List (Int×Lk×Nat)}{mn:Nat}{last:Int}(h:KvOk kvs mn last) {ks:List Int}(hp:ks.Perm (kvs.map fun e => e.1)):zec ks=kvs.map fun e => e.1:=sortI_eq hp (h.sorted.imp fun q => Int.le_of_lt q)
set_option maxHeartbeats 1000000 in
theorem zj2 {w0:World}{base:Nat}{H:List Seg}{c mb:Nat}{most idle buffer last:Int}{kvs:List (Int×Lk×Nat)}{mn:Nat}{client now:Int}{sd:Bool}(hm:¬ most=0) (hok:KvOk kvs mn last) (hf:(kvs.length:Int) < most) (hT:inT now) (hl:last≤1099511627776) :
  SCalls Tryz.prog 10 [B c,V 1,.bool sd,V client,V now] w0 base (O0 c most idle buffer last mb::[(mb,mapG kyI Lk.v kvs mn)]::H) (fun v H' => ∃ x:Str,x.p=⟨⟨sd,[],false,false,false,false,false⟩,sd,client,now,buffer,[],false,[],false⟩∧x.ok∧x.y.l=[]∧v = .tuple #[int (last + 1),int 0]∧H' = (O0 c most idle buffer (last + 1) mb)::[(mb,mapG kyI Lk.v (kvs++[(last + 1,(Lk.str x),mn)]) (mn + 1))]::O4 x.b x.ch.v x.sd x.client x.wh x.buffer x.wait.A x.wait.l.length x.wait.C x.closing false x.r::O1 x.r 65535 x.br x.y.A x.y.l.length x.y.C (x.off:Int) x.lr x.e::x.ch.s::x.wait.s::x.y.s::H):=by
 have hl0:=hok.last
 refine SCalls.of_walk (n:=67) Tryz.func10 Z Z Z fun cs => ?_
 refine zc<|za<|AtL.assign zg0 Z Z<|AtL.assign zg0 Z Z<|AtL.done<|zc ?_
 refine At.block<|zc<|za<|zb zg0 Z Z<|zk zb2 zg0 Z Z (zcH hm) ?_
 rintro _ _ ⟨rfl,rfl⟩
 refine AtL.assign zg0 Z Z<|AtL.done<|zB Z<|zc<|za<|zb zg0 Z Z ?_
 refine zT zg0 Z Z Z<|zb zg0 Z Z<|ze Z Z Z Z Z Z<|ze Z Z Z Z Z Z<|zm zg0 Z Z Z<|zb zg0 Z Z ?_
 refine zb (.inr ⟨_,_,_,Z,Z,Z,Z⟩) Z Z<|zk za7 (.inr ⟨_,_,_,Z,Z,Z,Z⟩) Z Z (zbL hT) ?_
 rintro _ _ ⟨rfl,rfl⟩
 refine zag (.inr ⟨_,_,_,Z,Z,Z,Z⟩) Z Z<|zm zg0 Z Z Z<|AtL.assign zg0 Z Z<|AtL.done<|zB Z<|zc ?_
 refine zac (es:=[]) (pv:=[(0,B c),(1,B c),(2,.pointer (some ⟨c,4,none⟩)),(3,.map (some mb)),(4,V (kvs.length:Int)),(5,B c),(6,B c),(7,B c),(8,V most),(9,.bool (decide (most≤(kvs.length:Int)))),(10,.bool (decide (most≤(kvs.length:Int))))]) zV (by kernel_rfl) (by kernel_rfl) (by kernel_rfl) ?_
 refine ⟨⟨zpr Z Z Z (zi Z),zpr Z Z Z (zl Z),zpr Z Z Z (zg zaO Z Z),zpr Z Z Z (zu zaL Z (Cell.own 0 0 Z Z Z)),zpr Z Z Z (zlc (Q:=kyI) (tv:=Lk.v) (l:=kvs) 1 0 Tryz.underlying62 Z Z Z),zpr Z Z Z (zi Z),zpr Z Z Z (zl Z),zpr Z Z Z (zg zfa Z Z),zpr Z Z Z (zu zo Z (Cell.own 0 0 Z Z Z)),zpr Z Z Z (zgd Z Z),zpr Z Z Z (Do.assign Z),trivial⟩,by kernel_rfl,?_⟩
 refine At.mono (E':=[(0,B c),(1,V 1),(2,.bool sd),(3,V client),(4,V now),(27,.bool (decide (most≤(kvs.length:Int))))]) ⟨Z,Z,Z,Z,Z,Z,trivial⟩ ?_
 refine zU false Z (decide_eq_false (by omega))<|zj<|zp<|zc<|za<|zb zg0 Z Z ?_
 refine zf zg0 Z Z<|zd zbT zg0 Z Z Z<|zh zo zg0 Z Z (Cell.own 0 0 Z Z Z) ?_
 refine AtL.add (z:=last + 1) zg0 Z Z Z (w64 (by omega) (by omega))<|zf zg0 Z Z<|zd zbT zg0 Z Z Z<|zr (H':=O0 c most idle buffer (last + 1) mb::[(mb,mapG kyI Lk.v kvs mn)]::H) 0 0 zaB zg0 Z Z Z Z Z Z Z Z Z<|AtL.done<|zc ?_
 refine zac (es:=[17,18]) (pv:=[(0,B c),(1,B c),(2,.pointer (some ⟨c,4,none⟩)),(3,.map (some mb)),(4,B c),(5,B c),(6,.pointer (some ⟨c,3,none⟩)),(7,V (last + 1)),(8,V 1),(9,.bool sd),(10,V client),(11,V now),(12,B c),(13,B c),(14,.pointer (some ⟨c,2,none⟩)),(15,V buffer),(16,.agg #[.nilIface,.bool sd,V client,V now,V buffer,.slice none 0 0,.bool false,.bool false])]) zV (by kernel_rfl) (by kernel_rfl) (by kernel_rfl) ?_
 refine ⟨⟨zpr Z Z Z (zi Z),zpr Z Z Z (zl Z),zpr Z Z Z (zg zaO Z Z),zpr Z Z Z (zu zaL Z (Cell.own 0 0 Z Z Z)),zpr Z Z Z (zi Z),zpr Z Z Z (zl Z),zpr Z Z Z (zg zbT Z Z),zpr Z Z Z (zu zo Z (Cell.own 0 0 Z Z Z)),zpr Z Z Z (zi Z),zpr Z Z Z (zi Z),zpr Z Z Z (zi Z),zpr Z Z Z (zi Z),zpr Z Z Z (zi Z),zpr Z Z Z (zl Z),zpr Z Z Z (zg zjd Z Z),zpr Z Z Z (zu zo Z (Cell.own 0 0 Z Z Z)),zpr Z Z Z (zbx (cs:=[.nilIface,.bool sd,V client,V now,V buffer,.slice none 0 0,.bool false,.bool false]) tf_lay80 Z Z),trivial⟩,Z,Z,by kernel_rfl,_,Z,Z,Z,_,zaz zjs Z open_str,?_⟩
 rintro _ _ ⟨x1,hp2,hk3,hy4,rfl,rfl⟩
 refine ⟨[],Z,?_⟩
 refine ⟨⟨zpr Z Z Z (zi Z),zpr Z Z Z (zl Z),zpr Z Z Z (zg zaO Z Z),zpr Z Z Z (zu zaL Z (Cell.own 5 0 Z Z Z)),zpr Z Z Z (zi Z),zpr Z Z Z (zl Z),zpr Z Z Z (zg zbT Z Z),zpr Z Z Z (zu zo Z (Cell.own 5 0 Z Z Z)),.inl (by kernel_rfl),.inl (by kernel_rfl),.inl (by kernel_rfl),.inl (by kernel_rfl),.inl (by kernel_rfl),.inl (by kernel_rfl),.inl (by kernel_rfl),.inl (by kernel_rfl),.inl (by kernel_rfl),trivial⟩,Z,Z,by kernel_rfl,_,Z,Z,Z,_,zi0 (Q:=kyI) (tv:=Lk.v) (a:=last + 1) (v:=(Lk.str x1)) (H':=O4 x1.b x1.ch.v x1.sd x1.client x1.wh x1.buffer x1.wait.A x1.wait.l.length x1.wait.C x1.closing false x1.r::O1 x1.r 65535 x1.br x1.y.A x1.y.l.length x1.y.C (x1.off:Int) x1.lr x1.e::x1.ch.s::x1.wait.s::x1.y.s::O0 c most idle buffer (last + 1) mb::[(mb,mapG kyI Lk.v (kvs++[(last + 1,(Lk.str x1),mn)]) (mn + 1))]::H) 6 0 Tryz.underlying62 Tryz.underlying3 Z bitsI Z Z Z Z Z (by rw [zix hok.next,ziw hok.next]; rfl),?_⟩
 rintro _ _ ⟨rfl,rfl⟩
 refine ⟨[],Z,?_⟩
 refine ⟨⟨.inl (by kernel_rfl),.inl (by kernel_rfl),.inl (by kernel_rfl),.inl (by kernel_rfl),.inl (by kernel_rfl),.inl (by kernel_rfl),.inl (by kernel_rfl),.inl (by kernel_rfl),.inl (by kernel_rfl),.inl (by kernel_rfl),.inl (by kernel_rfl),.inl (by kernel_rfl),.inl (by kernel_rfl),.inl (by kernel_rfl),.inl (by kernel_rfl),.inl (by kernel_rfl),.inl (by kernel_rfl),trivial⟩,by kernel_rfl,?_⟩
 refine At.mono (E':=[(0,B c)]) ⟨Z,trivial⟩<|zc<|za<|zb zg0 Z Z<|zf zg0 Z Z<|zd zbT zg0 Z Z Z ?_
 refine zh zo zg0 Z Z (Cell.own 5 0 Z Z Z)<|AtL.assign zg0 Z Z<|AtL.assign zg0 Z Z<|AtL.done<|At.pick [5,6,0,1,2,3,4] 7 Z Z ?_
 exact zt Tryz.func10 Z Z (⟨x1,hp2,hk3,hy4,Z,Z⟩)
set_option maxHeartbeats 1000000 in
theorem zj3 {w0:World}{base:Nat}{H:List Seg}{c mb:Nat}{most idle buffer last:Int}{kvs:List (Int×Lk×Nat)}{mn:Nat}{client now:Int}{sd:Bool}(hm:¬ most=0) (hok:KvOk kvs mn last) (hf:(kvs.length:Int) < most) (hT:inT now) (hl:last≤1099511627776) :
  SCalls Tryz.prog 10 [B c,V 2,.bool sd,V client,V now] w0 base (O0 c most idle buffer last mb::[(mb,mapG kyI Lk.v kvs mn)]::H) (fun v H' => ∃ (x:Req) (ph:Rph) (y:Sl tyB 5) (g:Nat→Value),x.hs=(ph.s++(y.s++rdC x.hr ph y (.slice none 0 0) g))∧RdOk ph y [] false∧x.ch.p=⟨sd,[],false,false,false,false,false⟩∧x.sd=sd∧x.client=client∧x.wh=now∧x.buffer=buffer∧(x.wait=Sl.nil∧x.closing=false∧x.first=1∧x.next=1∧x.dn=[]∧x.last=0∧x.behind=0)∧v = .tuple #[int (last + 1),int 0]∧H' = (O0 c most idle buffer (last + 1) mb)::[(mb,mapG kyI Lk.v (kvs++[(last + 1,(Lk.req x),mn)]) (mn + 1))]::O2 x.b x.ch.v x.sd x.client x.wh x.buffer x.wait.A x.wait.l.length x.wait.C x.closing false x.hr x.wb x.last x.behind::O3 x.wb 16 x.first x.next x.mb::[(x.mb,mapG kyI tvB x.dn x.n)]::x.ch.s::x.wait.s::x.hs::x.dn.flatMap (fun e => e.2.1.s)::H):=by
 have hl0:=hok.last
 refine SCalls.of_walk (n:=67) Tryz.func10 Z Z Z fun cs => ?_
 refine zc<|za<|AtL.assign zg0 Z Z<|AtL.assign zg0 Z Z<|AtL.done<|zc ?_
 refine At.block<|zc<|za<|zb zg0 Z Z<|zk zb2 zg0 Z Z (zcH hm) ?_
 rintro _ _ ⟨rfl,rfl⟩
 refine AtL.assign zg0 Z Z<|AtL.done<|zB Z<|zc<|za<|zb zg0 Z Z ?_
 refine zT zg0 Z Z Z<|zb zg0 Z Z<|zb (.inr ⟨_,_,_,Z,Z,Z,Z⟩) Z Z<|zT (.inr ⟨_,_,_,Z,Z,Z,Z⟩) Z Z Z<|zn zg0 Z Z Z<|zb zg0 Z Z ?_
 refine zb (.inr ⟨_,_,_,Z,Z,Z,Z⟩) Z Z<|zk za7 (.inr ⟨_,_,_,Z,Z,Z,Z⟩) Z Z (zbL hT) ?_
 rintro _ _ ⟨rfl,rfl⟩
 refine zag (.inr ⟨_,_,_,Z,Z,Z,Z⟩) Z Z<|zm zg0 Z Z Z<|AtL.assign zg0 Z Z<|AtL.done<|zB Z<|zc ?_
 refine zac (es:=[]) (pv:=[(0,B c),(1,B c),(2,.pointer (some ⟨c,4,none⟩)),(3,.map (some mb)),(4,V (kvs.length:Int)),(5,B c),(6,B c),(7,B c),(8,V most),(9,.bool (decide (most≤(kvs.length:Int)))),(10,.bool (decide (most≤(kvs.length:Int))))]) zV (by kernel_rfl) (by kernel_rfl) (by kernel_rfl) ?_
 refine ⟨⟨zpr Z Z Z (zi Z),zpr Z Z Z (zl Z),zpr Z Z Z (zg zaO Z Z),zpr Z Z Z (zu zaL Z (Cell.own 0 0 Z Z Z)),zpr Z Z Z (zlc (Q:=kyI) (tv:=Lk.v) (l:=kvs) 1 0 Tryz.underlying62 Z Z Z),zpr Z Z Z (zi Z),zpr Z Z Z (zl Z),zpr Z Z Z (zg zfa Z Z),zpr Z Z Z (zu zo Z (Cell.own 0 0 Z Z Z)),zpr Z Z Z (zgd Z Z),zpr Z Z Z (Do.assign Z),trivial⟩,by kernel_rfl,?_⟩
 refine At.mono (E':=[(0,B c),(1,V 2),(2,.bool sd),(3,V client),(4,V now),(27,.bool (decide (most≤(kvs.length:Int))))]) ⟨Z,Z,Z,Z,Z,Z,trivial⟩ ?_
 refine zU false Z (decide_eq_false (by omega))<|zj<|zp<|zc<|za<|zb zg0 Z Z ?_
 refine zf zg0 Z Z<|zd zbT zg0 Z Z Z<|zh zo zg0 Z Z (Cell.own 0 0 Z Z Z) ?_
 refine AtL.add (z:=last + 1) zg0 Z Z Z (w64 (by omega) (by omega))<|zf zg0 Z Z<|zd zbT zg0 Z Z Z<|zr (H':=O0 c most idle buffer (last + 1) mb::[(mb,mapG kyI Lk.v kvs mn)]::H) 0 0 zaB zg0 Z Z Z Z Z Z Z Z Z<|AtL.done<|zc ?_
 refine zac (es:=[17,18]) (pv:=[(0,B c),(1,B c),(2,.pointer (some ⟨c,4,none⟩)),(3,.map (some mb)),(4,B c),(5,B c),(6,.pointer (some ⟨c,3,none⟩)),(7,V (last + 1)),(8,V 2),(9,.bool sd),(10,V client),(11,V now),(12,B c),(13,B c),(14,.pointer (some ⟨c,2,none⟩)),(15,V buffer),(16,.agg #[.nilIface,.bool sd,V client,V now,V buffer,.slice none 0 0,.bool false,.bool false])]) zV (by kernel_rfl) (by kernel_rfl) (by kernel_rfl) ?_
 refine ⟨⟨zpr Z Z Z (zi Z),zpr Z Z Z (zl Z),zpr Z Z Z (zg zaO Z Z),zpr Z Z Z (zu zaL Z (Cell.own 0 0 Z Z Z)),zpr Z Z Z (zi Z),zpr Z Z Z (zl Z),zpr Z Z Z (zg zbT Z Z),zpr Z Z Z (zu zo Z (Cell.own 0 0 Z Z Z)),zpr Z Z Z (zi Z),zpr Z Z Z (zi Z),zpr Z Z Z (zi Z),zpr Z Z Z (zi Z),zpr Z Z Z (zi Z),zpr Z Z Z (zl Z),zpr Z Z Z (zg zjd Z Z),zpr Z Z Z (zu zo Z (Cell.own 0 0 Z Z Z)),zpr Z Z Z (zbx (cs:=[.nilIface,.bool sd,V client,V now,V buffer,.slice none 0 0,.bool false,.bool false]) tf_lay80 Z Z),trivial⟩,Z,Z,by kernel_rfl,_,Z,Z,Z,_,zaz zjs Z open_req,?_⟩
 rintro _ _ ⟨x1,ph2,y3,g4,h5,h6,h7,h8,h9,h10,h11,h12,rfl,rfl⟩
 refine ⟨[],Z,?_⟩
 refine ⟨⟨zpr Z Z Z (zi Z),zpr Z Z Z (zl Z),zpr Z Z Z (zg zaO Z Z),zpr Z Z Z (zu zaL Z (Cell.own 7 0 Z Z Z)),zpr Z Z Z (zi Z),zpr Z Z Z (zl Z),zpr Z Z Z (zg zbT Z Z),zpr Z Z Z (zu zo Z (Cell.own 7 0 Z Z Z)),.inl (by kernel_rfl),.inl (by kernel_rfl),.inl (by kernel_rfl),.inl (by kernel_rfl),.inl (by kernel_rfl),.inl (by kernel_rfl),.inl (by kernel_rfl),.inl (by kernel_rfl),.inl (by kernel_rfl),trivial⟩,Z,Z,by kernel_rfl,_,Z,Z,Z,_,zi0 (Q:=kyI) (tv:=Lk.v) (a:=last + 1) (v:=(Lk.req x1)) (H':=O2 x1.b x1.ch.v x1.sd x1.client x1.wh x1.buffer x1.wait.A x1.wait.l.length x1.wait.C x1.closing false x1.hr x1.wb x1.last x1.behind::O3 x1.wb 16 x1.first x1.next x1.mb::[(x1.mb,mapG kyI tvB x1.dn x1.n)]::x1.ch.s::x1.wait.s::x1.hs::(x1.dn.flatMap fun e => e.2.1.s)::O0 c most idle buffer (last + 1) mb::[(mb,mapG kyI Lk.v (kvs++[(last + 1,(Lk.req x1),mn)]) (mn + 1))]::H) 8 0 Tryz.underlying62 Tryz.underlying3 Z bitsI Z Z Z Z Z (by rw [zix hok.next,ziw hok.next]; rfl),?_⟩
 rintro _ _ ⟨rfl,rfl⟩
 refine ⟨[],Z,?_⟩
 refine ⟨⟨.inl (by kernel_rfl),.inl (by kernel_rfl),.inl (by kernel_rfl),.inl (by kernel_rfl),.inl (by kernel_rfl),.inl (by kernel_rfl),.inl (by kernel_rfl),.inl (by kernel_rfl),.inl (by kernel_rfl),.inl (by kernel_rfl),.inl (by kernel_rfl),.inl (by kernel_rfl),.inl (by kernel_rfl),.inl (by kernel_rfl),.inl (by kernel_rfl),.inl (by kernel_rfl),.inl (by kernel_rfl),trivial⟩,by kernel_rfl,?_⟩
 refine At.mono (E':=[(0,B c)]) ⟨Z,trivial⟩<|zc<|za<|zb zg0 Z Z<|zf zg0 Z Z<|zd zbT zg0 Z Z Z ?_
 refine zh zo zg0 Z Z (Cell.own 7 0 Z Z Z)<|AtL.assign zg0 Z Z<|AtL.assign zg0 Z Z<|AtL.done<|At.pick [7,8,0,1,2,3,4,5,6] 9 Z Z ?_
 exact zt Tryz.func10 Z Z (⟨x1,ph2,y3,g4,h5,h6,h7,h8,h9,h10,h11,h12,Z,Z⟩)
theorem zh4 {w0:World}{base:Nat}{H:List Seg}{c mb:Nat}{most idle buffer last:Int}{kvs:List (Int×Lk×Nat)}{mn:Nat}{client now k:Int}{sd:Bool}(hk:k=1∨k=2) (hm:¬ most=0) (hf:most≤(kvs.length:Int)) (hT:inT now) :
  SCalls Tryz.prog 10 [B c,V k,.bool sd,V client,V now] w0 base (O0 c most idle buffer last mb::[(mb,mapG kyI Lk.v kvs mn)]::H) (fun v H' => v = .tuple #[int 0,int 8]∧H' = (O0 c most idle buffer last mb)::[(mb,mapG kyI Lk.v kvs mn)]::H):=by
 refine SCalls.of_walk (n:=67) Tryz.func10 Z Z Z fun cs => ?_
 refine zc<|za<|AtL.assign zg0 Z Z<|AtL.assign zg0 Z Z<|AtL.done<|zc ?_
 refine At.block<|zc<|za<|zb zg0 Z Z<|zk zb2 zg0 Z Z (zcH hm) ?_
 rintro _ _ ⟨rfl,rfl⟩
 refine AtL.assign zg0 Z Z<|AtL.done<|zB Z<|zc<|za<|zb zg0 Z Z ?_
 refine zT zg0 Z Z Z<|zb zg0 Z Z<|zy 3 (E':=[(21,.bool (decide ((¬ ((k:Int)=1))∧(¬ ((k:Int)=2))))),(0,B c),(1,V k),(2,.bool sd),(3,V client),(4,V now)]) (fun J => ?_) ?_
 ·refine zY (t:=18) Z ?_ ?_
  ·intro hs18
   have hs18:¬ ((k:Int)=1):=of_decide_eq_false (zO hs18)
   refine zb (.inr ⟨_,_,_,Z,Z,Z,Z⟩) Z Z<|zT (.inr ⟨_,_,_,Z,Z,Z,Z⟩) Z Z Z<|zn zg0 Z Z Z ?_
   exact J _ (by exact ⟨(zw (by clear J; first | (simp [hs18]; done) | (simp_all; done) | grind)),Z,Z,Z,Z,Z,trivial⟩)
  ·intro hs18
   have hs18:(k:Int)=1:=of_decide_eq_true (zJ hs18)
   refine ze Z Z Z Z Z Z<|ze Z Z Z Z Z Z<|zm zg0 Z Z Z ?_
   exact J _ (by exact ⟨(zw (by clear J; first | (simp [hs18]; done) | (simp_all; done) | grind)),Z,Z,Z,Z,Z,trivial⟩)
 ·refine zb zg0 Z Z<|zy 4 (E':=[(26,.bool (decide ((¬ ((k:Int)=1))∧(¬ ((k:Int)=2))))),(0,B c),(1,V k),(2,.bool sd),(3,V client),(4,V now)]) (fun J => ?_) ?_
  ·refine zD (t:=22) Z ?_ ?_
   ·intro hs22
    refine ze Z Z Z Z Z Z<|ze Z Z Z Z Z Z<|ze Z Z Z Z Z Z<|zn zg0 Z Z Z ?_
    exact J _ (by exact ⟨(zw (by clear J; first | (simp [hs22]; done) | (simp_all; done) | grind)),Z,Z,Z,Z,Z,trivial⟩)
   ·intro hs22
    refine zb (.inr ⟨_,_,_,Z,Z,Z,Z⟩) Z Z<|zk za7 (.inr ⟨_,_,_,Z,Z,Z,Z⟩) Z Z (zbL hT) ?_
    rintro _ _ ⟨rfl,rfl⟩
    refine zag (.inr ⟨_,_,_,Z,Z,Z,Z⟩) Z Z<|zm zg0 Z Z Z ?_
    exact J _ (by exact ⟨(zw (by clear J; first | (simp [hs22]; done) | (simp_all; done) | grind)),Z,Z,Z,Z,Z,trivial⟩)
  ·refine AtL.assign zg0 Z Z<|AtL.done ?_
   refine zU false Z (decide_eq_false (by omega))<|zc ?_
   refine zac (es:=[]) (pv:=[(0,B c),(1,B c),(2,.pointer (some ⟨c,4,none⟩)),(3,.map (some mb)),(4,V (kvs.length:Int)),(5,B c),(6,B c),(7,B c),(8,V most),(9,.bool (decide (most≤(kvs.length:Int)))),(10,.bool (decide (most≤(kvs.length:Int))))]) zV (by kernel_rfl) (by kernel_rfl) (by kernel_rfl) ?_
   refine ⟨⟨zpr Z Z Z (zi Z),zpr Z Z Z (zl Z),zpr Z Z Z (zg zaO Z Z),zpr Z Z Z (zu zaL Z (Cell.own 0 0 Z Z Z)),zpr Z Z Z (zlc (Q:=kyI) (tv:=Lk.v) (l:=kvs) 1 0 Tryz.underlying62 Z Z Z),zpr Z Z Z (zi Z),zpr Z Z Z (zl Z),zpr Z Z Z (zg zfa Z Z),zpr Z Z Z (zu zo Z (Cell.own 0 0 Z Z Z)),zpr Z Z Z (zgd Z Z),zpr Z Z Z (Do.assign Z),trivial⟩,by kernel_rfl,?_⟩
   refine At.mono (E':=[(0,B c),(1,V k),(2,.bool sd),(3,V client),(4,V now),(27,.bool (decide (most≤(kvs.length:Int))))]) ⟨Z,Z,Z,Z,Z,Z,trivial⟩ ?_
   refine zU true Z (decide_eq_true (by omega))<|zc<|za<|AtL.assign zg0 Z Z<|AtL.assign zg0 Z Z<|AtL.done ?_
   exact zt Tryz.func10 Z Z (⟨Z,Z⟩)
theorem zen {w0:World}{base:Nat}{H:List Seg}{c mb:Nat}{most idle buffer last:Int}{kvs:List (Int×Lk×Nat)}{mn:Nat}(hm:¬ most=0) (hok:KvOk kvs mn last) :
  SCalls Tryz.prog 20 [B c] w0 base (O0 c most idle buffer last mb::[(mb,mapG kyI Lk.v kvs mn)]::H) (fun v H' => ∃ o:Sl tyI 3,o.l=(kvs.map fun e => e.1)∧v = .slice o.A o.l.length o.C∧H' = o.s::O0 c most idle buffer last mb::[(mb,mapG kyI Lk.v kvs mn)]::H):=by
 refine SCalls.of_walk (n:=11) Tryz.func20 Z Z Z fun cs => ?_
 refine zc<|za<|AtL.assign zg0 Z Z<|AtL.done<|zc<|zc ?_
 refine za<|zb zg0 Z Z<|zk zb2 zg0 Z Z (zcH hm) ?_
 rintro _ _ ⟨rfl,rfl⟩
 refine AtL.done<|zB Z<|zj<|zc<|za<|zb zg0 Z Z ?_
 refine zf zg0 Z Z<|zd zaO zg0 Z Z Z<|zh zaL zg0 Z Z (Cell.own 0 0 Z Z Z)<|zk tf_body40 zg0 Z Z (keys_ok (mb:=mb)) ?_
 rintro _ _ ⟨bs1,rfl,rfl⟩
 refine AtL.pick (H':=O13 bs1 mb::[(mb,mapG kyI Lk.v kvs mn)]::O0 c most idle buffer last mb::H) [0,2,1] 3 Z Z ?_
 refine zk tf_body39 zg0 Z Z (sorted_ok hok.lt hok.nd (by have:=hok.few; omega)) ?_
 rintro _ _ ⟨⟨A2,C3,l4,s5,o6⟩,ks7,hp8,hx9,rfl,rfl⟩
 dsimp only at hx9
 refine AtL.assign zg0 Z Z<|AtL.done<|At.pick [0,3,2] 4 Z Z ?_
 exact zt Tryz.func20 Z Z (⟨⟨A2,C3,l4,s5,o6⟩,by dsimp only; rw [hx9]; exact hok.keys hp8,Z,Z⟩)
set_option maxRecDepth 100000
def zv (kvs:List (Int×Lk×Nat)):Seg:=kvs.flatMap fun e => e.2.1.s
def zcO (now idle:Int) (e:Int×Lk×Nat):Bool:=decide (now - e.2.1.wh < idle)
def curT (now idle:Int) (kvs:List (Int×Lk×Nat)) (j:Nat):List (Int×Lk×Nat):=(kvs.take j).filter (zcO now idle)++kvs.drop j
def outT (now idle:Int) (kvs:List (Int×Lk×Nat)) (j:Nat):List Int:=((kvs.take j).filter fun e => !zcO now idle e).map fun e => e.1
theorem curT_end {now idle:Int}{kvs:List (Int×Lk×Nat)}{j:Nat}(h:kvs.length≤j):curT now idle kvs j=kvs.filter (zcO now idle):=by
 rw [curT,List.take_of_length_le h,List.drop_eq_nil_of_le h,List.append_nil]
theorem outT_end {now idle:Int}{kvs:List (Int×Lk×Nat)}{j:Nat}(h:kvs.length≤j):outT now idle kvs j=(kvs.filter fun e => !zcO now idle e).map fun e => e.1:=by
 rw [outT,List.take_of_length_le h]
theorem take_at {α:Type}{l:List α}{j:Nat}{e:α}(h:l[j]? = some e):l.take (j + 1)=l.take j++[e]∧l.drop j=e::l.drop (j + 1):=by
 obtain ⟨hj,rfl⟩:=List.getElem?_eq_some_iff.1 h
 exact ⟨List.take_succ_eq_append_getElem hj,List.drop_eq_getElem_cons hj⟩
theorem zfs {now idle:Int}{kvs:List (Int×Lk×Nat)}{j:Nat}{e:Int×Lk×Nat}(h:kvs[j]? = some e) (hl:now - e.2.1.wh < idle):curT now idle kvs (j + 1)=curT now idle kvs j∧outT now idle kvs (j + 1)=outT now idle kvs j:=by
 obtain ⟨h1,h2⟩:=take_at h
 have h3:zcO now idle e=true:=decide_eq_true hl
 constructor
 ·rw [curT,curT,h1,h2,List.filter_append,List.filter_cons_of_pos h3,List.filter_nil,List.append_assoc]; rfl
 ·rw [outT,outT,h1,List.filter_append,List.filter_cons_of_neg (by simp [h3]),List.filter_nil,List.append_nil]
theorem delG_skip {a:Int}{l m:List (Int×Lk×Nat)}(h:∀ e ∈ l,e.1≠a):delG a (l++m)=l++delG a m:=by
 induction l with
 | nil => rfl
 | cons p r ih => rw [List.cons_append,delG,if_neg (fun q => h p (List.mem_cons_self ..) q.symm),ih fun e he => h e (List.mem_cons_of_mem _ he)]; rfl
theorem atG_skip {a:Int}{l m:List (Int×Lk×Nat)}(h:∀ e ∈ l,e.1≠a):atG a (l++m)=atG a m:=by
 induction l with
 | nil => rfl
 | cons p r ih => rw [List.cons_append,atG,if_neg (fun q => h p (List.mem_cons_self ..) q.symm),ih fun e he => h e (List.mem_cons_of_mem _ he)]
theorem KvOk.before {kvs:List (Int×Lk×Nat)}{mn:Nat}{last:Int}(hok:KvOk kvs mn last) {j:Nat}{e:Int×Lk×Nat}(h:kvs[j]? = some e):∀ x ∈ kvs.take j,x.1≠e.1:=by
 intro x hx
 obtain ⟨hj,rfl⟩:=List.getElem?_eq_some_iff.1 h
 have hs:=hok.sorted
 rw [← List.take_append_drop j kvs,List.map_append,List.pairwise_append] at hs
 have:=hs.2.2 x.1 (List.mem_map.2 ⟨x,hx,rfl⟩) kvs[j].1 (List.mem_map.2 ⟨kvs[j],by rw [List.drop_eq_getElem_cons hj]; exact List.mem_cons_self ..,rfl⟩)
 omega
theorem tick_at {kvs:List (Int×Lk×Nat)}{mn:Nat}{last:Int}(hok:KvOk kvs mn last) (now idle:Int) {ks:List Int}(hks:ks=kvs.map fun e => e.1) {j:Nat}(hj:j < ks.length) :
  ∃ lk st,kvs[j]? = some (ks.getD j 0,lk,st)∧(ks.getD j 0,lk,st) ∈ kvs∧atG (ks.getD j 0) (curT now idle kvs j)=some lk:=by
 subst hks
 have hj:j < kvs.length:=by simpa using hj
 have e:(kvs.map fun e => e.1).getD j 0=kvs[j].1:=by simp [List.getD,hj]
 rw [e]
 refine ⟨kvs[j].2.1,kvs[j].2.2,List.getElem?_eq_getElem hj,List.getElem_mem hj,?_⟩
 have hb:=hok.before (List.getElem?_eq_getElem hj)
 rw [curT,atG_skip fun x hx => hb x (List.mem_filter.1 hx).1,List.drop_eq_getElem_cons hj,atG,if_pos rfl]
theorem zft {kvs:List (Int×Lk×Nat)}{mn:Nat}{last:Int}(hok:KvOk kvs mn last) {now idle:Int}{j:Nat}{e:Int×Lk×Nat}(h:kvs[j]? = some e) (hl:¬ now - e.2.1.wh < idle) :
  delG e.1 (curT now idle kvs j)=curT now idle kvs (j + 1)∧outT now idle kvs (j + 1)=outT now idle kvs j++[e.1]:=by
 obtain ⟨h1,h2⟩:=take_at h
 have h3:zcO now idle e=false:=decide_eq_false hl
 have hb:=hok.before h
 constructor
 ·rw [curT,curT,delG_skip fun x hx => hb x (List.mem_filter.1 hx).1,h1,h2,delG,if_pos rfl,List.filter_append,List.filter_cons_of_neg (by simp [h3]),List.filter_nil,List.append_nil]
 ·rw [outT,outT,h1,List.filter_append,List.filter_cons_of_pos (by simp [h3]),List.filter_nil,List.map_append]; rfl
theorem zjP {kvs:List (Int×Lk×Nat)}{k:Int}{lk:Lk}{st:Nat}(h:(k,lk,st) ∈ kvs) {p:Nat×Obj}(hp:p ∈ lk.s):∃ j:Nat,(zv kvs)[j]? = some p :=
 List.mem_iff_getElem?.1 (List.mem_flatMap.2 ⟨_,h,hp⟩)
theorem str_blk (x:Str):(x.b,.cells #[x.ch.v,.bool x.sd,int x.client,int x.wh,int x.buffer,.slice x.wait.A x.wait.l.length x.wait.C,.bool x.closing,.bool false,.pointer (some ⟨x.r,0,none⟩)] 108 (0,0)) ∈ (Lk.str x).s:=by
 show _ ∈ (Str.H x false).flatten
 simp [Str.H]
theorem req_blk (x:Req):(x.b,.cells #[x.ch.v,.bool x.sd,int x.client,int x.wh,int x.buffer,.slice x.wait.A x.wait.l.length x.wait.C,.bool x.closing,.bool false,.pointer (some ⟨x.hr,0,none⟩),.pointer (some ⟨x.wb,0,none⟩),int x.last,int x.behind] 116 (0,0)) ∈ (Lk.req x).s:=by
 show _ ∈ (Req.H x false).flatten
 simp [Req.H]
set_option maxHeartbeats 1000000 in
theorem ctick_ok {w0:World}{base:Nat}{H:List Seg}{c mb:Nat}{most idle buffer last:Int}{kvs:List (Int×Lk×Nat)}{mn:Nat}(now:Int) (hm:¬ most=0) (hok:KvOk kvs mn last) (hT:inT now) (hid:0≤idle∧idle≤1073741824) :
  SCalls Tryz.prog 19 [B c,V now] w0 base (O0 c most idle buffer last mb::[(mb,mapG kyI Lk.v kvs mn)]::zv kvs::H) (fun v H' => ∃ o:Sl tyI 3,o.l=(kvs.filter fun e => !zcO now idle e).map (fun e => e.1)∧v = .slice o.A o.l.length o.C∧H' = o.s::O0 c most idle buffer last mb::[(mb,mapG kyI Lk.v (kvs.filter (zcO now idle)) mn)]::zv kvs::H):=by
 have hT9:0≤now∧now≤1099511627776:=hT
 refine SCalls.of_walk (n:=50) Tryz.func19 Z Z Z fun cs => ?_
 refine zc<|za<|AtL.assign zg0 Z Z<|AtL.done<|zc<|zc ?_
 refine za<|zb zg0 Z Z<|zk zb2 zg0 Z Z (zcH hm) ?_
 rintro _ _ ⟨rfl,rfl⟩
 refine zb zg0 Z Z<|zb (.inr ⟨_,_,_,Z,Z,Z,Z⟩) Z Z<|zk za7 (.inr ⟨_,_,_,Z,Z,Z,Z⟩) Z Z (zbL hT) ?_
 rintro _ _ ⟨rfl,rfl⟩
 refine zag (.inr ⟨_,_,_,Z,Z,Z,Z⟩) Z Z<|zm zg0 Z Z Z<|AtL.done<|zB Z<|zj<|zc ?_
 refine za<|AtL.assign zg0 Z Z<|AtL.done<|zc<|zc<|za ?_
 refine zb zg0 Z Z<|zk zco zg0 Z Z (zen hm hok) ?_
 rintro _ _ ⟨o1,hks2,rfl,rfl⟩
 refine zC Tryz.underlying23 zg0 Z Z<|zb zg0 Z Z<|AtL.done<|At.block<|At.nil<|zhq (H':=[]::o1.s::O0 c most idle buffer last mb::[(mb,mapG kyI Lk.v (curT now idle kvs 0) mn)]::zv kvs::H) Z ?_
 refine zcI (fun (i:Nat) (y:Sl tyI 3) => [(0,B c),(1,V now),(5,.slice y.A y.l.length y.C),(16,.slice o1.A o1.l.length o1.C),(17,V (o1.l.length:Int)),(18,V (i:Int))]) (fun (i:Nat) (y:Sl tyI 3) => y.s::o1.s::O0 c most idle buffer last mb::[(mb,mapG kyI Lk.v (curT now idle kvs i) mn)]::zv kvs::H) (fun (i:Nat) (y:Sl tyI 3) => i≤kvs.length∧y.l=outT now idle kvs i) (fun (i:Nat) (y:Sl tyI 3) => kvs.length - i) 0 Sl.nil (⟨Nat.zero_le _,Z⟩) ⟨Z,Z,Z,Z,Z,Z,trivial⟩ Z ?_
 rintro i y ⟨hi,hy⟩ ihL1
 have hfw:=hok.few
 have hol:o1.l.length=kvs.length:=by rw [hks2,List.length_map]
 have hyl:y.l.length≤256:=by rw [hy,outT,List.length_map]; have h9:=List.length_filter_le (fun e => !zcO now idle e) (kvs.take i); rw [List.length_take] at h9; have:=hok.few; omega
 have hyc:=z7 y.own
 refine zc<|za<|zA zg0 Z Z Z<|AtL.done<|zc<|zq Z ?_ ?_
 ·intro hc2
  refine zj<|zc<|At.block<|zc<|za ?_
  refine zF i (o1.own.rd (i:=1) Z) Tryz.underlying23 zaB zg0 Z Z Z Z (by omega) ?_
  refine zh (v:=V (o1.l.getD i 0)) zo zg0 Z Z (zH (o1.own.rd (i:=1) Z) (zz 0 (by omega)) Z)<|AtL.assign zg0 Z Z<|AtL.done<|zc ?_
  obtain ⟨lk9,st9,hmem8,hmem9,hat9⟩:=tick_at hok now idle hks2 (show i < o1.l.length by omega)
  cases lk9 with
  | str x =>
   obtain ⟨jx,hjx⟩:=zjP hmem9 (str_blk x)
   have hw9:0≤x.wh∧x.wh≤1099511627776:=hok.wh _ hmem9
   refine zac (es:=[]) (pv:=[(0,V now),(1,B c),(2,B c),(3,.pointer (some ⟨c,4,none⟩)),(4,.map (some mb)),(5,V (o1.l.getD i 0)),(6,.iface 106 (B x.b)),(7,B x.b),(8,B x.b),(9,.pointer (some ⟨x.b,3,none⟩)),(10,V x.wh),(11,V (now - x.wh)),(12,B c),(13,B c),(14,.pointer (some ⟨c,1,none⟩)),(15,V idle),(16,.bool (decide (idle≤(now - x.wh:Int))))]) zV (by kernel_rfl) (by kernel_rfl) (by kernel_rfl) ?_
   refine ⟨⟨zpr Z Z Z (zi Z),zpr Z Z Z (zi Z),zpr Z Z Z (zl Z),zpr Z Z Z (zg zaO Z Z),zpr Z Z Z (zu zaL Z (Cell.own 2 0 Z Z Z)),zpr Z Z Z (zi Z),zpr Z Z Z (zdL (Q:=kyI) (tv:=Lk.v) (a:=(o1.l.getD i 0)) (v:=.iface 106 (B x.b)) 3 0 Tryz.underlying62 Tryz.underlying3 Z zcK Z Z Z Z (by rw [hat9]; rfl)),zpr Z Z Z (zdX zaF Z Z (fun w => by kernel_rfl) (zdi (b:=x.b))),zpr Z Z Z (zl Z),zpr Z Z Z (zg zb0 Z Z),zpr Z Z Z (zu (v:=int x.wh) zo Z (Cell.own 4 jx Z hjx Z)),zpr Z Z Z (Do.sub (z:=now - x.wh) Z Z (w64 (by omega) (by omega))),zpr Z Z Z (zi Z),zpr Z Z Z (zl Z),zpr Z Z Z (zg zje Z Z),zpr Z Z Z (zu zo Z (Cell.own 2 0 Z Z Z)),zpr Z Z Z (zgd Z Z),trivial⟩,by kernel_rfl,?_⟩
   refine At.mono (E':=[(0,B c),(1,V now),(5,.slice y.A y.l.length y.C),(7,V (o1.l.getD i 0)),(16,.slice o1.A o1.l.length o1.C),(17,V (o1.l.length:Int)),(18,V (i:Int)),(38,.bool (decide (idle≤(now - x.wh:Int))))]) ⟨Z,Z,Z,Z,Z,Z,Z,Z,trivial⟩<|zq Z ?_ ?_
   ·intro hc3
    have hd9:¬ (now - x.wh < idle):=by omega
    refine zc<|za<|zb zg0 Z Z<|zb zg0 Z Z<|zG (cs:=[V (o1.l.getD i 0)]) Tryz.underlying23 zeA zaB Z Z zg0 Z Z Z ?_
    intro b3
    refine zaD tyI (l:=([(o1.l.getD i 0)]:List Int)) Z Z (by first | decide | simp) ?_
    intro s4 o5
    refine zam (l:=y.l) (news:=[(o1.l.getD i 0)]) 1 zkA Z y.own (o5.rd (i:=0) Z) (by first | omega | (simp only [List.length_append,List.length_cons,List.length_nil]; omega) | (simp; done) | (simp; omega)) zg0 Z Z Z ?_
    intro A6 C7 s8 o9
    refine AtL.assign zg0 Z Z<|AtL.done<|za<|zb zg0 Z Z<|zf zg0 Z Z<|zd zaO zg0 Z Z Z ?_
    refine zh zaL zg0 Z Z (Cell.own 3 0 Z Z Z)<|zb zg0 Z Z<|zcE (Q:=kyI) (tv:=Lk.v) (a:=(o1.l.getD i 0)) (H':=s4::s8::o1.s::O0 c most idle buffer last mb::[(mb,mapG kyI Lk.v (delG (o1.l.getD i 0) (curT now idle kvs i)) mn)]::zv kvs::H) 4 0 Tryz.underlying62 Tryz.underlying3 Z zg0 Z Z Z Z Z Z<|AtL.done<|zp<|za ?_
    refine AtL.add (z:=(i:Int) + 1) zg0 Z Z Z (w64 (by omega) (by omega))<|zb zg0 Z Z<|AtL.done ?_
    refine zhq (H':=s4::s8::o1.s::O0 c most idle buffer last mb::[(mb,mapG kyI Lk.v (curT now idle kvs (i + 1)) mn)]::zv kvs::H) (by rw [show (delG (o1.l.getD i 0) (curT now idle kvs i))=curT now idle kvs (i + 1) from (zft hok hmem8 hd9).1])<|At.pick (H':=s8::o1.s::O0 c most idle buffer last mb::[(mb,mapG kyI Lk.v (curT now idle kvs (i + 1)) mn)]::zv kvs::H) [1,2,3,4,5] 6 Z Z ?_
    refine ihL1 (i + 1) (⟨A6,C7,y.l++[(o1.l.getD i 0)],s8,o9⟩) (⟨by omega,by dsimp only; rw [(zft hok hmem8 hd9).2,hy]⟩) (by omega) _ ?_
    exact ⟨Z,Z,(by first | rfl | exact zaf (by simp []) | exact zah (by omega) | exact zah (by simp []) | exact zaf (by simp []; omega)),Z,Z,(by first | rfl | exact zaf (by simp []) | exact zah (by omega) | exact zah (by simp []) | exact zaf (by simp []; omega)),trivial⟩
   ·intro hc3
    have hd9:(now - x.wh < idle):=by omega
    refine zj<|zp<|za ?_
    refine AtL.add (z:=(i:Int) + 1) zg0 Z Z Z (w64 (by omega) (by omega))<|zb zg0 Z Z<|AtL.done ?_
    refine zhq (H':=y.s::o1.s::O0 c most idle buffer last mb::[(mb,mapG kyI Lk.v (curT now idle kvs (i + 1)) mn)]::zv kvs::H) (by rw [show (curT now idle kvs i)=curT now idle kvs (i + 1) from (zfs hmem8 hd9).1.symm]) ?_
    refine ihL1 (i + 1) y (⟨by omega,by rw [(zfs hmem8 hd9).2]; exact hy⟩) (by omega) _ ?_
    exact ⟨Z,Z,(by first | rfl | exact zaf (by simp []) | exact zah (by omega) | exact zah (by simp []) | exact zaf (by simp []; omega)),Z,Z,(by first | rfl | exact zaf (by simp []) | exact zah (by omega) | exact zah (by simp []) | exact zaf (by simp []; omega)),trivial⟩
  | req x =>
   obtain ⟨jx,hjx⟩:=zjP hmem9 (req_blk x)
   have hw9:0≤x.wh∧x.wh≤1099511627776:=hok.wh _ hmem9
   refine zac (es:=[]) (pv:=[(0,V now),(1,B c),(2,B c),(3,.pointer (some ⟨c,4,none⟩)),(4,.map (some mb)),(5,V (o1.l.getD i 0)),(6,.iface 112 (B x.b)),(7,B x.b),(8,B x.b),(9,.pointer (some ⟨x.b,3,none⟩)),(10,V x.wh),(11,V (now - x.wh)),(12,B c),(13,B c),(14,.pointer (some ⟨c,1,none⟩)),(15,V idle),(16,.bool (decide (idle≤(now - x.wh:Int))))]) zV (by kernel_rfl) (by kernel_rfl) (by kernel_rfl) ?_
   refine ⟨⟨zpr Z Z Z (zi Z),zpr Z Z Z (zi Z),zpr Z Z Z (zl Z),zpr Z Z Z (zg zaO Z Z),zpr Z Z Z (zu zaL Z (Cell.own 2 0 Z Z Z)),zpr Z Z Z (zi Z),zpr Z Z Z (zdL (Q:=kyI) (tv:=Lk.v) (a:=(o1.l.getD i 0)) (v:=.iface 112 (B x.b)) 3 0 Tryz.underlying62 Tryz.underlying3 Z zcK Z Z Z Z (by rw [hat9]; rfl)),zpr Z Z Z (zdX zaF Z Z (fun w => by kernel_rfl) (zdi (b:=x.b))),zpr Z Z Z (zl Z),zpr Z Z Z (zg zb0 Z Z),zpr Z Z Z (zu (v:=int x.wh) zo Z (Cell.own 4 jx Z hjx Z)),zpr Z Z Z (Do.sub (z:=now - x.wh) Z Z (w64 (by omega) (by omega))),zpr Z Z Z (zi Z),zpr Z Z Z (zl Z),zpr Z Z Z (zg zje Z Z),zpr Z Z Z (zu zo Z (Cell.own 2 0 Z Z Z)),zpr Z Z Z (zgd Z Z),trivial⟩,by kernel_rfl,?_⟩
   refine At.mono (E':=[(0,B c),(1,V now),(5,.slice y.A y.l.length y.C),(7,V (o1.l.getD i 0)),(16,.slice o1.A o1.l.length o1.C),(17,V (o1.l.length:Int)),(18,V (i:Int)),(38,.bool (decide (idle≤(now - x.wh:Int))))]) ⟨Z,Z,Z,Z,Z,Z,Z,Z,trivial⟩<|zq Z ?_ ?_
   ·intro hc3
    have hd9:¬ (now - x.wh < idle):=by omega
    refine zc<|za<|zb zg0 Z Z<|zb zg0 Z Z<|zG (cs:=[V (o1.l.getD i 0)]) Tryz.underlying23 zeA zaB Z Z zg0 Z Z Z ?_
    intro b10
    refine zaD tyI (l:=([(o1.l.getD i 0)]:List Int)) Z Z (by first | decide | simp) ?_
    intro s11 o12
    refine zam (l:=y.l) (news:=[(o1.l.getD i 0)]) 1 zkA Z y.own (o12.rd (i:=0) Z) (by first | omega | (simp only [List.length_append,List.length_cons,List.length_nil]; omega) | (simp; done) | (simp; omega)) zg0 Z Z Z ?_
    intro A13 C14 s15 o16
    refine AtL.assign zg0 Z Z<|AtL.done<|za<|zb zg0 Z Z<|zf zg0 Z Z<|zd zaO zg0 Z Z Z ?_
    refine zh zaL zg0 Z Z (Cell.own 3 0 Z Z Z)<|zb zg0 Z Z<|zcE (Q:=kyI) (tv:=Lk.v) (a:=(o1.l.getD i 0)) (H':=s11::s15::o1.s::O0 c most idle buffer last mb::[(mb,mapG kyI Lk.v (delG (o1.l.getD i 0) (curT now idle kvs i)) mn)]::zv kvs::H) 4 0 Tryz.underlying62 Tryz.underlying3 Z zg0 Z Z Z Z Z Z<|AtL.done<|zp<|za ?_
    refine AtL.add (z:=(i:Int) + 1) zg0 Z Z Z (w64 (by omega) (by omega))<|zb zg0 Z Z<|AtL.done ?_
    refine zhq (H':=s11::s15::o1.s::O0 c most idle buffer last mb::[(mb,mapG kyI Lk.v (curT now idle kvs (i + 1)) mn)]::zv kvs::H) (by rw [show (delG (o1.l.getD i 0) (curT now idle kvs i))=curT now idle kvs (i + 1) from (zft hok hmem8 hd9).1])<|At.pick (H':=s15::o1.s::O0 c most idle buffer last mb::[(mb,mapG kyI Lk.v (curT now idle kvs (i + 1)) mn)]::zv kvs::H) [1,2,3,4,5] 6 Z Z ?_
    refine ihL1 (i + 1) (⟨A13,C14,y.l++[(o1.l.getD i 0)],s15,o16⟩) (⟨by omega,by dsimp only; rw [(zft hok hmem8 hd9).2,hy]⟩) (by omega) _ ?_
    exact ⟨Z,Z,(by first | rfl | exact zaf (by simp []) | exact zah (by omega) | exact zah (by simp []) | exact zaf (by simp []; omega)),Z,Z,(by first | rfl | exact zaf (by simp []) | exact zah (by omega) | exact zah (by simp []) | exact zaf (by simp []; omega)),trivial⟩
   ·intro hc3
    have hd9:(now - x.wh < idle):=by omega
    refine zj<|zp<|za ?_
    refine AtL.add (z:=(i:Int) + 1) zg0 Z Z Z (w64 (by omega) (by omega))<|zb zg0 Z Z<|AtL.done ?_
    refine zhq (H':=y.s::o1.s::O0 c most idle buffer last mb::[(mb,mapG kyI Lk.v (curT now idle kvs (i + 1)) mn)]::zv kvs::H) (by rw [show (curT now idle kvs i)=curT now idle kvs (i + 1) from (zfs hmem8 hd9).1.symm]) ?_
    refine ihL1 (i + 1) y (⟨by omega,by rw [(zfs hmem8 hd9).2]; exact hy⟩) (by omega) _ ?_
    exact ⟨Z,Z,(by first | rfl | exact zaf (by simp []) | exact zah (by omega) | exact zah (by simp []) | exact zaf (by simp []; omega)),Z,Z,(by first | rfl | exact zaf (by simp []) | exact zah (by omega) | exact zah (by simp []) | exact zaf (by simp []; omega)),trivial⟩
 ·intro hc2
  refine zau Z<|zc<|za<|zb zg0 Z Z<|AtL.assign zg0 Z Z<|AtL.done ?_
  refine zhq (H':=y.s::o1.s::O0 c most idle buffer last mb::[(mb,mapG kyI Lk.v (kvs.filter (zcO now idle)) mn)]::zv kvs::H) (by rw [curT_end (by omega)])<|At.pick [0,2,3,4] 5 Z Z ?_
  exact zt Tryz.func19 Z Z (⟨y,by rw [hy,outT_end (by omega)],Z,Z⟩)
set_option maxRecDepth 100000
structure ReqV where
  ch:ChV
  sd:Bool
  client:Int
  wh:Int
  buffer:Int
  wait:List UInt8
  closing:Bool
  kb:List UInt8
  over:Bool
  first:Int
  next:Int
  dn:List (Int×List UInt8)
  last:Int
  behind:Int
inductive LkV
  | str (x:StrV) (sz:Nat)
  | req (x:ReqV)
def LkV.wh:LkV→Int
 | .str x _ => x.wh
 | .req x => x.wh
inductive Good:Lk→LkV→Prop
  | str {x:Str}{v:StrV}{sz:Nat}(hp:x.p=v) (hk:x.ok) (hs:x.ch.y.l.length + x.y.l.length≤sz):Good (.str x) (.str v sz)
  | req {x:Req}{v:ReqV}{ph:Rph}{y:Sl tyB 5}{g:Nat→Value}(hs:x.hs=(ph.s++(y.s++rdC x.hr ph y (.slice none 0 0) g))) (hr:RdOk ph y v.kb v.over) (hd:x.dn.map (fun e => (e.1,e.2.1.l))=v.dn) (hlt:∀ e ∈ x.dn,e.2.2 < x.n) (hnd:(x.dn.map fun e => e.2.2).Nodup)
      (hv:v=⟨x.ch.p,x.sd,x.client,x.wh,x.buffer,x.wait.l,x.closing,v.kb,v.over,x.first,x.next,v.dn,x.last,x.behind⟩):Good (.req x) (.req v)
theorem Good.wh {x:Lk}{v:LkV}(h:Good x v):x.wh=v.wh:=by
 cases h with
 | str hp hk hs => subst hp; rfl
 | req hs hr hd hlt hnd hv => rename_i x v ph y g; exact (show v.wh=x.wh by rw [hv]).symm
inductive All2 {α β:Type}(R:α→β→Prop):List α→List β→Prop
  | nil:All2 R [] []
  | cons {a:α}{b:β}{l:List α}{m:List β}(h:R a b) (t:All2 R l m):All2 R (a::l) (b::m)
def atP (i:Int):List (Int×LkV)→Option LkV
 | [] => none
 | p::r => if i=p.1 then some p.2 else atP i r
def setP (i:Int) (v:LkV):List (Int×LkV)→List (Int×LkV)
 | [] => []
 | p::r => if i=p.1 then (i,v)::r else p::setP i v r
def delP (i:Int):List (Int×LkV)→List (Int×LkV)
 | [] => []
 | p::r => if i=p.1 then r else p::delP i r
def zfA (e:Int×Lk×Nat) (p:Int×LkV):Prop:=e.1=p.1∧Good e.2.1 p.2
structure Cs (kvs:List (Int×Lk×Nat)) (mn:Nat) (last:Int) (P:List (Int×LkV)):Prop where
  ok:KvOk kvs mn last
  all:All2 zfA kvs P
theorem ziS {kvs:List (Int×Lk×Nat)}{P:List (Int×LkV)}(h:All2 zfA kvs P):kvs.length=P.length:=by
 induction h with
 | nil => rfl
 | cons _ _ ih => rw [List.length_cons,List.length_cons,ih]
theorem all_keys {kvs:List (Int×Lk×Nat)}{P:List (Int×LkV)}(h:All2 zfA kvs P):(kvs.map fun e => e.1)=P.map fun p => p.1:=by
 induction h with
 | nil => rfl
 | cons h _ ih => rw [List.map_cons,List.map_cons,ih,h.1]
theorem all_at {kvs:List (Int×Lk×Nat)}{P:List (Int×LkV)}(h:All2 zfA kvs P) {i:Int}{v:LkV}(hat:atP i P=some v):∃ lk,atG i kvs=some lk∧Good lk v:=by
 induction h with
 | nil => cases hat
 | cons h _ ih =>
  rename_i a b l m _
  rw [atP] at hat
  rw [atG,h.1]
  split at hat
  ·rename_i q; cases hat; exact ⟨_,by rw [if_pos q],h.2⟩
  ·rename_i q; obtain ⟨lk,h1,h2⟩:=ih hat; exact ⟨lk,by rw [if_neg q]; exact h1,h2⟩
theorem all_none {kvs:List (Int×Lk×Nat)}{P:List (Int×LkV)}(h:All2 zfA kvs P) {i:Int}(hat:atP i P=none):atG i kvs=none:=by
 induction h with
 | nil => rfl
 | cons h _ ih =>
  rw [atP] at hat
  rw [atG,h.1]
  split at hat
  ·cases hat
  ·rename_i q; rw [if_neg q]; exact ih hat
theorem all_del {kvs:List (Int×Lk×Nat)}{P:List (Int×LkV)}(h:All2 zfA kvs P) (i:Int):All2 zfA (delG i kvs) (delP i P):=by
 induction h with
 | nil => exact .nil
 | cons h t ih =>
  rw [delG,delP,h.1]
  split
  ·exact t
  ·exact .cons h ih
theorem all_set {kvs:List (Int×Lk×Nat)}{P:List (Int×LkV)}(h:All2 zfA kvs P) (i:Int) {lk:Lk}{v:LkV}(hg:Good lk v):All2 zfA (setG i lk kvs) (setP i v P):=by
 induction h with
 | nil => exact .nil
 | cons h t ih =>
  rw [setG,setP,h.1]
  split
  ·exact .cons ⟨rfl,hg⟩ t
  ·exact .cons h ih
theorem all_snoc {kvs:List (Int×Lk×Nat)}{P:List (Int×LkV)}(h:All2 zfA kvs P) {e:Int×Lk×Nat}{p:Int×LkV}(hg:zfA e p):All2 zfA (kvs++[e]) (P++[p]):=by
 induction h with
 | nil => exact .cons hg .nil
 | cons h t ih => exact .cons h ih
def ziD (now idle:Int) (p:Int×LkV):Bool:=decide (now - p.2.wh < idle)
theorem all_live {kvs:List (Int×Lk×Nat)}{P:List (Int×LkV)}(h:All2 zfA kvs P) (now idle:Int):All2 zfA (kvs.filter (zcO now idle)) (P.filter (ziD now idle))∧((kvs.filter fun e => !zcO now idle e).map fun e => e.1)=(P.filter fun p => !ziD now idle p).map fun p => p.1:=by
 induction h with
 | nil => exact ⟨.nil,rfl⟩
 | cons h t ih =>
  rename_i a b l m
  have e:zcO now idle a=ziD now idle b:=by rw [zcO,ziD,h.2.wh]
  rw [List.filter_cons,List.filter_cons,List.filter_cons,List.filter_cons,e]
  cases ziD now idle b with
  | true => exact ⟨.cons h ih.1,ih.2⟩
  | false => exact ⟨ih.1,by simp only [Bool.not_false,if_true,List.map_cons,h.1]; rw [ih.2]⟩
theorem zg2 (i:Int) (kvs:List (Int×Lk×Nat)):(delG i kvs).Sublist kvs:=by
 induction kvs with
 | nil => exact .slnil
 | cons p r ih =>
  rw [delG]
  split
  ·exact List.sublist_cons_self p r
  ·exact ih.cons_cons p
theorem KvOk.sub {kvs K:List (Int×Lk×Nat)}{mn:Nat}{last:Int}(h:KvOk kvs mn last) (hs:K.Sublist kvs):KvOk K mn last :=
 ⟨fun e he => h.lt e (hs.subset he),List.Sublist.nodup (hs.map _) h.nd,List.Pairwise.sublist (hs.map _) h.sorted,fun e he => h.le e (hs.subset he),fun e he => h.wh e (hs.subset he),Nat.le_trans hs.length_le h.few,h.last⟩
theorem set_keys (i:Int) (lk:Lk) (kvs:List (Int×Lk×Nat)):((setG i lk kvs).map fun e => e.1)=(kvs.map fun e => e.1)∧((setG i lk kvs).map fun e => e.2.2)=(kvs.map fun e => e.2.2):=by
 induction kvs with
 | nil => exact ⟨rfl,rfl⟩
 | cons p r ih =>
  rw [setG]
  split
  ·rename_i q; subst q; exact ⟨rfl,rfl⟩
  ·rw [List.map_cons,List.map_cons,List.map_cons,List.map_cons,ih.1,ih.2]; exact ⟨rfl,rfl⟩
theorem mem_set {i:Int}{lk:Lk}{kvs:List (Int×Lk×Nat)}{e:Int×Lk×Nat}(h:e ∈ setG i lk kvs):e ∈ kvs∨e.2.1=lk:=by
 induction kvs with
 | nil => cases h
 | cons p r ih =>
  rw [setG] at h
  split at h
  ·rcases List.mem_cons.1 h with rfl | h
   ·exact .inr rfl
   ·exact .inl (List.mem_cons_of_mem _ h)
  ·rcases List.mem_cons.1 h with rfl | h
   ·exact .inl (List.mem_cons_self ..)
   ·rcases ih h with h | h
    ·exact .inl (List.mem_cons_of_mem _ h)
    ·exact .inr h
theorem KvOk.set {kvs:List (Int×Lk×Nat)}{mn:Nat}{last:Int}(h:KvOk kvs mn last) (i:Int) {lk:Lk}(hw:inT lk.wh):KvOk (setG i lk kvs) mn last:=by
 obtain ⟨h1,h2⟩:=set_keys i lk kvs
 refine ⟨fun e he => ?_,by rw [h2]; exact h.nd,by rw [h1]; exact h.sorted,fun e he => ?_,fun e he => ?_,?_,h.last⟩
 ·have:e.2.2 ∈ (setG i lk kvs).map fun e => e.2.2:=List.mem_map.2 ⟨e,he,rfl⟩
  rw [h2] at this
  obtain ⟨e',he',q⟩:=List.mem_map.1 this
  rw [← q]; exact h.lt e' he'
 ·have:e.1 ∈ (setG i lk kvs).map fun e => e.1:=List.mem_map.2 ⟨e,he,rfl⟩
  rw [h1] at this
  obtain ⟨e',he',q⟩:=List.mem_map.1 this
  rw [← q]; exact h.le e' he'
 ·rcases mem_set he with h9 | h9
  ·exact h.wh e h9
  ·rw [h9]; exact hw
 ·have:=congrArg List.length h1
  rw [List.length_map,List.length_map] at this
  rw [this]; exact h.few
theorem zef {kvs:List (Int×Lk×Nat)}{i:Int}{lk:Lk}(h:atG i kvs=some lk):(zv kvs).Perm (lk.s++zv (delG i kvs)):=by
 induction kvs with
 | nil => cases h
 | cons p r ih =>
  rw [atG] at h
  rw [delG,zv,List.flatMap_cons]
  split at h
  ·rename_i q; cases h; rw [if_pos q]; exact List.Perm.refl _
  ·rename_i q
   rw [if_neg q]
   refine ((ih h).append_left _).trans ?_
   rw [zv,zv,List.flatMap_cons,← List.append_assoc,← List.append_assoc]
   exact List.perm_append_comm.append_right _
theorem zjS {kvs:List (Int×Lk×Nat)}{i:Int}{lk lk' : Lk}(h:atG i kvs=some lk):(zv (setG i lk' kvs)).Perm (lk'.s++zv (delG i kvs)):=by
 induction kvs with
 | nil => cases h
 | cons p r ih =>
  rw [atG] at h
  rw [delG,setG]
  split at h
  ·rename_i q; rw [if_pos q,if_pos q,zv,List.flatMap_cons]; exact List.Perm.refl _
  ·rename_i q
   rw [if_neg q,if_neg q,zv,List.flatMap_cons]
   refine ((ih h).append_left _).trans ?_
   rw [zv,zv,List.flatMap_cons,← List.append_assoc,← List.append_assoc]
   exact List.perm_append_comm.append_right _
theorem mapG_set {kvs:List (Int×Lk×Nat)}{i:Int}{lk lk' : Lk}(h:atG i kvs=some lk) (hv:lk'.v=lk.v) (n:Nat):mapG kyI Lk.v (setG i lk' kvs) n=mapG kyI Lk.v kvs n:=by
 have:∀ kvs:List (Int×Lk×Nat),atG i kvs=some lk→zbk kyI Lk.v (setG i lk' kvs)=zbk kyI Lk.v kvs:=by
  intro kvs
  induction kvs with
  | nil => intro _; rfl
  | cons p r ih =>
   intro h
   rw [atG] at h
   rw [setG]
   split at h
   ·rename_i q; cases h; rw [if_pos q]; subst q; simp only [zbk,List.map_cons,hv]
   ·rename_i q; rw [if_neg q]; have:=ih h; simp only [zbk,List.map_cons] at this ⊢; rw [this]
 rw [mapG,mapG,this kvs h]
theorem SCalls.sepR {P:Program}{f:FuncId}{args:List Value}{w0:World}{base:Nat}{H:List Seg}{R R' : Value→List Seg→Prop}(h:SCalls P f args w0 base H R) (hr:∀ v H1,R v H1→∃ H2,(∀ w,Sep w0 base w H1→Sep w0 base w H2)∧R' v H2):SCalls P f args w0 base H R' :=
 fun w S cs => let ⟨e,w',fr,⟨v,H1,hv,hR,S'⟩,r⟩:=h w S cs; let ⟨H2,hp,hR'⟩:=hr v H1 hR; ⟨e,w',fr,⟨v,H2,hv,hR',hp w' S'⟩,r⟩
theorem zaW {a b s:Seg}(G:List Seg) {H:List Seg}(h:s.Perm G.flatten):(a::b::s::H).flatten.Perm (a::b::(G++H)).flatten:=by
 simp only [List.flatten_cons,List.flatten_append]
 exact List.Perm.append_left _ (List.Perm.append_left _ (h.append_right _))
theorem sep_mid {w0:World}{base:Nat}{pre:List Seg}{a b c1 c2 c3 c4 c5:Seg}{G:List Seg}{w:World}(S:Sep w0 base w (pre++(a::b::c1::c2::c3::c4::c5::G))):Sep w0 base w (pre++(a::b::G)):=by
 have S1:=S.flat (H':=(pre.flatten++a++b)::c1::c2::c3::c4::c5::G) (by simp [List.append_assoc])
 have S2:=S1.pick [0] 6 rfl
 exact S2.flat (by show ((pre.flatten++a++b)::G).flatten.Perm _; simp [List.append_assoc])
theorem zc9 (x:Str) (L:Seg):((Lk.str x).s++L).Perm ([[(x.b,.cells #[x.ch.v,.bool x.sd,.int .i64 x.client,.int .i64 x.wh,.int .i64 x.buffer,.slice x.wait.A x.wait.l.length x.wait.C,.bool x.closing,.bool false,.pointer (some ⟨x.r,0,none⟩)] 108 (0,0))],[(x.r,.cells #[.int .i64 65535,.bool x.br,.slice x.y.A x.y.l.length x.y.C,.int .i64 (x.off:Int),.int .i8 x.lr,.int .i64 x.e] 125 (0,0))],x.ch.s,x.wait.s,x.y.s,L]:List Seg).flatten:=by
 show ((Str.H x false).flatten++L).Perm _
 simp only [Str.H,List.flatten_cons,List.flatten_nil,List.append_assoc,List.append_nil,List.nil_append]
 exact List.Perm.refl _
theorem ziR {w0:World}{base:Nat}{H:List Seg}{c mb:Nat}{most idle buffer last:Int}{kvs:List (Int×Lk×Nat)}{mn:Nat}{P:List (Int×LkV)}{i:Int}{X x' : Str}{cl:Bool}{v' : StrV}{sz' : Nat}(hc:Cs kvs mn last P) (hat:atG i kvs=some (.str X)) (hb:x'.b=X.b) (hp:x'.p=v') (hk:x'.ok) (hs:x'.ch.y.l.length + x'.y.l.length≤sz') (hwh:inT v'.wh) (pre:List Seg) :
  ∃ K,Cs K mn last (if cl=true then delP i P else setP i (.str v' sz') P)∧∀ w,Sep w0 base w (pre++(O0 c most idle buffer last mb::[(mb,mapG kyI Lk.v (if cl=true then delG i kvs else kvs) mn)]::O4 x'.b x'.ch.v x'.sd x'.client x'.wh x'.buffer x'.wait.A x'.wait.l.length x'.wait.C x'.closing cl x'.r::O1 x'.r 65535 x'.br x'.y.A x'.y.l.length x'.y.C (x'.off:Int) x'.lr x'.e::x'.ch.s::x'.wait.s::x'.y.s::zv (delG i kvs)::H))→Sep w0 base w (pre++(O0 c most idle buffer last mb::[(mb,mapG kyI Lk.v K mn)]::zv K::H)):=by
 cases cl with
 | true =>
  refine ⟨delG i kvs,⟨hc.ok.sub (zg2 _ _),all_del hc.all i⟩,fun w S => ?_⟩
  exact sep_mid S
 | false =>
  refine ⟨setG i (.str x') kvs,⟨hc.ok.set i (by show inT x'.wh; rw [← hp] at hwh; exact hwh),all_set hc.all i (.str hp hk hs)⟩,fun w S => ?_⟩
  refine S.flat ?_
  rw [mapG_set hat (by show Value.iface _ x'.ptr=Value.iface _ X.ptr; rw [Str.ptr,Str.ptr,hb])]
  rw [List.flatten_append,List.flatten_append]
  refine List.Perm.append_left _ ?_
  exact (zaW _ ((zjS hat).trans (zc9 x' _))).symm
theorem Cs.wh_at {kvs:List (Int×Lk×Nat)}{mn:Nat}{last:Int}{P:List (Int×LkV)}(hc:Cs kvs mn last P) {i:Int}{lk:Lk}(h:atG i kvs=some lk):inT lk.wh:=by
 have h1:=hc.ok.wh
 clear hc
 induction kvs with
 | nil => cases h
 | cons p r ih =>
  rw [atG] at h
  split at h
  ·cases h; exact h1 p (List.mem_cons_self ..)
  ·exact ih h fun e he => h1 e (List.mem_cons_of_mem _ he)
theorem send_k (x:ChV) (l:List UInt8):(x.send l).2.k=x.k:=by
 obtain ⟨sl,k,a,b,c,d,e⟩:=x
 cases sl <;> rfl
theorem answer_k (x:StrV) (slot:Int) (l:List UInt8):(x.answer slot l).2.2.ch.k=x.ch.k:=by
 rw [StrV.answer]; split
 ·exact send_k _ _
 ·rfl
theorem zke (x:StrV) (slot:Int) (l:List UInt8):(x.answer slot l).2.2.wh=x.wh:=by
 rw [StrV.answer]; split <;> rfl
theorem zkc {w0:World}{base:Nat}{H:List Seg}{c mb:Nat}{most idle buffer last:Int}{kvs:List (Int×Lk×Nat)}{mn:Nat}{P:List (Int×LkV)}{i now:Int}{x:StrV}{sz:Nat}{A:Option Addr}{C:Nat}{l:List UInt8}(hm:¬ most=0) (hc:Cs kvs mn last P) (hat:atP i P=some (.str x sz)) (h:Rd tyB w0 base H A C l) (hT:inT now) (hl7:l.length≤70000) (hcl:x.closing=false) (hsz:sz + l.length≤200000000) :
  SCalls Tryz.prog 14 [(B c),int i,.slice A l.length C,int now] w0 base (O0 c most idle buffer last mb::[(mb,mapG kyI Lk.v kvs mn)]::zv kvs::H) (fun v H' => ∃ (o:Sl tyGot 44) (ys:List (Sl tyB 5)) (K:List (Int×Lk×Nat)),o.l=ys.map (fun q => gotV q.v)∧ys.map (·.l)=(x.push l now).1∧Cs K mn last (if (x.push l now).2.2.1=true then delP i P else setP i (.str (x.push l now).2.2.2 (sz + l.length)) P)∧v = .tuple #[.slice o.A o.l.length o.C,int (x.push l now).2.1]∧H' = o.s::zas ys::O0 c most idle buffer last mb::[(mb,mapG kyI Lk.v K mn)]::zv K::H):=by
 obtain ⟨lk,hG,hg⟩:=all_at hc.all hat
 cases hg with
 | str hp hk hs =>
  rename_i X
  subst hp
  have hcl:X.closing=false:=hcl
  have hw:inT X.wh:=hc.wh_at hG
  refine SCalls.sepR (SCalls.flat (zaW [(O4 X.b X.ch.v X.sd X.client X.wh X.buffer X.wait.A X.wait.l.length X.wait.C X.closing false X.r),(O1 X.r 65535 X.br X.y.A X.y.l.length X.y.C (X.off:Int) X.lr X.e),X.ch.s,X.wait.s,X.y.s,zv (delG i kvs)] ((zef hG).trans (zc9 X _))) (by rw [hcl]; exact push_str (H:=zv (delG i kvs)::H) hm hG hk (h.up _) hT hl7 hcl (by omega))) ?_
  rintro v H1 ⟨o,ys,x',cl,h1,h2,h3,h4,h5,h6,h7,rfl,rfl⟩
  obtain ⟨K,hK,hS⟩:=ziR (w0:=w0) (base:=base) (H:=H) (cl:=cl) (most:=most) (idle:=idle) (buffer:=buffer) (c:=c) (mb:=mb) hc hG h6 h3 h5 (sz':=sz + l.length) (by omega) (by show inT (max X.wh now); have h8:0≤X.wh∧X.wh≤1099511627776:=hw; have h9:0≤now∧now≤1099511627776:=hT; show 0≤max X.wh now∧max X.wh now≤1099511627776; omega) [o.s,zas ys]
  exact ⟨_,hS,o,ys,K,h1,h2,by rw [← h4]; exact hK,Z,Z⟩
theorem btake_str {w0:World}{base:Nat}{H:List Seg}{c mb:Nat}{most idle buffer last:Int}{kvs:List (Int×Lk×Nat)}{mn:Nat}{P:List (Int×LkV)}{i now:Int}{x:StrV}{sz m:Nat}(hm:¬ most=0) (hc:Cs kvs mn last P) (hat:atP i P=some (.str x sz)) (hT:inT now) (hw:x.wait.length≤1073741824) :
  SCalls Tryz.prog 16 [(B c),int i,int (m:Int),int now] w0 base (O0 c most idle buffer last mb::[(mb,mapG kyI Lk.v kvs mn)]::zv kvs::H) (fun v H' => ∃ (o:Sl tyB 5) (K:List (Int×Lk×Nat)),o.l=(x.take m now).1∧Cs K mn last (if (x.take m now).2.1=true then delP i P else setP i (.str (x.take m now).2.2 sz) P)∧v = .tuple #[.slice o.A o.l.length o.C,int 0]∧H' = o.s::O0 c most idle buffer last mb::[(mb,mapG kyI Lk.v K mn)]::zv K::H):=by
 obtain ⟨lk,hG,hg⟩:=all_at hc.all hat
 cases hg with
 | str hp hk hs =>
  rename_i X
  subst hp
  have hwh:inT X.wh:=hc.wh_at hG
  refine SCalls.sepR (SCalls.flat (zaW [(O4 X.b X.ch.v X.sd X.client X.wh X.buffer X.wait.A X.wait.l.length X.wait.C X.closing false X.r),(O1 X.r 65535 X.br X.y.A X.y.l.length X.y.C (X.off:Int) X.lr X.e),X.ch.s,X.wait.s,X.y.s,zv (delG i kvs)] ((zef hG).trans (zc9 X _))) (take_str (H:=zv (delG i kvs)::H) hm hG hk m hT hw)) ?_
  rintro v H1 ⟨o,x',cl,h1,h2,h3,h4,⟨h5,h6⟩,rfl,rfl⟩
  have hsz' : x'.ch.y.l.length + x'.y.l.length≤sz:=by rw [h6,show x'.ch.y.l=x'.p.ch.k from rfl,h3]; exact hs
  obtain ⟨K,hK,hS⟩:=ziR (w0:=w0) (base:=base) (H:=H) (cl:=cl) (most:=most) (idle:=idle) (buffer:=buffer) (c:=c) (mb:=mb) hc hG h5 h3 h2 (sz':=sz) hsz' (by show inT (if 0 < min m X.p.wait.length then max X.wh now else X.wh); split; (have h8:0≤X.wh∧X.wh≤1099511627776:=hwh; have h9:0≤now∧now≤1099511627776:=hT; show 0≤max X.wh now∧max X.wh now≤1099511627776; omega); exact hwh) [o.s]
  exact ⟨_,hS,o,K,h1,by rw [← h4]; exact hK,Z,Z⟩
theorem zk0 {w0:World}{base:Nat}{H:List Seg}{c mb:Nat}{most idle buffer last:Int}{kvs:List (Int×Lk×Nat)}{mn:Nat}{P:List (Int×LkV)}{i slot:Int}{x:StrV}{sz:Nat}{A:Option Addr}{C:Nat}{l:List UInt8}(hm:¬ most=0) (hc:Cs kvs mn last P) (hat:atP i P=some (.str x sz)) (h:Rd tyB w0 base H A C l) (hl:l.length≤1000000) (hw:x.wait.length≤1073741824) :
  SCalls Tryz.prog 15 [(B c),int i,int slot,.slice A l.length C] w0 base (O0 c most idle buffer last mb::[(mb,mapG kyI Lk.v kvs mn)]::zv kvs::H) (fun v H' => ∃ K:List (Int×Lk×Nat),Cs K mn last (if (x.answer slot l).2.1=true then delP i P else setP i (.str (x.answer slot l).2.2 sz) P)∧v=int (x.answer slot l).1∧H' = (O0 c most idle buffer last mb)::[(mb,mapG kyI Lk.v K mn)]::zv K::H):=by
 obtain ⟨lk,hG,hg⟩:=all_at hc.all hat
 cases hg with
 | str hp hk hs =>
  rename_i X
  subst hp
  have hwh:inT X.wh:=hc.wh_at hG
  refine SCalls.sepR (SCalls.flat (zaW [(O4 X.b X.ch.v X.sd X.client X.wh X.buffer X.wait.A X.wait.l.length X.wait.C X.closing false X.r),(O1 X.r 65535 X.br X.y.A X.y.l.length X.y.C (X.off:Int) X.lr X.e),X.ch.s,X.wait.s,X.y.s,zv (delG i kvs)] ((zef hG).trans (zc9 X _))) (zie (H:=zv (delG i kvs)::H) hm hG hk slot (h.up _) hl hw)) ?_
  rintro v H1 ⟨x',cl,h1,h2,h3,⟨h4,h6⟩,rfl,rfl⟩
  have hsz' : x'.ch.y.l.length + x'.y.l.length≤sz:=by rw [h6,show x'.ch.y.l=x'.p.ch.k from rfl,h2,answer_k]; exact hs
  obtain ⟨K,hK,hS⟩:=ziR (w0:=w0) (base:=base) (H:=H) (cl:=cl) (most:=most) (idle:=idle) (buffer:=buffer) (c:=c) (mb:=mb) hc hG h4 h2 h1 (sz':=sz) hsz' (by rw [zke]; exact hwh) []
  exact ⟨_,hS,K,by rw [← h3]; exact hK,Z,Z⟩
end Go.Proofs.YtbfabhdfmoiabaaGreatDoor
