/- The parts of the proof that this law needs, in the order of their texts: the logic of walks, the plain laws, the walks. -/
import Derived.Test.YtbfabhdfmoiabaaGreatDoorQFD
namespace Go.Proofs.YtbfabhdfmoiabaaGreatDoor
set_option maxHeartbeats 400000
set_option linter.unusedVariables false
set_option linter.unusedSimpArgs false
set_option maxRecDepth 100000
theorem slow_241 {w0:World}{base:Nat}{H:List Seg}{A:Option Addr}{C:Nat}{l:List UInt8}(h:Rd tyB w0 base H A C l) (T:Tabs w0 base) (hl:l≠[]) (hx:(Lib.firstT (l.getD 0 0).toNat:Int)=241)  :
  SCalls Tryz.prog 152 [.slice A l.length C] w0 base (H) (fun v H' => ∃ (r:Int) (n:Nat),v = .tuple #[.int .i32 r,int (n:Int)]∧zhw l r n∧H' = H):=by
 have hpos:=List.length_pos_iff.2 hl
 have hcap:=h.cap
 have hle:=h.le
 have hb0:=zbv (l.getD 0 0)
 have hb1:=zbv (l.getD 1 0)
 have hb2:=zbv (l.getD 2 0)
 have hb3:=zbv (l.getD 3 0)
 refine SCalls.of_walk (n:=122) Tryz.func152 Z Z Z fun cs => ?_
 refine zc<|za<|AtL.assign zg0 Z Z<|AtL.assign zg0 Z Z<|AtL.done<|zc ?_
 refine za<|zb zg0 Z Z<|zC Tryz.underlying34 zg0 Z Z<|AtL.assign zg0 Z Z<|AtL.done<|zc ?_
 refine zc<|za<|zb zg0 Z Z<|zA zg0 Z Z Z<|AtL.done ?_
 refine zU false Z (decide_eq_false (by omega))<|zj<|zc<|za<|zb zg0 Z Z ?_
 refine zF 0 h Tryz.underlying34 zQ zg0 Z Z Z Z (by omega) ?_
 refine zh (v:=.int .u8 ((l.getD 0 0).toNat:Int)) zS zg0 Z Z (zH h (zz 0 (by omega)) Z)<|AtL.assign zg0 Z Z<|AtL.done<|zc<|za<|zb zg0 Z Z ?_
 refine zat (a:=⟨3,0,none⟩) ((l.getD 0 0).toNat) Tryz.underlying238 zQ zg0 Z Z Z Z (by omega)<|zh (v:=.int .u8 241) zS zg0 Z Z (T.one (l.getD 0 0) hx)<|AtL.assign zg0 Z Z<|AtL.done<|zc<|zc ?_
 refine za<|zb zg0 Z Z<|zbu zg0 Z Z Z<|AtL.done<|zX Z<|zc ?_
 refine za<|zb zg0 Z Z ?_
 refine zN (z:=241) Tryz.underlying5 Tryz.underlying21 zg0 Z Z (by decide) ?_
 refine zbG (z:=(-2147483648)) zg0 Z Z Z (by decide) (by decide) ?_
 refine zcS (z:=(-1)) zg0 Z Z Z (by decide) (by decide)<|AtL.assign zg0 Z Z<|AtL.done<|zc<|za<|zb zg0 Z Z ?_
 refine zF 0 h Tryz.underlying34 zQ zg0 Z Z Z Z (by omega) ?_
 refine zh (v:=.int .u8 ((l.getD 0 0).toNat:Int)) zS zg0 Z Z (zH h (zz 0 (by omega)) Z) ?_
 have hB1:=zbv ((l.getD 0 0))
 refine zN (z:=((l.getD 0 0).toNat:Int)) Tryz.underlying5 Tryz.underlying21 zg0 Z Z (w32i (by omega) (by omega))<|zb zg0 Z Z<|zli (z:=0) zg0 Z Z Z (zk5 _)<|zb zg0 Z Z ?_
 refine zaI (z:=65533) zg0 Z Z Z (by decide) ?_
 refine zbH (z:=65533) zg0 Z Z Z (by decide)<|AtL.assign zg0 Z Z<|AtL.assign zg0 Z Z<|AtL.done ?_
 exact zt Tryz.func152 Z Z (⟨_,1,Z,⟨by omega,by omega,fun i h1 h2 => by omega,.inl Z⟩,Z⟩)
theorem slow_2 {w0:World}{base:Nat}{H:List Seg}{A:Option Addr}{C:Nat}{l:List UInt8}(h:Rd tyB w0 base H A C l) (T:Tabs w0 base) (hl:l≠[]) (hx:(Lib.firstT (l.getD 0 0).toNat:Int)=2) (hp:194≤(l.getD 0 0).toNat∧(l.getD 0 0).toNat < 224) :
  SCalls Tryz.prog 152 [.slice A l.length C] w0 base (H) (fun v H' => ∃ (r:Int) (n:Nat),v = .tuple #[.int .i32 r,int (n:Int)]∧zhw l r n∧H' = H):=by
 have hpos:=List.length_pos_iff.2 hl
 have hcap:=h.cap
 have hle:=h.le
 have hb0:=zbv (l.getD 0 0)
 have hb1:=zbv (l.getD 1 0)
 have hb2:=zbv (l.getD 2 0)
 have hb3:=zbv (l.getD 3 0)
 refine SCalls.of_walk (n:=122) Tryz.func152 Z Z Z fun cs => ?_
 refine zc<|za<|AtL.assign zg0 Z Z<|AtL.assign zg0 Z Z<|AtL.done<|zc ?_
 refine za<|zb zg0 Z Z<|zC Tryz.underlying34 zg0 Z Z<|AtL.assign zg0 Z Z<|AtL.done<|zc ?_
 refine zc<|za<|zb zg0 Z Z<|zA zg0 Z Z Z<|AtL.done ?_
 refine zU false Z (decide_eq_false (by omega))<|zj<|zc<|za<|zb zg0 Z Z ?_
 refine zF 0 h Tryz.underlying34 zQ zg0 Z Z Z Z (by omega) ?_
 refine zh (v:=.int .u8 ((l.getD 0 0).toNat:Int)) zS zg0 Z Z (zH h (zz 0 (by omega)) Z)<|AtL.assign zg0 Z Z<|AtL.done<|zc<|za<|zb zg0 Z Z ?_
 refine zat (a:=⟨3,0,none⟩) ((l.getD 0 0).toNat) Tryz.underlying238 zQ zg0 Z Z Z Z (by omega)<|zh (v:=.int .u8 2) zS zg0 Z Z (T.one (l.getD 0 0) hx)<|AtL.assign zg0 Z Z<|AtL.done<|zc<|zc ?_
 refine za<|zb zg0 Z Z<|zbu zg0 Z Z Z<|AtL.done<|zB Z<|zj ?_
 refine zc<|za<|zb zg0 Z Z ?_
 refine zaI (z:=2) zg0 Z Z Z (by decide) ?_
 refine zN (z:=2) Tryz.underlying5 Tryz.underlying3 zg0 Z Z (by decide)<|AtL.assign zg0 Z Z<|AtL.done<|zc<|za<|zb zg0 Z Z ?_
 refine zcS (z:=0) zg0 Z Z Z (by decide) (by decide) ?_
 refine zat (a:=⟨4,0,none⟩) 0 Tryz.underlying241 zbR zg0 Z Z Z Z (by omega) ?_
 refine zay (cs:=[.int .u8 128,.int .u8 191]) zc8 zg0 Z Z Z (T.two 0 (by decide) (by decide) (by decide))<|AtL.alloc zcx (cs:=#[.int .u8 0,.int .u8 0]) Z zg0 Z ?_
 intro b1
 refine zr (H':=[(b1,.cells #[.int .u8 128,.int .u8 191] 240 (0,0))]::H) 0 0 zbR zg0 Z Z Z Z Z Z Z Z Z<|AtL.done<|zc<|zc<|za<|zb zg0 Z Z ?_
 refine zb zg0 Z Z<|zA zg0 Z Z Z<|AtL.done<|zq Z ?_ ?_
 ·intro hc3
  refine zc<|za<|AtL.assign zg0 Z Z<|AtL.assign zg0 Z Z<|AtL.done<|At.pick [] 1 Z Z ?_
  exact zt Tryz.func152 Z Z (⟨_,1,Z,⟨by omega,by omega,fun i h1 h2 => by omega,.inl Z⟩,Z⟩)
 ·intro hc3
  refine zj<|zc<|za<|zb zg0 Z Z ?_
  refine zF 1 (Rd.skip 1 h) Tryz.underlying34 zQ zg0 Z Z Z Z (by omega) ?_
  refine zh (v:=.int .u8 ((l.getD 1 0).toNat:Int)) zS zg0 Z Z (zH (Rd.skip 1 h) (zz 0 (by omega)) Z)<|AtL.assign zg0 Z Z<|AtL.done<|zc<|zc<|za ?_
  refine zb zg0 Z Z<|zd zcz zg0 Z Z Z<|zh zS zg0 Z Z (Cell.own 0 0 Z Z Z)<|zA zg0 Z Z Z<|zb zg0 Z Z<|zy 5 (E':=[(60,.bool (decide ((((l.getD 1 0).toNat:Int) < 128)∨(191 < ((l.getD 1 0).toNat:Int))))),(0,.slice A l.length C),(5,.int .u8 ((l.getD 0 0).toNat:Int)),(8,V 2),(10,.int .u8 ((l.getD 1 0).toNat:Int))]) (fun J => ?_) ?_
  ·refine zD (t:=55) Z ?_ ?_
   ·intro hs55
    refine ze Z Z Z Z Z Z<|ze Z Z Z Z Z Z<|ze Z Z Z Z Z Z<|ze Z Z Z Z Z Z<|zn zg0 Z Z Z ?_
    exact J _ (by exact ⟨(zw (by clear J; first | (simp [hs55]; done) | (simp_all; done) | grind)),Z,Z,Z,Z,trivial⟩)
   ·intro hs55
    refine zd zcy (.inr ⟨_,_,_,Z,Z,Z,Z⟩) Z Z Z<|zh zS (.inr ⟨_,_,_,Z,Z,Z,Z⟩) Z Z (Cell.own 0 0 Z Z Z)<|zb (.inr ⟨_,_,_,Z,Z,Z,Z⟩) Z Z<|zA (.inr ⟨_,_,_,Z,Z,Z,Z⟩) Z Z Z<|zm zg0 Z Z Z ?_
    exact J _ (by exact ⟨(zw (by clear J; first | (simp [hs55]; done) | (simp_all; done) | grind)),Z,Z,Z,Z,trivial⟩)
  ·refine AtL.done<|zq Z ?_ ?_
   ·intro hc4
    refine zc<|za<|AtL.assign zg0 Z Z<|AtL.assign zg0 Z Z<|AtL.done<|At.pick [] 1 Z Z ?_
    exact zt Tryz.func152 Z Z (⟨_,1,Z,⟨by omega,by omega,fun i h1 h2 => by omega,.inl Z⟩,Z⟩)
   ·intro hc4
    refine zj<|zc<|zc<|za<|zb zg0 Z Z<|zbd zg0 Z Z Z ?_
    refine AtL.done<|zX Z<|zc<|za<|zb zg0 Z Z ?_
    refine zaI (z:=((l.getD 0 0).toNat:Int) % 32) zg0 Z Z Z (and8 5 (by decide) (by omega) (by omega)) ?_
    refine zN (z:=((l.getD 0 0).toNat:Int) % 32) Tryz.underlying5 Tryz.underlying21 zg0 Z Z (w32i (by omega) (by omega)) ?_
    refine zbG (z:=(((l.getD 0 0).toNat:Int) % 32) * 64) zg0 Z Z Z (by omega) (zbw _ _ 6 Z (by decide) _ (by decide) (by omega) (by omega))<|zb zg0 Z Z ?_
    refine zaI (z:=((l.getD 1 0).toNat:Int) % 64) zg0 Z Z Z (and8 6 (by decide) (by omega) (by omega)) ?_
    refine zN (z:=((l.getD 1 0).toNat:Int) % 64) Tryz.underlying5 Tryz.underlying21 zg0 Z Z (w32i (by omega) (by omega)) ?_
    obtain ⟨z2,hz2,hz2a,hz2b,hz2c⟩:=or32 (a:=(((l.getD 0 0).toNat:Int) % 32) * 64) (b:=((l.getD 1 0).toNat:Int) % 64) 31 (by decide) (by omega) (by omega) (by omega) (by omega)
    refine zbH (z:=z2) zg0 Z Z Z hz2<|AtL.assign zg0 Z Z<|AtL.assign zg0 Z Z<|AtL.done<|At.pick [] 1 Z Z ?_
    exact zt Tryz.func152 Z Z (⟨_,2,Z,⟨by omega,by omega,fun i h1 h2 => (by obtain rfl:i=1:=(by omega); omega),.inr (.inl Z)⟩,Z⟩)
theorem slow_19 {w0:World}{base:Nat}{H:List Seg}{A:Option Addr}{C:Nat}{l:List UInt8}(h:Rd tyB w0 base H A C l) (T:Tabs w0 base) (hl:l≠[]) (hx:(Lib.firstT (l.getD 0 0).toNat:Int)=19) (hp:(l.getD 0 0).toNat=224) :
  SCalls Tryz.prog 152 [.slice A l.length C] w0 base (H) (fun v H' => ∃ (r:Int) (n:Nat),v = .tuple #[.int .i32 r,int (n:Int)]∧zhw l r n∧H' = H):=by
 have hpos:=List.length_pos_iff.2 hl
 have hcap:=h.cap
 have hle:=h.le
 have hb0:=zbv (l.getD 0 0)
 have hb1:=zbv (l.getD 1 0)
 have hb2:=zbv (l.getD 2 0)
 have hb3:=zbv (l.getD 3 0)
 refine SCalls.of_walk (n:=122) Tryz.func152 Z Z Z fun cs => ?_
 refine zc<|za<|AtL.assign zg0 Z Z<|AtL.assign zg0 Z Z<|AtL.done<|zc ?_
 refine za<|zb zg0 Z Z<|zC Tryz.underlying34 zg0 Z Z<|AtL.assign zg0 Z Z<|AtL.done<|zc ?_
 refine zc<|za<|zb zg0 Z Z<|zA zg0 Z Z Z<|AtL.done ?_
 refine zU false Z (decide_eq_false (by omega))<|zj<|zc<|za<|zb zg0 Z Z ?_
 refine zF 0 h Tryz.underlying34 zQ zg0 Z Z Z Z (by omega) ?_
 refine zh (v:=.int .u8 ((l.getD 0 0).toNat:Int)) zS zg0 Z Z (zH h (zz 0 (by omega)) Z)<|AtL.assign zg0 Z Z<|AtL.done<|zc<|za<|zb zg0 Z Z ?_
 refine zat (a:=⟨3,0,none⟩) ((l.getD 0 0).toNat) Tryz.underlying238 zQ zg0 Z Z Z Z (by omega)<|zh (v:=.int .u8 19) zS zg0 Z Z (T.one (l.getD 0 0) hx)<|AtL.assign zg0 Z Z<|AtL.done<|zc<|zc ?_
 refine za<|zb zg0 Z Z<|zbu zg0 Z Z Z<|AtL.done<|zB Z<|zj ?_
 refine zc<|za<|zb zg0 Z Z ?_
 refine zaI (z:=3) zg0 Z Z Z (by decide) ?_
 refine zN (z:=3) Tryz.underlying5 Tryz.underlying3 zg0 Z Z (by decide)<|AtL.assign zg0 Z Z<|AtL.done<|zc<|za<|zb zg0 Z Z ?_
 refine zcS (z:=1) zg0 Z Z Z (by decide) (by decide) ?_
 refine zat (a:=⟨4,0,none⟩) 1 Tryz.underlying241 zbR zg0 Z Z Z Z (by omega) ?_
 refine zay (cs:=[.int .u8 160,.int .u8 191]) zc8 zg0 Z Z Z (T.two 1 (by decide) (by decide) (by decide))<|AtL.alloc zcx (cs:=#[.int .u8 0,.int .u8 0]) Z zg0 Z ?_
 intro b1
 refine zr (H':=[(b1,.cells #[.int .u8 160,.int .u8 191] 240 (0,0))]::H) 0 0 zbR zg0 Z Z Z Z Z Z Z Z Z<|AtL.done<|zc<|zc<|za<|zb zg0 Z Z ?_
 refine zb zg0 Z Z<|zA zg0 Z Z Z<|AtL.done<|zq Z ?_ ?_
 ·intro hc3
  refine zc<|za<|AtL.assign zg0 Z Z<|AtL.assign zg0 Z Z<|AtL.done<|At.pick [] 1 Z Z ?_
  exact zt Tryz.func152 Z Z (⟨_,1,Z,⟨by omega,by omega,fun i h1 h2 => by omega,.inl Z⟩,Z⟩)
 ·intro hc3
  refine zj<|zc<|za<|zb zg0 Z Z ?_
  refine zF 1 (Rd.skip 1 h) Tryz.underlying34 zQ zg0 Z Z Z Z (by omega) ?_
  refine zh (v:=.int .u8 ((l.getD 1 0).toNat:Int)) zS zg0 Z Z (zH (Rd.skip 1 h) (zz 0 (by omega)) Z)<|AtL.assign zg0 Z Z<|AtL.done<|zc<|zc<|za ?_
  refine zb zg0 Z Z<|zd zcz zg0 Z Z Z<|zh zS zg0 Z Z (Cell.own 0 0 Z Z Z)<|zA zg0 Z Z Z<|zb zg0 Z Z<|zy 5 (E':=[(60,.bool (decide ((((l.getD 1 0).toNat:Int) < 160)∨(191 < ((l.getD 1 0).toNat:Int))))),(0,.slice A l.length C),(5,.int .u8 ((l.getD 0 0).toNat:Int)),(8,V 3),(10,.int .u8 ((l.getD 1 0).toNat:Int))]) (fun J => ?_) ?_
  ·refine zD (t:=55) Z ?_ ?_
   ·intro hs55
    refine ze Z Z Z Z Z Z<|ze Z Z Z Z Z Z<|ze Z Z Z Z Z Z<|ze Z Z Z Z Z Z<|zn zg0 Z Z Z ?_
    exact J _ (by exact ⟨(zw (by clear J; first | (simp [hs55]; done) | (simp_all; done) | grind)),Z,Z,Z,Z,trivial⟩)
   ·intro hs55
    refine zd zcy (.inr ⟨_,_,_,Z,Z,Z,Z⟩) Z Z Z<|zh zS (.inr ⟨_,_,_,Z,Z,Z,Z⟩) Z Z (Cell.own 0 0 Z Z Z)<|zb (.inr ⟨_,_,_,Z,Z,Z,Z⟩) Z Z<|zA (.inr ⟨_,_,_,Z,Z,Z,Z⟩) Z Z Z<|zm zg0 Z Z Z ?_
    exact J _ (by exact ⟨(zw (by clear J; first | (simp [hs55]; done) | (simp_all; done) | grind)),Z,Z,Z,Z,trivial⟩)
  ·refine AtL.done<|zq Z ?_ ?_
   ·intro hc4
    refine zc<|za<|AtL.assign zg0 Z Z<|AtL.assign zg0 Z Z<|AtL.done<|At.pick [] 1 Z Z ?_
    exact zt Tryz.func152 Z Z (⟨_,1,Z,⟨by omega,by omega,fun i h1 h2 => by omega,.inl Z⟩,Z⟩)
   ·intro hc4
    refine zj<|zc<|zc<|za<|zb zg0 Z Z<|zbd zg0 Z Z Z ?_
    refine AtL.done<|zB Z<|zj<|zc<|za<|zb zg0 Z Z ?_
    refine zF 2 (Rd.skip 1 h) Tryz.underlying34 zQ zg0 Z Z Z Z (by omega) ?_
    refine zh (v:=.int .u8 ((l.getD 2 0).toNat:Int)) zS zg0 Z Z (zH (Rd.skip 1 h) (zz 0 (by omega)) Z)<|AtL.assign zg0 Z Z<|AtL.done<|zc<|zc<|za ?_
    refine zb zg0 Z Z<|zA zg0 Z Z Z<|zb zg0 Z Z<|zy 3 (E':=[(79,.bool (decide ((((l.getD 2 0).toNat:Int) < 128)∨(191 < ((l.getD 2 0).toNat:Int))))),(0,.slice A l.length C),(5,.int .u8 ((l.getD 0 0).toNat:Int)),(8,V 3),(10,.int .u8 ((l.getD 1 0).toNat:Int)),(11,.int .u8 ((l.getD 2 0).toNat:Int))]) (fun J => ?_) ?_
    ·refine zD (t:=76) Z ?_ ?_
     ·intro hs76
      refine ze Z Z Z Z Z Z<|ze Z Z Z Z Z Z<|zn zg0 Z Z Z ?_
      exact J _ (by exact ⟨(zw (by clear J; first | (simp [hs76]; done) | (simp_all; done) | grind)),Z,Z,Z,Z,Z,trivial⟩)
     ·intro hs76
      refine zb (.inr ⟨_,_,_,Z,Z,Z,Z⟩) Z Z<|zA (.inr ⟨_,_,_,Z,Z,Z,Z⟩) Z Z Z<|zm zg0 Z Z Z ?_
      exact J _ (by exact ⟨(zw (by clear J; first | (simp [hs76]; done) | (simp_all; done) | grind)),Z,Z,Z,Z,Z,trivial⟩)
    ·refine AtL.done<|zq Z ?_ ?_
     ·intro hc6
      refine zc<|za<|AtL.assign zg0 Z Z<|AtL.assign zg0 Z Z<|AtL.done<|At.pick [] 1 Z Z ?_
      exact zt Tryz.func152 Z Z (⟨_,1,Z,⟨by omega,by omega,fun i h1 h2 => by omega,.inl Z⟩,Z⟩)
     ·intro hc6
      refine zj<|zc<|zc<|za<|zb zg0 Z Z<|zbd zg0 Z Z Z ?_
      refine AtL.done<|zX Z<|zc<|za<|zb zg0 Z Z ?_
      refine zaI (z:=((l.getD 0 0).toNat:Int) % 16) zg0 Z Z Z (and8 4 (by decide) (by omega) (by omega)) ?_
      refine zN (z:=((l.getD 0 0).toNat:Int) % 16) Tryz.underlying5 Tryz.underlying21 zg0 Z Z (w32i (by omega) (by omega)) ?_
      refine zbG (z:=(((l.getD 0 0).toNat:Int) % 16) * 4096) zg0 Z Z Z (by omega) (zbw _ _ 12 Z (by decide) _ (by decide) (by omega) (by omega))<|zb zg0 Z Z ?_
      refine zaI (z:=((l.getD 1 0).toNat:Int) % 64) zg0 Z Z Z (and8 6 (by decide) (by omega) (by omega)) ?_
      refine zN (z:=((l.getD 1 0).toNat:Int) % 64) Tryz.underlying5 Tryz.underlying21 zg0 Z Z (w32i (by omega) (by omega)) ?_
      refine zbG (z:=(((l.getD 1 0).toNat:Int) % 64) * 64) zg0 Z Z Z (by omega) (zbw _ _ 6 Z (by decide) _ (by decide) (by omega) (by omega)) ?_
      obtain ⟨z2,hz2,hz2a,hz2b,hz2c⟩:=or32 (a:=(((l.getD 0 0).toNat:Int) % 16) * 4096) (b:=(((l.getD 1 0).toNat:Int) % 64) * 64) 16 (by decide) (by omega) (by omega) (by omega) (by omega)
      refine zbH (z:=z2) zg0 Z Z Z hz2<|zb zg0 Z Z ?_
      refine zaI (z:=((l.getD 2 0).toNat:Int) % 64) zg0 Z Z Z (and8 6 (by decide) (by omega) (by omega)) ?_
      refine zN (z:=((l.getD 2 0).toNat:Int) % 64) Tryz.underlying5 Tryz.underlying21 zg0 Z Z (w32i (by omega) (by omega)) ?_
      obtain ⟨z3,hz3,hz3a,hz3b,hz3c⟩:=or32 (a:=z2) (b:=((l.getD 2 0).toNat:Int) % 64) 16 (by decide) (by omega) (by omega) (by omega) (by omega)
      refine zbH (z:=z3) zg0 Z Z Z hz3<|AtL.assign zg0 Z Z<|AtL.assign zg0 Z Z<|AtL.done<|At.pick [] 1 Z Z ?_
      exact zt Tryz.func152 Z Z (⟨_,3,Z,⟨by omega,by omega,fun i h1 h2 => (by rcases (show i=1∨i=2 by omega) with rfl | rfl <;> omega),.inr (.inr (.inl ⟨Z,by omega,by omega⟩))⟩,Z⟩)
theorem slow_3 {w0:World}{base:Nat}{H:List Seg}{A:Option Addr}{C:Nat}{l:List UInt8}(h:Rd tyB w0 base H A C l) (T:Tabs w0 base) (hl:l≠[]) (hx:(Lib.firstT (l.getD 0 0).toNat:Int)=3) (hp:(225≤(l.getD 0 0).toNat∧(l.getD 0 0).toNat < 240)) :
  SCalls Tryz.prog 152 [.slice A l.length C] w0 base (H) (fun v H' => ∃ (r:Int) (n:Nat),v = .tuple #[.int .i32 r,int (n:Int)]∧zhw l r n∧H' = H):=by
 have hpos:=List.length_pos_iff.2 hl
 have hcap:=h.cap
 have hle:=h.le
 have hb0:=zbv (l.getD 0 0)
 have hb1:=zbv (l.getD 1 0)
 have hb2:=zbv (l.getD 2 0)
 have hb3:=zbv (l.getD 3 0)
 refine SCalls.of_walk (n:=122) Tryz.func152 Z Z Z fun cs => ?_
 refine zc<|za<|AtL.assign zg0 Z Z<|AtL.assign zg0 Z Z<|AtL.done<|zc ?_
 refine za<|zb zg0 Z Z<|zC Tryz.underlying34 zg0 Z Z<|AtL.assign zg0 Z Z<|AtL.done<|zc ?_
 refine zc<|za<|zb zg0 Z Z<|zA zg0 Z Z Z<|AtL.done ?_
 refine zU false Z (decide_eq_false (by omega))<|zj<|zc<|za<|zb zg0 Z Z ?_
 refine zF 0 h Tryz.underlying34 zQ zg0 Z Z Z Z (by omega) ?_
 refine zh (v:=.int .u8 ((l.getD 0 0).toNat:Int)) zS zg0 Z Z (zH h (zz 0 (by omega)) Z)<|AtL.assign zg0 Z Z<|AtL.done<|zc<|za<|zb zg0 Z Z ?_
 refine zat (a:=⟨3,0,none⟩) ((l.getD 0 0).toNat) Tryz.underlying238 zQ zg0 Z Z Z Z (by omega)<|zh (v:=.int .u8 3) zS zg0 Z Z (T.one (l.getD 0 0) hx)<|AtL.assign zg0 Z Z<|AtL.done<|zc<|zc ?_
 refine za<|zb zg0 Z Z<|zbu zg0 Z Z Z<|AtL.done<|zB Z<|zj ?_
 refine zc<|za<|zb zg0 Z Z ?_
 refine zaI (z:=3) zg0 Z Z Z (by decide) ?_
 refine zN (z:=3) Tryz.underlying5 Tryz.underlying3 zg0 Z Z (by decide)<|AtL.assign zg0 Z Z<|AtL.done<|zc<|za<|zb zg0 Z Z ?_
 refine zcS (z:=0) zg0 Z Z Z (by decide) (by decide) ?_
 refine zat (a:=⟨4,0,none⟩) 0 Tryz.underlying241 zbR zg0 Z Z Z Z (by omega) ?_
 refine zay (cs:=[.int .u8 128,.int .u8 191]) zc8 zg0 Z Z Z (T.two 0 (by decide) (by decide) (by decide))<|AtL.alloc zcx (cs:=#[.int .u8 0,.int .u8 0]) Z zg0 Z ?_
 intro b1
 refine zr (H':=[(b1,.cells #[.int .u8 128,.int .u8 191] 240 (0,0))]::H) 0 0 zbR zg0 Z Z Z Z Z Z Z Z Z<|AtL.done<|zc<|zc<|za<|zb zg0 Z Z ?_
 refine zb zg0 Z Z<|zA zg0 Z Z Z<|AtL.done<|zq Z ?_ ?_
 ·intro hc3
  refine zc<|za<|AtL.assign zg0 Z Z<|AtL.assign zg0 Z Z<|AtL.done<|At.pick [] 1 Z Z ?_
  exact zt Tryz.func152 Z Z (⟨_,1,Z,⟨by omega,by omega,fun i h1 h2 => by omega,.inl Z⟩,Z⟩)
 ·intro hc3
  refine zj<|zc<|za<|zb zg0 Z Z ?_
  refine zF 1 (Rd.skip 1 h) Tryz.underlying34 zQ zg0 Z Z Z Z (by omega) ?_
  refine zh (v:=.int .u8 ((l.getD 1 0).toNat:Int)) zS zg0 Z Z (zH (Rd.skip 1 h) (zz 0 (by omega)) Z)<|AtL.assign zg0 Z Z<|AtL.done<|zc<|zc<|za ?_
  refine zb zg0 Z Z<|zd zcz zg0 Z Z Z<|zh zS zg0 Z Z (Cell.own 0 0 Z Z Z)<|zA zg0 Z Z Z<|zb zg0 Z Z<|zy 5 (E':=[(60,.bool (decide ((((l.getD 1 0).toNat:Int) < 128)∨(191 < ((l.getD 1 0).toNat:Int))))),(0,.slice A l.length C),(5,.int .u8 ((l.getD 0 0).toNat:Int)),(8,V 3),(10,.int .u8 ((l.getD 1 0).toNat:Int))]) (fun J => ?_) ?_
  ·refine zD (t:=55) Z ?_ ?_
   ·intro hs55
    refine ze Z Z Z Z Z Z<|ze Z Z Z Z Z Z<|ze Z Z Z Z Z Z<|ze Z Z Z Z Z Z<|zn zg0 Z Z Z ?_
    exact J _ (by exact ⟨(zw (by clear J; first | (simp [hs55]; done) | (simp_all; done) | grind)),Z,Z,Z,Z,trivial⟩)
   ·intro hs55
    refine zd zcy (.inr ⟨_,_,_,Z,Z,Z,Z⟩) Z Z Z<|zh zS (.inr ⟨_,_,_,Z,Z,Z,Z⟩) Z Z (Cell.own 0 0 Z Z Z)<|zb (.inr ⟨_,_,_,Z,Z,Z,Z⟩) Z Z<|zA (.inr ⟨_,_,_,Z,Z,Z,Z⟩) Z Z Z<|zm zg0 Z Z Z ?_
    exact J _ (by exact ⟨(zw (by clear J; first | (simp [hs55]; done) | (simp_all; done) | grind)),Z,Z,Z,Z,trivial⟩)
  ·refine AtL.done<|zq Z ?_ ?_
   ·intro hc4
    refine zc<|za<|AtL.assign zg0 Z Z<|AtL.assign zg0 Z Z<|AtL.done<|At.pick [] 1 Z Z ?_
    exact zt Tryz.func152 Z Z (⟨_,1,Z,⟨by omega,by omega,fun i h1 h2 => by omega,.inl Z⟩,Z⟩)
   ·intro hc4
    refine zj<|zc<|zc<|za<|zb zg0 Z Z<|zbd zg0 Z Z Z ?_
    refine AtL.done<|zB Z<|zj<|zc<|za<|zb zg0 Z Z ?_
    refine zF 2 (Rd.skip 1 h) Tryz.underlying34 zQ zg0 Z Z Z Z (by omega) ?_
    refine zh (v:=.int .u8 ((l.getD 2 0).toNat:Int)) zS zg0 Z Z (zH (Rd.skip 1 h) (zz 0 (by omega)) Z)<|AtL.assign zg0 Z Z<|AtL.done<|zc<|zc<|za ?_
    refine zb zg0 Z Z<|zA zg0 Z Z Z<|zb zg0 Z Z<|zy 3 (E':=[(79,.bool (decide ((((l.getD 2 0).toNat:Int) < 128)∨(191 < ((l.getD 2 0).toNat:Int))))),(0,.slice A l.length C),(5,.int .u8 ((l.getD 0 0).toNat:Int)),(8,V 3),(10,.int .u8 ((l.getD 1 0).toNat:Int)),(11,.int .u8 ((l.getD 2 0).toNat:Int))]) (fun J => ?_) ?_
    ·refine zD (t:=76) Z ?_ ?_
     ·intro hs76
      refine ze Z Z Z Z Z Z<|ze Z Z Z Z Z Z<|zn zg0 Z Z Z ?_
      exact J _ (by exact ⟨(zw (by clear J; first | (simp [hs76]; done) | (simp_all; done) | grind)),Z,Z,Z,Z,Z,trivial⟩)
     ·intro hs76
      refine zb (.inr ⟨_,_,_,Z,Z,Z,Z⟩) Z Z<|zA (.inr ⟨_,_,_,Z,Z,Z,Z⟩) Z Z Z<|zm zg0 Z Z Z ?_
      exact J _ (by exact ⟨(zw (by clear J; first | (simp [hs76]; done) | (simp_all; done) | grind)),Z,Z,Z,Z,Z,trivial⟩)
    ·refine AtL.done<|zq Z ?_ ?_
     ·intro hc6
      refine zc<|za<|AtL.assign zg0 Z Z<|AtL.assign zg0 Z Z<|AtL.done<|At.pick [] 1 Z Z ?_
      exact zt Tryz.func152 Z Z (⟨_,1,Z,⟨by omega,by omega,fun i h1 h2 => by omega,.inl Z⟩,Z⟩)
     ·intro hc6
      refine zj<|zc<|zc<|za<|zb zg0 Z Z<|zbd zg0 Z Z Z ?_
      refine AtL.done<|zX Z<|zc<|za<|zb zg0 Z Z ?_
      refine zaI (z:=((l.getD 0 0).toNat:Int) % 16) zg0 Z Z Z (and8 4 (by decide) (by omega) (by omega)) ?_
      refine zN (z:=((l.getD 0 0).toNat:Int) % 16) Tryz.underlying5 Tryz.underlying21 zg0 Z Z (w32i (by omega) (by omega)) ?_
      refine zbG (z:=(((l.getD 0 0).toNat:Int) % 16) * 4096) zg0 Z Z Z (by omega) (zbw _ _ 12 Z (by decide) _ (by decide) (by omega) (by omega))<|zb zg0 Z Z ?_
      refine zaI (z:=((l.getD 1 0).toNat:Int) % 64) zg0 Z Z Z (and8 6 (by decide) (by omega) (by omega)) ?_
      refine zN (z:=((l.getD 1 0).toNat:Int) % 64) Tryz.underlying5 Tryz.underlying21 zg0 Z Z (w32i (by omega) (by omega)) ?_
      refine zbG (z:=(((l.getD 1 0).toNat:Int) % 64) * 64) zg0 Z Z Z (by omega) (zbw _ _ 6 Z (by decide) _ (by decide) (by omega) (by omega)) ?_
      obtain ⟨z2,hz2,hz2a,hz2b,hz2c⟩:=or32 (a:=(((l.getD 0 0).toNat:Int) % 16) * 4096) (b:=(((l.getD 1 0).toNat:Int) % 64) * 64) 16 (by decide) (by omega) (by omega) (by omega) (by omega)
      refine zbH (z:=z2) zg0 Z Z Z hz2<|zb zg0 Z Z ?_
      refine zaI (z:=((l.getD 2 0).toNat:Int) % 64) zg0 Z Z Z (and8 6 (by decide) (by omega) (by omega)) ?_
      refine zN (z:=((l.getD 2 0).toNat:Int) % 64) Tryz.underlying5 Tryz.underlying21 zg0 Z Z (w32i (by omega) (by omega)) ?_
      obtain ⟨z3,hz3,hz3a,hz3b,hz3c⟩:=or32 (a:=z2) (b:=((l.getD 2 0).toNat:Int) % 64) 16 (by decide) (by omega) (by omega) (by omega) (by omega)
      refine zbH (z:=z3) zg0 Z Z Z hz3<|AtL.assign zg0 Z Z<|AtL.assign zg0 Z Z<|AtL.done<|At.pick [] 1 Z Z ?_
      exact zt Tryz.func152 Z Z (⟨_,3,Z,⟨by omega,by omega,fun i h1 h2 => (by rcases (show i=1∨i=2 by omega) with rfl | rfl <;> omega),.inr (.inr (.inl ⟨Z,by omega,by omega⟩))⟩,Z⟩)
theorem slow_35 {w0:World}{base:Nat}{H:List Seg}{A:Option Addr}{C:Nat}{l:List UInt8}(h:Rd tyB w0 base H A C l) (T:Tabs w0 base) (hl:l≠[]) (hx:(Lib.firstT (l.getD 0 0).toNat:Int)=35) (hp:(l.getD 0 0).toNat=237) :
  SCalls Tryz.prog 152 [.slice A l.length C] w0 base (H) (fun v H' => ∃ (r:Int) (n:Nat),v = .tuple #[.int .i32 r,int (n:Int)]∧zhw l r n∧H' = H):=by
 have hpos:=List.length_pos_iff.2 hl
 have hcap:=h.cap
 have hle:=h.le
 have hb0:=zbv (l.getD 0 0)
 have hb1:=zbv (l.getD 1 0)
 have hb2:=zbv (l.getD 2 0)
 have hb3:=zbv (l.getD 3 0)
 refine SCalls.of_walk (n:=122) Tryz.func152 Z Z Z fun cs => ?_
 refine zc<|za<|AtL.assign zg0 Z Z<|AtL.assign zg0 Z Z<|AtL.done<|zc ?_
 refine za<|zb zg0 Z Z<|zC Tryz.underlying34 zg0 Z Z<|AtL.assign zg0 Z Z<|AtL.done<|zc ?_
 refine zc<|za<|zb zg0 Z Z<|zA zg0 Z Z Z<|AtL.done ?_
 refine zU false Z (decide_eq_false (by omega))<|zj<|zc<|za<|zb zg0 Z Z ?_
 refine zF 0 h Tryz.underlying34 zQ zg0 Z Z Z Z (by omega) ?_
 refine zh (v:=.int .u8 ((l.getD 0 0).toNat:Int)) zS zg0 Z Z (zH h (zz 0 (by omega)) Z)<|AtL.assign zg0 Z Z<|AtL.done<|zc<|za<|zb zg0 Z Z ?_
 refine zat (a:=⟨3,0,none⟩) ((l.getD 0 0).toNat) Tryz.underlying238 zQ zg0 Z Z Z Z (by omega)<|zh (v:=.int .u8 35) zS zg0 Z Z (T.one (l.getD 0 0) hx)<|AtL.assign zg0 Z Z<|AtL.done<|zc<|zc ?_
 refine za<|zb zg0 Z Z<|zbu zg0 Z Z Z<|AtL.done<|zB Z<|zj ?_
 refine zc<|za<|zb zg0 Z Z ?_
 refine zaI (z:=3) zg0 Z Z Z (by decide) ?_
 refine zN (z:=3) Tryz.underlying5 Tryz.underlying3 zg0 Z Z (by decide)<|AtL.assign zg0 Z Z<|AtL.done<|zc<|za<|zb zg0 Z Z ?_
 refine zcS (z:=2) zg0 Z Z Z (by decide) (by decide) ?_
 refine zat (a:=⟨4,0,none⟩) 2 Tryz.underlying241 zbR zg0 Z Z Z Z (by omega) ?_
 refine zay (cs:=[.int .u8 128,.int .u8 159]) zc8 zg0 Z Z Z (T.two 2 (by decide) (by decide) (by decide))<|AtL.alloc zcx (cs:=#[.int .u8 0,.int .u8 0]) Z zg0 Z ?_
 intro b1
 refine zr (H':=[(b1,.cells #[.int .u8 128,.int .u8 159] 240 (0,0))]::H) 0 0 zbR zg0 Z Z Z Z Z Z Z Z Z<|AtL.done<|zc<|zc<|za<|zb zg0 Z Z ?_
 refine zb zg0 Z Z<|zA zg0 Z Z Z<|AtL.done<|zq Z ?_ ?_
 ·intro hc3
  refine zc<|za<|AtL.assign zg0 Z Z<|AtL.assign zg0 Z Z<|AtL.done<|At.pick [] 1 Z Z ?_
  exact zt Tryz.func152 Z Z (⟨_,1,Z,⟨by omega,by omega,fun i h1 h2 => by omega,.inl Z⟩,Z⟩)
 ·intro hc3
  refine zj<|zc<|za<|zb zg0 Z Z ?_
  refine zF 1 (Rd.skip 1 h) Tryz.underlying34 zQ zg0 Z Z Z Z (by omega) ?_
  refine zh (v:=.int .u8 ((l.getD 1 0).toNat:Int)) zS zg0 Z Z (zH (Rd.skip 1 h) (zz 0 (by omega)) Z)<|AtL.assign zg0 Z Z<|AtL.done<|zc<|zc<|za ?_
  refine zb zg0 Z Z<|zd zcz zg0 Z Z Z<|zh zS zg0 Z Z (Cell.own 0 0 Z Z Z)<|zA zg0 Z Z Z<|zb zg0 Z Z<|zy 5 (E':=[(60,.bool (decide ((((l.getD 1 0).toNat:Int) < 128)∨(159 < ((l.getD 1 0).toNat:Int))))),(0,.slice A l.length C),(5,.int .u8 ((l.getD 0 0).toNat:Int)),(8,V 3),(10,.int .u8 ((l.getD 1 0).toNat:Int))]) (fun J => ?_) ?_
  ·refine zD (t:=55) Z ?_ ?_
   ·intro hs55
    refine ze Z Z Z Z Z Z<|ze Z Z Z Z Z Z<|ze Z Z Z Z Z Z<|ze Z Z Z Z Z Z<|zn zg0 Z Z Z ?_
    exact J _ (by exact ⟨(zw (by clear J; first | (simp [hs55]; done) | (simp_all; done) | grind)),Z,Z,Z,Z,trivial⟩)
   ·intro hs55
    refine zd zcy (.inr ⟨_,_,_,Z,Z,Z,Z⟩) Z Z Z<|zh zS (.inr ⟨_,_,_,Z,Z,Z,Z⟩) Z Z (Cell.own 0 0 Z Z Z)<|zb (.inr ⟨_,_,_,Z,Z,Z,Z⟩) Z Z<|zA (.inr ⟨_,_,_,Z,Z,Z,Z⟩) Z Z Z<|zm zg0 Z Z Z ?_
    exact J _ (by exact ⟨(zw (by clear J; first | (simp [hs55]; done) | (simp_all; done) | grind)),Z,Z,Z,Z,trivial⟩)
  ·refine AtL.done<|zq Z ?_ ?_
   ·intro hc4
    refine zc<|za<|AtL.assign zg0 Z Z<|AtL.assign zg0 Z Z<|AtL.done<|At.pick [] 1 Z Z ?_
    exact zt Tryz.func152 Z Z (⟨_,1,Z,⟨by omega,by omega,fun i h1 h2 => by omega,.inl Z⟩,Z⟩)
   ·intro hc4
    refine zj<|zc<|zc<|za<|zb zg0 Z Z<|zbd zg0 Z Z Z ?_
    refine AtL.done<|zB Z<|zj<|zc<|za<|zb zg0 Z Z ?_
    refine zF 2 (Rd.skip 1 h) Tryz.underlying34 zQ zg0 Z Z Z Z (by omega) ?_
    refine zh (v:=.int .u8 ((l.getD 2 0).toNat:Int)) zS zg0 Z Z (zH (Rd.skip 1 h) (zz 0 (by omega)) Z)<|AtL.assign zg0 Z Z<|AtL.done<|zc<|zc<|za ?_
    refine zb zg0 Z Z<|zA zg0 Z Z Z<|zb zg0 Z Z<|zy 3 (E':=[(79,.bool (decide ((((l.getD 2 0).toNat:Int) < 128)∨(191 < ((l.getD 2 0).toNat:Int))))),(0,.slice A l.length C),(5,.int .u8 ((l.getD 0 0).toNat:Int)),(8,V 3),(10,.int .u8 ((l.getD 1 0).toNat:Int)),(11,.int .u8 ((l.getD 2 0).toNat:Int))]) (fun J => ?_) ?_
    ·refine zD (t:=76) Z ?_ ?_
     ·intro hs76
      refine ze Z Z Z Z Z Z<|ze Z Z Z Z Z Z<|zn zg0 Z Z Z ?_
      exact J _ (by exact ⟨(zw (by clear J; first | (simp [hs76]; done) | (simp_all; done) | grind)),Z,Z,Z,Z,Z,trivial⟩)
     ·intro hs76
      refine zb (.inr ⟨_,_,_,Z,Z,Z,Z⟩) Z Z<|zA (.inr ⟨_,_,_,Z,Z,Z,Z⟩) Z Z Z<|zm zg0 Z Z Z ?_
      exact J _ (by exact ⟨(zw (by clear J; first | (simp [hs76]; done) | (simp_all; done) | grind)),Z,Z,Z,Z,Z,trivial⟩)
    ·refine AtL.done<|zq Z ?_ ?_
     ·intro hc6
      refine zc<|za<|AtL.assign zg0 Z Z<|AtL.assign zg0 Z Z<|AtL.done<|At.pick [] 1 Z Z ?_
      exact zt Tryz.func152 Z Z (⟨_,1,Z,⟨by omega,by omega,fun i h1 h2 => by omega,.inl Z⟩,Z⟩)
     ·intro hc6
      refine zj<|zc<|zc<|za<|zb zg0 Z Z<|zbd zg0 Z Z Z ?_
      refine AtL.done<|zX Z<|zc<|za<|zb zg0 Z Z ?_
      refine zaI (z:=((l.getD 0 0).toNat:Int) % 16) zg0 Z Z Z (and8 4 (by decide) (by omega) (by omega)) ?_
      refine zN (z:=((l.getD 0 0).toNat:Int) % 16) Tryz.underlying5 Tryz.underlying21 zg0 Z Z (w32i (by omega) (by omega)) ?_
      refine zbG (z:=(((l.getD 0 0).toNat:Int) % 16) * 4096) zg0 Z Z Z (by omega) (zbw _ _ 12 Z (by decide) _ (by decide) (by omega) (by omega))<|zb zg0 Z Z ?_
      refine zaI (z:=((l.getD 1 0).toNat:Int) % 64) zg0 Z Z Z (and8 6 (by decide) (by omega) (by omega)) ?_
      refine zN (z:=((l.getD 1 0).toNat:Int) % 64) Tryz.underlying5 Tryz.underlying21 zg0 Z Z (w32i (by omega) (by omega)) ?_
      refine zbG (z:=(((l.getD 1 0).toNat:Int) % 64) * 64) zg0 Z Z Z (by omega) (zbw _ _ 6 Z (by decide) _ (by decide) (by omega) (by omega)) ?_
      obtain ⟨z2,hz2,hz2a,hz2b,hz2c⟩:=or32 (a:=(((l.getD 0 0).toNat:Int) % 16) * 4096) (b:=(((l.getD 1 0).toNat:Int) % 64) * 64) 16 (by decide) (by omega) (by omega) (by omega) (by omega)
      refine zbH (z:=z2) zg0 Z Z Z hz2<|zb zg0 Z Z ?_
      refine zaI (z:=((l.getD 2 0).toNat:Int) % 64) zg0 Z Z Z (and8 6 (by decide) (by omega) (by omega)) ?_
      refine zN (z:=((l.getD 2 0).toNat:Int) % 64) Tryz.underlying5 Tryz.underlying21 zg0 Z Z (w32i (by omega) (by omega)) ?_
      obtain ⟨z3,hz3,hz3a,hz3b,hz3c⟩:=or32 (a:=z2) (b:=((l.getD 2 0).toNat:Int) % 64) 16 (by decide) (by omega) (by omega) (by omega) (by omega)
      refine zbH (z:=z3) zg0 Z Z Z hz3<|AtL.assign zg0 Z Z<|AtL.assign zg0 Z Z<|AtL.done<|At.pick [] 1 Z Z ?_
      exact zt Tryz.func152 Z Z (⟨_,3,Z,⟨by omega,by omega,fun i h1 h2 => (by rcases (show i=1∨i=2 by omega) with rfl | rfl <;> omega),.inr (.inr (.inl ⟨Z,by omega,by omega⟩))⟩,Z⟩)
theorem slow_52 {w0:World}{base:Nat}{H:List Seg}{A:Option Addr}{C:Nat}{l:List UInt8}(h:Rd tyB w0 base H A C l) (T:Tabs w0 base) (hl:l≠[]) (hx:(Lib.firstT (l.getD 0 0).toNat:Int)=52) (hp:(l.getD 0 0).toNat=240) :
  SCalls Tryz.prog 152 [.slice A l.length C] w0 base (H) (fun v H' => ∃ (r:Int) (n:Nat),v = .tuple #[.int .i32 r,int (n:Int)]∧zhw l r n∧H' = H):=by
 have hpos:=List.length_pos_iff.2 hl
 have hcap:=h.cap
 have hle:=h.le
 have hb0:=zbv (l.getD 0 0)
 have hb1:=zbv (l.getD 1 0)
 have hb2:=zbv (l.getD 2 0)
 have hb3:=zbv (l.getD 3 0)
 refine SCalls.of_walk (n:=122) Tryz.func152 Z Z Z fun cs => ?_
 refine zc<|za<|AtL.assign zg0 Z Z<|AtL.assign zg0 Z Z<|AtL.done<|zc ?_
 refine za<|zb zg0 Z Z<|zC Tryz.underlying34 zg0 Z Z<|AtL.assign zg0 Z Z<|AtL.done<|zc ?_
 refine zc<|za<|zb zg0 Z Z<|zA zg0 Z Z Z<|AtL.done ?_
 refine zU false Z (decide_eq_false (by omega))<|zj<|zc<|za<|zb zg0 Z Z ?_
 refine zF 0 h Tryz.underlying34 zQ zg0 Z Z Z Z (by omega) ?_
 refine zh (v:=.int .u8 ((l.getD 0 0).toNat:Int)) zS zg0 Z Z (zH h (zz 0 (by omega)) Z)<|AtL.assign zg0 Z Z<|AtL.done<|zc<|za<|zb zg0 Z Z ?_
 refine zat (a:=⟨3,0,none⟩) ((l.getD 0 0).toNat) Tryz.underlying238 zQ zg0 Z Z Z Z (by omega)<|zh (v:=.int .u8 52) zS zg0 Z Z (T.one (l.getD 0 0) hx)<|AtL.assign zg0 Z Z<|AtL.done<|zc<|zc ?_
 refine za<|zb zg0 Z Z<|zbu zg0 Z Z Z<|AtL.done<|zB Z<|zj ?_
 refine zc<|za<|zb zg0 Z Z ?_
 refine zaI (z:=4) zg0 Z Z Z (by decide) ?_
 refine zN (z:=4) Tryz.underlying5 Tryz.underlying3 zg0 Z Z (by decide)<|AtL.assign zg0 Z Z<|AtL.done<|zc<|za<|zb zg0 Z Z ?_
 refine zcS (z:=3) zg0 Z Z Z (by decide) (by decide) ?_
 refine zat (a:=⟨4,0,none⟩) 3 Tryz.underlying241 zbR zg0 Z Z Z Z (by omega) ?_
 refine zay (cs:=[.int .u8 144,.int .u8 191]) zc8 zg0 Z Z Z (T.two 3 (by decide) (by decide) (by decide))<|AtL.alloc zcx (cs:=#[.int .u8 0,.int .u8 0]) Z zg0 Z ?_
 intro b1
 refine zr (H':=[(b1,.cells #[.int .u8 144,.int .u8 191] 240 (0,0))]::H) 0 0 zbR zg0 Z Z Z Z Z Z Z Z Z<|AtL.done<|zc<|zc<|za<|zb zg0 Z Z ?_
 refine zb zg0 Z Z<|zA zg0 Z Z Z<|AtL.done<|zq Z ?_ ?_
 ·intro hc3
  refine zc<|za<|AtL.assign zg0 Z Z<|AtL.assign zg0 Z Z<|AtL.done<|At.pick [] 1 Z Z ?_
  exact zt Tryz.func152 Z Z (⟨_,1,Z,⟨by omega,by omega,fun i h1 h2 => by omega,.inl Z⟩,Z⟩)
 ·intro hc3
  refine zj<|zc<|za<|zb zg0 Z Z ?_
  refine zF 1 (Rd.skip 1 h) Tryz.underlying34 zQ zg0 Z Z Z Z (by omega) ?_
  refine zh (v:=.int .u8 ((l.getD 1 0).toNat:Int)) zS zg0 Z Z (zH (Rd.skip 1 h) (zz 0 (by omega)) Z)<|AtL.assign zg0 Z Z<|AtL.done<|zc<|zc<|za ?_
  refine zb zg0 Z Z<|zd zcz zg0 Z Z Z<|zh zS zg0 Z Z (Cell.own 0 0 Z Z Z)<|zA zg0 Z Z Z<|zb zg0 Z Z<|zy 5 (E':=[(60,.bool (decide ((((l.getD 1 0).toNat:Int) < 144)∨(191 < ((l.getD 1 0).toNat:Int))))),(0,.slice A l.length C),(5,.int .u8 ((l.getD 0 0).toNat:Int)),(8,V 4),(10,.int .u8 ((l.getD 1 0).toNat:Int))]) (fun J => ?_) ?_
  ·refine zD (t:=55) Z ?_ ?_
   ·intro hs55
    refine ze Z Z Z Z Z Z<|ze Z Z Z Z Z Z<|ze Z Z Z Z Z Z<|ze Z Z Z Z Z Z<|zn zg0 Z Z Z ?_
    exact J _ (by exact ⟨(zw (by clear J; first | (simp [hs55]; done) | (simp_all; done) | grind)),Z,Z,Z,Z,trivial⟩)
   ·intro hs55
    refine zd zcy (.inr ⟨_,_,_,Z,Z,Z,Z⟩) Z Z Z<|zh zS (.inr ⟨_,_,_,Z,Z,Z,Z⟩) Z Z (Cell.own 0 0 Z Z Z)<|zb (.inr ⟨_,_,_,Z,Z,Z,Z⟩) Z Z<|zA (.inr ⟨_,_,_,Z,Z,Z,Z⟩) Z Z Z<|zm zg0 Z Z Z ?_
    exact J _ (by exact ⟨(zw (by clear J; first | (simp [hs55]; done) | (simp_all; done) | grind)),Z,Z,Z,Z,trivial⟩)
  ·refine AtL.done<|zq Z ?_ ?_
   ·intro hc4
    refine zc<|za<|AtL.assign zg0 Z Z<|AtL.assign zg0 Z Z<|AtL.done<|At.pick [] 1 Z Z ?_
    exact zt Tryz.func152 Z Z (⟨_,1,Z,⟨by omega,by omega,fun i h1 h2 => by omega,.inl Z⟩,Z⟩)
   ·intro hc4
    refine zj<|zc<|zc<|za<|zb zg0 Z Z<|zbd zg0 Z Z Z ?_
    refine AtL.done<|zB Z<|zj<|zc<|za<|zb zg0 Z Z ?_
    refine zF 2 (Rd.skip 1 h) Tryz.underlying34 zQ zg0 Z Z Z Z (by omega) ?_
    refine zh (v:=.int .u8 ((l.getD 2 0).toNat:Int)) zS zg0 Z Z (zH (Rd.skip 1 h) (zz 0 (by omega)) Z)<|AtL.assign zg0 Z Z<|AtL.done<|zc<|zc<|za ?_
    refine zb zg0 Z Z<|zA zg0 Z Z Z<|zb zg0 Z Z<|zy 3 (E':=[(79,.bool (decide ((((l.getD 2 0).toNat:Int) < 128)∨(191 < ((l.getD 2 0).toNat:Int))))),(0,.slice A l.length C),(5,.int .u8 ((l.getD 0 0).toNat:Int)),(8,V 4),(10,.int .u8 ((l.getD 1 0).toNat:Int)),(11,.int .u8 ((l.getD 2 0).toNat:Int))]) (fun J => ?_) ?_
    ·refine zD (t:=76) Z ?_ ?_
     ·intro hs76
      refine ze Z Z Z Z Z Z<|ze Z Z Z Z Z Z<|zn zg0 Z Z Z ?_
      exact J _ (by exact ⟨(zw (by clear J; first | (simp [hs76]; done) | (simp_all; done) | grind)),Z,Z,Z,Z,Z,trivial⟩)
     ·intro hs76
      refine zb (.inr ⟨_,_,_,Z,Z,Z,Z⟩) Z Z<|zA (.inr ⟨_,_,_,Z,Z,Z,Z⟩) Z Z Z<|zm zg0 Z Z Z ?_
      exact J _ (by exact ⟨(zw (by clear J; first | (simp [hs76]; done) | (simp_all; done) | grind)),Z,Z,Z,Z,Z,trivial⟩)
    ·refine AtL.done<|zq Z ?_ ?_
     ·intro hc6
      refine zc<|za<|AtL.assign zg0 Z Z<|AtL.assign zg0 Z Z<|AtL.done<|At.pick [] 1 Z Z ?_
      exact zt Tryz.func152 Z Z (⟨_,1,Z,⟨by omega,by omega,fun i h1 h2 => by omega,.inl Z⟩,Z⟩)
     ·intro hc6
      refine zj<|zc<|zc<|za<|zb zg0 Z Z<|zbd zg0 Z Z Z ?_
      refine AtL.done<|zB Z<|zj<|zc<|za<|zb zg0 Z Z ?_
      refine zF 3 (Rd.skip 1 h) Tryz.underlying34 zQ zg0 Z Z Z Z (by omega) ?_
      refine zh (v:=.int .u8 ((l.getD 3 0).toNat:Int)) zS zg0 Z Z (zH (Rd.skip 1 h) (zz 0 (by omega)) Z)<|AtL.assign zg0 Z Z<|AtL.done<|zc<|zc<|za ?_
      refine zb zg0 Z Z<|zA zg0 Z Z Z<|zb zg0 Z Z<|zy 3 (E':=[(103,.bool (decide ((((l.getD 3 0).toNat:Int) < 128)∨(191 < ((l.getD 3 0).toNat:Int))))),(5,.int .u8 ((l.getD 0 0).toNat:Int)),(10,.int .u8 ((l.getD 1 0).toNat:Int)),(11,.int .u8 ((l.getD 2 0).toNat:Int)),(12,.int .u8 ((l.getD 3 0).toNat:Int))]) (fun J => ?_) ?_
      ·refine zD (t:=100) Z ?_ ?_
       ·intro hs100
        refine ze Z Z Z Z Z Z<|ze Z Z Z Z Z Z<|zn zg0 Z Z Z ?_
        exact J _ (by exact ⟨(zw (by clear J; first | (simp [hs100]; done) | (simp_all; done) | grind)),Z,Z,Z,Z,trivial⟩)
       ·intro hs100
        refine zb (.inr ⟨_,_,_,Z,Z,Z,Z⟩) Z Z<|zA (.inr ⟨_,_,_,Z,Z,Z,Z⟩) Z Z Z<|zm zg0 Z Z Z ?_
        exact J _ (by exact ⟨(zw (by clear J; first | (simp [hs100]; done) | (simp_all; done) | grind)),Z,Z,Z,Z,trivial⟩)
      ·refine AtL.done<|zq Z ?_ ?_
       ·intro hc8
        refine zc<|za<|AtL.assign zg0 Z Z<|AtL.assign zg0 Z Z<|AtL.done<|At.pick [] 1 Z Z ?_
        exact zt Tryz.func152 Z Z (⟨_,1,Z,⟨by omega,by omega,fun i h1 h2 => by omega,.inl Z⟩,Z⟩)
       ·intro hc8
        refine zj<|zc<|za<|zb zg0 Z Z ?_
        refine zaI (z:=((l.getD 0 0).toNat:Int) % 8) zg0 Z Z Z (and8 3 (by decide) (by omega) (by omega)) ?_
        refine zN (z:=((l.getD 0 0).toNat:Int) % 8) Tryz.underlying5 Tryz.underlying21 zg0 Z Z (w32i (by omega) (by omega)) ?_
        refine zbG (z:=(((l.getD 0 0).toNat:Int) % 8) * 262144) zg0 Z Z Z (by omega) (zbw _ _ 18 Z (by decide) _ (by decide) (by omega) (by omega))<|zb zg0 Z Z ?_
        refine zaI (z:=((l.getD 1 0).toNat:Int) % 64) zg0 Z Z Z (and8 6 (by decide) (by omega) (by omega)) ?_
        refine zN (z:=((l.getD 1 0).toNat:Int) % 64) Tryz.underlying5 Tryz.underlying21 zg0 Z Z (w32i (by omega) (by omega)) ?_
        refine zbG (z:=(((l.getD 1 0).toNat:Int) % 64) * 4096) zg0 Z Z Z (by omega) (zbw _ _ 12 Z (by decide) _ (by decide) (by omega) (by omega)) ?_
        obtain ⟨z2,hz2,hz2a,hz2b,hz2c⟩:=or32 (a:=(((l.getD 0 0).toNat:Int) % 8) * 262144) (b:=(((l.getD 1 0).toNat:Int) % 64) * 4096) 31 (by decide) (by omega) (by omega) (by omega) (by omega)
        refine zbH (z:=z2) zg0 Z Z Z hz2<|zb zg0 Z Z ?_
        refine zaI (z:=((l.getD 2 0).toNat:Int) % 64) zg0 Z Z Z (and8 6 (by decide) (by omega) (by omega)) ?_
        refine zN (z:=((l.getD 2 0).toNat:Int) % 64) Tryz.underlying5 Tryz.underlying21 zg0 Z Z (w32i (by omega) (by omega)) ?_
        refine zbG (z:=(((l.getD 2 0).toNat:Int) % 64) * 64) zg0 Z Z Z (by omega) (zbw _ _ 6 Z (by decide) _ (by decide) (by omega) (by omega)) ?_
        obtain ⟨z3,hz3,hz3a,hz3b,hz3c⟩:=or32 (a:=z2) (b:=(((l.getD 2 0).toNat:Int) % 64) * 64) 31 (by decide) (by omega) (by omega) (by omega) (by omega)
        refine zbH (z:=z3) zg0 Z Z Z hz3<|zb zg0 Z Z ?_
        refine zaI (z:=((l.getD 3 0).toNat:Int) % 64) zg0 Z Z Z (and8 6 (by decide) (by omega) (by omega)) ?_
        refine zN (z:=((l.getD 3 0).toNat:Int) % 64) Tryz.underlying5 Tryz.underlying21 zg0 Z Z (w32i (by omega) (by omega)) ?_
        obtain ⟨z4,hz4,hz4a,hz4b,hz4c⟩:=or32 (a:=z3) (b:=((l.getD 3 0).toNat:Int) % 64) 31 (by decide) (by omega) (by omega) (by omega) (by omega)
        refine zbH (z:=z4) zg0 Z Z Z hz4<|AtL.assign zg0 Z Z<|AtL.assign zg0 Z Z<|AtL.done<|At.pick [] 1 Z Z ?_
        exact zt Tryz.func152 Z Z (⟨_,4,Z,⟨by omega,by omega,fun i h1 h2 => (by rcases (show i=1∨i=2∨i=3 by omega) with rfl | rfl | rfl <;> omega),.inr (.inr (.inr ⟨Z,by omega,by omega⟩))⟩,Z⟩)
theorem slow_4 {w0:World}{base:Nat}{H:List Seg}{A:Option Addr}{C:Nat}{l:List UInt8}(h:Rd tyB w0 base H A C l) (T:Tabs w0 base) (hl:l≠[]) (hx:(Lib.firstT (l.getD 0 0).toNat:Int)=4) (hp:241≤(l.getD 0 0).toNat∧(l.getD 0 0).toNat < 244) :
  SCalls Tryz.prog 152 [.slice A l.length C] w0 base (H) (fun v H' => ∃ (r:Int) (n:Nat),v = .tuple #[.int .i32 r,int (n:Int)]∧zhw l r n∧H' = H):=by
 have hpos:=List.length_pos_iff.2 hl
 have hcap:=h.cap
 have hle:=h.le
 have hb0:=zbv (l.getD 0 0)
 have hb1:=zbv (l.getD 1 0)
 have hb2:=zbv (l.getD 2 0)
 have hb3:=zbv (l.getD 3 0)
 refine SCalls.of_walk (n:=122) Tryz.func152 Z Z Z fun cs => ?_
 refine zc<|za<|AtL.assign zg0 Z Z<|AtL.assign zg0 Z Z<|AtL.done<|zc ?_
 refine za<|zb zg0 Z Z<|zC Tryz.underlying34 zg0 Z Z<|AtL.assign zg0 Z Z<|AtL.done<|zc ?_
 refine zc<|za<|zb zg0 Z Z<|zA zg0 Z Z Z<|AtL.done ?_
 refine zU false Z (decide_eq_false (by omega))<|zj<|zc<|za<|zb zg0 Z Z ?_
 refine zF 0 h Tryz.underlying34 zQ zg0 Z Z Z Z (by omega) ?_
 refine zh (v:=.int .u8 ((l.getD 0 0).toNat:Int)) zS zg0 Z Z (zH h (zz 0 (by omega)) Z)<|AtL.assign zg0 Z Z<|AtL.done<|zc<|za<|zb zg0 Z Z ?_
 refine zat (a:=⟨3,0,none⟩) ((l.getD 0 0).toNat) Tryz.underlying238 zQ zg0 Z Z Z Z (by omega)<|zh (v:=.int .u8 4) zS zg0 Z Z (T.one (l.getD 0 0) hx)<|AtL.assign zg0 Z Z<|AtL.done<|zc<|zc ?_
 refine za<|zb zg0 Z Z<|zbu zg0 Z Z Z<|AtL.done<|zB Z<|zj ?_
 refine zc<|za<|zb zg0 Z Z ?_
 refine zaI (z:=4) zg0 Z Z Z (by decide) ?_
 refine zN (z:=4) Tryz.underlying5 Tryz.underlying3 zg0 Z Z (by decide)<|AtL.assign zg0 Z Z<|AtL.done<|zc<|za<|zb zg0 Z Z ?_
 refine zcS (z:=0) zg0 Z Z Z (by decide) (by decide) ?_
 refine zat (a:=⟨4,0,none⟩) 0 Tryz.underlying241 zbR zg0 Z Z Z Z (by omega) ?_
 refine zay (cs:=[.int .u8 128,.int .u8 191]) zc8 zg0 Z Z Z (T.two 0 (by decide) (by decide) (by decide))<|AtL.alloc zcx (cs:=#[.int .u8 0,.int .u8 0]) Z zg0 Z ?_
 intro b1
 refine zr (H':=[(b1,.cells #[.int .u8 128,.int .u8 191] 240 (0,0))]::H) 0 0 zbR zg0 Z Z Z Z Z Z Z Z Z<|AtL.done<|zc<|zc<|za<|zb zg0 Z Z ?_
 refine zb zg0 Z Z<|zA zg0 Z Z Z<|AtL.done<|zq Z ?_ ?_
 ·intro hc3
  refine zc<|za<|AtL.assign zg0 Z Z<|AtL.assign zg0 Z Z<|AtL.done<|At.pick [] 1 Z Z ?_
  exact zt Tryz.func152 Z Z (⟨_,1,Z,⟨by omega,by omega,fun i h1 h2 => by omega,.inl Z⟩,Z⟩)
 ·intro hc3
  refine zj<|zc<|za<|zb zg0 Z Z ?_
  refine zF 1 (Rd.skip 1 h) Tryz.underlying34 zQ zg0 Z Z Z Z (by omega) ?_
  refine zh (v:=.int .u8 ((l.getD 1 0).toNat:Int)) zS zg0 Z Z (zH (Rd.skip 1 h) (zz 0 (by omega)) Z)<|AtL.assign zg0 Z Z<|AtL.done<|zc<|zc<|za ?_
  refine zb zg0 Z Z<|zd zcz zg0 Z Z Z<|zh zS zg0 Z Z (Cell.own 0 0 Z Z Z)<|zA zg0 Z Z Z<|zb zg0 Z Z<|zy 5 (E':=[(60,.bool (decide ((((l.getD 1 0).toNat:Int) < 128)∨(191 < ((l.getD 1 0).toNat:Int))))),(0,.slice A l.length C),(5,.int .u8 ((l.getD 0 0).toNat:Int)),(8,V 4),(10,.int .u8 ((l.getD 1 0).toNat:Int))]) (fun J => ?_) ?_
  ·refine zD (t:=55) Z ?_ ?_
   ·intro hs55
    refine ze Z Z Z Z Z Z<|ze Z Z Z Z Z Z<|ze Z Z Z Z Z Z<|ze Z Z Z Z Z Z<|zn zg0 Z Z Z ?_
    exact J _ (by exact ⟨(zw (by clear J; first | (simp [hs55]; done) | (simp_all; done) | grind)),Z,Z,Z,Z,trivial⟩)
   ·intro hs55
    refine zd zcy (.inr ⟨_,_,_,Z,Z,Z,Z⟩) Z Z Z<|zh zS (.inr ⟨_,_,_,Z,Z,Z,Z⟩) Z Z (Cell.own 0 0 Z Z Z)<|zb (.inr ⟨_,_,_,Z,Z,Z,Z⟩) Z Z<|zA (.inr ⟨_,_,_,Z,Z,Z,Z⟩) Z Z Z<|zm zg0 Z Z Z ?_
    exact J _ (by exact ⟨(zw (by clear J; first | (simp [hs55]; done) | (simp_all; done) | grind)),Z,Z,Z,Z,trivial⟩)
  ·refine AtL.done<|zq Z ?_ ?_
   ·intro hc4
    refine zc<|za<|AtL.assign zg0 Z Z<|AtL.assign zg0 Z Z<|AtL.done<|At.pick [] 1 Z Z ?_
    exact zt Tryz.func152 Z Z (⟨_,1,Z,⟨by omega,by omega,fun i h1 h2 => by omega,.inl Z⟩,Z⟩)
   ·intro hc4
    refine zj<|zc<|zc<|za<|zb zg0 Z Z<|zbd zg0 Z Z Z ?_
    refine AtL.done<|zB Z<|zj<|zc<|za<|zb zg0 Z Z ?_
    refine zF 2 (Rd.skip 1 h) Tryz.underlying34 zQ zg0 Z Z Z Z (by omega) ?_
    refine zh (v:=.int .u8 ((l.getD 2 0).toNat:Int)) zS zg0 Z Z (zH (Rd.skip 1 h) (zz 0 (by omega)) Z)<|AtL.assign zg0 Z Z<|AtL.done<|zc<|zc<|za ?_
    refine zb zg0 Z Z<|zA zg0 Z Z Z<|zb zg0 Z Z<|zy 3 (E':=[(79,.bool (decide ((((l.getD 2 0).toNat:Int) < 128)∨(191 < ((l.getD 2 0).toNat:Int))))),(0,.slice A l.length C),(5,.int .u8 ((l.getD 0 0).toNat:Int)),(8,V 4),(10,.int .u8 ((l.getD 1 0).toNat:Int)),(11,.int .u8 ((l.getD 2 0).toNat:Int))]) (fun J => ?_) ?_
    ·refine zD (t:=76) Z ?_ ?_
     ·intro hs76
      refine ze Z Z Z Z Z Z<|ze Z Z Z Z Z Z<|zn zg0 Z Z Z ?_
      exact J _ (by exact ⟨(zw (by clear J; first | (simp [hs76]; done) | (simp_all; done) | grind)),Z,Z,Z,Z,Z,trivial⟩)
     ·intro hs76
      refine zb (.inr ⟨_,_,_,Z,Z,Z,Z⟩) Z Z<|zA (.inr ⟨_,_,_,Z,Z,Z,Z⟩) Z Z Z<|zm zg0 Z Z Z ?_
      exact J _ (by exact ⟨(zw (by clear J; first | (simp [hs76]; done) | (simp_all; done) | grind)),Z,Z,Z,Z,Z,trivial⟩)
    ·refine AtL.done<|zq Z ?_ ?_
     ·intro hc6
      refine zc<|za<|AtL.assign zg0 Z Z<|AtL.assign zg0 Z Z<|AtL.done<|At.pick [] 1 Z Z ?_
      exact zt Tryz.func152 Z Z (⟨_,1,Z,⟨by omega,by omega,fun i h1 h2 => by omega,.inl Z⟩,Z⟩)
     ·intro hc6
      refine zj<|zc<|zc<|za<|zb zg0 Z Z<|zbd zg0 Z Z Z ?_
      refine AtL.done<|zB Z<|zj<|zc<|za<|zb zg0 Z Z ?_
      refine zF 3 (Rd.skip 1 h) Tryz.underlying34 zQ zg0 Z Z Z Z (by omega) ?_
      refine zh (v:=.int .u8 ((l.getD 3 0).toNat:Int)) zS zg0 Z Z (zH (Rd.skip 1 h) (zz 0 (by omega)) Z)<|AtL.assign zg0 Z Z<|AtL.done<|zc<|zc<|za ?_
      refine zb zg0 Z Z<|zA zg0 Z Z Z<|zb zg0 Z Z<|zy 3 (E':=[(103,.bool (decide ((((l.getD 3 0).toNat:Int) < 128)∨(191 < ((l.getD 3 0).toNat:Int))))),(5,.int .u8 ((l.getD 0 0).toNat:Int)),(10,.int .u8 ((l.getD 1 0).toNat:Int)),(11,.int .u8 ((l.getD 2 0).toNat:Int)),(12,.int .u8 ((l.getD 3 0).toNat:Int))]) (fun J => ?_) ?_
      ·refine zD (t:=100) Z ?_ ?_
       ·intro hs100
        refine ze Z Z Z Z Z Z<|ze Z Z Z Z Z Z<|zn zg0 Z Z Z ?_
        exact J _ (by exact ⟨(zw (by clear J; first | (simp [hs100]; done) | (simp_all; done) | grind)),Z,Z,Z,Z,trivial⟩)
       ·intro hs100
        refine zb (.inr ⟨_,_,_,Z,Z,Z,Z⟩) Z Z<|zA (.inr ⟨_,_,_,Z,Z,Z,Z⟩) Z Z Z<|zm zg0 Z Z Z ?_
        exact J _ (by exact ⟨(zw (by clear J; first | (simp [hs100]; done) | (simp_all; done) | grind)),Z,Z,Z,Z,trivial⟩)
      ·refine AtL.done<|zq Z ?_ ?_
       ·intro hc8
        refine zc<|za<|AtL.assign zg0 Z Z<|AtL.assign zg0 Z Z<|AtL.done<|At.pick [] 1 Z Z ?_
        exact zt Tryz.func152 Z Z (⟨_,1,Z,⟨by omega,by omega,fun i h1 h2 => by omega,.inl Z⟩,Z⟩)
       ·intro hc8
        refine zj<|zc<|za<|zb zg0 Z Z ?_
        refine zaI (z:=((l.getD 0 0).toNat:Int) % 8) zg0 Z Z Z (and8 3 (by decide) (by omega) (by omega)) ?_
        refine zN (z:=((l.getD 0 0).toNat:Int) % 8) Tryz.underlying5 Tryz.underlying21 zg0 Z Z (w32i (by omega) (by omega)) ?_
        refine zbG (z:=(((l.getD 0 0).toNat:Int) % 8) * 262144) zg0 Z Z Z (by omega) (zbw _ _ 18 Z (by decide) _ (by decide) (by omega) (by omega))<|zb zg0 Z Z ?_
        refine zaI (z:=((l.getD 1 0).toNat:Int) % 64) zg0 Z Z Z (and8 6 (by decide) (by omega) (by omega)) ?_
        refine zN (z:=((l.getD 1 0).toNat:Int) % 64) Tryz.underlying5 Tryz.underlying21 zg0 Z Z (w32i (by omega) (by omega)) ?_
        refine zbG (z:=(((l.getD 1 0).toNat:Int) % 64) * 4096) zg0 Z Z Z (by omega) (zbw _ _ 12 Z (by decide) _ (by decide) (by omega) (by omega)) ?_
        obtain ⟨z2,hz2,hz2a,hz2b,hz2c⟩:=or32 (a:=(((l.getD 0 0).toNat:Int) % 8) * 262144) (b:=(((l.getD 1 0).toNat:Int) % 64) * 4096) 31 (by decide) (by omega) (by omega) (by omega) (by omega)
        refine zbH (z:=z2) zg0 Z Z Z hz2<|zb zg0 Z Z ?_
        refine zaI (z:=((l.getD 2 0).toNat:Int) % 64) zg0 Z Z Z (and8 6 (by decide) (by omega) (by omega)) ?_
        refine zN (z:=((l.getD 2 0).toNat:Int) % 64) Tryz.underlying5 Tryz.underlying21 zg0 Z Z (w32i (by omega) (by omega)) ?_
        refine zbG (z:=(((l.getD 2 0).toNat:Int) % 64) * 64) zg0 Z Z Z (by omega) (zbw _ _ 6 Z (by decide) _ (by decide) (by omega) (by omega)) ?_
        obtain ⟨z3,hz3,hz3a,hz3b,hz3c⟩:=or32 (a:=z2) (b:=(((l.getD 2 0).toNat:Int) % 64) * 64) 31 (by decide) (by omega) (by omega) (by omega) (by omega)
        refine zbH (z:=z3) zg0 Z Z Z hz3<|zb zg0 Z Z ?_
        refine zaI (z:=((l.getD 3 0).toNat:Int) % 64) zg0 Z Z Z (and8 6 (by decide) (by omega) (by omega)) ?_
        refine zN (z:=((l.getD 3 0).toNat:Int) % 64) Tryz.underlying5 Tryz.underlying21 zg0 Z Z (w32i (by omega) (by omega)) ?_
        obtain ⟨z4,hz4,hz4a,hz4b,hz4c⟩:=or32 (a:=z3) (b:=((l.getD 3 0).toNat:Int) % 64) 31 (by decide) (by omega) (by omega) (by omega) (by omega)
        refine zbH (z:=z4) zg0 Z Z Z hz4<|AtL.assign zg0 Z Z<|AtL.assign zg0 Z Z<|AtL.done<|At.pick [] 1 Z Z ?_
        exact zt Tryz.func152 Z Z (⟨_,4,Z,⟨by omega,by omega,fun i h1 h2 => (by rcases (show i=1∨i=2∨i=3 by omega) with rfl | rfl | rfl <;> omega),.inr (.inr (.inr ⟨Z,by omega,by omega⟩))⟩,Z⟩)
theorem slow_68 {w0:World}{base:Nat}{H:List Seg}{A:Option Addr}{C:Nat}{l:List UInt8}(h:Rd tyB w0 base H A C l) (T:Tabs w0 base) (hl:l≠[]) (hx:(Lib.firstT (l.getD 0 0).toNat:Int)=68) (hp:(l.getD 0 0).toNat=244) :
  SCalls Tryz.prog 152 [.slice A l.length C] w0 base (H) (fun v H' => ∃ (r:Int) (n:Nat),v = .tuple #[.int .i32 r,int (n:Int)]∧zhw l r n∧H' = H):=by
 have hpos:=List.length_pos_iff.2 hl
 have hcap:=h.cap
 have hle:=h.le
 have hb0:=zbv (l.getD 0 0)
 have hb1:=zbv (l.getD 1 0)
 have hb2:=zbv (l.getD 2 0)
 have hb3:=zbv (l.getD 3 0)
 refine SCalls.of_walk (n:=122) Tryz.func152 Z Z Z fun cs => ?_
 refine zc<|za<|AtL.assign zg0 Z Z<|AtL.assign zg0 Z Z<|AtL.done<|zc ?_
 refine za<|zb zg0 Z Z<|zC Tryz.underlying34 zg0 Z Z<|AtL.assign zg0 Z Z<|AtL.done<|zc ?_
 refine zc<|za<|zb zg0 Z Z<|zA zg0 Z Z Z<|AtL.done ?_
 refine zU false Z (decide_eq_false (by omega))<|zj<|zc<|za<|zb zg0 Z Z ?_
 refine zF 0 h Tryz.underlying34 zQ zg0 Z Z Z Z (by omega) ?_
 refine zh (v:=.int .u8 ((l.getD 0 0).toNat:Int)) zS zg0 Z Z (zH h (zz 0 (by omega)) Z)<|AtL.assign zg0 Z Z<|AtL.done<|zc<|za<|zb zg0 Z Z ?_
 refine zat (a:=⟨3,0,none⟩) ((l.getD 0 0).toNat) Tryz.underlying238 zQ zg0 Z Z Z Z (by omega)<|zh (v:=.int .u8 68) zS zg0 Z Z (T.one (l.getD 0 0) hx)<|AtL.assign zg0 Z Z<|AtL.done<|zc<|zc ?_
 refine za<|zb zg0 Z Z<|zbu zg0 Z Z Z<|AtL.done<|zB Z<|zj ?_
 refine zc<|za<|zb zg0 Z Z ?_
 refine zaI (z:=4) zg0 Z Z Z (by decide) ?_
 refine zN (z:=4) Tryz.underlying5 Tryz.underlying3 zg0 Z Z (by decide)<|AtL.assign zg0 Z Z<|AtL.done<|zc<|za<|zb zg0 Z Z ?_
 refine zcS (z:=4) zg0 Z Z Z (by decide) (by decide) ?_
 refine zat (a:=⟨4,0,none⟩) 4 Tryz.underlying241 zbR zg0 Z Z Z Z (by omega) ?_
 refine zay (cs:=[.int .u8 128,.int .u8 143]) zc8 zg0 Z Z Z (T.two 4 (by decide) (by decide) (by decide))<|AtL.alloc zcx (cs:=#[.int .u8 0,.int .u8 0]) Z zg0 Z ?_
 intro b1
 refine zr (H':=[(b1,.cells #[.int .u8 128,.int .u8 143] 240 (0,0))]::H) 0 0 zbR zg0 Z Z Z Z Z Z Z Z Z<|AtL.done<|zc<|zc<|za<|zb zg0 Z Z ?_
 refine zb zg0 Z Z<|zA zg0 Z Z Z<|AtL.done<|zq Z ?_ ?_
 ·intro hc3
  refine zc<|za<|AtL.assign zg0 Z Z<|AtL.assign zg0 Z Z<|AtL.done<|At.pick [] 1 Z Z ?_
  exact zt Tryz.func152 Z Z (⟨_,1,Z,⟨by omega,by omega,fun i h1 h2 => by omega,.inl Z⟩,Z⟩)
 ·intro hc3
  refine zj<|zc<|za<|zb zg0 Z Z ?_
  refine zF 1 (Rd.skip 1 h) Tryz.underlying34 zQ zg0 Z Z Z Z (by omega) ?_
  refine zh (v:=.int .u8 ((l.getD 1 0).toNat:Int)) zS zg0 Z Z (zH (Rd.skip 1 h) (zz 0 (by omega)) Z)<|AtL.assign zg0 Z Z<|AtL.done<|zc<|zc<|za ?_
  refine zb zg0 Z Z<|zd zcz zg0 Z Z Z<|zh zS zg0 Z Z (Cell.own 0 0 Z Z Z)<|zA zg0 Z Z Z<|zb zg0 Z Z<|zy 5 (E':=[(60,.bool (decide ((((l.getD 1 0).toNat:Int) < 128)∨(143 < ((l.getD 1 0).toNat:Int))))),(0,.slice A l.length C),(5,.int .u8 ((l.getD 0 0).toNat:Int)),(8,V 4),(10,.int .u8 ((l.getD 1 0).toNat:Int))]) (fun J => ?_) ?_
  ·refine zD (t:=55) Z ?_ ?_
   ·intro hs55
    refine ze Z Z Z Z Z Z<|ze Z Z Z Z Z Z<|ze Z Z Z Z Z Z<|ze Z Z Z Z Z Z<|zn zg0 Z Z Z ?_
    exact J _ (by exact ⟨(zw (by clear J; first | (simp [hs55]; done) | (simp_all; done) | grind)),Z,Z,Z,Z,trivial⟩)
   ·intro hs55
    refine zd zcy (.inr ⟨_,_,_,Z,Z,Z,Z⟩) Z Z Z<|zh zS (.inr ⟨_,_,_,Z,Z,Z,Z⟩) Z Z (Cell.own 0 0 Z Z Z)<|zb (.inr ⟨_,_,_,Z,Z,Z,Z⟩) Z Z<|zA (.inr ⟨_,_,_,Z,Z,Z,Z⟩) Z Z Z<|zm zg0 Z Z Z ?_
    exact J _ (by exact ⟨(zw (by clear J; first | (simp [hs55]; done) | (simp_all; done) | grind)),Z,Z,Z,Z,trivial⟩)
  ·refine AtL.done<|zq Z ?_ ?_
   ·intro hc4
    refine zc<|za<|AtL.assign zg0 Z Z<|AtL.assign zg0 Z Z<|AtL.done<|At.pick [] 1 Z Z ?_
    exact zt Tryz.func152 Z Z (⟨_,1,Z,⟨by omega,by omega,fun i h1 h2 => by omega,.inl Z⟩,Z⟩)
   ·intro hc4
    refine zj<|zc<|zc<|za<|zb zg0 Z Z<|zbd zg0 Z Z Z ?_
    refine AtL.done<|zB Z<|zj<|zc<|za<|zb zg0 Z Z ?_
    refine zF 2 (Rd.skip 1 h) Tryz.underlying34 zQ zg0 Z Z Z Z (by omega) ?_
    refine zh (v:=.int .u8 ((l.getD 2 0).toNat:Int)) zS zg0 Z Z (zH (Rd.skip 1 h) (zz 0 (by omega)) Z)<|AtL.assign zg0 Z Z<|AtL.done<|zc<|zc<|za ?_
    refine zb zg0 Z Z<|zA zg0 Z Z Z<|zb zg0 Z Z<|zy 3 (E':=[(79,.bool (decide ((((l.getD 2 0).toNat:Int) < 128)∨(191 < ((l.getD 2 0).toNat:Int))))),(0,.slice A l.length C),(5,.int .u8 ((l.getD 0 0).toNat:Int)),(8,V 4),(10,.int .u8 ((l.getD 1 0).toNat:Int)),(11,.int .u8 ((l.getD 2 0).toNat:Int))]) (fun J => ?_) ?_
    ·refine zD (t:=76) Z ?_ ?_
     ·intro hs76
      refine ze Z Z Z Z Z Z<|ze Z Z Z Z Z Z<|zn zg0 Z Z Z ?_
      exact J _ (by exact ⟨(zw (by clear J; first | (simp [hs76]; done) | (simp_all; done) | grind)),Z,Z,Z,Z,Z,trivial⟩)
     ·intro hs76
      refine zb (.inr ⟨_,_,_,Z,Z,Z,Z⟩) Z Z<|zA (.inr ⟨_,_,_,Z,Z,Z,Z⟩) Z Z Z<|zm zg0 Z Z Z ?_
      exact J _ (by exact ⟨(zw (by clear J; first | (simp [hs76]; done) | (simp_all; done) | grind)),Z,Z,Z,Z,Z,trivial⟩)
    ·refine AtL.done<|zq Z ?_ ?_
     ·intro hc6
      refine zc<|za<|AtL.assign zg0 Z Z<|AtL.assign zg0 Z Z<|AtL.done<|At.pick [] 1 Z Z ?_
      exact zt Tryz.func152 Z Z (⟨_,1,Z,⟨by omega,by omega,fun i h1 h2 => by omega,.inl Z⟩,Z⟩)
     ·intro hc6
      refine zj<|zc<|zc<|za<|zb zg0 Z Z<|zbd zg0 Z Z Z ?_
      refine AtL.done<|zB Z<|zj<|zc<|za<|zb zg0 Z Z ?_
      refine zF 3 (Rd.skip 1 h) Tryz.underlying34 zQ zg0 Z Z Z Z (by omega) ?_
      refine zh (v:=.int .u8 ((l.getD 3 0).toNat:Int)) zS zg0 Z Z (zH (Rd.skip 1 h) (zz 0 (by omega)) Z)<|AtL.assign zg0 Z Z<|AtL.done<|zc<|zc<|za ?_
      refine zb zg0 Z Z<|zA zg0 Z Z Z<|zb zg0 Z Z<|zy 3 (E':=[(103,.bool (decide ((((l.getD 3 0).toNat:Int) < 128)∨(191 < ((l.getD 3 0).toNat:Int))))),(5,.int .u8 ((l.getD 0 0).toNat:Int)),(10,.int .u8 ((l.getD 1 0).toNat:Int)),(11,.int .u8 ((l.getD 2 0).toNat:Int)),(12,.int .u8 ((l.getD 3 0).toNat:Int))]) (fun J => ?_) ?_
      ·refine zD (t:=100) Z ?_ ?_
       ·intro hs100
        refine ze Z Z Z Z Z Z<|ze Z Z Z Z Z Z<|zn zg0 Z Z Z ?_
        exact J _ (by exact ⟨(zw (by clear J; first | (simp [hs100]; done) | (simp_all; done) | grind)),Z,Z,Z,Z,trivial⟩)
       ·intro hs100
        refine zb (.inr ⟨_,_,_,Z,Z,Z,Z⟩) Z Z<|zA (.inr ⟨_,_,_,Z,Z,Z,Z⟩) Z Z Z<|zm zg0 Z Z Z ?_
        exact J _ (by exact ⟨(zw (by clear J; first | (simp [hs100]; done) | (simp_all; done) | grind)),Z,Z,Z,Z,trivial⟩)
      ·refine AtL.done<|zq Z ?_ ?_
       ·intro hc8
        refine zc<|za<|AtL.assign zg0 Z Z<|AtL.assign zg0 Z Z<|AtL.done<|At.pick [] 1 Z Z ?_
        exact zt Tryz.func152 Z Z (⟨_,1,Z,⟨by omega,by omega,fun i h1 h2 => by omega,.inl Z⟩,Z⟩)
       ·intro hc8
        refine zj<|zc<|za<|zb zg0 Z Z ?_
        refine zaI (z:=((l.getD 0 0).toNat:Int) % 8) zg0 Z Z Z (and8 3 (by decide) (by omega) (by omega)) ?_
        refine zN (z:=((l.getD 0 0).toNat:Int) % 8) Tryz.underlying5 Tryz.underlying21 zg0 Z Z (w32i (by omega) (by omega)) ?_
        refine zbG (z:=(((l.getD 0 0).toNat:Int) % 8) * 262144) zg0 Z Z Z (by omega) (zbw _ _ 18 Z (by decide) _ (by decide) (by omega) (by omega))<|zb zg0 Z Z ?_
        refine zaI (z:=((l.getD 1 0).toNat:Int) % 64) zg0 Z Z Z (and8 6 (by decide) (by omega) (by omega)) ?_
        refine zN (z:=((l.getD 1 0).toNat:Int) % 64) Tryz.underlying5 Tryz.underlying21 zg0 Z Z (w32i (by omega) (by omega)) ?_
        refine zbG (z:=(((l.getD 1 0).toNat:Int) % 64) * 4096) zg0 Z Z Z (by omega) (zbw _ _ 12 Z (by decide) _ (by decide) (by omega) (by omega)) ?_
        obtain ⟨z2,hz2,hz2a,hz2b,hz2c⟩:=or32 (a:=(((l.getD 0 0).toNat:Int) % 8) * 262144) (b:=(((l.getD 1 0).toNat:Int) % 64) * 4096) 31 (by decide) (by omega) (by omega) (by omega) (by omega)
        refine zbH (z:=z2) zg0 Z Z Z hz2<|zb zg0 Z Z ?_
        refine zaI (z:=((l.getD 2 0).toNat:Int) % 64) zg0 Z Z Z (and8 6 (by decide) (by omega) (by omega)) ?_
        refine zN (z:=((l.getD 2 0).toNat:Int) % 64) Tryz.underlying5 Tryz.underlying21 zg0 Z Z (w32i (by omega) (by omega)) ?_
        refine zbG (z:=(((l.getD 2 0).toNat:Int) % 64) * 64) zg0 Z Z Z (by omega) (zbw _ _ 6 Z (by decide) _ (by decide) (by omega) (by omega)) ?_
        obtain ⟨z3,hz3,hz3a,hz3b,hz3c⟩:=or32 (a:=z2) (b:=(((l.getD 2 0).toNat:Int) % 64) * 64) 31 (by decide) (by omega) (by omega) (by omega) (by omega)
        refine zbH (z:=z3) zg0 Z Z Z hz3<|zb zg0 Z Z ?_
        refine zaI (z:=((l.getD 3 0).toNat:Int) % 64) zg0 Z Z Z (and8 6 (by decide) (by omega) (by omega)) ?_
        refine zN (z:=((l.getD 3 0).toNat:Int) % 64) Tryz.underlying5 Tryz.underlying21 zg0 Z Z (w32i (by omega) (by omega)) ?_
        obtain ⟨z4,hz4,hz4a,hz4b,hz4c⟩:=or32 (a:=z3) (b:=((l.getD 3 0).toNat:Int) % 64) 31 (by decide) (by omega) (by omega) (by omega) (by omega)
        refine zbH (z:=z4) zg0 Z Z Z hz4<|AtL.assign zg0 Z Z<|AtL.assign zg0 Z Z<|AtL.done<|At.pick [] 1 Z Z ?_
        exact zt Tryz.func152 Z Z (⟨_,4,Z,⟨by omega,by omega,fun i h1 h2 => (by rcases (show i=1∨i=2∨i=3 by omega) with rfl | rfl | rfl <;> omega),.inr (.inr (.inr ⟨Z,by omega,by omega⟩))⟩,Z⟩)
theorem zkQ:∀ q:Fin 256,128≤q.val→Lib.firstT q.val=241∨(Lib.firstT q.val=2∧194≤q.val∧q.val < 224)∨(Lib.firstT q.val=19∧q.val=224)∨(Lib.firstT q.val=3∧225≤q.val∧q.val < 240)∨(Lib.firstT q.val=35∧q.val=237)∨(Lib.firstT q.val=52∧q.val=240)∨(Lib.firstT q.val=4∧241≤q.val∧q.val < 244)∨(Lib.firstT q.val=68∧q.val=244):=by
 decide +kernel
theorem first_case (b:Nat) (h:b < 256) (h128:128≤b):Lib.firstT b=241∨(Lib.firstT b=2∧194≤b∧b < 224)∨(Lib.firstT b=19∧b=224)∨(Lib.firstT b=3∧225≤b∧b < 240)∨(Lib.firstT b=35∧b=237)∨(Lib.firstT b=52∧b=240)∨(Lib.firstT b=4∧241≤b∧b < 244)∨(Lib.firstT b=68∧b=244):=zkQ ⟨b,h⟩ h128
theorem slow_ok {w0:World}{base:Nat}{H:List Seg}{A:Option Addr}{C:Nat}{l:List UInt8}(h:Rd tyB w0 base H A C l) (T:Tabs w0 base) (hl:l≠[]) (h128:128≤(l.getD 0 0).toNat) :
  SCalls Tryz.prog 152 [.slice A l.length C] w0 base H (fun v H' => ∃ (r:Int) (n:Nat),v = .tuple #[.int .i32 r,int (n:Int)]∧zhw l r n∧H' = H):=by
 rcases first_case _ (l.getD 0 0).toNat_lt h128 with hx | ⟨hx,hp⟩ | ⟨hx,hp⟩ | ⟨hx,hp⟩ | ⟨hx,hp⟩ | ⟨hx,hp⟩ | ⟨hx,hp⟩ | ⟨hx,hp⟩
 ·exact slow_241 h T hl (by rw [hx]; rfl)
 ·exact slow_2 h T hl (by rw [hx]; rfl) hp
 ·exact slow_19 h T hl (by rw [hx]; rfl) hp
 ·exact slow_3 h T hl (by rw [hx]; rfl) hp
 ·exact slow_35 h T hl (by rw [hx]; rfl) hp
 ·exact slow_52 h T hl (by rw [hx]; rfl) hp
 ·exact slow_4 h T hl (by rw [hx]; rfl) hp
 ·exact slow_68 h T hl (by rw [hx]; rfl) hp
theorem decode_ok {w0:World}{base:Nat}{H:List Seg}{A:Option Addr}{C:Nat}{l:List UInt8}(h:Rd tyB w0 base H A C l) (T:Tabs w0 base) (hl:l≠[]) (h128:128≤(l.getD 0 0).toNat) :
  SCalls Tryz.prog 137 [.slice A l.length C] w0 base (H) (fun v H' => ∃ (r:Int) (n:Nat),v = .tuple #[.int .i32 r,int (n:Int)]∧zhw l r n∧H' = H):=by
 have hpos:=List.length_pos_iff.2 hl
 have hcap:=h.cap
 have hle:=h.le
 refine SCalls.of_walk (n:=22) Tryz.func137 Z Z Z fun cs => ?_
 refine zc<|za<|AtL.assign zg0 Z Z<|AtL.assign zg0 Z Z<|AtL.done<|zc ?_
 refine zc<|za<|zb zg0 Z Z<|zC Tryz.underlying34 zg0 Z Z<|zb zg0 Z Z<|AtL.done ?_
 refine At.block<|zbp<|zc<|za<|zA zg0 Z Z Z<|AtL.done ?_
 refine zc ?_
 refine zU true Z (decide_eq_true (by omega))<|zj<|zc<|At.block<|zc<|za ?_
 refine zF 0 h Tryz.underlying34 zQ zg0 Z Z Z Z (by omega) ?_
 refine zh (v:=.int .u8 ((l.getD 0 0).toNat:Int)) zS zg0 Z Z (zH h (zz 0 (by omega)) Z)<|AtL.assign zg0 Z Z<|AtL.done<|zc<|zc<|za ?_
 refine zb zg0 Z Z<|zA zg0 Z Z Z<|AtL.done ?_
 refine zU false Z (decide_eq_false (by omega))<|zj<|zau Z<|zc<|za<|zb zg0 Z Z ?_
 refine zk tf_body152 zg0 Z Z (slow_ok (l:=l) h T hl h128) ?_
 rintro _ _ ⟨r1,n2,rfl,hd3,hHq⟩
 obtain rfl:=hHq.symm
 refine zb zg0 Z Z<|AtL.extract zg0 Z Z Z<|AtL.extract zg0 Z Z Z<|AtL.assign zg0 Z Z<|AtL.assign zg0 Z Z<|AtL.done ?_
 exact zt Tryz.func137 Z Z (⟨_,_,Z,hd3,Z⟩)
def ncr (c:UInt8):Bool:=!crlf c
theorem zkI {c:UInt8}(h:128≤c.toNat):ncr c=true:=by
 have h1:¬ c=13:=by rintro rfl; exact absurd h (by decide)
 have h2:¬ c=10:=by rintro rfl; exact absurd h (by decide)
 simp [ncr,crlf,h1,h2]
theorem any_ncr (l:List UInt8):l.any crlf = !l.all ncr:=by
 have:ncr=fun c => !crlf c:=rfl
 rw [this]
 induction l with
 | nil => rfl
 | cons c l ih => simp [ih,Bool.not_and]
def two (c:UInt8):Int:=Lib.indexByte [13,10] c
theorem two_neg (c:UInt8):decide (0≤two c)=crlf c:=by
 unfold two
 rw [Bool.eq_iff_iff]
 simp only [Lib.indexByte,crlf,decide_eq_true_eq,Bool.or_eq_true]
 by_cases h1:c=13
 ·subst h1; simp
 ·by_cases h2:c=10
  ·subst h2; decide
  ·have h3:¬ ((13:UInt8) == c)=true:=by simpa using fun h:(13:UInt8)=c => h1 h.symm
   have h4:¬ ((10:UInt8) == c)=true:=by simpa using fun h:(10:UInt8)=c => h2 h.symm
   simp [h1,h2,h3,h4]
theorem take_more {l:List UInt8}{i n:Nat}(h:i + n≤l.length) (ha:(l.take i).all ncr=true) (hn:∀ j,j < n→ncr (l.getD (i + j) 0)=true):(l.take (i + n)).all ncr=true:=by
 induction n with
 | zero => exact ha
 | succ n ih => exact zds (k:=i + n) (by omega) (ih (by omega) (fun j hj => hn j (by omega))) (hn n (by omega))
theorem zgq {l:List UInt8}{k n:Nat}(hk:k < l.length) (h0:128≤(l.getD k 0).toNat) (hb:n≤(subl l k l.length).length) (hc:∀ i,1≤i→i < n→128≤((subl l k l.length).getD i 0).toNat) (ha:(l.take k).all ncr=true):(l.take (k + n)).all ncr=true:=by
 have hl:=zP (l:=l) (i:=k) (j:=l.length) (Nat.le_refl _)
 refine take_more (by omega) ha fun j hj => ?_
 rcases Nat.eq_zero_or_pos j with h | h
 ·subst h; exact zkI h0
 ·have:=hc j h hj
  rw [zdH (by omega)] at this
  exact zkI this
theorem letA_two:((List.replicate 256 false).set 13 true).set 10 true=letA [13,10]:=by decide +kernel
theorem two_crlf (c:UInt8):(letA [13,10]).getD c.toNat false=crlf c:=by
 rw [ziE]
 simp [crlf]
theorem useset_ok {w0:World}{base:Nat}{H:List Seg}(n:Int) :
  SCalls Tryz.prog 134 [V n] w0 base (H) (fun v H' => v = .bool (decide (8 < n))∧H' = H):=by
 refine SCalls.of_walk (n:=5) Tryz.func134 Z Z Z fun cs => ?_
 refine zc<|za<|AtL.assign zg0 Z Z<|AtL.done<|zc<|za ?_
 refine zb zg0 Z Z<|zai zg0 Z Z Z<|AtL.assign zg0 Z Z<|AtL.done ?_
 exact zt Tryz.func134 Z Z (⟨Z,Z⟩)
theorem makeset_ok {w0:World}{base:Nat}{H:List Seg}  :
  SCalls Tryz.prog 135 [str ([13,10]:List UInt8)] w0 base (H) (fun v H' => v = .tuple #[.agg (tyBool.cells (letA [13,10])).toArray,.bool true]∧H' = H):=by
 have h2l:([13,10]:List UInt8).length=2:=rfl
 refine SCalls.of_walk (n:=21) Tryz.func135 Z Z Z fun cs => ?_
 refine zc<|za ?_
 refine zdv tyBool (l:=List.replicate 256 false) zhA zhD (by simp) zg0 Z ?_
 intro b1 s2 o3
 rw [List.length_replicate] at o3
 refine AtL.assign zg0 Z Z<|AtL.done<|zc<|zc<|za<|AtL.assign zg0 Z Z ?_
 refine AtL.done<|At.block<|zbp<|zc<|zc<|za ?_
 refine zb zg0 Z Z<|zb zg0 Z Z<|zb7 (l:=([13,10]:List UInt8)) Tryz.underlying9 zg0 Z Z<|zA zg0 Z Z Z<|AtL.done<|zU true Z Z ?_
 refine zj<|zc<|At.block<|zc<|za<|zb zg0 Z Z ?_
 refine zb zg0 Z Z ?_
 refine zcj (l:=([13,10]:List UInt8)) 0 Z (by omega) Tryz.underlying9 zg0 Z Z Z<|AtL.assign zg0 Z Z<|AtL.done<|zc<|zc<|za ?_
 refine zb zg0 Z Z<|zbu zg0 Z Z Z<|AtL.done ?_
 refine zU false Z (by decide)<|zj<|za<|zb zg0 Z Z ?_
 refine zat 13 Tryz.underlying222 za0 zg0 Z Z Z (by decide) (by decide) ?_
 refine zeN (u:=true) 0 13 za0 Z o3 (by decide) zg0 Z Z ?_
 intro s4 o5
 refine AtL.done<|zp<|za<|zb zg0 Z Z ?_
 refine AtL.add (z:=1) zg0 Z Z Z (by decide)<|AtL.assign zg0 Z Z<|AtL.done<|zaN<|zc<|zc ?_
 refine za<|zb zg0 Z Z<|zb zg0 Z Z<|zb7 (l:=([13,10]:List UInt8)) Tryz.underlying9 zg0 Z Z<|zA zg0 Z Z Z<|AtL.done ?_
 refine zU true Z Z<|zj<|zc<|At.block<|zc<|za ?_
 refine zb zg0 Z Z<|zb zg0 Z Z ?_
 refine zcj (l:=([13,10]:List UInt8)) 1 Z (by omega) Tryz.underlying9 zg0 Z Z Z<|AtL.assign zg0 Z Z<|AtL.done<|zc<|zc<|za ?_
 refine zb zg0 Z Z<|zbu zg0 Z Z Z<|AtL.done ?_
 refine zU false Z (by decide)<|zj<|za<|zb zg0 Z Z ?_
 refine zat 10 Tryz.underlying222 za0 zg0 Z Z Z (by decide) (by decide) ?_
 refine zeN (u:=true) 0 10 za0 Z o5 (by decide) zg0 Z Z ?_
 intro s6 o7
 refine AtL.done<|zp<|za<|zb zg0 Z Z ?_
 refine AtL.add (z:=2) zg0 Z Z Z (by decide)<|AtL.assign zg0 Z Z<|AtL.done<|zaN<|zc<|zc ?_
 refine za<|zb zg0 Z Z<|zb zg0 Z Z<|zb7 (l:=([13,10]:List UInt8)) Tryz.underlying9 zg0 Z Z<|zA zg0 Z Z Z<|AtL.done ?_
 refine zU false Z Z<|zau Z<|zc<|za ?_
 refine zhl (o7.rd (i:=0) Z) zjz (by simp [zal,tyBool]) zg0 Z Z ?_
 refine zdu (T:=tyBool) (l':=((List.replicate 256 false).set 13 true).set 10 true) 0 tf_sz222 Z o7 Z Z (by simp [zal,tyBool]) zg0 Z Z ?_
 intro s8 o9
 refine AtL.assign zg0 Z Z<|AtL.done ?_
 exact zaZ (vs:=[.agg (tyBool.cells (((List.replicate 256 false).set 13 true).set 10 true)).toArray,.bool true]) [] 1 Z Z Tryz.func135 Z ⟨⟨_,Z,LoadsTo.arr (o9.rd (i:=0) Z) zjz (by simp [zal,tyBool,zb6])⟩,Z,trivial⟩ (⟨congrArg (fun l => Value.tuple #[.agg (tyBool.cells l).toArray,.bool true]) letA_two,Z⟩)
theorem inset_ok {w0:World}{base:Nat}{H:List Seg}{b C:Nat}(h:Rd tyBool w0 base H (some ⟨b,0,none⟩) C (letA [13,10])) (c:UInt8) :
  SCalls Tryz.prog 136 [B b,.int .u8 (c.toNat:Int)] w0 base (H) (fun v H' => v = .bool (crlf c)∧H' = H):=by
 refine SCalls.of_walk (n:=10) Tryz.func136 Z Z Z fun cs => ?_
 refine zc<|za<|AtL.assign zg0 Z Z<|AtL.done<|zc<|za ?_
 refine zb zg0 Z Z<|zb zg0 Z Z<|zf zg0 Z Z<|zat c.toNat Tryz.underlying222 za0 zg0 Z Z Z Z c.toNat_lt ?_
 refine zh (v:=.bool ((letA [13,10]).getD c.toNat false)) zR zg0 Z Z (zH h (zz false (by rw [zb6]; exact c.toNat_lt)) Z)<|AtL.assign zg0 Z Z<|AtL.done ?_
 exact zt Tryz.func136 Z Z (⟨congrArg Value.bool (two_crlf c),Z⟩)
theorem ibs_run (c:UInt8) (w:World):(callFunc 132 #[str [13,10],byt c]).run Tryz.prog w = .ok (.value (int (two c))) w:=by
 rw [run_callFunc_extern Tryz.func132 (by kernel_rfl) (by kernel_rfl) (by kernel_rfl) (e:=Extern.BytealgIndexByte.indexByte) (by kernel_rfl)]
 have:=Lib.run_indexByteString (P:=Tryz.prog) ⟨⟨[13,10]⟩⟩ (c.toNat:Int) w
 simp only [Sem.run_bind,str,byt]
 rw [this]
 have e:((c.toNat:Int).toNat.toUInt8)=c:=by simp
 rw [e]
 rfl
theorem index_two {s:List UInt8}(h:3≤s.length):Lib.index [13,10] s = -1:=by
 have h1:=Lib.index_ge [13,10] s
 by_cases h2:0≤Lib.index [13,10] s
 ·have h3:=Lib.index_room [13,10] s h2
  simp at h3
  omega
 ·omega
theorem ixs_run {w0:World}{base:Nat}{H:List Seg}{m:Int}(hb:0 < base) (hm:w0.cell? ⟨0,0,none⟩=some (int m)) {s:List UInt8}(h3:3≤s.length) (h4:(s.length:Int)≤m) (w:World) (S:Sep w0 base w H):(callFunc 138 #[str [13,10],str s]).run Tryz.prog w = .ok (.value (int (-1))) w:=by
 rw [run_callFunc_extern Tryz.func138 (by kernel_rfl) (by kernel_rfl) (by kernel_rfl) (e:=Extern.BytealgIndex.index) (by kernel_rfl)]
 have:=Lib.run_indexString (P:=Tryz.prog) ⟨⟨[13,10]⟩⟩ ⟨⟨s⟩⟩ w 0 m (by kernel_rfl) (S.cellBelow hb hm) (by rw [zcr]; omega) (by rw [zcr]; omega) (by decide)
 simp only [str]
 rw [this,index_two h3]
 rfl
theorem any_no {l:List UInt8}(h:l.all ncr=true):decide (0≤(-1:Int))=l.any crlf:=by rw [any_ncr,h]; rfl
theorem zk3 {l:List UInt8}{k:Nat}(hk:k < l.length) (h:crlf (l.getD k 0)=true) {z:Int}(hz:0≤z):decide (0≤z)=l.any crlf:=by
 rw [any_ncr,ziT hk (by rw [ncr,h]; rfl),decide_eq_true hz]; rfl
theorem ncr_two {c:UInt8}(h:¬ 0≤two c):ncr c=true:=by
 have:=two_neg c
 rw [decide_eq_false h] at this
 rw [ncr,← this]; rfl
theorem crlf_two {c:UInt8}(h:0≤two c):crlf c=true:=by
 have:=two_neg c
 rw [decide_eq_true h] at this
 exact this.symm
theorem zkK {w0:World}{base:Nat}{H:List Seg}{A:Option Addr}{C:Nat}{l:List UInt8}(h:Rd tyB w0 base H A C l) (T:Tabs w0 base) :
  SCalls Tryz.prog 117 [.slice A l.length C,str [13,10]] w0 base (H) (fun v H' => ∃ z:Int,v=int z∧decide (0≤z)=l.any crlf∧H' = H):=by
 have hcap:=h.cap
 have hle:=h.le
 have h2l:([13,10]:List UInt8).length=2:=rfl
 obtain ⟨m,hm⟩:=T.max
 refine SCalls.of_walk (n:=129) Tryz.func117 Z Z Z fun cs => ?_
 refine zc<|za<|AtL.assign zg0 Z Z<|AtL.done<|zc<|zc ?_
 refine za<|zb zg0 Z Z<|zcT (a:=[13,10]) (b:=[]) zg0 Z Z Z<|AtL.done ?_
 refine zU false Z (by decide)<|zj<|zc<|zc<|za<|zb zg0 Z Z ?_
 refine zC Tryz.underlying34 zg0 Z Z<|zW zg0 Z Z Z<|AtL.done<|zq Z ?_ ?_
 ·intro hc2
  refine zc<|za<|zb zg0 Z Z ?_
  refine zF 0 h Tryz.underlying34 zQ zg0 Z Z Z Z (by omega) ?_
  refine zh (v:=.int .u8 ((l.getD 0 0).toNat:Int)) zS zg0 Z Z (zH h (zz 0 (by omega)) Z) ?_
  have hB1:=zbv ((l.getD 0 0))
  refine zN (z:=((l.getD 0 0).toNat:Int)) Tryz.underlying5 Tryz.underlying21 zg0 Z Z (w32i (by omega) (by omega))<|AtL.assign zg0 Z Z<|AtL.done<|zc<|zc<|za ?_
  refine zb zg0 Z Z<|zbu zg0 Z Z Z<|AtL.done<|zq Z ?_ ?_
  ·intro hc3
   refine zc<|zc<|za<|zb zg0 Z Z<|zfZ Tryz.underlying9 zg0 Z Z ?_
   intro b2
   refine AtL.done<|At.block<|zbp<|zc<|za ?_
   refine zdN (p:=0) (n:=1) (c:=13) (l:=[13,10]) (H':=[(b2,.stringIter ⟨⟨[13,10]⟩⟩ 1)]::H) 0 0 zg0 Z Z Z Z Z (by decide) Z<|AtL.extract zg0 Z Z Z<|AtL.done<|zc<|zX Z<|zj ?_
   refine At.block<|zc<|za<|AtL.extract zg0 Z Z Z<|AtL.assign zg0 Z Z<|AtL.done ?_
   refine zc<|za<|zb zg0 Z Z<|zW zg0 Z Z Z<|AtL.done<|zB Z ?_
   refine zj<|zp<|zaN<|zc<|za ?_
   refine zdN (p:=1) (n:=1) (c:=10) (l:=[13,10]) (H':=[(b2,.stringIter ⟨⟨[13,10]⟩⟩ 2)]::H) 0 0 zg0 Z Z Z Z Z (by decide) Z<|AtL.extract zg0 Z Z Z<|AtL.done<|zc<|zX Z<|zj ?_
   refine At.block<|zc<|za<|AtL.extract zg0 Z Z Z<|AtL.assign zg0 Z Z<|AtL.done ?_
   refine zc<|za<|zb zg0 Z Z<|zW zg0 Z Z Z<|AtL.done<|zB Z ?_
   refine zj<|zp<|zaN<|zc<|za<|zex (p:=2) (l:=[13,10]) 0 0 zg0 Z Z Z Z Z ?_
   refine AtL.extract zg0 Z Z Z<|AtL.done<|zc<|zB Z<|zau Z<|zc ?_
   refine za<|AtL.assign zg0 Z Z<|AtL.done<|At.pick [] 1 Z Z ?_
   exact zt Tryz.func117 Z Z (⟨_,Z,any_no (ze1 (k:=1) (by omega) (zds (k:=0) (by omega) Z (zkI (by omega)))),Z⟩)
  ·intro hc3
   refine zj<|zc<|zc<|za<|zb zg0 Z Z<|zb zg0 Z Z ?_
   refine zF 0 h Tryz.underlying34 zQ zg0 Z Z Z Z (by omega) ?_
   refine zh (v:=.int .u8 ((l.getD 0 0).toNat:Int)) zS zg0 Z Z (zH h (zz 0 (by omega)) Z)<|zho (v:=V (two (l.getD 0 0))) (fun w S => ibs_run _ w) zg0 Z Z<|zbu zg0 Z Z Z<|AtL.done<|zq Z ?_ ?_
   ·intro hc6
    refine zc<|za<|AtL.assign zg0 Z Z<|AtL.done ?_
    exact zt Tryz.func117 Z Z (⟨_,Z,zk3 (k:=0) (by omega) (crlf_two hc6) (by omega),Z⟩)
   ·intro hc6
    refine zj<|zc<|za<|AtL.assign zg0 Z Z<|AtL.done ?_
    exact zt Tryz.func117 Z Z (⟨_,Z,any_no (ze1 (k:=1) (by omega) (zds (k:=0) (by omega) Z (ncr_two hc6))),Z⟩)
 ·intro hc2
  refine zj<|zc<|zc<|za<|zb zg0 Z Z<|zb7 (l:=[13,10]) Tryz.underlying9 zg0 Z Z ?_
  refine zW zg0 Z Z Z<|AtL.done ?_
  refine zU false Z (by decide)<|zj<|zc<|zc<|za<|zb zg0 Z Z ?_
  refine zC Tryz.underlying34 zg0 Z Z<|zk tf_body134 zg0 Z Z (useset_ok (l.length:Int)) ?_
  rintro _ _ ⟨rfl,hHq⟩
  obtain rfl:=hHq.symm
  refine AtL.done<|zq Z ?_ ?_
  ·intro hc9
   refine zc<|za<|zb zg0 Z Z<|zk tf_body135 zg0 Z Z makeset_ok ?_
   rintro _ _ ⟨rfl,hHq⟩
   obtain rfl:=hHq.symm
   refine zb zg0 Z Z<|AtL.extract zg0 Z Z Z<|AtL.extract zg0 Z Z Z ?_
   refine zdv tyBool (l:=List.replicate 256 false) zhA zhD (by simp) zg0 Z ?_
   intro b3 s4 o5
   rw [List.length_replicate] at o5
   refine zdu (T:=tyBool) (l':=letA [13,10]) 0 tf_sz222 Z o5 (by simp [zb6]) Z (by simp [zal,tyBool,zb6]) zg0 Z Z ?_
   intro s6 o7
   refine AtL.assign zg0 Z Z<|AtL.done<|zc<|za<|zb zg0 Z Z<|AtL.done ?_
   refine zX Z<|zc<|zc<|za<|zb zg0 Z Z<|zC Tryz.underlying34 zg0 Z Z ?_
   refine zb zg0 Z Z<|AtL.done<|At.block<|zcF (fun (k:Nat) => [(7,B b3),(60,.slice A l.length C),(61,V (l.length:Int)),(62,V (k:Int))]) (fun (k:Nat) => s6::H) (fun (k:Nat) => k≤l.length∧(l.take k).all ncr=true) (fun (k:Nat) => l.length - k) 0 (⟨Nat.zero_le _,Z⟩) ⟨Z,Z,Z,Z,trivial⟩ Z ?_
   rintro k ⟨hk,ha⟩ ihL2
   refine zc<|za<|zA zg0 Z Z Z<|AtL.done<|zc<|zq Z ?_ ?_
   ·intro hc11
    refine zj<|zc<|At.block<|zc<|za<|zb zg0 Z Z ?_
    refine zF k (Rd.skip 1 h) Tryz.underlying34 zQ zg0 Z Z Z Z (by omega) ?_
    refine zh (v:=.int .u8 ((l.getD k 0).toNat:Int)) zS zg0 Z Z (zH (Rd.skip 1 h) (zz 0 (by omega)) Z)<|AtL.assign zg0 Z Z<|AtL.assign zg0 Z Z<|AtL.done<|zc<|za ?_
    refine zb zg0 Z Z<|zk tf_body136 zg0 Z Z (inset_ok (o7.rd (i:=0) Z) (l.getD k 0)) ?_
    rintro _ _ ⟨rfl,rfl⟩
    refine AtL.done<|zae Z ?_ ?_
    ·intro hc12
     have hc12:(crlf (l.getD k 0))=true:=hc12
     refine zc<|za<|zb zg0 Z Z<|AtL.assign zg0 Z Z<|AtL.done<|At.pick [] 1 Z Z ?_
     exact zt Tryz.func117 Z Z (⟨_,Z,zk3 (k:=k) (by omega) hc12 (by omega),Z⟩)
    ·intro hc12
     have hc12:(crlf (l.getD k 0))=false:=hc12
     refine zj<|zp<|za ?_
     refine AtL.add (z:=(k:Int) + 1) zg0 Z Z Z (w64 (by omega) (by omega))<|zb zg0 Z Z<|AtL.done ?_
     refine ihL2 (k + 1) (⟨by omega,zds (by omega) ha (by rw [ncr,hc12]; rfl)⟩) (by omega) _ ?_
     exact ⟨Z,Z,Z,(by first | rfl | exact zaf (by simp []) | exact zah (by omega) | exact zah (by simp []) | exact zaf (by simp []; omega)),trivial⟩
   ·intro hc11
    refine zau Z<|zc<|za<|AtL.assign zg0 Z Z<|AtL.done<|At.pick [] 1 Z Z ?_
    exact zt Tryz.func117 Z Z (⟨_,Z,any_no (ze1 (k:=k) (by omega) ha),Z⟩)
  ·intro hc9
   refine zj<|zc<|za<|AtL.assign zg0 Z Z<|AtL.done<|zc ?_
   refine zc<|za<|AtL.assign zg0 Z Z<|AtL.done<|At.block<|zcF (fun (k:Nat) => [(0,.slice A l.length C),(1,str [13,10]),(12,V (k:Int))]) (fun (k:Nat) => H) (fun (k:Nat) => k≤l.length∧(l.take k).all ncr=true) (fun (k:Nat) => l.length - k) 0 (⟨Nat.zero_le _,Z⟩) ⟨Z,Z,Z,trivial⟩ Z ?_
   rintro k ⟨hk,ha⟩ ihL3
   refine zc<|zc<|za<|zb zg0 Z Z<|zb zg0 Z Z<|zC Tryz.underlying34 zg0 Z Z ?_
   refine zA zg0 Z Z Z<|AtL.done<|zq Z ?_ ?_
   ·intro hc13
    refine zj<|zc<|At.block<|zc<|za<|zb zg0 Z Z ?_
    refine zb zg0 Z Z ?_
    refine zF k h Tryz.underlying34 zQ zg0 Z Z Z Z (by omega) ?_
    refine zh (v:=.int .u8 ((l.getD k 0).toNat:Int)) zS zg0 Z Z (zH h (zz 0 (by omega)) Z) ?_
    have hB8:=zbv ((l.getD k 0))
    refine zN (z:=((l.getD k 0).toNat:Int)) Tryz.underlying5 Tryz.underlying21 zg0 Z Z (w32i (by omega) (by omega))<|AtL.assign zg0 Z Z<|AtL.done<|zc<|zc<|za ?_
    refine zb zg0 Z Z<|zA zg0 Z Z Z<|AtL.done<|zq Z ?_ ?_
    ·intro hc14
     refine zc<|zc<|za<|zb zg0 Z Z<|zb zg0 Z Z<|zb zg0 Z Z ?_
     refine zF k h Tryz.underlying34 zQ zg0 Z Z Z Z (by omega) ?_
     refine zh (v:=.int .u8 ((l.getD k 0).toNat:Int)) zS zg0 Z Z (zH h (zz 0 (by omega)) Z)<|zho (v:=V (two (l.getD k 0))) (fun w S => ibs_run _ w) zg0 Z Z<|zbu zg0 Z Z Z<|AtL.done<|zq Z ?_ ?_
     ·intro hc15
      refine zc<|za<|zb zg0 Z Z<|AtL.assign zg0 Z Z<|AtL.done ?_
      exact zt Tryz.func117 Z Z (⟨_,Z,zk3 (k:=k) (by omega) (crlf_two hc15) (by omega),Z⟩)
     ·intro hc15
      refine zj<|zc<|za<|AtL.assign zg0 Z Z<|AtL.done<|zau Z ?_
      refine za<|zb zg0 Z Z<|zb zg0 Z Z ?_
      refine AtL.add (z:=(k:Int) + 1) zg0 Z Z Z (w64 (by omega) (by omega))<|AtL.assign zg0 Z Z<|AtL.done ?_
      refine ihL3 (k + 1) (⟨by omega,zds (by omega) ha (ncr_two hc15)⟩) (by omega) _ ?_
      exact ⟨Z,Z,(by first | rfl | exact zaf (by simp []) | exact zah (by omega) | exact zah (by simp []) | exact zaf (by simp []; omega)),trivial⟩
    ·intro hc14
     refine zj<|zc<|za<|zb zg0 Z Z<|zb zg0 Z Z ?_
     have hleo11:=Rd.le h
     refine AtL.sliceR 0 k l.length C h (zI Z Z) Z Z (by intro h; cases h) (by omega) (by omega) (by omega) (by omega) Tryz.underlying34 zQ zg0 Z Z ?_
     clear hleo11
     intro A9 C10 (o11:Rd tyB w0 base H A9 C10 (subl l k l.length))
     have hlo11:(subl l k l.length).length=l.length - k:=zP (by omega)
     refine zk tf_body137 zg0 Z Z (decode_ok (l:=subl l k l.length) o11 T (fun h => by have:=congrArg List.length h; rw [zP (Nat.le_refl _)] at this; simp at this; omega) (by rw [zdH (by omega),Nat.add_zero]; omega)) ?_
     rintro _ _ ⟨r12,n13,rfl,⟨hd14a,hd14b,hd14c,hd14d⟩,hHq⟩
     obtain rfl:=hHq.symm
     have hdc:=hd14c
     have hda:=hd14a
     have hdb:=hd14b
     refine zb zg0 Z Z<|AtL.extract zg0 Z Z Z<|AtL.extract zg0 Z Z Z<|AtL.assign zg0 Z Z<|AtL.assign zg0 Z Z<|AtL.done ?_
     refine zc<|zc<|za<|zb zg0 Z Z<|zT zg0 Z Z Z<|AtL.done ?_
     refine zae Z ?_ ?_
     ·intro hc16
      have hc16:¬ ((r12:Int)=65533):=of_decide_eq_false (zO hc16)
      refine zc<|zc<|za<|zb zg0 Z Z<|zb7 (l:=[13,10]) Tryz.underlying9 zg0 Z Z<|zb zg0 Z Z ?_
      refine zW zg0 Z Z Z<|AtL.done<|zq Z ?_ ?_
      ·intro hc17
       refine zc<|zc<|za<|zb zg0 Z Z<|zb zg0 Z Z<|zgh Tryz.underlying21 Tryz.underlying9 zg0 Z Z ?_
       refine zcT (a:=[13,10]) (b:=encL r12) zg0 Z Z Z<|AtL.done<|zU false Z (decide_eq_false (fun h => enc_no _ h.symm))<|zj<|zau Z<|za ?_
       refine zb zg0 Z Z<|zb zg0 Z Z ?_
       refine AtL.add (z:=(k:Int) + (n13:Int)) zg0 Z Z Z (w64 (by omega) (by omega))<|AtL.assign zg0 Z Z<|AtL.done ?_
       refine ihL3 (k + n13) (⟨by omega,zgq (by omega) (by omega) hdb hdc ha⟩) (by omega) _ ?_
       exact ⟨Z,Z,(by first | rfl | exact zaf (by simp []) | exact zah (by omega) | exact zah (by simp []) | exact zaf (by simp []; omega)),trivial⟩
      ·intro hc17
       refine zj<|zc<|za<|zh (v:=int m) zo zg0 Z Z (Cell.below T.lt0 hm)<|zb zg0 Z Z<|zbu zg0 Z Z Z ?_
       refine AtL.done<|zq Z ?_ ?_
       ·intro hc19
        refine zc<|zc<|za<|zb zg0 Z Z<|zb zg0 Z Z<|zgh Tryz.underlying21 Tryz.underlying9 zg0 Z Z ?_
        have hel:3≤(encL r12).length∧((encL r12).length:Int)≤m:=by
         rcases (show (2048≤r12∧r12≤65535∧3≤m)∨(2048≤r12∧4≤m) by omega) with ⟨q1,q2,q3⟩ | ⟨q1,q2⟩
         ·have:=enc3 q1 q2; omega
         ·have:=enc_long q1; omega
        refine zho (v:=V (-1)) (fun w S => ixs_run T.lt0 hm hel.1 hel.2 w S) zg0 Z Z<|zbu zg0 Z Z Z<|AtL.done<|zB Z<|zj<|zau Z ?_
        refine za<|zb zg0 Z Z<|zb zg0 Z Z ?_
        refine AtL.add (z:=(k:Int) + (n13:Int)) zg0 Z Z Z (w64 (by omega) (by omega))<|AtL.assign zg0 Z Z<|AtL.done ?_
        refine ihL3 (k + n13) (⟨by omega,zgq (by omega) (by omega) hdb hdc ha⟩) (by omega) _ ?_
        exact ⟨Z,Z,(by first | rfl | exact zaf (by simp []) | exact zah (by omega) | exact zah (by simp []) | exact zaf (by simp []; omega)),trivial⟩
       ·intro hc19
        refine zj<|zc<|za<|zb zg0 Z Z<|zfZ Tryz.underlying9 zg0 Z Z ?_
        intro b15
        refine AtL.done<|At.block<|zbp<|zc<|za ?_
        refine zdN (p:=0) (n:=1) (c:=13) (l:=[13,10]) (H':=[(b15,.stringIter ⟨⟨[13,10]⟩⟩ 1)]::H) 0 0 zg0 Z Z Z Z Z (by decide) Z<|AtL.extract zg0 Z Z Z<|AtL.done<|zc<|zX Z<|zj ?_
        refine At.block<|zc<|za<|AtL.extract zg0 Z Z Z<|AtL.assign zg0 Z Z<|AtL.done ?_
        refine zc<|za<|zb zg0 Z Z<|zb zg0 Z Z<|zW zg0 Z Z Z<|AtL.done ?_
        refine zU false Z (decide_eq_false (by omega))<|zj<|zp<|zaN<|zc<|za ?_
        refine zdN (p:=1) (n:=1) (c:=10) (l:=[13,10]) (H':=[(b15,.stringIter ⟨⟨[13,10]⟩⟩ 2)]::H) 0 0 zg0 Z Z Z Z Z (by decide) Z<|AtL.extract zg0 Z Z Z<|AtL.done<|zc<|zX Z<|zj ?_
        refine At.block<|zc<|za<|AtL.extract zg0 Z Z Z<|AtL.assign zg0 Z Z<|AtL.done ?_
        refine zc<|za<|zb zg0 Z Z<|zb zg0 Z Z<|zW zg0 Z Z Z<|AtL.done ?_
        refine zU false Z (decide_eq_false (by omega))<|zj<|zp<|zaN<|zc<|za ?_
        refine zex (p:=2) (l:=[13,10]) 0 0 zg0 Z Z Z Z Z<|AtL.extract zg0 Z Z Z<|AtL.done<|zc<|zB Z<|zau Z ?_
        refine zp<|za<|zb zg0 Z Z<|zb zg0 Z Z ?_
        refine AtL.add (z:=(k:Int) + (n13:Int)) zg0 Z Z Z (w64 (by omega) (by omega))<|AtL.assign zg0 Z Z<|AtL.done<|At.pick (H':=H) [] 1 Z Z ?_
        refine ihL3 (k + n13) (⟨by omega,zgq (by omega) (by omega) hdb hdc ha⟩) (by omega) _ ?_
        exact ⟨Z,Z,(by first | rfl | exact zaf (by simp []) | exact zah (by omega) | exact zah (by simp []) | exact zaf (by simp []; omega)),trivial⟩
     ·intro hc16
      have hc16:(r12:Int)=65533:=of_decide_eq_true (zJ hc16)
      refine zj<|zc<|za<|zb zg0 Z Z<|zfZ Tryz.underlying9 zg0 Z Z ?_
      intro b16
      refine AtL.done<|At.block<|zbp<|zc<|za ?_
      refine zdN (p:=0) (n:=1) (c:=13) (l:=[13,10]) (H':=[(b16,.stringIter ⟨⟨[13,10]⟩⟩ 1)]::H) 0 0 zg0 Z Z Z Z Z (by decide) Z<|AtL.extract zg0 Z Z Z<|AtL.done<|zc<|zX Z<|zj ?_
      refine At.block<|zc<|za<|AtL.extract zg0 Z Z Z<|AtL.assign zg0 Z Z<|AtL.done ?_
      refine zc<|za<|zb zg0 Z Z<|zb zg0 Z Z<|zW zg0 Z Z Z<|AtL.done ?_
      refine zU false Z (decide_eq_false (by omega))<|zj<|zp<|zaN<|zc<|za ?_
      refine zdN (p:=1) (n:=1) (c:=10) (l:=[13,10]) (H':=[(b16,.stringIter ⟨⟨[13,10]⟩⟩ 2)]::H) 0 0 zg0 Z Z Z Z Z (by decide) Z<|AtL.extract zg0 Z Z Z<|AtL.done<|zc<|zX Z<|zj ?_
      refine At.block<|zc<|za<|AtL.extract zg0 Z Z Z<|AtL.assign zg0 Z Z<|AtL.done ?_
      refine zc<|za<|zb zg0 Z Z<|zb zg0 Z Z<|zW zg0 Z Z Z<|AtL.done ?_
      refine zU false Z (decide_eq_false (by omega))<|zj<|zp<|zaN<|zc<|za ?_
      refine zex (p:=2) (l:=[13,10]) 0 0 zg0 Z Z Z Z Z<|AtL.extract zg0 Z Z Z<|AtL.done<|zc<|zB Z<|zau Z ?_
      refine zp<|za<|zb zg0 Z Z<|zb zg0 Z Z ?_
      refine AtL.add (z:=(k:Int) + (n13:Int)) zg0 Z Z Z (w64 (by omega) (by omega))<|AtL.assign zg0 Z Z<|AtL.done<|At.pick (H':=H) [] 1 Z Z ?_
      refine ihL3 (k + n13) (⟨by omega,zgq (by omega) (by omega) hdb hdc ha⟩) (by omega) _ ?_
      exact ⟨Z,Z,(by first | rfl | exact zaf (by simp []) | exact zah (by omega) | exact zah (by simp []) | exact zaf (by simp []; omega)),trivial⟩
   ·intro hc13
    refine zau Z<|zc<|za<|AtL.assign zg0 Z Z<|AtL.done ?_
    exact zt Tryz.func117 Z Z (⟨_,Z,any_no (ze1 (k:=k) (by omega) ha),Z⟩)
theorem zhx {w0:World}{base:Nat}{H:List Seg}{A:Option Addr}{C:Nat}{l:List UInt8}(h:Rd tyB w0 base H A C l) (T:Tabs w0 base) :
  SCalls Tryz.prog 100 [.slice A l.length C,str [13,10]] w0 base (H) (fun v H' => v = .bool (l.any crlf)∧H' = H):=by
 refine SCalls.of_walk (n:=9) Tryz.func100 Z Z Z fun cs => ?_
 refine zc<|za<|AtL.assign zg0 Z Z<|AtL.done<|zc<|za ?_
 refine zb zg0 Z Z<|zb zg0 Z Z<|zk tf_body117 zg0 Z Z (zkK (l:=l) h T) ?_
 rintro _ _ ⟨z1,rfl,hz2,hHq⟩
 obtain rfl:=hHq.symm
 refine zbu zg0 Z Z Z<|AtL.assign zg0 Z Z<|AtL.done ?_
 exact zt Tryz.func100 Z Z (⟨congrArg Value.bool hz2,Z⟩)
end Go.Proofs.YtbfabhdfmoiabaaGreatDoor
namespace Go.Proofs.YtbfabhdfmoiabaaGreatDoor
set_option linter.unusedVariables false
set_option linter.unusedSimpArgs false
set_option maxRecDepth 100000
theorem index_bd (l s:List UInt8) (h:0≤Lib.index l s):(Lib.index l s).toNat + s.length≤l.length:=by
 have:=Lib.index_room l s h
 omega
def cutB (l s:List UInt8):List UInt8×List UInt8×Bool:=if 0≤Lib.index l s then (subl l 0 (Lib.index l s).toNat,subl l ((Lib.index l s).toNat + s.length) l.length,true) else (l,[],false)
theorem bcut_ok {w0:World}{base:Nat}{H:List Seg}{A Aq:Option Addr}{C Cq:Nat}{l s:List UInt8}(n:Nat) (hn:Rd tyB w0 base (H.drop n) A C l) (hq:Rd tyB w0 base H Aq Cq s) (hl:l.length < 4294967281) (hs:2≤s.length) (T:Tabs w0 base) :
  SCalls Tryz.prog 99 [.slice A l.length C,.slice Aq s.length Cq] w0 base (H) (fun v H' => ∃ A1 C1 A2 C2,v = .tuple #[.slice A1 (cutB l s).1.length C1,.slice A2 (cutB l s).2.1.length C2,.bool (cutB l s).2.2]∧Rd tyB w0 base (H.drop n) A1 C1 (cutB l s).1∧Rd tyB w0 base (H.drop n) A2 C2 (cutB l s).2.1∧H' = H):=by
 have h:=Rd.skip n hn
 have hcap:=h.cap
 have hle:=h.le
 have hcap2:=hq.cap
 have hle2:=hq.le
 refine SCalls.of_walk (n:=23) Tryz.func99 Z Z Z fun cs => ?_
 refine zc<|za<|AtL.assign zg0 Z Z<|AtL.assign zg0 Z Z<|AtL.assign zg0 Z Z<|AtL.done ?_
 refine zc<|zc<|za<|zb zg0 Z Z<|zb zg0 Z Z ?_
 refine zk zjn zg0 Z Z (index_ok (l:=l) (l2:=s) h hq (by omega) hs T) ?_
 rintro _ _ ⟨rfl,hHq⟩
 obtain rfl:=hHq.symm
 refine AtL.assign zg0 Z Z<|AtL.done<|zc<|za<|zb zg0 Z Z<|zbu zg0 Z Z Z ?_
 refine AtL.done<|zq Z ?_ ?_
 ·intro hc1
  have hbd:=index_bd l s hc1
  refine zc ?_
  have hleo3:=Rd.le h
  obtain ⟨A1,eA1⟩:∃ A1:Option Addr,A1=(if C=0 then A else Option.map (fun a => a.add (0 * tyB.sz)) A):=⟨_,rfl⟩
  obtain ⟨C2,eC2⟩:∃ C2:Nat,C2=C - 0:=⟨_,rfl⟩
  have o3:Rd tyB w0 base H A1 C2 (subl l 0 ((Lib.index l s).toNat)):=by rw [eA1,eC2]; exact Rd.cut h (Nat.zero_le _) (by omega) (by omega) (by omega)
  have hleo6:=Rd.le h
  obtain ⟨A4,eA4⟩:∃ A4:Option Addr,A4=(if C=((Lib.index l s).toNat + s.length) then A else Option.map (fun a => a.add (((Lib.index l s).toNat + s.length) * tyB.sz)) A):=⟨_,rfl⟩
  obtain ⟨C5,eC5⟩:∃ C5:Nat,C5=C - ((Lib.index l s).toNat + s.length):=⟨_,rfl⟩
  have o6:Rd tyB w0 base H A4 C5 (subl l ((Lib.index l s).toNat + s.length) l.length):=by rw [eA4,eC5]; exact Rd.cut h (by omega) (Nat.le_refl _) (by omega) (by omega)
  refine zac (es:=[]) (pv:=[(0,.slice A l.length C),(1,V (Lib.index l s)),(2,.slice A1 (subl l 0 ((Lib.index l s).toNat)).length C2),(3,.slice A l.length C),(4,V (Lib.index l s)),(5,.slice Aq s.length Cq),(6,V (s.length:Int)),(7,V (Lib.index l s + (s.length:Int))),(8,.slice A4 (subl l ((Lib.index l s).toNat + s.length) l.length).length C5),(9,.slice A1 (subl l 0 ((Lib.index l s).toNat)).length C2),(10,.slice A4 (subl l ((Lib.index l s).toNat + s.length) l.length).length C5),(11,.bool true)]) zV (by kernel_rfl) (by kernel_rfl) (by kernel_rfl) ?_
  refine ⟨⟨zpr Z Z Z (zi Z),zpr Z Z Z (zi Z),zpr Z Z Z (zaC (T:=tyB) (l:=l) 0 ((Lib.index l s).toNat) C Z (zI Z (by omega)) Z (by intro h; cases h) (Nat.zero_le _) (by omega) (Nat.le_refl _) Tryz.underlying34 zQ Z eA1 (zP (l:=l) (i:=0) (j:=((Lib.index l s).toNat)) (by omega)) eC2),zpr Z Z Z (zi Z),zpr Z Z Z (zi Z),zpr Z Z Z (zi Z),zpr Z Z Z (zbt Tryz.underlying34 Z),zpr Z Z Z (Do.add (z:=Lib.index l s + (s.length:Int)) Z Z (w64 (by omega) (by omega))),zpr Z Z Z (zaC (T:=tyB) (l:=l) ((Lib.index l s).toNat + s.length) l.length C (zI Z (by omega)) Z Z (by intro h; cases h) (by omega) (by omega) (Nat.le_refl _) Tryz.underlying34 zQ Z eA4 (zP (l:=l) (i:=((Lib.index l s).toNat + s.length)) (j:=l.length) (Nat.le_refl _)) eC5),zpr Z Z Z (Do.assign Z),zpr Z Z Z (Do.assign Z),zpr Z Z Z (Do.assign Z),trivial⟩,by kernel_rfl,?_⟩
  refine At.mono (E':=[(4,.slice A1 (subl l 0 ((Lib.index l s).toNat)).length C2),(5,.slice A4 (subl l ((Lib.index l s).toNat + s.length) l.length).length C5),(6,.bool true)]) ⟨Z,Z,Z,trivial⟩ ?_
  exact zt Tryz.func99 Z Z (⟨A1,C2,A4,C5,by rw [cutB,if_pos hc1]; rfl,by rw [cutB,if_pos hc1,eA1,eC2]; exact Rd.cut hn (Nat.zero_le _) (by omega) (by omega) (Nat.le_refl _),by rw [cutB,if_pos hc1,eA4,eC5]; exact Rd.cut hn (by omega) (Nat.le_refl _) (by omega) (Nat.le_refl _),Z⟩)
 ·intro hc1
  refine zj<|zc<|za<|zb zg0 Z Z<|AtL.assign zg0 Z Z<|AtL.assign zg0 Z Z ?_
  refine AtL.assign zg0 Z Z<|AtL.done ?_
  exact zt Tryz.func99 Z Z (⟨A,C,none,0,by rw [cutB,if_neg hc1]; rfl,by rw [cutB,if_neg hc1]; exact hn,by rw [cutB,if_neg hc1]; exact zbQ,Z⟩)
theorem zh1 (b:List UInt8):ziO b=if (cutB b [13,10]).2.2=true then some ((cutB b [13,10]).1,(cutB b [13,10]).2.1) else none:=by
 have hg:=Lib.index_ge b [13,10]
 rw [zkV]
 by_cases h:Lib.index b [13,10] = -1
 ·have e:cutB b [13,10]=(b,[],false):=by rw [cutB,if_neg (by omega)]
  rw [if_pos h,e]; rfl
 ·have e:cutB b [13,10]=(subl b 0 (Lib.index b [13,10]).toNat,subl b ((Lib.index b [13,10]).toNat + 2) b.length,true):=by rw [cutB,if_pos (by omega)]; rfl
  rw [if_neg h,e]
  simp only [if_true,subl]
  simp only [Nat.sub_zero,List.drop_zero]
  rw [List.take_of_length_le (l:=b.drop _) (by simp)]
theorem cutB_len {b:List UInt8}(h:(cutB b [13,10]).2.2=true):(cutB b [13,10]).1.length + (cutB b [13,10]).2.1.length + 2=b.length:=by
 have:=zg3 (b:=b) (l:=(cutB b [13,10]).1) (r:=(cutB b [13,10]).2.1) (by rw [zh1,if_pos h])
 have:=congrArg List.length this
 simp at this
 omega
theorem linesF_cut (b:List UInt8):zbZ b=if (cutB b [13,10]).2.2=false∨(cutB b [13,10]).1.any crlf=true then none else if (cutB b [13,10]).1=[] then (if (cutB b [13,10]).2.1=[] then some [] else none) else (zbZ (cutB b [13,10]).2.1).map ((cutB b [13,10]).1::·):=by
 have hc:=zh1 b
 cases hb:(cutB b [13,10]).2.2 with
 | false =>
  rw [hb] at hc
  rw [if_pos (.inl rfl),zbZ]
  split
  ·rfl
  ·rename_i l r h; rw [hc] at h; simp at h
 | true =>
  rw [hb,if_pos rfl] at hc
  rw [zbZ]
  split
  ·rename_i h; rw [hc] at h; cases h
  ·rename_i l r h
   rw [hc] at h
   simp only [Option.some.injEq,Prod.mk.injEq] at h
   obtain ⟨h3,h4⟩:=h
   rw [← h3,← h4]
   by_cases h2:(cutB b [13,10]).1.any crlf=true
   ·rw [if_pos h2,if_pos (.inr h2)]
   ·have h5:¬ (true=false∨(cutB b [13,10]).1.any crlf=true):=by simpa using h2
    rw [if_neg h2,if_neg h5]
theorem lines_ok {w0:World}{base:Nat}{H:List Seg}{A:Option Addr}{C:Nat}{b:List UInt8}(h:Rd tyB w0 base H A C b) (hl:b.length≤4294967280) (T:Tabs w0 base) :
  SCalls Tryz.prog 77 [.slice A b.length C] w0 base (H) (fun v H' => ∃ x:Sl tyS 9,v = .tuple #[.slice x.A x.l.length x.C,.bool (zbZ b).isSome]∧(∀ ls,zbZ b=some ls→x.l=ls)∧H' = x.s::H):=by
 refine SCalls.of_walk (n:=35) Tryz.func77 Z Z Z fun cs => ?_
 refine zc<|za<|AtL.assign zg0 Z Z<|AtL.assign zg0 Z Z<|AtL.done<|zc ?_
 refine za<|AtL.assign zg0 Z Z<|AtL.done<|At.block<|At.nil<|zfJ (fun (Ab:Option Addr) (Cb:Nat) (bb:List UInt8) (x:Sl tyS 9) => [(0,.slice Ab bb.length Cb),(4,.slice x.A x.l.length x.C)]) (fun (Ab:Option Addr) (Cb:Nat) (bb:List UInt8) (x:Sl tyS 9) => x.s::H) (fun (Ab:Option Addr) (Cb:Nat) (bb:List UInt8) (x:Sl tyS 9) => Rd tyB w0 base H Ab Cb bb∧x.l.length + bb.length≤b.length∧zbZ b=(zbZ bb).map (x.l++·)) (fun (Ab:Option Addr) (Cb:Nat) (bb:List UInt8) (x:Sl tyS 9) => bb.length) A C b Sl.nil (⟨h,by simp [Sl.nil],by simp [Sl.nil]⟩) ⟨Z,Z,trivial⟩ Z ?_
 rintro Ab Cb bb x ⟨hb,hlen,hlb⟩ ihL1
 have hlc:=linesF_cut bb
 have hcap:=z7 x.own
 refine At.block<|zc<|za<|zb zg0 Z Z<|zG (cs:=[.int .u8 13,.int .u8 10]) Tryz.underlying34 zbf zQ Z Z zg0 Z Z Z ?_
 intro b1
 refine zhn (l:=[13,10]) 0 Tryz.underlying34 Tryz.underlying5 Z Z Z (by decide) zg0 Z Z ?_
 intro s2 o3
 refine zk tf_body99 zg0 Z Z (bcut_ok (l:=bb) (s:=[13,10]) 2 hb (o3.rd (i:=0) Z) (by omega) (by decide) T) ?_
 rintro _ _ ⟨A4,C5,A6,C7,rfl,h8,h9,rfl⟩
 refine zb zg0 Z Z<|AtL.extract zg0 Z Z Z<|AtL.extract zg0 Z Z Z<|AtL.extract zg0 Z Z Z<|AtL.assign zg0 Z Z<|AtL.assign zg0 Z Z ?_
 refine AtL.assign zg0 Z Z<|AtL.done<|zc<|zc<|za<|zb zg0 Z Z ?_
 refine zag zg0 Z Z<|zb zg0 Z Z<|zy 3 (E':=[(21,.bool (decide ((((cutB bb [13,10]).2.2)=false)∨((((cutB bb [13,10]).1).any crlf)=true)))),(4,.slice x.A x.l.length x.C),(5,.slice A4 ((cutB bb [13,10]).1).length C5),(6,.slice A6 ((cutB bb [13,10]).2.1).length C7)]) (fun J => ?_) ?_
 ·refine zY (t:=18) Z ?_ ?_
  ·intro hs18
   have hs18:((cutB bb [13,10]).2.2)=false:=zO hs18
   refine ze Z Z Z Z Z Z<|ze Z Z Z Z Z Z<|zn zg0 Z Z Z ?_
   exact J _ (by exact ⟨(zw (by clear J; first | (simp [hs18]; done) | (simp_all; done) | grind)),Z,Z,Z,trivial⟩)
  ·intro hs18
   have hs18:((cutB bb [13,10]).2.2)=true:=zJ hs18
   refine zb (.inr ⟨_,_,_,Z,Z,Z,Z⟩) Z Z<|zk tf_body100 (.inr ⟨_,_,_,Z,Z,Z,Z⟩) Z Z (zhx (l:=(cutB bb [13,10]).1) (Rd.skip 2 h8) T) ?_
   rintro _ _ ⟨rfl,rfl⟩
   refine zm zg0 Z Z Z ?_
   exact J _ (by exact ⟨(zw (by clear J; first | (simp [hs18]; done) | (simp_all; done) | grind)),Z,Z,Z,trivial⟩)
 ·refine AtL.done<|zq Z ?_ ?_
  ·intro hc1
   refine zc<|za<|AtL.assign zg0 Z Z<|AtL.assign zg0 Z Z<|AtL.done<|At.nil ?_
   refine At.pick (H':=[]::H) [0] 3 Z Z ?_
   have hn:zbZ b=none:=by rw [hlb,hlc,if_pos (by simpa using hc1)]; rfl
   exact zt Tryz.func77 Z Z (⟨Sl.nil,by rw [hn]; rfl,fun ls h => (by rw [hn] at h; cases h),Z⟩)
  ·intro hc1
   have his:(cutB bb [13,10]).2.2=true:=by simp only [not_or] at hc1; simpa using hc1.1
   have hbl:=cutB_len his
   have hne:(cutB bb [13,10]).1.any crlf=false:=by simp only [not_or] at hc1; simpa using hc1.2
   refine zj<|zc<|zc<|za<|zb zg0 Z Z<|zC Tryz.underlying34 zg0 Z Z ?_
   refine zW zg0 Z Z Z<|AtL.done<|zq Z ?_ ?_
   ·intro hc2
    refine zc<|za<|zb zg0 Z Z<|zb zg0 Z Z<|zC Tryz.underlying34 zg0 Z Z<|zW zg0 Z Z Z ?_
    refine AtL.assign zg0 Z Z<|AtL.assign zg0 Z Z<|AtL.done<|At.pick (H':=x.s::H) [1] 2 Z Z ?_
    have hl0:(cutB bb [13,10]).1=[]:=List.eq_nil_of_length_eq_zero (by omega)
    have hs:zbZ b=if (cutB bb [13,10]).2.1=[] then some x.l else none:=by rw [hlb,hlc,if_neg (by rw [his,hne]; simp),if_pos hl0]; split <;> simp
    exact zt Tryz.func77 Z Z (⟨x,by rw [hs]; split <;> rename_i h3 <;> simp [h3,zbr],fun ls h => (by rw [hs] at h; split at h; exact Option.some.inj h; cases h),Z⟩)
   ·intro hc2
    have hc2:¬ (cutB bb [13,10]).1=[]:=fun h0 => hc2 (by rw [h0]; rfl)
    refine zj<|zc<|za<|zb zg0 Z Z<|zb zg0 Z Z<|zev (Rd.skip 2 h8) Tryz.underlying34 Tryz.underlying5 Tryz.underlying9 zg0 Z Z ?_
    refine zG (cs:=[str ((cutB bb [13,10]).1)]) Tryz.underlying161 tf_zero9 zbY Z Z zg0 Z Z Z ?_
    intro b10
    refine zaD tyS (l:=([(cutB bb [13,10]).1]:List (List UInt8))) Z Z (by first | decide | simp) ?_
    intro s11 o12
    refine zam (l:=x.l) (news:=[(cutB bb [13,10]).1]) 2 tf_el161 Z x.own (o12.rd (i:=0) Z) (by first | omega | (simp only [List.length_append,List.length_cons,List.length_nil]; omega) | (simp; done) | (simp; omega)) zg0 Z Z Z ?_
    intro A13 C14 s15 o16
    refine AtL.assign zg0 Z Z<|AtL.done<|za<|zb zg0 Z Z<|AtL.assign zg0 Z Z<|AtL.done ?_
    refine zp<|At.pick (H':=s15::H) [2] 3 Z Z ?_
    refine ihL1 A6 C7 ((cutB bb [13,10]).2.1) (⟨A13,C14,x.l++([(cutB bb [13,10]).1]),s15,o16⟩) (⟨h9,by simp; omega,by rw [hlb,hlc,if_neg (by simpa using hc1),if_neg hc2,Option.map_map]; congr 1; funext q; simp⟩) (by omega) _ ?_
    exact ⟨(by first | rfl | exact zaf (by simp []) | exact zah (by omega) | exact zah (by simp []) | exact zaf (by simp []; omega)),(by first | rfl | exact zaf (by simp []) | exact zah (by omega) | exact zah (by simp []) | exact zaf (by simp []; omega)),trivial⟩
end Go.Proofs.YtbfabhdfmoiabaaGreatDoor
namespace Go.Proofs.YtbfabhdfmoiabaaGreatDoor
set_option linter.unusedVariables false
set_option linter.unusedSimpArgs false
set_option maxRecDepth 100000
theorem version_no {w0:World}{base:Nat}{H:List Seg}{l:List UInt8}(hl:l.length≤140737488355000) (hv:verF l=false):SCalls Tryz.prog 80 [str l] w0 base H (fun v H' => v = .tuple #[.int .u8 0,.int .u8 0,.bool false]∧H' = H) :=
 (zhz hl).mono fun v H' h => by
  rcases h with ⟨_,h⟩ | ⟨h,_⟩
  ·exact h
  ·rw [hv] at h; cases h
theorem zkt {w0:World}{base:Nat}{H:List Seg}{l:List UInt8}(hl:l.length≤140737488355000) (hv:verF l=true):SCalls Tryz.prog 80 [str l] w0 base H (fun v H' => v = .tuple #[.int .u8 ((l.getD 5 0 - 48).toNat:Int),.int .u8 ((l.getD 7 0 - 48).toNat:Int),.bool true]∧H' = H) :=
 (zhz hl).mono fun v H' h => by
  rcases h with ⟨h,_⟩ | ⟨_,_,h⟩
  ·rw [hv] at h; cases h
  ·exact h
theorem spF_le (c:UInt8) (l:List UInt8):∀ s ∈ spF c l,s.length≤l.length:=by
 induction l with
 | nil => intro s hs; simp [spF] at hs; subst hs; simp
 | cons a l ih =>
  intro s hs
  unfold spF at hs
  by_cases h:a=c
  ·rw [if_pos h] at hs
   rcases List.mem_cons.1 hs with rfl | hs
   ·simp
   ·have:=ih s hs; simp; omega
  ·rw [if_neg h] at hs
   cases hq:spF c l with
   | nil => exact absurd hq (zjF c l)
   | cons y ys =>
    rw [hq] at hs ih
    simp at hs
    rcases hs with rfl | hs
    ·have:=ih y (by simp); simp; omega
    ·have:=ih s (by simp [hs]); simp; omega
theorem lines_le {b:List UInt8}{ls:List (List UInt8)}(h:zbZ b=some ls):(∀ s ∈ ls,s.length≤b.length)∧ls.length≤b.length:=by
 have hl:=zhZ h
 have key:∀ ls:List (List UInt8),(∀ s ∈ ls,s.length≤(ls.map fun l => l.length + 2).sum)∧ls.length≤(ls.map fun l => l.length + 2).sum:=by
  intro ls
  induction ls with
  | nil => exact ⟨fun s hs => absurd hs (by simp),by simp⟩
  | cons x ls ih =>
   obtain ⟨h1,h2⟩:=ih
   refine ⟨fun s hs => ?_,by simp; omega⟩
   rcases List.mem_cons.1 hs with rfl | hs
   ·simp; omega
   ·have:=h1 s hs; simp; omega
 obtain ⟨h1,h2⟩:=key ls
 exact ⟨fun s hs => by have:=h1 s hs; omega,by omega⟩
theorem three {α:Type}{l:List α}(d:α) (h:l.length=3):l=[l.getD 0 d,l.getD 1 d,l.getD 2 d]:=by
 match l,h with
 | [a,b,c],_ => rfl
theorem zcW (l0:List UInt8) (ls:List (List UInt8)):headF l0 ls =
  if ¬ (spF 32 l0).length=3∨(spF 32 l0).getD 0 []=[]∨(spF 32 l0).getD 1 []=[]∨(spF 32 l0).getD 2 []=[]∨zd1 ((spF 32 l0).getD 0 []) 16=false then (.zero,400)
  else if verF ((spF 32 l0).getD 2 [])=false then (.zero,400)
  else if ((spF 32 l0).getD 2 []).getD 5 0≠49∨49 < ((spF 32 l0).getD 2 []).getD 7 0 then (.zero,505)
  else if 2048 < ((spF 32 l0).getD 1 []).length then (.zero,414)
  else if zeX ((spF 32 l0).getD 1 [])=false then (.zero,400)
  else match zbs ls 0 with
   | .inl s => (.zero,s)
   | .inr fs => if zgX fs ((((spF 32 l0).getD 2 []).getD 7 0 - 48).toNat:Int) then (⟨(spF 32 l0).getD 0 [],(spF 32 l0).getD 1 [],((((spF 32 l0).getD 2 []).getD 7 0 - 48).toNat:Int),fs⟩,200) else (.zero,400):=by
 unfold headF
 by_cases h:(spF 32 l0).length=3
 ·have h3:=three [] h
  generalize (spF 32 l0)=W at *
  match W,h with
  | [a,b,c],_ => simp; cases zbs ls 0 <;> rfl
 ·rw [if_pos (.inl h)]
  split
  ·rename_i m t v hw; rw [hw] at h; simp at h
  ·rfl
theorem dig_one:∀ c:Fin 256,48≤c.val→c.val≤57→(((UInt8.ofNat c.val - 48).toNat=1↔UInt8.ofNat c.val=49)∧(1 < (UInt8.ofNat c.val - 48).toNat↔49 < UInt8.ofNat c.val)):=by decide +kernel
theorem dig_two {c:UInt8}(h1:48≤c) (h2:c≤57):((c - 48).toNat=1↔c=49)∧(1 < (c - 48).toNat↔49 < c):=by
 have:=dig_one ⟨c.toNat,c.toNat_lt⟩ h1 h2
 simpa using this
theorem zcl {v:List UInt8}(h:verF v=true):(¬ (((v.getD 5 0 - 48).toNat:Int)=1)↔v.getD 5 0≠49)∧(1 < ((v.getD 7 0 - 48).toNat:Int)↔49 < v.getD 7 0):=by
 simp only [verF,Bool.and_eq_true,decide_eq_true_eq] at h
 obtain ⟨⟨⟨⟨_,_⟩,h5⟩,_⟩,h7⟩:=h
 have a5:=(dig_two h5.1 h5.2).1
 have a7:=(dig_two h7.1 h7.2).2
 refine ⟨not_congr ⟨fun h => a5.1 (by omega),fun h => by have:=a5.2 h; omega⟩,⟨fun h => a7.1 (by omega),fun h => by have:=a7.2 h; omega⟩⟩
theorem zkR {L:List (List UInt8)}{k:Nat}(h:k < L.length):zbs (L.drop k) k=if k=32 then .inl 431 else if ¬ (Lib.cut (L.getD k []) [58]).2.2=true∨zd1 (Lib.cut (L.getD k []) [58]).1 64=false∨zeP (Lib.trimS (Lib.cut (L.getD k []) [58]).2.1 [9,32])=false then .inl 400
  else match zbs (L.drop (k + 1)) (k + 1) with | .inl s => .inl s | .inr fs => .inr (((Lib.cut (L.getD k []) [58]).1,Lib.trimS (Lib.cut (L.getD k []) [58]).2.1 [9,32])::fs):=by
 rw [List.drop_eq_getElem_cons h]
 have e:L[k]=L.getD k []:=by simp [List.getD,h]
 rw [e,zbs]
 by_cases h1:k=32
 ·rw [if_pos h1,if_pos h1]
 ·rw [if_neg h1,if_neg h1,cut_c]
  by_cases h2:(Lib.cut (L.getD k []) [58]).2.2=true
  ·rw [if_pos h2]
   simp only [zij]
   by_cases h3:zd1 (Lib.cut (L.getD k []) [58]).1 64=true
   ·by_cases h4:zeP (zc4 (Lib.cut (L.getD k []) [58]).2.1)=true
    ·rw [if_pos (by rw [h3,h4]; rfl),if_neg (by rw [h2,h3,h4]; simp)]
     cases zbs (List.drop (k + 1) L) (k + 1) <;> rfl
    ·have h5:¬ (zd1 (Lib.cut (L.getD k []) [58]).1 64 && zeP (zc4 (Lib.cut (L.getD k []) [58]).2.1))=true:=by rw [h3]; simpa using h4
     rw [if_neg h5,if_pos (.inr (.inr (by simpa using h4)))]
   ·rw [if_neg (fun h5 => h3 (Bool.and_eq_true_iff.1 h5).1),if_pos (.inr (.inl (by simpa using h3)))]
  ·rw [if_neg h2,if_pos (.inl h2)]
theorem trimS_le (l cs:List UInt8):(Lib.trimS l cs).length≤l.length:=by
 unfold Lib.trimS Lib.trimLeftS Lib.trimRightS
 have h1:=zg1 (fun c => cs.contains c) l.reverse
 have h2:=zg1 (fun c => cs.contains c) (List.dropWhile (fun c => cs.contains c) l.reverse).reverse
 simp at h1 h2 ⊢
 omega
theorem parse_ok {w0:World}{base:Nat}{H:List Seg}{A:Option Addr}{C:Nat}{b:List UInt8}(h:Rd tyB w0 base H A C b) (T:Tabs w0 base) :
  SCalls Tryz.prog 55 [.slice A b.length C] w0 base (H) (fun v H' => ∃ x:Sl zbE 173,v = .tuple #[.agg #[str (zaT b).1.m,str (zaT b).1.t,int (zaT b).1.minor,.slice x.A x.l.length x.C],int (zaT b).2]∧x.l=(zaT b).1.fs∧H' = x.s::H):=by
 have hcap:=h.cap
 have hle:=h.le
 refine SCalls.of_walk (n:=155) Tryz.func55 Z Z Z fun cs => ?_
 refine zc<|za<|AtL.alloc ze5 (cs:=#[str [],str [],V 0,.slice none 0 0]) Z zg0 Z ?_
 intro b1
 refine AtL.assign zg0 Z Z<|AtL.done<|zc<|zc<|za<|zb zg0 Z Z ?_
 refine zC Tryz.underlying34 zg0 Z Z<|zai zg0 Z Z Z<|AtL.done<|zq Z ?_ ?_
 ·intro hc1
  refine zc<|za<|zaE (cs:=[str [],str [],V 0,.slice none 0 0]) zb5 zg0 Z Z Z<|zr (H':=O7 b1 (str []) (str []) 0 none 0 0::H) 0 0 zcm zg0 Z Z Z Z Z Z Z Z Z<|AtL.assign zg0 Z Z<|AtL.done ?_
  refine At.nil ?_
  have hp:zaT b=(.zero,431):=by rw [zaT,if_pos (by omega)]
  exact zaZ (vs:=[.agg #[str [],str [],V 0,.slice none 0 0],V 431]) [0] 2 Z Z Tryz.func55 Z ⟨⟨_,Z,LoadsTo.agg (cs:=[str [],str [],V 0,.slice none 0 0]) zaU Z (zad 1 0 0 Z Z Z)⟩,Z,trivial⟩ (⟨Sl.nil,by rw [hp]; rfl,by rw [hp]; rfl,Z⟩)
 ·intro hc1
  refine zj<|zc<|za<|zb zg0 Z Z ?_
  refine zk tf_body77 zg0 Z Z (lines_ok (b:=b) (Rd.skip 1 h) (by omega) T) ?_
  rintro _ _ ⟨⟨A2,C3,l4,s5,o6⟩,rfl,hx7,rfl⟩
  have hlines:=hx7
  refine zb zg0 Z Z<|AtL.extract zg0 Z Z Z<|AtL.extract zg0 Z Z Z<|AtL.assign zg0 Z Z<|AtL.assign zg0 Z Z<|AtL.done ?_
  refine zc<|zc<|za<|zb zg0 Z Z<|zag zg0 Z Z<|zb zg0 Z Z ?_
  refine zy 4 (E':=[(30,.bool (decide ((((zbZ b).isSome)=false)∨((l4.length:Int)=0)))),(2,B b1),(4,.slice A2 l4.length C3)]) (fun J => ?_) ?_
  ·refine zY (t:=26) Z ?_ ?_
   ·intro hs26
    have hs26:((zbZ b).isSome)=false:=zO hs26
    refine ze Z Z Z Z Z Z<|ze Z Z Z Z Z Z<|ze Z Z Z Z Z Z<|zn zg0 Z Z Z ?_
    exact J _ (by exact ⟨(zw (by clear J; first | (simp [hs26]; done) | (simp_all; done) | grind)),Z,Z,trivial⟩)
   ·intro hs26
    have hs26:((zbZ b).isSome)=true:=zJ hs26
    refine zb (.inr ⟨_,_,_,Z,Z,Z,Z⟩) Z Z<|zC Tryz.underlying161 (.inr ⟨_,_,_,Z,Z,Z,Z⟩) Z Z<|zW (.inr ⟨_,_,_,Z,Z,Z,Z⟩) Z Z Z<|zm zg0 Z Z Z ?_
    exact J _ (by exact ⟨(zw (by clear J; first | (simp [hs26]; done) | (simp_all; done) | grind)),Z,Z,trivial⟩)
  ·refine AtL.done<|zq Z ?_ ?_
   ·intro hc2
    refine zc<|za<|zaE (cs:=[str [],str [],V 0,.slice none 0 0]) zb5 zg0 Z Z Z<|zr (H':=s5::O7 b1 (str []) (str []) 0 none 0 0::H) 1 0 zcm zg0 Z Z Z Z Z Z Z Z Z<|AtL.assign zg0 Z Z<|AtL.done ?_
    refine At.nil ?_
    have hp:zaT b=(.zero,400):=by
     rw [zaT,if_neg (by omega)]
     cases hq:zbZ b with
     | none => rfl
     | some q =>
      have hql:=hx7 q hq
      rw [hq] at hc2
      obtain rfl:q=[]:=by rw [← hql]; exact List.eq_nil_of_length_eq_zero (by simpa using hc2)
      rfl
    exact zaZ (vs:=[.agg #[str [],str [],V 0,.slice none 0 0],V 400]) [0] 3 Z Z Tryz.func55 Z ⟨⟨_,Z,LoadsTo.agg (cs:=[str [],str [],V 0,.slice none 0 0]) zaU Z (zad 2 0 0 Z Z Z)⟩,Z,trivial⟩ (⟨Sl.nil,by rw [hp]; rfl,by rw [hp]; rfl,Z⟩)
   ·intro hc2
    obtain ⟨ls,hls⟩:∃ ls,zbZ b=some ls:=Option.isSome_iff_exists.1 (by cases hq:(zbZ b).isSome <;> simp_all)
    have hll:=(hx7 ls hls).symm
    have hne:ls.length≠0:=by intro h; rw [hll] at h; simp only [not_or] at hc2; exact hc2.2 (by rw [h]; rfl)
    have hdl:(ls.drop 1).length=ls.length - 1:=by simp
    subst hll
    have hlb:=lines_le hls
    have hp0:zaT b=headF (ls.getD 0 []) (ls.drop 1):=by rw [zaT,if_neg (by omega),hls]; cases ls with | nil => simp at hne | cons a r => rfl
    have hl0:=hlb.1 (ls.getD 0 []) (zbh (l:=ls) (i:=0) (by omega))
    have hw:=spF_le 32 (ls.getD 0 [])
    have hWn:0 < (spF 32 (ls.getD 0 [])).length:=List.length_pos_iff.2 (zjF _ _)
    refine zj<|zc<|za<|zb zg0 Z Z ?_
    refine zF 0 (o6.rd (i:=0) Z) Tryz.underlying161 zbY zg0 Z Z Z Z (by omega) ?_
    refine zh (v:=str (ls.getD 0 [])) zaK zg0 Z Z (zH (o6.rd (i:=0) Z) (zz [] (by omega)) Z) ?_
    refine zk tf_body78 zg0 Z Z (split_ok (x:=(ls.getD 0 [])) 32 (by omega) T) ?_
    rintro _ _ ⟨⟨A8,C9,l10,s11,o12⟩,hx13,rfl,rfl⟩
    obtain rfl:spF 32 (ls.getD 0 [])=l10:=hx13.symm
    refine AtL.assign zg0 Z Z<|AtL.done<|zc<|zc<|za<|zb zg0 Z Z ?_
    refine zC Tryz.underlying161 zg0 Z Z<|zT zg0 Z Z Z<|zb zg0 Z Z<|zy 5 (E':=[(44,.bool (decide ((¬ (((spF 32 (ls.getD 0 [])).length:Int)=3))∨(((spF 32 (ls.getD 0 [])).getD 0 [])=[])))),(2,B b1),(4,.slice A2 ls.length C3),(6,.slice A8 (spF 32 (ls.getD 0 [])).length C9)]) (fun J => ?_) ?_
    ·refine zY (t:=39) Z ?_ ?_
     ·intro hs39
      have hs39:¬ (((spF 32 (ls.getD 0 [])).length:Int)=3):=of_decide_eq_false (zO hs39)
      refine ze Z Z Z Z Z Z<|ze Z Z Z Z Z Z<|ze Z Z Z Z Z Z<|ze Z Z Z Z Z Z<|zn zg0 Z Z Z ?_
      exact J _ (by exact ⟨(zw (by clear J; first | (simp [hs39]; done) | (simp_all; done) | grind)),Z,Z,Z,trivial⟩)
     ·intro hs39
      have hs39:((spF 32 (ls.getD 0 [])).length:Int)=3:=of_decide_eq_true (zJ hs39)
      refine zb (.inr ⟨_,_,_,Z,Z,Z,Z⟩) Z Z ?_
      refine zF 0 (o12.rd (i:=0) Z) Tryz.underlying161 zbY (.inr ⟨_,_,_,Z,Z,Z,Z⟩) Z Z Z Z (by omega) ?_
      refine zh (v:=str ((spF 32 (ls.getD 0 [])).getD 0 [])) zaK (.inr ⟨_,_,_,Z,Z,Z,Z⟩) Z Z (zH (o12.rd (i:=0) Z) (zz [] (by omega)) Z)<|zcT (a:=((spF 32 (ls.getD 0 [])).getD 0 [])) (b:=[]) (.inr ⟨_,_,_,Z,Z,Z,Z⟩) Z Z Z<|zm zg0 Z Z Z ?_
      exact J _ (by exact ⟨(zw (by clear J; first | (simp [hs39]; done) | (simp_all; done) | grind)),Z,Z,Z,trivial⟩)
    ·refine zb zg0 Z Z<|zy 5 (E':=[(50,.bool (decide (((¬ (((spF 32 (ls.getD 0 [])).length:Int)=3))∨(((spF 32 (ls.getD 0 [])).getD 0 [])=[]))∨(((spF 32 (ls.getD 0 [])).getD 1 [])=[])))),(2,B b1),(4,.slice A2 ls.length C3),(6,.slice A8 (spF 32 (ls.getD 0 [])).length C9)]) (fun J => ?_) ?_
     ·refine zD (t:=45) Z ?_ ?_
      ·intro hs45
       refine ze Z Z Z Z Z Z<|ze Z Z Z Z Z Z<|ze Z Z Z Z Z Z<|ze Z Z Z Z Z Z<|zn zg0 Z Z Z ?_
       exact J _ (by exact ⟨(zw (by clear J; first | (simp [hs45]; done) | (simp_all; done) | grind)),Z,Z,Z,trivial⟩)
      ·intro hs45
       have hW3:(spF 32 (ls.getD 0 [])).length=3:=by simp only [not_or,Classical.not_not] at hs45; omega
       refine zb (.inr ⟨_,_,_,Z,Z,Z,Z⟩) Z Z ?_
       refine zF 1 (o12.rd (i:=0) Z) Tryz.underlying161 zbY (.inr ⟨_,_,_,Z,Z,Z,Z⟩) Z Z Z Z (by omega) ?_
       refine zh (v:=str ((spF 32 (ls.getD 0 [])).getD 1 [])) zaK (.inr ⟨_,_,_,Z,Z,Z,Z⟩) Z Z (zH (o12.rd (i:=0) Z) (zz [] (by omega)) Z)<|zcT (a:=((spF 32 (ls.getD 0 [])).getD 1 [])) (b:=[]) (.inr ⟨_,_,_,Z,Z,Z,Z⟩) Z Z Z<|zm zg0 Z Z Z ?_
       exact J _ (by exact ⟨(zw (by clear J; first | (simp [hs45]; done) | (simp_all; done) | grind)),Z,Z,Z,trivial⟩)
     ·refine zb zg0 Z Z<|zy 5 (E':=[(56,.bool (decide ((((¬ (((spF 32 (ls.getD 0 [])).length:Int)=3))∨(((spF 32 (ls.getD 0 [])).getD 0 [])=[]))∨(((spF 32 (ls.getD 0 [])).getD 1 [])=[]))∨(((spF 32 (ls.getD 0 [])).getD 2 [])=[])))),(2,B b1),(4,.slice A2 ls.length C3),(6,.slice A8 (spF 32 (ls.getD 0 [])).length C9)]) (fun J => ?_) ?_
      ·refine zD (t:=51) Z ?_ ?_
       ·intro hs51
        refine ze Z Z Z Z Z Z<|ze Z Z Z Z Z Z<|ze Z Z Z Z Z Z<|ze Z Z Z Z Z Z<|zn zg0 Z Z Z ?_
        exact J _ (by exact ⟨(zw (by clear J; first | (simp [hs51]; done) | (simp_all; done) | grind)),Z,Z,Z,trivial⟩)
       ·intro hs51
        have hW3:(spF 32 (ls.getD 0 [])).length=3:=by simp only [not_or,Classical.not_not] at hs51; omega
        refine zb (.inr ⟨_,_,_,Z,Z,Z,Z⟩) Z Z ?_
        refine zF 2 (o12.rd (i:=0) Z) Tryz.underlying161 zbY (.inr ⟨_,_,_,Z,Z,Z,Z⟩) Z Z Z Z (by omega) ?_
        refine zh (v:=str ((spF 32 (ls.getD 0 [])).getD 2 [])) zaK (.inr ⟨_,_,_,Z,Z,Z,Z⟩) Z Z (zH (o12.rd (i:=0) Z) (zz [] (by omega)) Z)<|zcT (a:=((spF 32 (ls.getD 0 [])).getD 2 [])) (b:=[]) (.inr ⟨_,_,_,Z,Z,Z,Z⟩) Z Z Z<|zm zg0 Z Z Z ?_
        exact J _ (by exact ⟨(zw (by clear J; first | (simp [hs51]; done) | (simp_all; done) | grind)),Z,Z,Z,trivial⟩)
      ·refine zb zg0 Z Z<|zy 6 (E':=[(63,.bool (decide (((((¬ (((spF 32 (ls.getD 0 [])).length:Int)=3))∨(((spF 32 (ls.getD 0 [])).getD 0 [])=[]))∨(((spF 32 (ls.getD 0 [])).getD 1 [])=[]))∨(((spF 32 (ls.getD 0 [])).getD 2 [])=[]))∨((zd1 ((spF 32 (ls.getD 0 [])).getD 0 []) 16)=false)))),(2,B b1),(4,.slice A2 ls.length C3),(6,.slice A8 (spF 32 (ls.getD 0 [])).length C9)]) (fun J => ?_) ?_
       ·refine zD (t:=57) Z ?_ ?_
        ·intro hs57
         refine ze Z Z Z Z Z Z<|ze Z Z Z Z Z Z<|ze Z Z Z Z Z Z<|ze Z Z Z Z Z Z<|ze Z Z Z Z Z Z<|zn zg0 Z Z Z ?_
         exact J _ (by exact ⟨(zw (by clear J; first | (simp [hs57]; done) | (simp_all; done) | grind)),Z,Z,Z,trivial⟩)
        ·intro hs57
         have hW3:(spF 32 (ls.getD 0 [])).length=3:=by simp only [not_or,Classical.not_not] at hs57; omega
         refine zb (.inr ⟨_,_,_,Z,Z,Z,Z⟩) Z Z ?_
         refine zF 0 (o12.rd (i:=0) Z) Tryz.underlying161 zbY (.inr ⟨_,_,_,Z,Z,Z,Z⟩) Z Z Z Z (by omega) ?_
         refine zh (v:=str ((spF 32 (ls.getD 0 [])).getD 0 [])) zaK (.inr ⟨_,_,_,Z,Z,Z,Z⟩) Z Z (zH (o12.rd (i:=0) Z) (zz [] (by omega)) Z) ?_
         refine zk zjk (.inr ⟨_,_,_,Z,Z,Z,Z⟩) Z Z (word_ok (l:=((spF 32 (ls.getD 0 [])).getD 0 [])) (by have:=hw ((spF 32 (ls.getD 0 [])).getD 0 []) (zbh (l:=spF 32 (ls.getD 0 [])) (i:=0) (by omega)); omega) 16) ?_
         rintro _ _ ⟨rfl,rfl⟩
         refine zag (.inr ⟨_,_,_,Z,Z,Z,Z⟩) Z Z<|zm zg0 Z Z Z ?_
         exact J _ (by exact ⟨(zw (by clear J; first | (simp [hs57]; done) | (simp_all; done) | grind)),Z,Z,Z,trivial⟩)
       ·refine AtL.done<|zq Z ?_ ?_
        ·intro hc3
         refine zc<|za<|zaE (cs:=[str [],str [],V 0,.slice none 0 0]) zb5 zg0 Z Z Z<|zr (H':=s11::s5::O7 b1 (str []) (str []) 0 none 0 0::H) 2 0 zcm zg0 Z Z Z Z Z Z Z Z Z<|AtL.assign zg0 Z Z<|AtL.done ?_
         refine At.nil ?_
         have hp:zaT b=(.zero,400):=by rw [hp0,zcW,if_pos (by rcases hc3 with (((h3 | h3) | h3) | h3) | h3; exact .inl (by omega); exact .inr (.inl h3); exact .inr (.inr (.inl h3)); exact .inr (.inr (.inr (.inl h3))); exact .inr (.inr (.inr (.inr h3))))]
         exact zaZ (vs:=[.agg #[str [],str [],V 0,.slice none 0 0],V 400]) [0] 4 Z Z Tryz.func55 Z ⟨⟨_,Z,LoadsTo.agg (cs:=[str [],str [],V 0,.slice none 0 0]) zaU Z (zad 3 0 0 Z Z Z)⟩,Z,trivial⟩ (⟨Sl.nil,by rw [hp]; rfl,by rw [hp]; rfl,Z⟩)
        ·intro hc3
         have hW3:(spF 32 (ls.getD 0 [])).length=3:=by simp only [not_or] at hc3; omega
         have hn3:¬ (¬ (spF 32 (ls.getD 0 [])).length=3∨(spF 32 (ls.getD 0 [])).getD 0 []=[]∨(spF 32 (ls.getD 0 [])).getD 1 []=[]∨(spF 32 (ls.getD 0 [])).getD 2 []=[]∨zd1 ((spF 32 (ls.getD 0 [])).getD 0 []) 16=false):=by simp only [not_or] at hc3 ⊢; exact ⟨by omega,hc3.1.1.1.2,hc3.1.1.2,hc3.1.2,by simpa using hc3.2⟩
         refine zj<|zc<|za<|zb zg0 Z Z ?_
         refine zF 2 (o12.rd (i:=0) Z) Tryz.underlying161 zbY zg0 Z Z Z Z (by omega) ?_
         refine zh (v:=str ((spF 32 (ls.getD 0 [])).getD 2 [])) zaK zg0 Z Z (zH (o12.rd (i:=0) Z) (zz [] (by omega)) Z) ?_
         rcases Bool.eq_false_or_eq_true (verF ((spF 32 (ls.getD 0 [])).getD 2 [])) with hver | hver
         ·refine zk zjj zg0 Z Z (zkt (l:=(spF 32 (ls.getD 0 [])).getD 2 []) (by have:=hw ((spF 32 (ls.getD 0 [])).getD 2 []) (zbh (l:=spF 32 (ls.getD 0 [])) (i:=2) (by omega)); omega) hver) ?_
          rintro _ _ ⟨rfl,rfl⟩
          refine zb zg0 Z Z<|AtL.extract zg0 Z Z Z<|AtL.extract zg0 Z Z Z<|AtL.extract zg0 Z Z Z<|AtL.assign zg0 Z Z<|AtL.assign zg0 Z Z ?_
          refine AtL.assign zg0 Z Z<|AtL.done<|zc<|At.block<|zc<|za ?_
          refine zb zg0 Z Z<|zag zg0 Z Z<|AtL.assign zg0 Z Z<|AtL.done<|zB Z<|zc ?_
          refine za<|zb zg0 Z Z<|zT zg0 Z Z Z<|zb zg0 Z Z<|zy 3 (E':=[(83,.bool (decide ((¬ (((((spF 32 (ls.getD 0 [])).getD 2 []).getD 5 0 - 48).toNat:Int)=1))∨(1 < ((((spF 32 (ls.getD 0 [])).getD 2 []).getD 7 0 - 48).toNat:Int))))),(2,B b1),(4,.slice A2 ls.length C3),(6,.slice A8 (spF 32 (ls.getD 0 [])).length C9),(8,.int .u8 ((((spF 32 (ls.getD 0 [])).getD 2 []).getD 7 0 - 48).toNat:Int))]) (fun J => ?_) ?_
          ·refine zY (t:=80) Z ?_ ?_
           ·intro hs80
            have hs80:¬ (((((spF 32 (ls.getD 0 [])).getD 2 []).getD 5 0 - 48).toNat:Int)=1):=of_decide_eq_false (zO hs80)
            refine ze Z Z Z Z Z Z<|ze Z Z Z Z Z Z<|zn zg0 Z Z Z ?_
            exact J _ (by exact ⟨(zw (by clear J; first | (simp [hs80]; done) | (simp_all; done) | grind)),Z,Z,Z,Z,trivial⟩)
           ·intro hs80
            have hs80:((((spF 32 (ls.getD 0 [])).getD 2 []).getD 5 0 - 48).toNat:Int)=1:=of_decide_eq_true (zJ hs80)
            refine zb (.inr ⟨_,_,_,Z,Z,Z,Z⟩) Z Z<|zai (.inr ⟨_,_,_,Z,Z,Z,Z⟩) Z Z Z<|zm zg0 Z Z Z ?_
            exact J _ (by exact ⟨(zw (by clear J; first | (simp [hs80]; done) | (simp_all; done) | grind)),Z,Z,Z,Z,trivial⟩)
          ·refine AtL.assign zg0 Z Z<|AtL.done<|zq Z ?_ ?_
           ·intro hc5
            refine zc<|za<|zaE (cs:=[str [],str [],V 0,.slice none 0 0]) zb5 zg0 Z Z Z<|zr (H':=s11::s5::O7 b1 (str []) (str []) 0 none 0 0::H) 2 0 zcm zg0 Z Z Z Z Z Z Z Z Z<|AtL.assign zg0 Z Z<|AtL.done ?_
            refine At.nil ?_
            have hp:zaT b=(.zero,505):=by rw [hp0,zcW,if_neg hn3,if_neg (by rw [hver]; simp),if_pos (by rw [← (zcl hver).1,← (zcl hver).2]; exact hc5)]
            exact zaZ (vs:=[.agg #[str [],str [],V 0,.slice none 0 0],V 505]) [0] 4 Z Z Tryz.func55 Z ⟨⟨_,Z,LoadsTo.agg (cs:=[str [],str [],V 0,.slice none 0 0]) zaU Z (zad 3 0 0 Z Z Z)⟩,Z,trivial⟩ (⟨Sl.nil,by rw [hp]; rfl,by rw [hp]; rfl,Z⟩)
           ·intro hc5
            refine zc<|za<|zb zg0 Z Z ?_
            refine zF 1 (o12.rd (i:=0) Z) Tryz.underlying161 zbY zg0 Z Z Z Z (by omega) ?_
            refine zh (v:=str ((spF 32 (ls.getD 0 [])).getD 1 [])) zaK zg0 Z Z (zH (o12.rd (i:=0) Z) (zz [] (by omega)) Z)<|zb7 (l:=((spF 32 (ls.getD 0 [])).getD 1 [])) Tryz.underlying9 zg0 Z Z<|zai zg0 Z Z Z<|AtL.assign zg0 Z Z<|AtL.done<|zq Z ?_ ?_
            ·intro hc6
             refine zc<|za<|zaE (cs:=[str [],str [],V 0,.slice none 0 0]) zb5 zg0 Z Z Z<|zr (H':=s11::s5::O7 b1 (str []) (str []) 0 none 0 0::H) 2 0 zcm zg0 Z Z Z Z Z Z Z Z Z<|AtL.assign zg0 Z Z<|AtL.done ?_
             refine At.nil ?_
             have hp:zaT b=(.zero,414):=by rw [hp0,zcW,if_neg hn3,if_neg (by rw [hver]; simp),if_neg (by rw [← (zcl hver).1,← (zcl hver).2]; exact hc5),if_pos (by omega)]
             exact zaZ (vs:=[.agg #[str [],str [],V 0,.slice none 0 0],V 414]) [0] 4 Z Z Tryz.func55 Z ⟨⟨_,Z,LoadsTo.agg (cs:=[str [],str [],V 0,.slice none 0 0]) zaU Z (zad 3 0 0 Z Z Z)⟩,Z,trivial⟩ (⟨Sl.nil,by rw [hp]; rfl,by rw [hp]; rfl,Z⟩)
            ·intro hc6
             refine zc<|za<|zb zg0 Z Z ?_
             refine zF 1 (o12.rd (i:=0) Z) Tryz.underlying161 zbY zg0 Z Z Z Z (by omega) ?_
             refine zh (v:=str ((spF 32 (ls.getD 0 [])).getD 1 [])) zaK zg0 Z Z (zH (o12.rd (i:=0) Z) (zz [] (by omega)) Z) ?_
             refine zk tf_body81 zg0 Z Z (target_ok (l:=((spF 32 (ls.getD 0 [])).getD 1 [])) (by have:=hw ((spF 32 (ls.getD 0 [])).getD 1 []) (zbh (l:=spF 32 (ls.getD 0 [])) (i:=1) (by omega)); omega)) ?_
             rintro _ _ ⟨rfl,rfl⟩
             refine zag zg0 Z Z<|AtL.assign zg0 Z Z<|AtL.done<|zae Z ?_ ?_
             ·intro hc7
              have hc7:(zeX ((spF 32 (ls.getD 0 [])).getD 1 []))=false:=zO hc7
              refine zc<|za<|zaE (cs:=[str [],str [],V 0,.slice none 0 0]) zb5 zg0 Z Z Z<|zr (H':=s11::s5::O7 b1 (str []) (str []) 0 none 0 0::H) 2 0 zcm zg0 Z Z Z Z Z Z Z Z Z<|AtL.assign zg0 Z Z<|AtL.done ?_
              refine At.nil ?_
              have hp:zaT b=(.zero,400):=by rw [hp0,zcW,if_neg hn3,if_neg (by rw [hver]; simp),if_neg (by rw [← (zcl hver).1,← (zcl hver).2]; exact hc5),if_neg (by omega),if_pos (by simpa using hc7)]
              exact zaZ (vs:=[.agg #[str [],str [],V 0,.slice none 0 0],V 400]) [0] 4 Z Z Tryz.func55 Z ⟨⟨_,Z,LoadsTo.agg (cs:=[str [],str [],V 0,.slice none 0 0]) zaU Z (zad 3 0 0 Z Z Z)⟩,Z,trivial⟩ (⟨Sl.nil,by rw [hp]; rfl,by rw [hp]; rfl,Z⟩)
             ·intro hc7
              have hc7:(zeX ((spF 32 (ls.getD 0 [])).getD 1 []))=true:=zJ hc7
              refine zj<|zp<|zc ?_
              have hB14:=zbv ((((spF 32 (ls.getD 0 [])).getD 2 []).getD 7 0 - 48))
              refine zac (es:=[9,10]) (pv:=[(0,.slice A8 (spF 32 (ls.getD 0 [])).length C9),(1,.pointer (some (za3 A8 (0 * tyS.sz)))),(2,str ((spF 32 (ls.getD 0 [])).getD 0 [])),(3,.slice A8 (spF 32 (ls.getD 0 [])).length C9),(4,.pointer (some (za3 A8 (1 * tyS.sz)))),(5,str ((spF 32 (ls.getD 0 [])).getD 1 [])),(6,.int .u8 ((((spF 32 (ls.getD 0 [])).getD 2 []).getD 7 0 - 48).toNat:Int)),(7,V ((((spF 32 (ls.getD 0 [])).getD 2 []).getD 7 0 - 48).toNat:Int)),(8,.agg #[str ((spF 32 (ls.getD 0 [])).getD 0 []),str ((spF 32 (ls.getD 0 [])).getD 1 []),V ((((spF 32 (ls.getD 0 [])).getD 2 []).getD 7 0 - 48).toNat:Int),.slice none 0 0])]) zV (by kernel_rfl) (by kernel_rfl) (by kernel_rfl) ?_
              refine ⟨⟨zpr Z Z Z (zi Z),zpr Z Z Z (zar 0 (o12.rd (i:=0) Z) Tryz.underlying161 zbY Z Z Z (by omega)),zpr Z Z Z (zu (v:=str ((spF 32 (ls.getD 0 [])).getD 0 [])) zaK Z (zH (o12.rd (i:=0) Z) (zz [] (by omega)) Z)),zpr Z Z Z (zi Z),zpr Z Z Z (zar 1 (o12.rd (i:=0) Z) Tryz.underlying161 zbY Z Z Z (by omega)),zpr Z Z Z (zu (v:=str ((spF 32 (ls.getD 0 [])).getD 1 [])) zaK Z (zH (o12.rd (i:=0) Z) (zz [] (by omega)) Z)),zpr Z Z Z (zi Z),zpr Z Z Z (zdM (z:=((((spF 32 (ls.getD 0 [])).getD 2 []).getD 7 0 - 48).toNat:Int)) Tryz.underlying5 Tryz.underlying3 Z (zgv _)),zpr Z Z Z (zbx (cs:=[str ((spF 32 (ls.getD 0 [])).getD 0 []),str ((spF 32 (ls.getD 0 [])).getD 1 []),V ((((spF 32 (ls.getD 0 [])).getD 2 []).getD 7 0 - 48).toNat:Int),.slice none 0 0]) zb5 Z Z),trivial⟩,Z,Z,by kernel_rfl,_,Z,Z,Z,_,Do.alloc ze5 (cs:=#[str [],str [],V 0,.slice none 0 0]) Z,?_⟩
              rintro _ _ ⟨b15,rfl,rfl⟩
              refine ⟨[],Z,?_⟩
              refine ⟨⟨zpr Z Z Z (zi Z),zpr Z Z Z (zar 0 (o12.rd (i:=1) Z) Tryz.underlying161 zbY Z Z Z (by omega)),zpr Z Z Z (zu (v:=str ((spF 32 (ls.getD 0 [])).getD 0 [])) zaK Z (zH (o12.rd (i:=1) Z) (zz [] (by omega)) Z)),zpr Z Z Z (zi Z),zpr Z Z Z (zar 1 (o12.rd (i:=1) Z) Tryz.underlying161 zbY Z Z Z (by omega)),zpr Z Z Z (zu (v:=str ((spF 32 (ls.getD 0 [])).getD 1 [])) zaK Z (zH (o12.rd (i:=1) Z) (zz [] (by omega)) Z)),zpr Z Z Z (zi Z),zpr Z Z Z (zdM (z:=((((spF 32 (ls.getD 0 [])).getD 2 []).getD 7 0 - 48).toNat:Int)) Tryz.underlying5 Tryz.underlying3 Z (zgv _)),zpr Z Z Z (zbx (cs:=[str ((spF 32 (ls.getD 0 [])).getD 0 []),str ((spF 32 (ls.getD 0 [])).getD 1 []),V ((((spF 32 (ls.getD 0 [])).getD 2 []).getD 7 0 - 48).toNat:Int),.slice none 0 0]) zb5 Z Z),trivial⟩,Z,Z,by kernel_rfl,_,Z,Z,Z,_,zbF (H':=O7 b15 (str ((spF 32 (ls.getD 0 [])).getD 0 [])) (str ((spF 32 (ls.getD 0 [])).getD 1 [])) ((((spF 32 (ls.getD 0 [])).getD 2 []).getD 7 0 - 48).toNat:Int) none 0 0::s11::s5::O7 b1 (str []) (str []) 0 none 0 0::H) 0 0 zcm Z Z Z Z Z Z Z Z Z,?_⟩
              rintro _ _ ⟨rfl,rfl⟩
              refine ⟨[],Z,?_⟩
              refine ⟨⟨.inl (by kernel_rfl),.inl (by kernel_rfl),.inl (by kernel_rfl),.inl (by kernel_rfl),.inl (by kernel_rfl),.inl (by kernel_rfl),.inl (by kernel_rfl),.inl (by kernel_rfl),.inl (by kernel_rfl),trivial⟩,by kernel_rfl,?_⟩
              refine At.mono (E':=[(2,B b1),(4,.slice A2 ls.length C3),(9,B b15)]) ⟨Z,Z,Z,trivial⟩<|zc<|zc<|za<|zb zg0 Z Z ?_
              have hleo19:=zab o6
              refine zbN 1 ls.length C3 o6 (zI Z Z) Z Z (by intro h; cases h) (by omega) (Nat.le_refl _) (by omega) (Nat.le_refl _) Tryz.underlying161 zbY zg0 Z Z ?_
              rw [show subl ls 1 ls.length=ls.drop 1 from by unfold subl; rw [List.take_of_length_le (by simp)]]
              intro A17 C18 o19
              refine zC Tryz.underlying161 zg0 Z Z<|zb zg0 Z Z<|AtL.done<|At.block<|At.nil<|At.pick (H':=O7 b15 (str ((spF 32 (ls.getD 0 [])).getD 0 [])) (str ((spF 32 (ls.getD 0 [])).getD 1 [])) ((((spF 32 (ls.getD 0 [])).getD 2 []).getD 7 0 - 48).toNat:Int) none 0 0::[]::s5::O7 b1 (str []) (str []) 0 none 0 0::H) [1,0,3,4] 5 Z Z ?_
              refine zcI (fun (k:Nat) (x:Sl zbE 173) => [(2,B b1),(9,B b15),(109,.slice A17 (ls.drop 1).length C18),(110,V ((ls.drop 1).length:Int)),(111,V (k:Int))]) (fun (k:Nat) (x:Sl zbE 173) => (O7 b15 (str ((spF 32 (ls.getD 0 [])).getD 0 [])) (str ((spF 32 (ls.getD 0 [])).getD 1 [])) ((((spF 32 (ls.getD 0 [])).getD 2 []).getD 7 0 - 48).toNat:Int) x.A x.l.length x.C)::x.s::s5::O7 b1 (str []) (str []) 0 none 0 0::H) (fun (k:Nat) (x:Sl zbE 173) => k≤(ls.drop 1).length∧(x.l.length=k∧k≤32)∧zbs (ls.drop 1) 0=(match zbs ((ls.drop 1).drop k) k with | .inl s => .inl s | .inr fs => .inr (x.l++fs))∧(∀ f ∈ x.l,f.1.length≤b.length∧f.2.length≤b.length)) (fun (k:Nat) (x:Sl zbE 173) => (ls.drop 1).length - k) 0 Sl.nil (⟨Nat.zero_le _,⟨Z,by decide⟩,by rw [List.drop_zero]; cases zbs (ls.drop 1) 0 <;> simp [Sl.nil],fun f hf => absurd hf (by simp [Sl.nil])⟩) ⟨Z,Z,Z,Z,Z,trivial⟩ Z ?_
              rintro k x ⟨hk,⟨hxl,hk32⟩,hfl,hxb⟩ ihL1
              have hcap:=z7 x.own
              refine zc<|za<|zA zg0 Z Z Z<|AtL.done<|zc<|zq Z ?_ ?_
              ·intro hc8
               have hst:=zkR (L:=ls.drop 1) (k:=k) (by omega)
               have hlk:=hlb.1 ((ls.drop 1).getD k []) (List.mem_of_mem_drop (zbh (l:=ls.drop 1) (i:=k) (by omega)))
               have hcl:=cut_le 58 ((ls.drop 1).getD k [])
               have htl:=trimS_le (Lib.cut ((ls.drop 1).getD k []) [58]).2.1 [9,32]
               refine zj<|zc<|At.block<|zc<|za ?_
               refine zF k (o19.rd (i:=2) Z) Tryz.underlying161 zbY zg0 Z Z Z Z (by omega) ?_
               refine zh (v:=str ((ls.drop 1).getD k [])) zaK zg0 Z Z (zH (o19.rd (i:=2) Z) (zz [] (by omega)) Z)<|AtL.assign zg0 Z Z<|AtL.done<|zc<|zc<|za ?_
               refine zd zfc zg0 Z Z Z<|zh zgz zg0 Z Z (Cell.own 0 0 Z Z Z)<|zC Tryz.underlying40 zg0 Z Z<|zW zg0 Z Z Z<|AtL.done<|zq Z ?_ ?_
               ·intro hc9
                refine zc<|za<|zaE (cs:=[str [],str [],V 0,.slice none 0 0]) zb5 zg0 Z Z Z<|zr (H':=O7 b15 (str ((spF 32 (ls.getD 0 [])).getD 0 [])) (str ((spF 32 (ls.getD 0 [])).getD 1 [])) ((((spF 32 (ls.getD 0 [])).getD 2 []).getD 7 0 - 48).toNat:Int) x.A x.l.length x.C::x.s::s5::O7 b1 (str []) (str []) 0 none 0 0::H) 3 0 zcm zg0 Z Z Z Z Z Z Z Z Z<|AtL.assign zg0 Z Z<|AtL.done ?_
                refine At.nil ?_
                have hp:zaT b=(.zero,431):=by rw [hp0,zcW,if_neg hn3,if_neg (by rw [hver]; simp),if_neg (by rw [← (zcl hver).1,← (zcl hver).2]; exact hc5),if_neg (by omega),if_neg (by simpa using hc7),hfl,hst,if_pos (by omega)]
                exact zaZ (vs:=[.agg #[str [],str [],V 0,.slice none 0 0],V 431]) [0] 5 Z Z Tryz.func55 Z ⟨⟨_,Z,LoadsTo.agg (cs:=[str [],str [],V 0,.slice none 0 0]) zaU Z (zad 4 0 0 Z Z Z)⟩,Z,trivial⟩ (⟨Sl.nil,by rw [hp]; rfl,by rw [hp]; rfl,Z⟩)
               ·intro hc9
                refine zj<|zc<|za<|zb zg0 Z Z ?_
                refine zk tf_body82 zg0 Z Z (cut_ok (x:=((ls.drop 1).getD k [])) 58 (by omega) T) ?_
                rintro _ _ ⟨rfl,rfl⟩
                refine zb zg0 Z Z<|AtL.extract zg0 Z Z Z<|AtL.extract zg0 Z Z Z<|AtL.extract zg0 Z Z Z<|AtL.assign zg0 Z Z<|AtL.assign zg0 Z Z ?_
                refine AtL.assign zg0 Z Z<|AtL.done<|zc<|za<|zb zg0 Z Z ?_
                refine zk zgE zg0 Z Z (zkw (x:=(Lib.cut ((ls.drop 1).getD k []) [58]).2.1) (cs:=[9,32]) (by omega) (by decide) (by decide)) ?_
                rintro _ _ ⟨rfl,rfl⟩
                refine AtL.assign zg0 Z Z<|AtL.done<|zc<|zc<|za<|zb zg0 Z Z ?_
                refine zag zg0 Z Z<|zb zg0 Z Z<|zy 4 (E':=[(134,.bool (decide ((((Lib.cut ((ls.drop 1).getD k []) [58]).2.2)=false)∨((zd1 ((Lib.cut ((ls.drop 1).getD k []) [58]).1) 64)=false)))),(2,B b1),(9,B b15),(12,str ((Lib.cut ((ls.drop 1).getD k []) [58]).1)),(13,str (Lib.trimS ((Lib.cut ((ls.drop 1).getD k []) [58]).2.1) [9,32])),(109,.slice A17 (ls.drop 1).length C18),(110,V ((ls.drop 1).length:Int)),(111,V (k:Int))]) (fun J => ?_) ?_
                ·refine zY (t:=130) Z ?_ ?_
                 ·intro hs130
                  have hs130:((Lib.cut ((ls.drop 1).getD k []) [58]).2.2)=false:=zO hs130
                  refine ze Z Z Z Z Z Z<|ze Z Z Z Z Z Z<|ze Z Z Z Z Z Z<|zn zg0 Z Z Z ?_
                  exact J _ (by exact ⟨(zw (by clear J; first | (simp [hs130]; done) | (simp_all; done) | grind)),Z,Z,Z,Z,Z,Z,Z,trivial⟩)
                 ·intro hs130
                  have hs130:((Lib.cut ((ls.drop 1).getD k []) [58]).2.2)=true:=zJ hs130
                  refine zb (.inr ⟨_,_,_,Z,Z,Z,Z⟩) Z Z ?_
                  refine zk zjk (.inr ⟨_,_,_,Z,Z,Z,Z⟩) Z Z (word_ok (l:=(Lib.cut ((ls.drop 1).getD k []) [58]).1) (by omega) 64) ?_
                  rintro _ _ ⟨rfl,rfl⟩
                  refine zag (.inr ⟨_,_,_,Z,Z,Z,Z⟩) Z Z<|zm zg0 Z Z Z ?_
                  exact J _ (by exact ⟨(zw (by clear J; first | (simp [hs130]; done) | (simp_all; done) | grind)),Z,Z,Z,Z,Z,Z,Z,trivial⟩)
                ·refine zb zg0 Z Z<|zy 4 (E':=[(139,.bool (decide (((((Lib.cut ((ls.drop 1).getD k []) [58]).2.2)=false)∨((zd1 ((Lib.cut ((ls.drop 1).getD k []) [58]).1) 64)=false))∨((zeP (Lib.trimS ((Lib.cut ((ls.drop 1).getD k []) [58]).2.1) [9,32]))=false)))),(2,B b1),(9,B b15),(12,str ((Lib.cut ((ls.drop 1).getD k []) [58]).1)),(13,str (Lib.trimS ((Lib.cut ((ls.drop 1).getD k []) [58]).2.1) [9,32])),(109,.slice A17 (ls.drop 1).length C18),(110,V ((ls.drop 1).length:Int)),(111,V (k:Int))]) (fun J => ?_) ?_
                 ·refine zD (t:=135) Z ?_ ?_
                  ·intro hs135
                   refine ze Z Z Z Z Z Z<|ze Z Z Z Z Z Z<|ze Z Z Z Z Z Z<|zn zg0 Z Z Z ?_
                   exact J _ (by exact ⟨(zw (by clear J; first | (simp [hs135]; done) | (simp_all; done) | grind)),Z,Z,Z,Z,Z,Z,Z,trivial⟩)
                  ·intro hs135
                   refine zb (.inr ⟨_,_,_,Z,Z,Z,Z⟩) Z Z ?_
                   refine zk tf_body84 (.inr ⟨_,_,_,Z,Z,Z,Z⟩) Z Z (value_ok (l:=Lib.trimS ((Lib.cut ((ls.drop 1).getD k []) [58]).2.1) [9,32]) (by omega)) ?_
                   rintro _ _ ⟨rfl,rfl⟩
                   refine zag (.inr ⟨_,_,_,Z,Z,Z,Z⟩) Z Z<|zm zg0 Z Z Z ?_
                   exact J _ (by exact ⟨(zw (by clear J; first | (simp [hs135]; done) | (simp_all; done) | grind)),Z,Z,Z,Z,Z,Z,Z,trivial⟩)
                 ·refine AtL.done<|zq Z ?_ ?_
                  ·intro hc10
                   refine zc<|za<|zaE (cs:=[str [],str [],V 0,.slice none 0 0]) zb5 zg0 Z Z Z<|zr (H':=O7 b15 (str ((spF 32 (ls.getD 0 [])).getD 0 [])) (str ((spF 32 (ls.getD 0 [])).getD 1 [])) ((((spF 32 (ls.getD 0 [])).getD 2 []).getD 7 0 - 48).toNat:Int) x.A x.l.length x.C::x.s::s5::O7 b1 (str []) (str []) 0 none 0 0::H) 3 0 zcm zg0 Z Z Z Z Z Z Z Z Z<|AtL.assign zg0 Z Z<|AtL.done ?_
                   refine At.nil ?_
                   have hp:zaT b=(.zero,400):=by rw [hp0,zcW,if_neg hn3,if_neg (by rw [hver]; simp),if_neg (by rw [← (zcl hver).1,← (zcl hver).2]; exact hc5),if_neg (by omega),if_neg (by simpa using hc7),hfl,hst,if_neg (by omega),if_pos (by simpa only [or_assoc,Bool.not_eq_true',Bool.not_eq_false,Bool.not_eq_true] using hc10)]
                   exact zaZ (vs:=[.agg #[str [],str [],V 0,.slice none 0 0],V 400]) [0] 5 Z Z Tryz.func55 Z ⟨⟨_,Z,LoadsTo.agg (cs:=[str [],str [],V 0,.slice none 0 0]) zaU Z (zad 4 0 0 Z Z Z)⟩,Z,trivial⟩ (⟨Sl.nil,by rw [hp]; rfl,by rw [hp]; rfl,Z⟩)
                  ·intro hc10
                   refine zj<|za<|zd zfc zg0 Z Z Z<|zh zgz zg0 Z Z (Cell.own 0 0 Z Z Z)<|zb zg0 Z Z<|zb zg0 Z Z ?_
                   refine zaE (cs:=[str ((Lib.cut ((ls.drop 1).getD k []) [58]).1),str (Lib.trimS ((Lib.cut ((ls.drop 1).getD k []) [58]).2.1) [9,32])]) tf_lay173 zg0 Z Z Z<|zG (cs:=[str ((Lib.cut ((ls.drop 1).getD k []) [58]).1),str (Lib.trimS ((Lib.cut ((ls.drop 1).getD k []) [58]).2.1) [9,32])]) Tryz.underlying40 zhC zin Z Z zg0 Z Z Z ?_
                   intro b20
                   refine zaD zbE (l:=([((Lib.cut ((ls.drop 1).getD k []) [58]).1,Lib.trimS ((Lib.cut ((ls.drop 1).getD k []) [58]).2.1) [9,32])]:List (List UInt8×List UInt8))) Z Z (by first | decide | simp) ?_
                   intro s21 o22
                   refine zam (l:=x.l) (news:=[((Lib.cut ((ls.drop 1).getD k []) [58]).1,Lib.trimS ((Lib.cut ((ls.drop 1).getD k []) [58]).2.1) [9,32])]) 2 tf_el40 Z x.own (o22.rd (i:=0) Z) (by first | omega | (simp only [List.length_append,List.length_cons,List.length_nil]; omega) | (simp; done) | (simp; omega)) zg0 Z Z Z ?_
                   intro A23 C24 s25 o26
                   refine zd zfc zg0 Z Z Z<|zr (H':=s21::[(b15,.cells #[str ((spF 32 (ls.getD 0 [])).getD 0 []),str ((spF 32 (ls.getD 0 [])).getD 1 []),V ((((spF 32 (ls.getD 0 [])).getD 2 []).getD 7 0 - 48).toNat:Int),.slice A23 (x.l++([((Lib.cut ((ls.drop 1).getD k []) [58]).1,Lib.trimS ((Lib.cut ((ls.drop 1).getD k []) [58]).2.1) [9,32])])).length C24] 42 (0,0))]::s25::s5::O7 b1 (str []) (str []) 0 none 0 0::H) 1 0 tf_sz40 zg0 Z Z Z Z Z Z Z Z Z<|AtL.done<|zp<|za ?_
                   refine AtL.add (z:=(k:Int) + 1) zg0 Z Z Z (w64 (by omega) (by omega))<|zb zg0 Z Z<|AtL.done<|At.pick (H':=[(b15,.cells #[str ((spF 32 (ls.getD 0 [])).getD 0 []),str ((spF 32 (ls.getD 0 [])).getD 1 []),V ((((spF 32 (ls.getD 0 [])).getD 2 []).getD 7 0 - 48).toNat:Int),.slice A23 (x.l++([((Lib.cut ((ls.drop 1).getD k []) [58]).1,Lib.trimS ((Lib.cut ((ls.drop 1).getD k []) [58]).2.1) [9,32])])).length C24] 42 (0,0))]::s25::s5::O7 b1 (str []) (str []) 0 none 0 0::H) [1,2,3,4] 5 Z Z ?_
                   refine ihL1 (k + 1) (⟨A23,C24,x.l++([((Lib.cut ((ls.drop 1).getD k []) [58]).1,Lib.trimS ((Lib.cut ((ls.drop 1).getD k []) [58]).2.1) [9,32])]),s25,o26⟩) (⟨by omega,⟨by simp; omega,by omega⟩,by rw [hfl,hst,if_neg (by omega),if_neg (by simp only [not_or] at hc10 ⊢; exact ⟨by simpa using hc10.1.1,by simpa using hc10.1.2,by simpa using hc10.2⟩)]; cases zbs ((ls.drop 1).drop (k + 1)) (k + 1) <;> simp,fun f hf => by
                      rcases List.mem_append.1 hf with hf | hf
                      ·exact hxb f hf
                      ·simp only [List.mem_singleton] at hf; subst hf; exact ⟨by dsimp only; omega,by dsimp only; omega⟩⟩) (by omega) _ ?_
                   exact ⟨Z,Z,Z,Z,(by first | rfl | exact zaf (by simp [hxl]) | exact zah (by omega) | exact zah (by simp [hxl]) | exact zaf (by simp [hxl]; omega)),trivial⟩
              ·intro hc8
               refine zau Z<|zc<|zc<|za<|zay (cs:=[str ((spF 32 (ls.getD 0 [])).getD 0 []),str ((spF 32 (ls.getD 0 [])).getD 1 []),V ((((spF 32 (ls.getD 0 [])).getD 2 []).getD 7 0 - 48).toNat:Int),.slice x.A x.l.length x.C]) zaU zg0 Z Z Z (zad 0 0 0 Z Z Z) ?_
               refine zk tf_body85 zg0 Z Z (hosts_ok (fs:=x.l) (x.own.rd (i:=1) Z) (by omega) (fun f hf => by have:=hxb f hf; omega)) ?_
               rintro _ _ ⟨rfl,rfl⟩
               refine zag zg0 Z Z<|AtL.done<|zae Z ?_ ?_
               ·intro hc11
                have hc11:(zgX x.l ((((spF 32 (ls.getD 0 [])).getD 2 []).getD 7 0 - 48).toNat:Int))=false:=zO hc11
                refine zc<|za<|zaE (cs:=[str [],str [],V 0,.slice none 0 0]) zb5 zg0 Z Z Z<|zr (H':=O7 b15 (str ((spF 32 (ls.getD 0 [])).getD 0 [])) (str ((spF 32 (ls.getD 0 [])).getD 1 [])) ((((spF 32 (ls.getD 0 [])).getD 2 []).getD 7 0 - 48).toNat:Int) x.A x.l.length x.C::x.s::s5::O7 b1 (str []) (str []) 0 none 0 0::H) 3 0 zcm zg0 Z Z Z Z Z Z Z Z Z<|AtL.assign zg0 Z Z<|AtL.done ?_
                refine At.nil ?_
                have hend:zbs (ls.drop 1) 0 = .inr x.l:=by rw [hfl,List.drop_eq_nil_of_le (by omega),zbs]; simp
                have hp:zaT b=(.zero,400):=by rw [hp0,zcW,if_neg hn3,if_neg (by rw [hver]; simp),if_neg (by rw [← (zcl hver).1,← (zcl hver).2]; exact hc5),if_neg (by omega),if_neg (by simpa using hc7),hend]; simp only []; rw [if_neg (by simpa using hc11)]
                exact zaZ (vs:=[.agg #[str [],str [],V 0,.slice none 0 0],V 400]) [0] 5 Z Z Tryz.func55 Z ⟨⟨_,Z,LoadsTo.agg (cs:=[str [],str [],V 0,.slice none 0 0]) zaU Z (zad 4 0 0 Z Z Z)⟩,Z,trivial⟩ (⟨Sl.nil,by rw [hp]; rfl,by rw [hp]; rfl,Z⟩)
               ·intro hc11
                have hc11:(zgX x.l ((((spF 32 (ls.getD 0 [])).getD 2 []).getD 7 0 - 48).toNat:Int))=true:=zJ hc11
                refine zj<|zc<|za<|zay (cs:=[str ((spF 32 (ls.getD 0 [])).getD 0 []),str ((spF 32 (ls.getD 0 [])).getD 1 []),V ((((spF 32 (ls.getD 0 [])).getD 2 []).getD 7 0 - 48).toNat:Int),.slice x.A x.l.length x.C]) zaU zg0 Z Z Z (zad 0 0 0 Z Z Z)<|zr (H':=O7 b15 (str ((spF 32 (ls.getD 0 [])).getD 0 [])) (str ((spF 32 (ls.getD 0 [])).getD 1 [])) ((((spF 32 (ls.getD 0 [])).getD 2 []).getD 7 0 - 48).toNat:Int) x.A x.l.length x.C::x.s::s5::O7 b1 (str ((spF 32 (ls.getD 0 [])).getD 0 [])) (str ((spF 32 (ls.getD 0 [])).getD 1 [])) ((((spF 32 (ls.getD 0 [])).getD 2 []).getD 7 0 - 48).toNat:Int) x.A x.l.length x.C::H) 3 0 zcm zg0 Z Z Z Z Z Z Z Z Z<|AtL.assign zg0 Z Z ?_
                refine AtL.done ?_
                have hend:zbs (ls.drop 1) 0 = .inr x.l:=by rw [hfl,List.drop_eq_nil_of_le (by omega),zbs]; simp
                have hp:zaT b=(⟨(spF 32 (ls.getD 0 [])).getD 0 [],(spF 32 (ls.getD 0 [])).getD 1 [],((((spF 32 (ls.getD 0 [])).getD 2 []).getD 7 0 - 48).toNat:Int),x.l⟩,200):=by rw [hp0,zcW,if_neg hn3,if_neg (by rw [hver]; simp),if_neg (by rw [← (zcl hver).1,← (zcl hver).2]; exact hc5),if_neg (by omega),if_neg (by simpa using hc7),hend]; simp only []; rw [if_pos (by simpa using hc11)]
                exact zaZ (vs:=[.agg #[str ((spF 32 (ls.getD 0 [])).getD 0 []),str ((spF 32 (ls.getD 0 [])).getD 1 []),V ((((spF 32 (ls.getD 0 [])).getD 2 []).getD 7 0 - 48).toNat:Int),.slice x.A x.l.length x.C],V 200]) [1] 4 Z Z Tryz.func55 Z ⟨⟨_,Z,LoadsTo.agg (cs:=[str ((spF 32 (ls.getD 0 [])).getD 0 []),str ((spF 32 (ls.getD 0 [])).getD 1 []),V ((((spF 32 (ls.getD 0 [])).getD 2 []).getD 7 0 - 48).toNat:Int),.slice x.A x.l.length x.C]) zaU Z (zad 3 0 0 Z Z Z)⟩,Z,trivial⟩ (⟨x,by rw [hp]; rfl,by rw [hp],Z⟩)
         ·refine zk zjj zg0 Z Z (version_no (l:=(spF 32 (ls.getD 0 [])).getD 2 []) (by have:=hw ((spF 32 (ls.getD 0 [])).getD 2 []) (zbh (l:=spF 32 (ls.getD 0 [])) (i:=2) (by omega)); omega) hver) ?_
          rintro _ _ ⟨rfl,rfl⟩
          refine zb zg0 Z Z<|AtL.extract zg0 Z Z Z<|AtL.extract zg0 Z Z Z<|AtL.extract zg0 Z Z Z<|AtL.assign zg0 Z Z<|AtL.assign zg0 Z Z ?_
          refine AtL.assign zg0 Z Z<|AtL.done<|zc<|At.block<|zc<|za ?_
          refine zb zg0 Z Z<|zag zg0 Z Z<|AtL.assign zg0 Z Z<|AtL.done<|zX Z<|zc ?_
          refine za<|zaE (cs:=[str [],str [],V 0,.slice none 0 0]) zb5 zg0 Z Z Z<|zr (H':=s11::s5::O7 b1 (str []) (str []) 0 none 0 0::H) 2 0 zcm zg0 Z Z Z Z Z Z Z Z Z<|AtL.assign zg0 Z Z<|AtL.done<|At.nil ?_
          have hp:zaT b=(.zero,400):=by rw [hp0,zcW,if_neg hn3,if_pos hver]
          exact zaZ (vs:=[.agg #[str [],str [],V 0,.slice none 0 0],V 400]) [0] 4 Z Z Tryz.func55 Z ⟨⟨_,Z,LoadsTo.agg (cs:=[str [],str [],V 0,.slice none 0 0]) zaU Z (zad 3 0 0 Z Z Z)⟩,Z,trivial⟩ (⟨Sl.nil,by rw [hp]; rfl,by rw [hp]; rfl,Z⟩)
end Go.Proofs.YtbfabhdfmoiabaaGreatDoor
namespace Go.Proofs
open Go.Shelf
def zgl:Go.Shelf.Ren:=⟨fun | 172 => 87 | 244 => 113 | 245 => 114 | 247 => 126 | 279 => 127 | 280 => 128 | 281 => 129 | 282 => 130 | 287 => 146 | 316 => 147 | 171 => 149 | 205 => 148 | 321 => 155 | 322 => 156 | 243 => 157 | 246 => 159 | 283 => 160 | 284 => 161 | 285 => 162 | 286 => 163 | 129 => 70 | 317 => 164 | 318 => 165 | 319 => 166 | 320 => 167 | 337 => 168 | 338 => 169 | n => n,fun | 9 => 9 | 3 => 3 | 75 => 176 | 76 => 177 | 4 => 4 | 5 => 5 | 167 => 214 | 37 => 34 | 0 => 0 | 85 => 215 | 2 => 2 | 168 => 217 | 53 => 158 | 175 => 228 | 46 => 138 | 210 => 231 | 127 => 243 | 145 => 246 | 143 => 244 | 21 => 21 | 171 => 248 | 173 => 250 | 212 => 253 | 51 => 156 | 20 => 20 | 213 => 254 | 232 => 255 | 233 => 256 | 80 => 257 | n => n,fun | 15 => 1 | 16 => 2 | 17 => 5 | 18 => 6 | 19 => 7 | n => n⟩
theorem zkg:Go.Proofs.Lays.n172 Tryz.prog zgl:={
 mixed:=by kernel_rfl
 f129:=Tryz.func70.trans (congrArg some (by kernel_rfl))
 f171:=Tryz.func149.trans (congrArg some (by kernel_rfl))
 f172:=Tryz.func87.trans (congrArg some (by kernel_rfl))
 f205:=Tryz.func148.trans (congrArg some (by kernel_rfl))
 f243:=Tryz.func157.trans (congrArg some (by kernel_rfl))
 f244:=Tryz.func113.trans (congrArg some (by kernel_rfl))
 f245:=Tryz.func114.trans (congrArg some (by kernel_rfl))
 f246:=Tryz.func159.trans (congrArg some (by kernel_rfl))
 f247:=Tryz.func126.trans (congrArg some (by kernel_rfl))
 f279:=Tryz.func127.trans (congrArg some (by kernel_rfl))
 f280:=Tryz.func128.trans (congrArg some (by kernel_rfl))
 f281:=Tryz.func129.trans (congrArg some (by kernel_rfl))
 f282:=Tryz.func130.trans (congrArg some (by kernel_rfl))
 f283:=Tryz.func160.trans (congrArg some (by kernel_rfl))
 f284:=Tryz.func161.trans (congrArg some (by kernel_rfl))
 f285:=Tryz.func162.trans (congrArg some (by kernel_rfl))
 f286:=Tryz.func163.trans (congrArg some (by kernel_rfl))
 f287:=Tryz.func146.trans (congrArg some (by kernel_rfl))
 f316:=Tryz.func147.trans (congrArg some (by kernel_rfl))
 f317:=Tryz.func164.trans (congrArg some (by kernel_rfl))
 f318:=Tryz.func165.trans (congrArg some (by kernel_rfl))
 f319:=Tryz.func166.trans (congrArg some (by kernel_rfl))
 f320:=Tryz.func167.trans (congrArg some (by kernel_rfl))
 f321:=Tryz.func155.trans (congrArg some (by kernel_rfl))
 f322:=Tryz.func156.trans (congrArg some (by kernel_rfl))
 f337:=Tryz.func168.trans (congrArg some (by kernel_rfl))
 f338:=Tryz.func169.trans (congrArg some (by kernel_rfl))
 t0:=Tryz.underlying0
 a0:=Tryz.isAgg0
 z0:=Tryz.sizeOf0
 v0:=Tryz.zeroValue0
 t2:=Tryz.underlying2
 a2:=Tryz.isAgg2
 z2:=Tryz.sizeOf2
 v2:=Tryz.zeroValue2
 t3:=Tryz.underlying3
 a3:=Tryz.isAgg3
 z3:=Tryz.sizeOf3
 v3:=Tryz.zeroValue3
 t4:=Tryz.underlying4
 a4:=Tryz.isAgg4
 z4:=Tryz.sizeOf4
 v4:=Tryz.zeroValue4
 t5:=Tryz.underlying5
 a5:=Tryz.isAgg5
 z5:=Tryz.sizeOf5
 v5:=Tryz.zeroValue5
 t9:=Tryz.underlying9
 a9:=Tryz.isAgg9
 z9:=Tryz.sizeOf9
 v9:=Tryz.zeroValue9
 t20:=Tryz.underlying20
 a20:=Tryz.isAgg20
 z20:=Tryz.sizeOf20
 v20:=Tryz.zeroValue20
 t21:=Tryz.underlying21
 a21:=Tryz.isAgg21
 z21:=Tryz.sizeOf21
 v21:=Tryz.zeroValue21
 t37:=Tryz.underlying34
 a37:=Tryz.isAgg34
 z37:=Tryz.sizeOf34
 v37:=Tryz.zeroValue34
 t46:=Tryz.underlying138
 a46:=Tryz.isAgg138
 z46:=Tryz.sizeOf138
 v46:=Tryz.zeroValue138
 t51:=Tryz.underlying156
 a51:=Tryz.isAgg156
 z51:=Tryz.sizeOf156
 v51:=Tryz.zeroValue156
 t53:=Tryz.underlying158
 a53:=Tryz.isAgg158
 z53:=Tryz.sizeOf158
 v53:=Tryz.zeroValue158
 t75:=Tryz.underlying176
 a75:=Tryz.isAgg176
 z75:=Tryz.sizeOf176
 v75:=Tryz.zeroValue176
 t76:=Tryz.underlying177
 a76:=Tryz.isAgg177
 z76:=Tryz.sizeOf177
 v76:=Tryz.zeroValue177
 t85:=Tryz.underlying215
 a85:=Tryz.isAgg215
 z85:=Tryz.sizeOf215
 v85:=Tryz.zeroValue215
 t127:=Tryz.underlying243
 a127:=Tryz.isAgg243
 z127:=Tryz.sizeOf243
 v127:=Tryz.zeroValue243
 t143:=Tryz.underlying244
 a143:=Tryz.isAgg244
 z143:=Tryz.sizeOf244
 v143:=Tryz.zeroValue244
 t145:=Tryz.underlying246
 a145:=Tryz.isAgg246
 z145:=Tryz.sizeOf246
 v145:=Tryz.zeroValue246
 t167:=Tryz.underlying214
 a167:=Tryz.isAgg214
 z167:=Tryz.sizeOf214
 v167:=Tryz.zeroValue214
 t168:=Tryz.underlying217
 a168:=Tryz.isAgg217
 z168:=Tryz.sizeOf217
 v168:=Tryz.zeroValue217
 t171:=Tryz.underlying248
 a171:=Tryz.isAgg248
 z171:=Tryz.sizeOf248
 v171:=Tryz.zeroValue248
 t173:=Tryz.underlying250
 a173:=Tryz.isAgg250
 z173:=Tryz.sizeOf250
 v173:=Tryz.zeroValue250
 t175:=Tryz.underlying228
 a175:=Tryz.isAgg228
 z175:=Tryz.sizeOf228
 v175:=Tryz.zeroValue228
 t210:=Tryz.underlying231
 a210:=Tryz.isAgg231
 z210:=Tryz.sizeOf231
 v210:=Tryz.zeroValue231
 t212:=Tryz.underlying253
 a212:=Tryz.isAgg253
 z212:=Tryz.sizeOf253
 v212:=Tryz.zeroValue253
 t213:=Tryz.underlying254
 a213:=Tryz.isAgg254
 z213:=Tryz.sizeOf254
 t232:=Tryz.underlying255
 a232:=Tryz.isAgg255
 z232:=Tryz.sizeOf255
 v232:=Tryz.zeroValue255
 t233:=Tryz.underlying256
 a233:=Tryz.isAgg256
 z233:=Tryz.sizeOf256
 v233:=Tryz.zeroValue256
 g15:=by kernel_rfl
 g16:=by kernel_rfl
 g17:=by kernel_rfl
 g18:=by kernel_rfl
 g19:=by kernel_rfl }
open Go.RowKit in
theorem Tryz.strconv_Atoi (s:ByteArray) (n:Int) (hl:s.size≤18) (h:Lib.atoi s.data.toList=some n) (w:World) :
  Calls Tryz.prog 87 #[.string s] w fun e w' => e = .returned (.tuple #[.int .i64 n,.nilIface])∧∃ t,w' = Lib.bytesWorld w 5 t:=Any.strconv_Atoi zkg s n hl h w
end Go.Proofs
namespace Go.Proofs.YtbfabhdfmoiabaaGreatDoor
set_option linter.unusedVariables false
set_option linter.unusedSimpArgs false
set_option maxRecDepth 100000
theorem len_te {fs:List Fld}(h:(0:Int) < ((zbA fs [116,114,97,110,115,102,101,114,45,101,110,99,111,100,105,110,103]).2:Int)):zaQ fs=(0,501):=by
 rw [zaQ,if_pos (by show 0 < (zbA fs [116,114,97,110,115,102,101,114,45,101,110,99,111,100,105,110,103]).2; omega)]
theorem len_no {fs:List Fld}(h:¬ (0:Int) < ((zbA fs [116,114,97,110,115,102,101,114,45,101,110,99,111,100,105,110,103]).2:Int)) {L:List (List UInt8)}(hL:L=allF fs [99,111,110,116,101,110,116,45,108,101,110,103,116,104]) (h0:L=[]):zaQ fs=(-1,200):=by
 rw [zaQ,if_neg (by show ¬ 0 < (zbA fs [116,114,97,110,115,102,101,114,45,101,110,99,111,100,105,110,103]).2; omega),show allF fs CLEN=[] from hL.symm.trans h0]
theorem len_bad {fs:List Fld}(h:¬ (0:Int) < ((zbA fs [116,114,97,110,115,102,101,114,45,101,110,99,111,100,105,110,103]).2:Int)) {L:List (List UInt8)}(hL:L=allF fs [99,111,110,116,101,110,116,45,108,101,110,103,116,104]) {k:Nat}(hk:k < L.length) (hb:(zeO (L.getD k [])).isSome=false∨¬ L.getD k []=L.getD 0 []):zaQ fs=(0,400):=by
 rw [zaQ,if_neg (by show ¬ 0 < (zbA fs [116,114,97,110,115,102,101,114,45,101,110,99,111,100,105,110,103]).2; omega),show allF fs CLEN=L from hL.symm]
 cases L with
 | nil => simp at hk
 | cons f r =>
  show (if (r.all fun s => decide (s=f))=true then _ else _)=_
  by_cases hr:(r.all fun s => decide (s=f))=true
  ·rw [if_pos hr]
   have he:(f::r).getD k []=f:=by
    cases k with
    | zero => rfl
    | succ k =>
     have hm:r.getD k [] ∈ r:=zbh (by simpa using hk)
     exact of_decide_eq_true (List.all_eq_true.1 hr _ hm)
   rcases hb with hb | hb
   ·rw [he] at hb
    cases hq:zeO f with
    | none => rfl
    | some n => rw [hq] at hb; cases hb
   ·exact absurd he hb
  ·rw [if_neg hr]
theorem len_ok {fs:List Fld}(h:¬ (0:Int) < ((zbA fs [116,114,97,110,115,102,101,114,45,101,110,99,111,100,105,110,103]).2:Int)) {L:List (List UInt8)}(hL:L=allF fs [99,111,110,116,101,110,116,45,108,101,110,103,116,104]) (h0:0 < L.length) (hall:∀ k,k < L.length→L.getD k []=L.getD 0 []) {n:Nat}(hn:zeO (L.getD 0 [])=some n):zaQ fs=if 65535 < n then (0,413) else ((n:Int),200):=by
 rw [zaQ,if_neg (by show ¬ 0 < (zbA fs [116,114,97,110,115,102,101,114,45,101,110,99,111,100,105,110,103]).2; omega),show allF fs CLEN=L from hL.symm]
 cases L with
 | nil => simp at h0
 | cons f r =>
  have hn:zeO f=some n:=hn
  show (if (r.all fun s => decide (s=f))=true then _ else _)=_
  rw [if_pos,hn]
  rw [List.all_eq_true]
  intro x hx
  obtain ⟨j,hj⟩:=List.mem_iff_getElem?.1 hx
  have hjl:=(List.getElem?_eq_some_iff.1 hj).1
  have:=hall (j + 1) (by simp; omega)
  simp [hj] at this
  simpa using this
theorem zjH {s:List UInt8}:(zeO s).isSome=false↔((s=[]∨(10:Int) < (s.length:Int))∨¬ Lib.trimS s [48,49,50,51,52,53,54,55,56,57]=[]):=by
 rw [size_some]
 show (decide (s≠[]) && decide (s.length≤10) && decide (Lib.trimS s [48,49,50,51,52,53,54,55,56,57]=[]))=false↔_
 by_cases h1:s=[]
 ·simp [h1]
 ·by_cases h2:s.length≤10
  ·by_cases h3:Lib.trimS s [48,49,50,51,52,53,54,55,56,57]=[]
   ·simp [h1,h2,h3]; omega
   ·simp [h1,h2,h3]
  ·have:(10:Int) < (s.length:Int):=by omega
   simp [h1,h2,this]
theorem atoi_ok {w0:World}{base:Nat}{H:List Seg}{s:List UInt8}{n:Int}(h:Lib.atoi s=some n) (hs:s.length≤18):SCalls Tryz.prog 87 [str s] w0 base H (fun v H' => v = .tuple #[int n,.nilIface]∧H' = H):=by
 refine zer fun w S => ?_
 refine (Tryz.strconv_Atoi ⟨⟨s⟩⟩ n (by rw [zcr]; exact hs) h w).mono ?_
 rintro e w' ⟨he,t,rfl⟩
 exact ⟨he,Lib.bytesWorld_below _ _ _⟩
theorem length_ok {w0:World}{base:Nat}{H:List Seg}{m t:List UInt8}{minor:Int}{A:Option Addr}{C:Nat}{fs:List (List UInt8×List UInt8)}(h:Rd zbE w0 base H A C fs) (hfl:fs.length≤1000) (hb:∀ f ∈ fs,f.1.length≤140737488355000∧f.2.length≤140737488355000) :
  SCalls Tryz.prog 57 [.agg #[str m,str t,V minor,.slice A fs.length C]] w0 base (H) (fun v H' => v = .tuple #[int (zaQ fs).1,int (zaQ fs).2]∧H' = H):=by
 have hle0:=h.le
 have hcap0:=h.cap
 refine SCalls.of_walk (n:=59) Tryz.func57 Z Z Z fun cs => ?_
 refine zc<|za<|zbe (cs:=#[str m,str t,V minor,.slice A fs.length C]) Z zg0 Z Z ?_
 intro b1
 refine AtL.assign zg0 Z Z<|AtL.assign zg0 Z Z<|AtL.done<|zc<|zc<|za ?_
 refine zay (cs:=[str m,str t,V minor,.slice A fs.length C]) zaU zg0 Z Z Z (zad 0 0 0 Z Z Z) ?_
 refine zk zgF zg0 Z Z (ziM (fs:=fs) (Rd.skip 1 h) (nm:=[116,114,97,110,115,102,101,114,45,101,110,99,111,100,105,110,103]) (by decide) hfl hb) ?_
 rintro _ _ ⟨rfl,rfl⟩
 refine zb zg0 Z Z<|AtL.extract zg0 Z Z Z<|AtL.extract zg0 Z Z Z<|AtL.assign zg0 Z Z<|AtL.assign zg0 Z Z<|AtL.done ?_
 refine zc<|za<|zb zg0 Z Z<|zai zg0 Z Z Z<|AtL.done<|zae Z ?_ ?_
 ·intro hc1
  have hc1:0 < ((zbA fs [116,114,97,110,115,102,101,114,45,101,110,99,111,100,105,110,103]).2:Int):=of_decide_eq_true hc1
  refine zc<|za<|AtL.assign zg0 Z Z<|AtL.assign zg0 Z Z<|AtL.done<|At.pick (H':=H) [] 1 Z Z ?_
  exact zt Tryz.func57 Z Z (⟨by rw [len_te hc1]; rfl,Z⟩)
 ·intro hc1
  have hc1:¬ (0 < ((zbA fs [116,114,97,110,115,102,101,114,45,101,110,99,111,100,105,110,103]).2:Int)):=of_decide_eq_false hc1
  refine zj<|zc<|za<|zay (cs:=[str m,str t,V minor,.slice A fs.length C]) zaU zg0 Z Z Z (zad 0 0 0 Z Z Z) ?_
  refine zk zgD zg0 Z Z (all_ok (fs:=fs) (Rd.skip 1 h) (nm:=[99,111,110,116,101,110,116,45,108,101,110,103,116,104]) (by decide) hfl hb) ?_
  rintro _ _ ⟨⟨A2,C3,l4,s5,o6⟩,hx7,rfl,rfl⟩
  have hL:l4=allF fs [99,111,110,116,101,110,116,45,108,101,110,103,116,104]:=hx7
  have hLb:∀ s ∈ l4,s.length≤140737488355000:=by rw [hL]; intro s hs; obtain ⟨f,hf,rfl⟩:=List.mem_map.1 hs; exact (hb f (List.mem_filter.1 hf).1).2
  have hLc:=zab o6
  have hLd:=z7 o6
  refine AtL.assign zg0 Z Z<|AtL.done<|zc<|zc<|za<|zb zg0 Z Z ?_
  refine zC Tryz.underlying161 zg0 Z Z<|zW zg0 Z Z Z<|AtL.done<|zae Z ?_ ?_
  ·intro hc2
   have hc2:(l4.length:Int)=0:=of_decide_eq_true hc2
   refine zc<|za<|AtL.assign zg0 Z Z<|AtL.assign zg0 Z Z<|AtL.done<|At.pick (H':=H) [] 2 Z Z ?_
   exact zt Tryz.func57 Z Z (⟨by rw [len_no hc1 hL (List.eq_nil_of_length_eq_zero (by omega))]; rfl,Z⟩)
  ·intro hc2
   have hc2:¬ ((l4.length:Int)=0):=of_decide_eq_false hc2
   refine zj<|zc<|zc<|za<|zb zg0 Z Z<|zC Tryz.underlying161 zg0 Z Z ?_
   refine zb zg0 Z Z<|AtL.done<|At.block ?_
   refine zcF (fun (k:Nat) => [(6,.slice A2 l4.length C3),(23,.slice A2 l4.length C3),(24,V (l4.length:Int)),(25,V (k:Int))]) (fun (k:Nat) => s5::O7 b1 (str m) (str t) minor A fs.length C::H) (fun (k:Nat) => k≤l4.length∧∀ j,j < k→(zeO (l4.getD j [])).isSome=true∧l4.getD j []=l4.getD 0 []) (fun (k:Nat) => l4.length - k) 0 (⟨Nat.zero_le _,fun j hj => absurd hj (by omega)⟩) ⟨Z,Z,Z,Z,trivial⟩ Z ?_
   rintro k ⟨hk,hall⟩ ihL1
   refine zc<|za<|zA zg0 Z Z Z<|AtL.done<|zc<|zae Z ?_ ?_
   ·intro hc3
    have hc3:(k:Int) < (l4.length:Int):=of_decide_eq_true hc3
    refine zj<|zc<|At.block<|zc<|za ?_
    refine zF k (o6.rd (i:=0) Z) Tryz.underlying161 zbY zg0 Z Z Z Z (by omega) ?_
    refine zh (v:=str (l4.getD k [])) zaK zg0 Z Z (zH (o6.rd (i:=0) Z) (zz [] (by omega)) Z)<|AtL.assign zg0 Z Z<|AtL.done<|zc<|za<|zb zg0 Z Z ?_
    refine zcT (a:=(l4.getD k [])) (b:=[]) zg0 Z Z Z<|zb zg0 Z Z<|zdY 4 (E':=[(35,.bool (decide (((l4.getD k [])=[])∨(10 < ((l4.getD k []).length:Int))))),(6,.slice A2 l4.length C3),(8,str (l4.getD k [])),(23,.slice A2 l4.length C3),(24,V (l4.length:Int)),(25,V (k:Int))]) (H':=s5::O7 b1 (str m) (str t) minor A fs.length C::H) (fun J => ?_) ?_
    ·refine zY (t:=31) Z ?_ ?_
     ·intro hs31
      have hs31:(l4.getD k [])=[]:=of_decide_eq_true hs31
      refine ze Z Z Z Z Z Z<|ze Z Z Z Z Z Z<|ze Z Z Z Z Z Z<|zn zg0 Z Z Z ?_
      exact J _ (by exact ⟨(zw (by clear J; first | (simp [hs31]; done) | (simp_all; done) | grind)),Z,Z,Z,Z,Z,trivial⟩)
     ·intro hs31
      have hs31:¬ ((l4.getD k [])=[]):=of_decide_eq_false hs31
      refine zb (.inr ⟨_,_,_,Z,Z,Z,Z⟩) Z Z<|zb7 (l:=(l4.getD k [])) Tryz.underlying9 (.inr ⟨_,_,_,Z,Z,Z,Z⟩) Z Z<|zai (.inr ⟨_,_,_,Z,Z,Z,Z⟩) Z Z Z<|zm zg0 Z Z Z ?_
      exact J _ (by exact ⟨(zw (by clear J; first | (simp [hs31]; done) | (simp_all; done) | grind)),Z,Z,Z,Z,Z,trivial⟩)
    ·refine zb zg0 Z Z<|zdY 4 (E':=[(40,.bool (decide ((((l4.getD k [])=[])∨(10 < ((l4.getD k []).length:Int)))∨(¬ (Lib.trimS (l4.getD k []) [48,49,50,51,52,53,54,55,56,57]=[]))))),(6,.slice A2 l4.length C3),(8,str (l4.getD k [])),(23,.slice A2 l4.length C3),(24,V (l4.length:Int)),(25,V (k:Int))]) (H':=s5::O7 b1 (str m) (str t) minor A fs.length C::H) (fun J => ?_) ?_
     ·refine zY (t:=36) Z ?_ ?_
      ·intro hs36
       have hs36:((l4.getD k [])=[])∨(10 < ((l4.getD k []).length:Int)):=of_decide_eq_true hs36
       refine ze Z Z Z Z Z Z<|ze Z Z Z Z Z Z<|ze Z Z Z Z Z Z<|zn zg0 Z Z Z ?_
       exact J _ (by exact ⟨(zw (by clear J; first | (simp [hs36]; done) | (simp_all; done) | grind)),Z,Z,Z,Z,Z,trivial⟩)
      ·intro hs36
       have hs36:¬ (((l4.getD k [])=[])∨(10 < ((l4.getD k []).length:Int))):=of_decide_eq_false hs36
       refine zb (.inr ⟨_,_,_,Z,Z,Z,Z⟩) Z Z ?_
       refine zk zgE (.inr ⟨_,_,_,Z,Z,Z,Z⟩) Z Z (zkw (x:=(l4.getD k [])) (cs:=[48,49,50,51,52,53,54,55,56,57]) (by have:=hLb _ (zbh (l:=l4) (i:=k) (d:=([]:List UInt8)) (by omega)); omega) (by decide) (by decide)) ?_
       rintro _ _ ⟨rfl,rfl⟩
       refine zf0 (a:=Lib.trimS (l4.getD k []) [48,49,50,51,52,53,54,55,56,57]) (b:=[]) (.inr ⟨_,_,_,Z,Z,Z,Z⟩) Z Z Z<|zm zg0 Z Z Z ?_
       exact J _ (by exact ⟨(zw (by clear J; first | (simp [hs36]; done) | (simp_all; done) | grind)),Z,Z,Z,Z,Z,trivial⟩)
     ·refine zb zg0 Z Z<|zdY 6 (E':=[(47,.bool (decide (((((l4.getD k [])=[])∨(10 < ((l4.getD k []).length:Int)))∨(¬ (Lib.trimS (l4.getD k []) [48,49,50,51,52,53,54,55,56,57]=[])))∨(¬ ((l4.getD k [])=(l4.getD 0 [])))))),(6,.slice A2 l4.length C3),(23,.slice A2 l4.length C3),(24,V (l4.length:Int)),(25,V (k:Int))]) (H':=s5::O7 b1 (str m) (str t) minor A fs.length C::H) (fun J => ?_) ?_
      ·refine zY (t:=41) Z ?_ ?_
       ·intro hs41
        have hs41:(((l4.getD k [])=[])∨(10 < ((l4.getD k []).length:Int)))∨(¬ (Lib.trimS (l4.getD k []) [48,49,50,51,52,53,54,55,56,57]=[])):=of_decide_eq_true hs41
        refine ze Z Z Z Z Z Z<|ze Z Z Z Z Z Z<|ze Z Z Z Z Z Z<|ze Z Z Z Z Z Z<|ze Z Z Z Z Z Z<|zn zg0 Z Z Z ?_
        exact J _ (by exact ⟨(zw (by clear J; first | (simp [hs41]; done) | (simp_all; done) | grind)),Z,Z,Z,Z,trivial⟩)
       ·intro hs41
        have hs41:¬ ((((l4.getD k [])=[])∨(10 < ((l4.getD k []).length:Int)))∨(¬ (Lib.trimS (l4.getD k []) [48,49,50,51,52,53,54,55,56,57]=[]))):=of_decide_eq_false hs41
        refine zb (.inr ⟨_,_,_,Z,Z,Z,Z⟩) Z Z<|zb (.inr ⟨_,_,_,Z,Z,Z,Z⟩) Z Z ?_
        refine zF 0 (o6.rd (i:=0) Z) Tryz.underlying161 zbY (.inr ⟨_,_,_,Z,Z,Z,Z⟩) Z Z Z Z (by omega) ?_
        refine zh (v:=str (l4.getD 0 [])) zaK (.inr ⟨_,_,_,Z,Z,Z,Z⟩) Z Z (zH (o6.rd (i:=0) Z) (zz [] (by omega)) Z)<|zf0 (a:=(l4.getD k [])) (b:=(l4.getD 0 [])) (.inr ⟨_,_,_,Z,Z,Z,Z⟩) Z Z Z<|zm zg0 Z Z Z ?_
        exact J _ (by exact ⟨(zw (by clear J; first | (simp [hs41]; done) | (simp_all; done) | grind)),Z,Z,Z,Z,trivial⟩)
      ·refine AtL.done<|zae Z ?_ ?_
       ·intro hc4
        have hc4:((((l4.getD k [])=[])∨(10 < ((l4.getD k []).length:Int)))∨(¬ (Lib.trimS (l4.getD k []) [48,49,50,51,52,53,54,55,56,57]=[])))∨(¬ ((l4.getD k [])=(l4.getD 0 []))):=of_decide_eq_true hc4
        refine zc<|za<|AtL.assign zg0 Z Z<|AtL.assign zg0 Z Z<|AtL.done<|At.pick (H':=H) [] 2 Z Z ?_
        exact zt Tryz.func57 Z Z (⟨by rw [len_bad hc1 hL (k:=k) (by omega) (by rcases hc4 with h4 | h4; exact .inl (zjH.2 h4); exact .inr h4)]; rfl,Z⟩)
       ·intro hc4
        have hc4:¬ (((((l4.getD k [])=[])∨(10 < ((l4.getD k []).length:Int)))∨(¬ (Lib.trimS (l4.getD k []) [48,49,50,51,52,53,54,55,56,57]=[])))∨(¬ ((l4.getD k [])=(l4.getD 0 [])))):=of_decide_eq_false hc4
        refine zj<|zp<|za ?_
        refine AtL.add (z:=(k:Int) + 1) zg0 Z Z Z (w64 (by omega) (by omega))<|zb zg0 Z Z<|AtL.done ?_
        refine ihL1 (k + 1) (⟨by omega,fun j hj => (by rcases Nat.lt_or_ge j k with h1 | h1; exact hall j h1; obtain rfl:j=k:=(by omega); simp only [not_or,Classical.not_not] at hc4; exact ⟨(by cases hq:(zeO (l4.getD j [])).isSome with | true => rfl | false => exact absurd (zjH.1 hq) (by simp only [not_or,Classical.not_not]; exact hc4.1)),hc4.2⟩)⟩) (by omega) _ ?_
        exact ⟨Z,Z,Z,(by first | rfl | exact zaf (by simp []) | exact zah (by omega) | exact zah (by simp []) | exact zaf (by simp []; omega)),trivial⟩
   ·intro hc3
    have hc3:¬ ((k:Int) < (l4.length:Int)):=of_decide_eq_false hc3
    refine zau Z<|zc<|za<|zb zg0 Z Z ?_
    refine zF 0 (o6.rd (i:=0) Z) Tryz.underlying161 zbY zg0 Z Z Z Z (by omega) ?_
    refine zh (v:=str (l4.getD 0 [])) zaK zg0 Z Z (zH (o6.rd (i:=0) Z) (zz [] (by omega)) Z) ?_
    obtain ⟨n,hn⟩:∃ n,zeO (l4.getD 0 [])=some n:=Option.isSome_iff_exists.1 (hall 0 (by omega)).1
    have hlen0:=len_ok hc1 hL (by omega) (fun j hj => (hall j (by omega)).2) hn
    have hs10:(l4.getD 0 []).length≤10:=by have h1:=(hall 0 (by omega)).1; by_cases h2:(l4.getD 0 []).length≤10; exact h2; rw [zeO,if_neg h2] at h1; cases h1
    have hn10:=size_lt hn
    refine zk tf_body87 zg0 Z Z (atoi_ok (size_atoi hn) (by omega)) ?_
    rintro _ _ ⟨rfl,rfl⟩
    refine zb zg0 Z Z<|AtL.extract zg0 Z Z Z<|AtL.extract zg0 Z Z Z<|AtL.assign zg0 Z Z<|AtL.assign zg0 Z Z<|AtL.done ?_
    refine zc<|zc<|za<|zb zg0 Z Z<|zai zg0 Z Z Z<|AtL.done ?_
    refine zae Z ?_ ?_
    ·intro hc5
     have hc5:65535 < (n:Int):=of_decide_eq_true hc5
     refine zc<|za<|AtL.assign zg0 Z Z<|AtL.assign zg0 Z Z<|AtL.done<|At.pick (H':=H) [] 2 Z Z ?_
     exact zt Tryz.func57 Z Z (⟨by rw [hlen0,if_pos (by omega)]; rfl,Z⟩)
    ·intro hc5
     have hc5:¬ (65535 < (n:Int)):=of_decide_eq_false hc5
     refine zj<|zc<|za<|zb zg0 Z Z<|AtL.assign zg0 Z Z<|AtL.assign zg0 Z Z ?_
     refine AtL.done<|At.pick (H':=H) [] 2 Z Z ?_
     exact zt Tryz.func57 Z Z (⟨by rw [hlen0,if_neg (by omega)]; rfl,Z⟩)
end Go.Proofs.YtbfabhdfmoiabaaGreatDoor
