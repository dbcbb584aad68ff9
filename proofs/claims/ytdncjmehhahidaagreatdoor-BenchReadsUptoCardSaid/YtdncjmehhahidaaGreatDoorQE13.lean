/- The parts of the proof that this law needs, in the order of their texts: the logic of walks, the plain laws, the walks. -/
import Derived.Test.YtdncjmehhahidaaGreatDoorQE12
namespace Go.Proofs.YtdncjmehhahidaaGreatDoor
set_option maxHeartbeats 400000
set_option linter.unusedVariables false
set_option linter.unusedSimpArgs false
set_option maxRecDepth 100000
theorem zbk {w0:World}{base:Nat}{H:List Seg}{A:Option Addr}{C:Nat}{l:List UInt8}(h:Rd tyB w0 base H A C l) (i:Nat) {n:Int}(hs:Stands l i (be2 n)) (h0:0≤n∧n≤65535) (hl:l.length≤140737488355328):SCalls Tryz.prog 81 [.slice A l.length C,int (i:Int)] w0 base H (fun v H' => v = .tuple #[int n,int ((i:Int) + 2),.agg #[int 0,int 0]]∧H' = H):=by
 have h2:=hs.2
 have h9:=get16_ok h i kW kW
 rwa [get16_at hs h0] at h9
theorem pt_low {p:Nat}(h:p < 16384):IntKind.i64.wrap ((BitVec.ofInt IntKind.i64.bits ((49152 + p:Nat):Int) &&& BitVec.ofInt IntKind.i64.bits 16383).toNat:Int)=(p:Int):=by
 have h9:=and_mask (a:=((49152 + p:Nat):Int)) (b:=(16383:Int)) 14 (49152 + p) rfl kI kI kW
 rw [h9]
 omega
theorem pt_byte {b:List UInt8}{i p:Nat}(h:p < 16384) (hs:Stands b i (be2 ((49152 + p:Nat):Int))):(b.getD i 0).toNat=192 + p / 256:=by
 have h1:=hs.getD (j:=0) (by rw [zae]; decide)
 rw [Nat.add_zero] at h1
 rw [h1]
 have h2:(((UInt8.ofInt (((49152 + p:Nat):Int) / 256)).toNat:Nat):Int)=192 + p / 256:=by rw [toNat_ofInt]; omega
 have h3:((be2 ((49152 + p:Nat):Int)).getD 0 0).toNat=(UInt8.ofInt (((49152 + p:Nat):Int) / 256)).toNat:=rfl
 omega
theorem lab_byte {b:List UInt8}{i:Nat}{l:List UInt8}(h:l.length≤63) (hs:Stands b i (UInt8.ofNat l.length::l)):(b.getD i 0).toNat=l.length∧i + (1 + l.length)≤b.length:=by
 have h1:=hs.getD (j:=0) (by simp)
 have h2:=hs.2
 rw [Nat.add_zero] at h1
 rw [h1]
 simp only [List.length_cons] at h2
 exact ⟨zbU kW,by omega⟩
theorem Rn.pos {b:List UInt8}{part i nx k:Nat}{n:List UInt8}(h:Rn b part i n nx k):0 < n.length:=by
 induction h with
 | zero _ => decide
 | lab _ _ _ _ => simp
 | ptr _ _ _ _ ih => exact ih
theorem wread_ok {w0:World}{base:Nat}{H:List Seg}{A:Option Addr}{C:Nat}{b n:List UInt8}{nx k:Nat}(h:Rd tyB w0 base H A C b) (at_:Nat) (hR:Rn b at_ at_ n nx k) (hn:n.length≤255) (hat:at_≤b.length) (hb:b.length≤140737488355328) :
  SCalls Tryz.prog 233 [.slice A b.length C,.int .i64 (at_:Int)] w0 base (H) (fun v H' => v = .tuple #[str n,int (nx:Int),.agg #[int 0,int 0]]∧H' = H):=by
 have hle0:=h.le
 have hcap0:=h.cap
 refine SCalls.of_walk (n:=107) Tryz.func233 rfl rfl rfl fun cs => ?_
 refine At.seq<|At.region<|AtL.assign zg0 rfl rfl<|AtL.assign zg0 rfl rfl<|AtL.alloc zaw (cs:=#[.int .i64 0,.int .i64 0]) rfl zg0 rfl ?_
 intro b1
 refine AtL.done<|At.scope<|At.seq<|At.seq<|At.region<|AtL.move zg0 rfl rfl ?_
 refine AtL.lss zg0 rfl rfl rfl<|AtL.move zg0 rfl rfl<|AtL.joinS 5 (E':=[(25,.bool (decide (((at_:Int) < 0)∨((b.length:Int) < (at_:Int))))),(0,.slice A b.length C),(1,.int .i64 (at_:Int)),(6,.pointer (some ⟨b1,0,none⟩))]) (fun J => ?_) ?_
 ·refine AtL.splitD (t:=20) rfl ?_ ?_
  ·intro hs20
   refine AtL.skipped rfl rfl rfl rfl rfl rfl<|AtL.skipped rfl rfl rfl rfl rfl rfl<|AtL.skipped rfl rfl rfl rfl rfl rfl<|AtL.skipped rfl rfl rfl rfl rfl rfl<|AtL.pickT zg0 rfl rfl rfl ?_
   exact J _ (by exact ⟨(boolIs (by clear J; first | (simp [hs20]; done) | (simp_all; done) | grind)),rfl,rfl,rfl,trivial⟩)
  ·intro hs20
   refine AtL.move (.inr ⟨_,_,_,rfl,rfl,rfl,rfl⟩) rfl rfl<|AtL.move (.inr ⟨_,_,_,rfl,rfl,rfl,rfl⟩) rfl rfl<|AtL.lenL Tryz.underlying22 (.inr ⟨_,_,_,rfl,rfl,rfl,rfl⟩) rfl rfl<|AtL.gtr (.inr ⟨_,_,_,rfl,rfl,rfl,rfl⟩) rfl rfl rfl<|AtL.pickF zg0 rfl rfl rfl ?_
   exact J _ (by exact ⟨(boolIs (by clear J; first | (simp [hs20]; done) | (simp_all; done) | grind)),rfl,rfl,rfl,trivial⟩)
 ·refine AtL.done ?_
  refine At.condIs false rfl kD<|At.skip<|At.seq<|At.region<|AtL.assign zg0 rfl rfl<|AtL.done ?_
  refine At.seq<|At.region<|AtL.move zg0 rfl rfl<|AtL.move zg0 rfl rfl<|AtL.assign zg0 rfl rfl<|AtL.assign zg0 rfl rfl ?_
  refine AtL.assign zg0 rfl rfl<|AtL.done<|At.seq<|At.label<|At.seq<|At.block ?_
  refine At.nil<|At.loop7 (fun (part:Nat) (j:Nat) (x:Sl tyB 5) (beh:Int) (n2:List UInt8) (nx2:Nat) (k2:Nat) => [(0,.slice A b.length C),(1,.int .i64 (at_:Int)),(6,.pointer (some ⟨b1,0,none⟩)),(7,.slice x.A x.l.length x.C),(8,.int .i64 (part:Int)),(9,.int .i64 (j:Int)),(10,.int .i64 beh)]) (fun (part:Nat) (j:Nat) (x:Sl tyB 5) (beh:Int) (n2:List UInt8) (nx2:Nat) (k2:Nat) => x.s::[(b1,.cells #[.int .i64 0,.int .i64 0] 82 (0,0))]::H) (fun (part:Nat) (j:Nat) (x:Sl tyB 5) (beh:Int) (n2:List UInt8) (nx2:Nat) (k2:Nat) => Rn b part j n2 nx2 k2∧x.l++n2=n∧((beh < 0∧nx2=nx)∨(0≤beh∧beh=nx))∧part≤b.length∧j≤b.length) (fun (part:Nat) (j:Nat) (x:Sl tyB 5) (beh:Int) (n2:List UInt8) (nx2:Nat) (k2:Nat) => k2) at_ at_ Sl.nil (-1) n nx k (⟨hR,rfl,.inl ⟨by decide,rfl⟩,hat,hat⟩) ⟨rfl,rfl,rfl,rfl,rfl,rfl,rfl,trivial⟩ rfl ?_
  rintro part j x beh n2 nx2 k2 ⟨hr,hxn,hbeh,hpl,hjl⟩ ihL1
  have hlen:x.l.length + n2.length=n.length:=by rw [← hxn,List.length_append]
  have hcap:=Own.cap_le x.own
  refine At.block<|At.seq<|At.seq ?_
  rcases hr.inv with ⟨rfl,rfl,hz⟩ | ⟨l,r,k3,rfl,rfl,hl,hs,hr2⟩ | ⟨p,nx3,k3,rfl,rfl,hp,h14,hs,hr2⟩
  ·have hc0:(b.getD j 0).toNat=0:=by have h1:=hz.getD (j:=0) kI; rw [Nat.add_zero] at h1; rw [h1]; rfl
   have hb0:j + 1≤b.length:=hz.2
   refine At.region<|AtL.move zg0 rfl rfl<|AtL.move zg0 rfl rfl<|AtL.lenL Tryz.underlying22 zg0 rfl rfl<|AtL.geq zg0 rfl rfl rfl<|AtL.done ?_
   refine At.condIs false rfl (decide_eq_false kW)<|At.skip<|At.seq<|At.region<|AtL.move zg0 rfl rfl<|AtL.move zg0 rfl rfl ?_
   refine AtL.indexL j (Rd.skip 2 h) Tryz.underlying22 zaR zg0 rfl rfl rfl rfl kW ?_
   refine AtL.load (v:=.int .u8 ((b.getD j 0).toNat:Int)) zbV zg0 rfl rfl (Rd.cell0 (Rd.skip 2 h) (getD_some 0 kW) rfl) ?_
   have hB2:=u8_le ((b.getD j 0))
   refine AtL.convInt (z:=((b.getD j 0).toNat:Int)) Tryz.underlying5 Tryz.underlying3 zg0 rfl rfl (zbK _)<|AtL.assign zg0 rfl rfl<|AtL.done<|At.block<|At.seq<|At.region ?_
   refine AtL.move zg0 rfl rfl<|AtL.eqi zg0 rfl rfl rfl<|AtL.assign zg0 rfl rfl<|AtL.done ?_
   refine At.condIs true rfl (decide_eq_true kW)<|At.seq<|At.seq<|At.region<|AtL.move zg0 rfl rfl<|AtL.lss zg0 rfl rfl rfl ?_
   refine AtL.done<|At.condD rfl ?_ ?_
   ·intro hc4
    refine At.region<|AtL.move zg0 rfl rfl ?_
    refine AtL.add (z:=(j:Int) + 1) zg0 rfl rfl rfl (w64 kW kW)<|AtL.assign zg0 rfl rfl<|AtL.done<|At.exit rfl<|At.seq<|At.region ?_
    refine AtL.move zg0 rfl rfl<|AtL.buildSlice (cs:=[.int .u8 0]) Tryz.underlying22 zaQ zaR rfl rfl zg0 rfl rfl rfl ?_
    intro b3
    refine AtL.own1 tyB (l:=([0]:List UInt8)) rfl rfl kP ?_
    intro s4 o5
    refine AtL.append (l:=x.l) (news:=[0]) 1 zas rfl x.own (o5.rd (i:=0) rfl) kE zg0 rfl rfl rfl ?_
    intro A6 C7 s8 o9
    refine AtL.strOf (o9.rd (i:=1) rfl) Tryz.underlying22 Tryz.underlying5 Tryz.underlying9 zg0 rfl rfl<|AtL.move zg0 rfl rfl<|AtL.build (cs:=[.int .i64 0,.int .i64 0]) za8 zg0 rfl rfl rfl<|AtL.assign zg0 rfl rfl<|AtL.assign zg0 rfl rfl<|AtL.store (H':=s4::s8::[(b1,.cells #[.int .i64 0,.int .i64 0] 82 (0,0))]::H) 2 0 zaF zg0 rfl rfl rfl rfl rfl rfl rfl rfl rfl ?_
    refine AtL.done ?_
    exact At.retMP (vs:=[str (x.l++[0]),.int .i64 ((j:Int) + 1),.agg #[.int .i64 0,.int .i64 0]]) [] 3 rfl rfl Tryz.func233 rfl ⟨rfl,rfl,⟨_,rfl,LoadsTo.agg (cs:=[.int .i64 0,.int .i64 0]) zaK rfl (cellsOwn 2 0 0 rfl rfl rfl)⟩,trivial⟩ (⟨by first | rfl | (rw [hxn]; rcases hbeh with ⟨_,h9⟩ | ⟨_,h9⟩ <;> first | (subst h9; rfl) | (rw [h9]; rfl) | omega),rfl⟩)
   ·intro hc4
    refine At.skip<|At.exit rfl<|At.seq<|At.region<|AtL.move zg0 rfl rfl<|AtL.buildSlice (cs:=[.int .u8 0]) Tryz.underlying22 zaQ zaR rfl rfl zg0 rfl rfl rfl ?_
    intro b10
    refine AtL.own1 tyB (l:=([0]:List UInt8)) rfl rfl kP ?_
    intro s11 o12
    refine AtL.append (l:=x.l) (news:=[0]) 1 zas rfl x.own (o12.rd (i:=0) rfl) kE zg0 rfl rfl rfl ?_
    intro A13 C14 s15 o16
    refine AtL.strOf (o16.rd (i:=1) rfl) Tryz.underlying22 Tryz.underlying5 Tryz.underlying9 zg0 rfl rfl<|AtL.move zg0 rfl rfl<|AtL.build (cs:=[.int .i64 0,.int .i64 0]) za8 zg0 rfl rfl rfl<|AtL.assign zg0 rfl rfl<|AtL.assign zg0 rfl rfl<|AtL.store (H':=s11::s15::[(b1,.cells #[.int .i64 0,.int .i64 0] 82 (0,0))]::H) 2 0 zaF zg0 rfl rfl rfl rfl rfl rfl rfl rfl rfl ?_
    refine AtL.done ?_
    exact At.retMP (vs:=[str (x.l++[0]),.int .i64 beh,.agg #[.int .i64 0,.int .i64 0]]) [] 3 rfl rfl Tryz.func233 rfl ⟨rfl,rfl,⟨_,rfl,LoadsTo.agg (cs:=[.int .i64 0,.int .i64 0]) zaK rfl (cellsOwn 2 0 0 rfl rfl rfl)⟩,trivial⟩ (⟨by first | rfl | (rw [hxn]; rcases hbeh with ⟨_,h9⟩ | ⟨_,h9⟩ <;> first | (subst h9; rfl) | (rw [h9]; rfl) | omega),rfl⟩)
  ·have hc0:=lab_byte hl.2 hs
   have hc1:=hc0.1; have hc2:=hc0.2
   have hl3:(UInt8.ofNat l.length::(l++r)).length=1 + l.length + r.length:=by simp; omega
   have hr3:0 < r.length:=hr2.pos
   have hsl:subl b j (j + ((b.getD j 0).toNat + 1))=UInt8.ofNat l.length::l:=by have h1:=hs.1; rw [hc1]; exact h1
   have hsll:=congrArg List.length hsl
   have hr4:Rn b part (j + ((b.getD j 0).toNat + 1)) r nx2 k3:=by rw [hc1,Nat.add_comm l.length 1]; exact hr2
   have hsl2:(UInt8.ofNat l.length::l).length=1 + l.length:=by simp; omega
   refine At.region<|AtL.move zg0 rfl rfl<|AtL.move zg0 rfl rfl<|AtL.lenL Tryz.underlying22 zg0 rfl rfl<|AtL.geq zg0 rfl rfl rfl<|AtL.done ?_
   refine At.condIs false rfl (decide_eq_false kW)<|At.skip<|At.seq<|At.region<|AtL.move zg0 rfl rfl<|AtL.move zg0 rfl rfl ?_
   refine AtL.indexL j (Rd.skip 2 h) Tryz.underlying22 zaR zg0 rfl rfl rfl rfl kW ?_
   refine AtL.load (v:=.int .u8 ((b.getD j 0).toNat:Int)) zbV zg0 rfl rfl (Rd.cell0 (Rd.skip 2 h) (getD_some 0 kW) rfl) ?_
   have hB17:=u8_le ((b.getD j 0))
   refine AtL.convInt (z:=((b.getD j 0).toNat:Int)) Tryz.underlying5 Tryz.underlying3 zg0 rfl rfl (zbK _)<|AtL.assign zg0 rfl rfl<|AtL.done<|At.block<|At.seq<|At.region ?_
   refine AtL.move zg0 rfl rfl<|AtL.eqi zg0 rfl rfl rfl<|AtL.assign zg0 rfl rfl<|AtL.done ?_
   refine At.condIs false rfl (decide_eq_false kW)<|At.seq<|At.region<|AtL.move zg0 rfl rfl<|AtL.geq zg0 rfl rfl rfl<|AtL.assign zg0 rfl rfl ?_
   refine AtL.done ?_
   refine At.condIs false rfl (decide_eq_false kW)<|At.seq<|At.region<|AtL.move zg0 rfl rfl<|AtL.gtr zg0 rfl rfl rfl<|AtL.assign zg0 rfl rfl ?_
   refine AtL.done ?_
   refine At.condIs false rfl (decide_eq_false kW)<|At.seq<|At.region<|AtL.move zg0 rfl rfl<|AtL.move zg0 rfl rfl<|AtL.move zg0 rfl rfl ?_
   refine AtL.add (z:=((b.getD j 0).toNat:Int) + 1) zg0 rfl rfl rfl (w64 kW kW) ?_
   refine AtL.call tf_body341 zg0 rfl rfl (bytes_ok (l:=b) (Rd.skip 2 h) j (((b.getD j 0).toNat) + 1) kW kW) ?_
   rintro _ _ ⟨A18,C19,s20,o21,rfl,rfl⟩
   refine AtL.move zg0 rfl rfl<|AtL.extract zg0 rfl rfl rfl<|AtL.extract zg0 rfl rfl rfl<|AtL.extract zg0 rfl rfl rfl<|AtL.alloc zaw (cs:=#[.int .i64 0,.int .i64 0]) rfl zg0 rfl ?_
   intro b22
   refine AtL.assign zg0 rfl rfl<|AtL.assign zg0 rfl rfl<|AtL.store (H':=[(b22,.cells #[.int .i64 0,.int .i64 0] 82 (0,0))]::s20::x.s::[(b1,.cells #[.int .i64 0,.int .i64 0] 82 (0,0))]::H) 0 0 zaF zg0 rfl rfl rfl rfl rfl rfl rfl rfl rfl<|AtL.done<|At.seq<|At.seq ?_
   refine At.region<|AtL.fieldAddrB zaS zg0 rfl rfl rfl<|AtL.load zak zg0 rfl rfl (Cell.own 0 0 rfl rfl rfl)<|AtL.nei zg0 rfl rfl rfl<|AtL.done<|At.condF rfl ?_
   refine At.skip<|At.seq<|At.region<|AtL.move zg0 rfl rfl<|AtL.move zg0 rfl rfl ?_
   refine AtL.append (l:=x.l) (news:=(subl b j (j + (((b.getD j 0).toNat) + 1)))) 2 zas rfl x.own (o21.rd (i:=1) rfl) kE zg0 rfl rfl rfl ?_
   intro A23 C24 s25 o26
   refine AtL.assign zg0 rfl rfl<|AtL.done<|At.seq<|At.seq<|At.region<|AtL.move zg0 rfl rfl ?_
   refine AtL.lenL Tryz.underlying22 zg0 rfl rfl<|AtL.gtr zg0 rfl rfl rfl<|AtL.done ?_
   refine At.condIs false rfl (decide_eq_false (by simp only [List.length_append]; omega))<|At.skip<|At.region<|AtL.move zg0 rfl rfl<|AtL.assign zg0 rfl rfl<|AtL.done ?_
   refine At.inBlock<|At.inBlock<|At.pick (H':=s25::[(b1,.cells #[.int .i64 0,.int .i64 0] 82 (0,0))]::H) [2,3] 4 rfl rfl ?_
   refine ihL1 part (j + (((b.getD j 0).toNat) + 1):Nat) (⟨A23,C24,x.l++(subl b j (j + (((b.getD j 0).toNat) + 1))),s25,o26⟩) beh r nx2 k3 (⟨hr4,(show x.l++subl b j (j + ((b.getD j 0).toNat + 1))++r=n by rw [← hxn,hsl]; simp),hbeh,hpl,by omega⟩) kW _ ?_
   exact ⟨rfl,rfl,rfl,kQ,kQ,kQ,kQ,trivial⟩
  ·have hc1:=pt_byte h14 hs
   have hb0:j + 2≤b.length:=hs.2
   refine At.region<|AtL.move zg0 rfl rfl<|AtL.move zg0 rfl rfl<|AtL.lenL Tryz.underlying22 zg0 rfl rfl<|AtL.geq zg0 rfl rfl rfl<|AtL.done ?_
   refine At.condIs false rfl (decide_eq_false kW)<|At.skip<|At.seq<|At.region<|AtL.move zg0 rfl rfl<|AtL.move zg0 rfl rfl ?_
   refine AtL.indexL j (Rd.skip 2 h) Tryz.underlying22 zaR zg0 rfl rfl rfl rfl kW ?_
   refine AtL.load (v:=.int .u8 ((b.getD j 0).toNat:Int)) zbV zg0 rfl rfl (Rd.cell0 (Rd.skip 2 h) (getD_some 0 kW) rfl) ?_
   have hB27:=u8_le ((b.getD j 0))
   refine AtL.convInt (z:=((b.getD j 0).toNat:Int)) Tryz.underlying5 Tryz.underlying3 zg0 rfl rfl (zbK _)<|AtL.assign zg0 rfl rfl<|AtL.done<|At.block<|At.seq<|At.region ?_
   refine AtL.move zg0 rfl rfl<|AtL.eqi zg0 rfl rfl rfl<|AtL.assign zg0 rfl rfl<|AtL.done ?_
   refine At.condIs false rfl (decide_eq_false kW)<|At.seq<|At.region<|AtL.move zg0 rfl rfl<|AtL.geq zg0 rfl rfl rfl<|AtL.assign zg0 rfl rfl ?_
   refine AtL.done ?_
   refine At.condIs true rfl (decide_eq_true kW)<|At.seq<|At.region<|AtL.move zg0 rfl rfl<|AtL.move zg0 rfl rfl ?_
   refine AtL.call zaT zg0 rfl rfl (zbk (l:=b) (Rd.skip 2 h) j hs kW kW) ?_
   rintro _ _ ⟨rfl,rfl⟩
   refine AtL.move zg0 rfl rfl<|AtL.extract zg0 rfl rfl rfl<|AtL.extract zg0 rfl rfl rfl<|AtL.extract zg0 rfl rfl rfl<|AtL.alloc zaw (cs:=#[.int .i64 0,.int .i64 0]) rfl zg0 rfl ?_
   intro b28
   refine AtL.assign zg0 rfl rfl<|AtL.assign zg0 rfl rfl<|AtL.store (H':=[(b28,.cells #[.int .i64 0,.int .i64 0] 82 (0,0))]::x.s::[(b1,.cells #[.int .i64 0,.int .i64 0] 82 (0,0))]::H) 0 0 zaF zg0 rfl rfl rfl rfl rfl rfl rfl rfl rfl<|AtL.done<|At.seq<|At.seq ?_
   refine At.region<|AtL.fieldAddrB zaS zg0 rfl rfl rfl<|AtL.load zak zg0 rfl rfl (Cell.own 0 0 rfl rfl rfl)<|AtL.nei zg0 rfl rfl rfl<|AtL.done<|At.condF rfl ?_
   refine At.skip<|At.seq<|At.seq<|At.region<|AtL.move zg0 rfl rfl<|AtL.band (z:=(p:Int)) zg0 rfl rfl rfl (pt_low h14) ?_
   refine AtL.assign zg0 rfl rfl<|AtL.done<|At.seq<|At.region<|AtL.move zg0 rfl rfl<|AtL.move zg0 rfl rfl ?_
   refine AtL.geq zg0 rfl rfl rfl<|AtL.done ?_
   refine At.condIs false rfl (decide_eq_false kW)<|At.skip<|At.seq<|At.seq<|At.region<|AtL.move zg0 rfl rfl ?_
   refine AtL.lss zg0 rfl rfl rfl<|AtL.done<|At.condD rfl ?_ ?_
   ·intro hc8
    refine At.region<|AtL.move zg0 rfl rfl<|AtL.assign zg0 rfl rfl<|AtL.done<|At.seq<|At.region ?_
    refine AtL.move zg0 rfl rfl<|AtL.move zg0 rfl rfl<|AtL.assign zg0 rfl rfl<|AtL.assign zg0 rfl rfl<|AtL.done<|At.exit rfl ?_
    refine At.pick (H':=x.s::[(b1,.cells #[.int .i64 0,.int .i64 0] 82 (0,0))]::H) [1,2] 3 rfl rfl ?_
    refine ihL1 p p x ((j:Int) + 2) n2 nx3 k3 (⟨by first | exact hr2 | simpa using hr2,hxn,.inr kW,by omega,by omega⟩) kW _ ?_
    exact ⟨rfl,rfl,rfl,kQ,kQ,kQ,kQ,trivial⟩
   ·intro hc8
    refine At.skip<|At.seq<|At.region<|AtL.move zg0 rfl rfl<|AtL.move zg0 rfl rfl<|AtL.assign zg0 rfl rfl ?_
    refine AtL.assign zg0 rfl rfl<|AtL.done<|At.exit rfl<|At.pick (H':=x.s::[(b1,.cells #[.int .i64 0,.int .i64 0] 82 (0,0))]::H) [1,2] 3 rfl rfl ?_
    refine ihL1 p p x beh n2 nx3 k3 (⟨by first | exact hr2 | simpa using hr2,hxn,.inr kW,by omega,by omega⟩) kW _ ?_
    exact ⟨rfl,rfl,rfl,kQ,kQ,kQ,kQ,trivial⟩
set_option maxRecDepth 100000
theorem zft {w0:World}{base:Nat}{H:List Seg}{rb:Nat}{A:Option Addr}{C:Nat}{b:List UInt8}{i n:Int} :
  SCalls Tryz.prog 234 [.pointer (some ⟨rb,0,none⟩),.int .i64 n,.agg #[.int .i64 0,.int .i64 0]] w0 base ([(rb,.cells #[.slice A b.length C,.int .i64 i,.int .i64 0,.int .i64 0] 305 (0,0))]::H) (fun v H' => v = .bool true∧H' = [(rb,.cells #[.slice A b.length C,.int .i64 n,.int .i64 0,.int .i64 0] 305 (0,0))]::H):=by
 refine SCalls.of_walk (n:=18) Tryz.func234 rfl rfl rfl fun cs => ?_
 refine At.seq<|At.region<|AtL.box (cs:=#[.int .i64 0,.int .i64 0]) rfl zg0 rfl rfl ?_
 intro b1
 refine AtL.assign zg0 rfl rfl<|AtL.done<|At.seq<|At.seq<|At.region<|AtL.fieldAddrB zaS zg0 rfl rfl rfl ?_
 refine AtL.load zak zg0 rfl rfl (Cell.own 0 0 rfl rfl rfl)<|AtL.nei zg0 rfl rfl rfl<|AtL.done<|At.condF rfl<|At.skip<|At.seq ?_
 refine At.region<|AtL.move zg0 rfl rfl<|AtL.move zg0 rfl rfl<|AtL.nilCheck zg0 rfl rfl<|AtL.fieldAddrB za1 zg0 rfl rfl rfl<|AtL.store (H':=[(b1,.cells #[.int .i64 0,.int .i64 0] 82 (0,0))]::[(rb,.cells #[.slice A b.length C,.int .i64 n,.int .i64 0,.int .i64 0] 305 (0,0))]::H) 1 0 zan zg0 rfl rfl rfl rfl rfl rfl rfl rfl rfl ?_
 refine AtL.done<|At.seq<|At.region<|AtL.assign zg0 rfl rfl<|AtL.done<|At.pick [1] 2 rfl rfl ?_
 exact At.ret Tryz.func234 rfl rfl (⟨rfl,rfl⟩)
theorem rname_q0 {w0:World}{base:Nat}{H:List Seg}{rb tb:Nat}{s0:List UInt8}{n1:Int}{n2:Int}{A:Option Addr}{C:Nat}{b:List UInt8}(h:Rd tyB w0 base H A C b) (hb:b.length≤140737488355328) (i:Nat) {n:List UInt8}{nx k:Nat}(hR:Rn b i i n nx k) (hn:n.length≤255) (hi:i≤b.length) :
  SCalls Tryz.prog 151 [.pointer (some ⟨rb,0,none⟩),.pointer (some ⟨tb,0,none⟩)] w0 base ([(rb,.cells #[.slice A b.length C,.int .i64 (i:Int),.int .i64 0,.int .i64 0] 305 (0,0))]::[(tb,.cells #[str s0,.int .i64 n1,.int .i64 n2] 86 (0,0))]::H) (fun v H' => v = .pointer (some ⟨rb,0,none⟩)∧H' = [(rb,.cells #[.slice A b.length C,.int .i64 (nx:Int),.int .i64 0,.int .i64 0] 305 (0,0))]::[(tb,.cells #[str n,.int .i64 n1,.int .i64 n2] 86 (0,0))]::H):=by
 have hle0:=h.le
 have hcap0:=h.cap
 refine SCalls.of_walk (n:=35) Tryz.func151 rfl rfl rfl fun cs => ?_
 refine At.seq<|At.region<|AtL.assign zg0 rfl rfl<|AtL.done<|At.seq<|At.seq ?_
 refine At.region<|AtL.move zg0 rfl rfl<|AtL.nilCheck zg0 rfl rfl<|AtL.fieldAddrB zcM zg0 rfl rfl rfl<|AtL.fieldAddrB zaS zg0 rfl rfl rfl<|AtL.load zak zg0 rfl rfl (Cell.own 0 0 rfl rfl rfl) ?_
 refine AtL.eqi zg0 rfl rfl rfl<|AtL.done<|At.condT rfl<|At.seq ?_
 refine At.draw (es:=[13,16]) (pv:=[(0,.pointer (some ⟨rb,0,none⟩)),(1,.pointer (some ⟨rb,0,none⟩)),(2,.pointer (some ⟨rb,0,none⟩)),(3,.slice A b.length C),(4,.pointer (some ⟨rb,0,none⟩)),(5,.pointer (some ⟨rb,0,none⟩)),(6,.pointer (some ⟨rb,1,none⟩)),(7,.int .i64 (i:Int)),(8,.tuple #[str n,.int .i64 (nx:Int),.agg #[.int .i64 0,.int .i64 0]]),(9,.tuple #[str n,.int .i64 (nx:Int),.agg #[.int .i64 0,.int .i64 0]]),(10,str n),(11,.int .i64 (nx:Int)),(12,.agg #[.int .i64 0,.int .i64 0])]) zaj kR kR kR ?_
 refine ⟨⟨zpr rfl rfl rfl (Do.move rfl),zpr rfl rfl rfl (Do.nilCheck rfl),zpr rfl rfl rfl (Do.fieldAddrB zbG rfl rfl),zpr rfl rfl rfl (Do.load zah rfl (Cell.own 0 0 rfl rfl rfl)),zpr rfl rfl rfl (Do.move rfl),zpr rfl rfl rfl (Do.nilCheck rfl),zpr rfl rfl rfl (Do.fieldAddrB za1 rfl rfl),zpr rfl rfl rfl (Do.load zab rfl (Cell.own 0 0 rfl rfl rfl)),zpr rfl rfl rfl (Do.call zeS rfl (wread_ok (b:=b) (Rd.skip 2 h) i hR kW kW kW)),zpr rfl rfl rfl (Do.move rfl),zpr rfl rfl rfl (Do.extract rfl rfl),zpr rfl rfl rfl (Do.extract rfl rfl),zpr rfl rfl rfl (Do.extract rfl rfl),trivial⟩,rfl,rfl,by kernel_rfl,_,rfl,rfl,rfl,_,Do.alloc zaw (cs:=#[.int .i64 0,.int .i64 0]) rfl,?_⟩
 rintro _ _ ⟨b1,rfl,rfl⟩
 refine ⟨[(14,str n),(15,.int .i64 (nx:Int))],rfl,?_⟩
 refine ⟨⟨zpr rfl rfl rfl (Do.assign rfl),zpr rfl rfl rfl (Do.assign rfl),zpr rfl rfl rfl (Do.move rfl),zpr rfl rfl rfl (Do.nilCheck rfl),zpr rfl rfl rfl (Do.fieldAddrB zbG rfl rfl),zpr rfl rfl rfl (Do.load zah rfl (Cell.own 1 0 rfl rfl rfl)),zpr rfl rfl rfl (Do.move rfl),zpr rfl rfl rfl (Do.nilCheck rfl),zpr rfl rfl rfl (Do.fieldAddrB za1 rfl rfl),zpr rfl rfl rfl (Do.load zab rfl (Cell.own 1 0 rfl rfl rfl)),zpr rfl rfl rfl (Do.call zeS rfl (wread_ok (b:=b) (Rd.skip 3 h) i hR kW kW kW)),zpr rfl rfl rfl (Do.move rfl),zpr rfl rfl rfl (Do.extract rfl rfl),zpr rfl rfl rfl (Do.extract rfl rfl),zpr rfl rfl rfl (Do.extract rfl rfl),trivial⟩,rfl,rfl,by kernel_rfl,_,rfl,rfl,rfl,_,Do.store (H':=[(b1,.cells #[.int .i64 0,.int .i64 0] 82 (0,0))]::[(rb,.cells #[.slice A b.length C,.int .i64 (i:Int),.int .i64 0,.int .i64 0] 305 (0,0))]::[(tb,.cells #[str s0,.int .i64 n1,.int .i64 n2] 86 (0,0))]::H) 0 0 zaF rfl rfl rfl rfl rfl rfl rfl rfl rfl,?_⟩
 rintro _ _ ⟨rfl,rfl⟩
 refine ⟨[],rfl,?_⟩
 refine ⟨⟨.inl kR,.inl kR,.inl kR,.inl kR,.inl kR,.inl kR,.inl kR,.inl kR,.inl kR,.inl kR,.inl kR,.inl kR,.inl kR,.inl kR,.inl kR,trivial⟩,by kernel_rfl,?_⟩
 refine At.mono (E':=[(0,.pointer (some ⟨rb,0,none⟩)),(1,.pointer (some ⟨tb,0,none⟩)),(5,str n),(6,.int .i64 (nx:Int)),(7,.pointer (some ⟨b1,0,none⟩))]) ⟨rfl,rfl,rfl,rfl,rfl,trivial⟩<|At.seq<|At.region<|AtL.move zg0 rfl rfl<|AtL.move zg0 rfl rfl<|AtL.loadN (cs:=[.int .i64 0,.int .i64 0]) zaK zg0 rfl rfl rfl (cellsOwn 0 0 0 rfl rfl rfl) ?_
 refine AtL.pick (H':=[(rb,.cells #[.slice A b.length C,.int .i64 (i:Int),.int .i64 0,.int .i64 0] 305 (0,0))]::[(b1,.cells #[.int .i64 0,.int .i64 0] 82 (0,0))]::[(tb,.cells #[str s0,.int .i64 n1,.int .i64 n2] 86 (0,0))]::H) [1,0,2] 3 rfl rfl<|AtL.call zdE zg0 rfl rfl (zft (A:=A) (C:=C) (b:=b) (n:=(nx:Int))) ?_
 rintro _ _ ⟨rfl,rfl⟩
 refine AtL.done<|At.condT rfl<|At.region<|AtL.move zg0 rfl rfl<|AtL.move zg0 rfl rfl<|AtL.nilCheck zg0 rfl rfl ?_
 refine AtL.store (H':=[(rb,.cells #[.slice A b.length C,.int .i64 (nx:Int),.int .i64 0,.int .i64 0] 305 (0,0))]::[(b1,.cells #[.int .i64 0,.int .i64 0] 82 (0,0))]::[(tb,.cells #[str n,.int .i64 n1,.int .i64 n2] 86 (0,0))]::H) 2 0 zaE zg0 rfl rfl rfl rfl rfl rfl rfl rfl rfl<|AtL.done<|At.seq<|At.region<|AtL.move zg0 rfl rfl<|AtL.assign zg0 rfl rfl ?_
 refine AtL.done<|At.pick [0,2] 3 rfl rfl ?_
 exact At.ret Tryz.func151 rfl rfl (⟨rfl,rfl⟩)
theorem rtwo_q1 {w0:World}{base:Nat}{H:List Seg}{rb tb:Nat}{s0:List UInt8}{n1:Int}{n2:Int}{A:Option Addr}{C:Nat}{b:List UInt8}(h:Rd tyB w0 base H A C b) (hb:b.length≤140737488355328) (i:Nat) {n:Int}(hs:Stands b i (be2 n)) (h0:0≤n∧n≤65535) :
  SCalls Tryz.prog 152 [.pointer (some ⟨rb,0,none⟩),.pointer (some ⟨tb,1,none⟩)] w0 base ([(rb,.cells #[.slice A b.length C,.int .i64 (i:Int),.int .i64 0,.int .i64 0] 305 (0,0))]::[(tb,.cells #[str s0,.int .i64 n1,.int .i64 n2] 86 (0,0))]::H) (fun v H' => v = .pointer (some ⟨rb,0,none⟩)∧H' = [(rb,.cells #[.slice A b.length C,.int .i64 ((i:Int) + 2),.int .i64 0,.int .i64 0] 305 (0,0))]::[(tb,.cells #[str s0,.int .i64 n,.int .i64 n2] 86 (0,0))]::H):=by
 have hle0:=h.le
 have hcap0:=h.cap
 refine SCalls.of_walk (n:=35) Tryz.func152 rfl rfl rfl fun cs => ?_
 refine At.seq<|At.region<|AtL.assign zg0 rfl rfl<|AtL.done<|At.seq<|At.seq ?_
 refine At.region<|AtL.move zg0 rfl rfl<|AtL.nilCheck zg0 rfl rfl<|AtL.fieldAddrB zcM zg0 rfl rfl rfl<|AtL.fieldAddrB zaS zg0 rfl rfl rfl<|AtL.load zak zg0 rfl rfl (Cell.own 0 0 rfl rfl rfl) ?_
 refine AtL.eqi zg0 rfl rfl rfl<|AtL.done<|At.condT rfl<|At.seq ?_
 refine At.draw (es:=[13,16]) (pv:=[(0,.pointer (some ⟨rb,0,none⟩)),(1,.pointer (some ⟨rb,0,none⟩)),(2,.pointer (some ⟨rb,0,none⟩)),(3,.slice A b.length C),(4,.pointer (some ⟨rb,0,none⟩)),(5,.pointer (some ⟨rb,0,none⟩)),(6,.pointer (some ⟨rb,1,none⟩)),(7,.int .i64 (i:Int)),(8,.tuple #[.int .i64 n,.int .i64 ((i:Int) + 2),.agg #[.int .i64 0,.int .i64 0]]),(9,.tuple #[.int .i64 n,.int .i64 ((i:Int) + 2),.agg #[.int .i64 0,.int .i64 0]]),(10,.int .i64 n),(11,.int .i64 ((i:Int) + 2)),(12,.agg #[.int .i64 0,.int .i64 0])]) zaj kR kR kR ?_
 refine ⟨⟨zpr rfl rfl rfl (Do.move rfl),zpr rfl rfl rfl (Do.nilCheck rfl),zpr rfl rfl rfl (Do.fieldAddrB zbG rfl rfl),zpr rfl rfl rfl (Do.load zah rfl (Cell.own 0 0 rfl rfl rfl)),zpr rfl rfl rfl (Do.move rfl),zpr rfl rfl rfl (Do.nilCheck rfl),zpr rfl rfl rfl (Do.fieldAddrB za1 rfl rfl),zpr rfl rfl rfl (Do.load zab rfl (Cell.own 0 0 rfl rfl rfl)),zpr rfl rfl rfl (Do.call zaT rfl (zbk (l:=b) (Rd.skip 2 h) i hs h0 hb)),zpr rfl rfl rfl (Do.move rfl),zpr rfl rfl rfl (Do.extract rfl rfl),zpr rfl rfl rfl (Do.extract rfl rfl),zpr rfl rfl rfl (Do.extract rfl rfl),trivial⟩,rfl,rfl,by kernel_rfl,_,rfl,rfl,rfl,_,Do.alloc zaw (cs:=#[.int .i64 0,.int .i64 0]) rfl,?_⟩
 rintro _ _ ⟨b1,rfl,rfl⟩
 refine ⟨[(14,.int .i64 n),(15,.int .i64 ((i:Int) + 2))],rfl,?_⟩
 refine ⟨⟨zpr rfl rfl rfl (Do.assign rfl),zpr rfl rfl rfl (Do.assign rfl),zpr rfl rfl rfl (Do.move rfl),zpr rfl rfl rfl (Do.nilCheck rfl),zpr rfl rfl rfl (Do.fieldAddrB zbG rfl rfl),zpr rfl rfl rfl (Do.load zah rfl (Cell.own 1 0 rfl rfl rfl)),zpr rfl rfl rfl (Do.move rfl),zpr rfl rfl rfl (Do.nilCheck rfl),zpr rfl rfl rfl (Do.fieldAddrB za1 rfl rfl),zpr rfl rfl rfl (Do.load zab rfl (Cell.own 1 0 rfl rfl rfl)),zpr rfl rfl rfl (Do.call zaT rfl (zbk (l:=b) (Rd.skip 3 h) i hs h0 hb)),zpr rfl rfl rfl (Do.move rfl),zpr rfl rfl rfl (Do.extract rfl rfl),zpr rfl rfl rfl (Do.extract rfl rfl),zpr rfl rfl rfl (Do.extract rfl rfl),trivial⟩,rfl,rfl,by kernel_rfl,_,rfl,rfl,rfl,_,Do.store (H':=[(b1,.cells #[.int .i64 0,.int .i64 0] 82 (0,0))]::[(rb,.cells #[.slice A b.length C,.int .i64 (i:Int),.int .i64 0,.int .i64 0] 305 (0,0))]::[(tb,.cells #[str s0,.int .i64 n1,.int .i64 n2] 86 (0,0))]::H) 0 0 zaF rfl rfl rfl rfl rfl rfl rfl rfl rfl,?_⟩
 rintro _ _ ⟨rfl,rfl⟩
 refine ⟨[],rfl,?_⟩
 refine ⟨⟨.inl kR,.inl kR,.inl kR,.inl kR,.inl kR,.inl kR,.inl kR,.inl kR,.inl kR,.inl kR,.inl kR,.inl kR,.inl kR,.inl kR,.inl kR,trivial⟩,by kernel_rfl,?_⟩
 refine At.mono (E':=[(0,.pointer (some ⟨rb,0,none⟩)),(1,.pointer (some ⟨tb,1,none⟩)),(5,.int .i64 n),(6,.int .i64 ((i:Int) + 2)),(7,.pointer (some ⟨b1,0,none⟩))]) ⟨rfl,rfl,rfl,rfl,rfl,trivial⟩<|At.seq<|At.region<|AtL.move zg0 rfl rfl<|AtL.move zg0 rfl rfl<|AtL.loadN (cs:=[.int .i64 0,.int .i64 0]) zaK zg0 rfl rfl rfl (cellsOwn 0 0 0 rfl rfl rfl) ?_
 refine AtL.pick (H':=[(rb,.cells #[.slice A b.length C,.int .i64 (i:Int),.int .i64 0,.int .i64 0] 305 (0,0))]::[(b1,.cells #[.int .i64 0,.int .i64 0] 82 (0,0))]::[(tb,.cells #[str s0,.int .i64 n1,.int .i64 n2] 86 (0,0))]::H) [1,0,2] 3 rfl rfl<|AtL.call zdE zg0 rfl rfl (zft (A:=A) (C:=C) (b:=b) (n:=(i:Int) + 2)) ?_
 rintro _ _ ⟨rfl,rfl⟩
 refine AtL.done<|At.condT rfl<|At.region<|AtL.move zg0 rfl rfl<|AtL.move zg0 rfl rfl<|AtL.nilCheck zg0 rfl rfl ?_
 refine AtL.store (H':=[(rb,.cells #[.slice A b.length C,.int .i64 ((i:Int) + 2),.int .i64 0,.int .i64 0] 305 (0,0))]::[(b1,.cells #[.int .i64 0,.int .i64 0] 82 (0,0))]::[(tb,.cells #[str s0,.int .i64 n,.int .i64 n2] 86 (0,0))]::H) 2 0 zan zg0 rfl rfl rfl rfl rfl rfl rfl rfl rfl<|AtL.done<|At.seq<|At.region<|AtL.move zg0 rfl rfl<|AtL.assign zg0 rfl rfl ?_
 refine AtL.done<|At.pick [0,2] 3 rfl rfl ?_
 exact At.ret Tryz.func152 rfl rfl (⟨rfl,rfl⟩)
theorem rtwo_q2 {w0:World}{base:Nat}{H:List Seg}{rb tb:Nat}{s0:List UInt8}{n1:Int}{n2:Int}{A:Option Addr}{C:Nat}{b:List UInt8}(h:Rd tyB w0 base H A C b) (hb:b.length≤140737488355328) (i:Nat) {n:Int}(hs:Stands b i (be2 n)) (h0:0≤n∧n≤65535) :
  SCalls Tryz.prog 152 [.pointer (some ⟨rb,0,none⟩),.pointer (some ⟨tb,2,none⟩)] w0 base ([(rb,.cells #[.slice A b.length C,.int .i64 (i:Int),.int .i64 0,.int .i64 0] 305 (0,0))]::[(tb,.cells #[str s0,.int .i64 n1,.int .i64 n2] 86 (0,0))]::H) (fun v H' => v = .pointer (some ⟨rb,0,none⟩)∧H' = [(rb,.cells #[.slice A b.length C,.int .i64 ((i:Int) + 2),.int .i64 0,.int .i64 0] 305 (0,0))]::[(tb,.cells #[str s0,.int .i64 n1,.int .i64 n] 86 (0,0))]::H):=by
 have hle0:=h.le
 have hcap0:=h.cap
 refine SCalls.of_walk (n:=35) Tryz.func152 rfl rfl rfl fun cs => ?_
 refine At.seq<|At.region<|AtL.assign zg0 rfl rfl<|AtL.done<|At.seq<|At.seq ?_
 refine At.region<|AtL.move zg0 rfl rfl<|AtL.nilCheck zg0 rfl rfl<|AtL.fieldAddrB zcM zg0 rfl rfl rfl<|AtL.fieldAddrB zaS zg0 rfl rfl rfl<|AtL.load zak zg0 rfl rfl (Cell.own 0 0 rfl rfl rfl) ?_
 refine AtL.eqi zg0 rfl rfl rfl<|AtL.done<|At.condT rfl<|At.seq ?_
 refine At.draw (es:=[13,16]) (pv:=[(0,.pointer (some ⟨rb,0,none⟩)),(1,.pointer (some ⟨rb,0,none⟩)),(2,.pointer (some ⟨rb,0,none⟩)),(3,.slice A b.length C),(4,.pointer (some ⟨rb,0,none⟩)),(5,.pointer (some ⟨rb,0,none⟩)),(6,.pointer (some ⟨rb,1,none⟩)),(7,.int .i64 (i:Int)),(8,.tuple #[.int .i64 n,.int .i64 ((i:Int) + 2),.agg #[.int .i64 0,.int .i64 0]]),(9,.tuple #[.int .i64 n,.int .i64 ((i:Int) + 2),.agg #[.int .i64 0,.int .i64 0]]),(10,.int .i64 n),(11,.int .i64 ((i:Int) + 2)),(12,.agg #[.int .i64 0,.int .i64 0])]) zaj kR kR kR ?_
 refine ⟨⟨zpr rfl rfl rfl (Do.move rfl),zpr rfl rfl rfl (Do.nilCheck rfl),zpr rfl rfl rfl (Do.fieldAddrB zbG rfl rfl),zpr rfl rfl rfl (Do.load zah rfl (Cell.own 0 0 rfl rfl rfl)),zpr rfl rfl rfl (Do.move rfl),zpr rfl rfl rfl (Do.nilCheck rfl),zpr rfl rfl rfl (Do.fieldAddrB za1 rfl rfl),zpr rfl rfl rfl (Do.load zab rfl (Cell.own 0 0 rfl rfl rfl)),zpr rfl rfl rfl (Do.call zaT rfl (zbk (l:=b) (Rd.skip 2 h) i hs h0 hb)),zpr rfl rfl rfl (Do.move rfl),zpr rfl rfl rfl (Do.extract rfl rfl),zpr rfl rfl rfl (Do.extract rfl rfl),zpr rfl rfl rfl (Do.extract rfl rfl),trivial⟩,rfl,rfl,by kernel_rfl,_,rfl,rfl,rfl,_,Do.alloc zaw (cs:=#[.int .i64 0,.int .i64 0]) rfl,?_⟩
 rintro _ _ ⟨b1,rfl,rfl⟩
 refine ⟨[(14,.int .i64 n),(15,.int .i64 ((i:Int) + 2))],rfl,?_⟩
 refine ⟨⟨zpr rfl rfl rfl (Do.assign rfl),zpr rfl rfl rfl (Do.assign rfl),zpr rfl rfl rfl (Do.move rfl),zpr rfl rfl rfl (Do.nilCheck rfl),zpr rfl rfl rfl (Do.fieldAddrB zbG rfl rfl),zpr rfl rfl rfl (Do.load zah rfl (Cell.own 1 0 rfl rfl rfl)),zpr rfl rfl rfl (Do.move rfl),zpr rfl rfl rfl (Do.nilCheck rfl),zpr rfl rfl rfl (Do.fieldAddrB za1 rfl rfl),zpr rfl rfl rfl (Do.load zab rfl (Cell.own 1 0 rfl rfl rfl)),zpr rfl rfl rfl (Do.call zaT rfl (zbk (l:=b) (Rd.skip 3 h) i hs h0 hb)),zpr rfl rfl rfl (Do.move rfl),zpr rfl rfl rfl (Do.extract rfl rfl),zpr rfl rfl rfl (Do.extract rfl rfl),zpr rfl rfl rfl (Do.extract rfl rfl),trivial⟩,rfl,rfl,by kernel_rfl,_,rfl,rfl,rfl,_,Do.store (H':=[(b1,.cells #[.int .i64 0,.int .i64 0] 82 (0,0))]::[(rb,.cells #[.slice A b.length C,.int .i64 (i:Int),.int .i64 0,.int .i64 0] 305 (0,0))]::[(tb,.cells #[str s0,.int .i64 n1,.int .i64 n2] 86 (0,0))]::H) 0 0 zaF rfl rfl rfl rfl rfl rfl rfl rfl rfl,?_⟩
 rintro _ _ ⟨rfl,rfl⟩
 refine ⟨[],rfl,?_⟩
 refine ⟨⟨.inl kR,.inl kR,.inl kR,.inl kR,.inl kR,.inl kR,.inl kR,.inl kR,.inl kR,.inl kR,.inl kR,.inl kR,.inl kR,.inl kR,.inl kR,trivial⟩,by kernel_rfl,?_⟩
 refine At.mono (E':=[(0,.pointer (some ⟨rb,0,none⟩)),(1,.pointer (some ⟨tb,2,none⟩)),(5,.int .i64 n),(6,.int .i64 ((i:Int) + 2)),(7,.pointer (some ⟨b1,0,none⟩))]) ⟨rfl,rfl,rfl,rfl,rfl,trivial⟩<|At.seq<|At.region<|AtL.move zg0 rfl rfl<|AtL.move zg0 rfl rfl<|AtL.loadN (cs:=[.int .i64 0,.int .i64 0]) zaK zg0 rfl rfl rfl (cellsOwn 0 0 0 rfl rfl rfl) ?_
 refine AtL.pick (H':=[(rb,.cells #[.slice A b.length C,.int .i64 (i:Int),.int .i64 0,.int .i64 0] 305 (0,0))]::[(b1,.cells #[.int .i64 0,.int .i64 0] 82 (0,0))]::[(tb,.cells #[str s0,.int .i64 n1,.int .i64 n2] 86 (0,0))]::H) [1,0,2] 3 rfl rfl<|AtL.call zdE zg0 rfl rfl (zft (A:=A) (C:=C) (b:=b) (n:=(i:Int) + 2)) ?_
 rintro _ _ ⟨rfl,rfl⟩
 refine AtL.done<|At.condT rfl<|At.region<|AtL.move zg0 rfl rfl<|AtL.move zg0 rfl rfl<|AtL.nilCheck zg0 rfl rfl ?_
 refine AtL.store (H':=[(rb,.cells #[.slice A b.length C,.int .i64 ((i:Int) + 2),.int .i64 0,.int .i64 0] 305 (0,0))]::[(b1,.cells #[.int .i64 0,.int .i64 0] 82 (0,0))]::[(tb,.cells #[str s0,.int .i64 n1,.int .i64 n] 86 (0,0))]::H) 2 0 zan zg0 rfl rfl rfl rfl rfl rfl rfl rfl rfl<|AtL.done<|At.seq<|At.region<|AtL.move zg0 rfl rfl<|AtL.assign zg0 rfl rfl ?_
 refine AtL.done<|At.pick [0,2] 3 rfl rfl ?_
 exact At.ret Tryz.func152 rfl rfl (⟨rfl,rfl⟩)
theorem question_ok {w0:World}{base:Nat}{H:List Seg}{A:Option Addr}{C:Nat}{b:List UInt8}(h:Rd tyB w0 base H A C b) (hb:b.length≤140737488355328) (i:Nat) {q:Qn3}{nx:Nat}(hq:QOk q) (hQ:QAt b i q nx) :
  SCalls Tryz.prog 82 [.slice A b.length C,.int .i64 (i:Int)] w0 base (H) (fun v H' => v = .tuple #[.agg #[str q.1,int q.2.1,int q.2.2],int (nx:Int),.agg #[int 0,int 0]]∧H' = H):=by
 have hle0:=h.le
 have hcap0:=h.cap
 have hQ1:=hQ.le
 obtain ⟨j,k,hR,hs,rfl⟩:=hQ
 have hs2:=hs.2
 rw [List.length_append,zae,zae] at hs2
 have hR1:=hR.le
 refine SCalls.of_walk (n:=37) Tryz.func82 rfl rfl rfl fun cs => ?_
 refine At.seq<|At.region<|AtL.alloc zbL (cs:=#[str [],.int .i64 0,.int .i64 0]) rfl zg0 rfl ?_
 intro b1
 refine AtL.assign zg0 rfl rfl<|AtL.alloc zaw (cs:=#[.int .i64 0,.int .i64 0]) rfl zg0 rfl ?_
 intro b2
 refine AtL.done<|At.seq<|At.region<|AtL.move zg0 rfl rfl<|AtL.move zg0 rfl rfl<|AtL.build (cs:=[.slice A b.length C,.int .i64 (i:Int),.int .i64 0,.int .i64 0]) tf_lay305 zg0 rfl rfl rfl ?_
 refine AtL.box (cs:=#[.slice A b.length C,.int .i64 (i:Int),.int .i64 0,.int .i64 0]) rfl zg0 rfl rfl ?_
 intro b3
 refine AtL.assign zg0 rfl rfl<|AtL.done<|At.seq<|At.region<|AtL.alloc zbL (cs:=#[str [],.int .i64 0,.int .i64 0]) rfl zg0 rfl ?_
 intro b4
 refine AtL.done<|At.seq<|At.seq<|At.region<|AtL.move zg0 rfl rfl<|AtL.fieldAddrB zb4 zg0 rfl rfl rfl ?_
 refine AtL.pick (H':=[(b3,.cells #[.slice A b.length C,.int .i64 (i:Int),.int .i64 0,.int .i64 0] 305 (0,0))]::[(b4,.cells #[str [],.int .i64 0,.int .i64 0] 86 (0,0))]::[(b2,.cells #[.int .i64 0,.int .i64 0] 82 (0,0))]::[(b1,.cells #[str [],.int .i64 0,.int .i64 0] 86 (0,0))]::H) [1,0,2,3] 4 rfl rfl ?_
 refine AtL.call tf_body151 zg0 rfl rfl (rname_q0 (b:=b) (Rd.skip 2 h) kW i hR hq.1.le kW) ?_
 rintro _ _ ⟨rfl,rfl⟩
 refine AtL.fieldAddrB zcu zg0 rfl rfl rfl ?_
 refine AtL.call zeX zg0 rfl rfl (rtwo_q1 (b:=b) (Rd.skip 2 h) kW j hs.left hq.2.1) ?_
 rintro _ _ ⟨rfl,rfl⟩
 refine AtL.fieldAddrB zct zg0 rfl rfl rfl ?_
 refine AtL.call zeX zg0 rfl rfl (rtwo_q2 (b:=b) (Rd.skip 2 h) kW (j + 2) hs.right hq.2.2) ?_
 rintro _ _ ⟨rfl,rfl⟩
 refine AtL.done<|At.seq<|At.region<|AtL.move zg0 rfl rfl<|AtL.nilCheck zg0 rfl rfl<|AtL.fieldAddrB zcM zg0 rfl rfl rfl ?_
 refine AtL.fieldAddrB zaS zg0 rfl rfl rfl<|AtL.load zak zg0 rfl rfl (Cell.own 0 0 rfl rfl rfl)<|AtL.nei zg0 rfl rfl rfl<|AtL.done<|At.condF rfl<|At.skip ?_
 refine At.seq ?_
 refine At.draw (es:=[6,8]) (pv:=[(0,.agg #[str q.1,.int .i64 q.2.1,.int .i64 q.2.2]),(1,.pointer (some ⟨b3,0,none⟩)),(2,.pointer (some ⟨b3,0,none⟩)),(3,.pointer (some ⟨b3,1,none⟩)),(4,.int .i64 (((j + 2:Nat):Int) + 2)),(5,.agg #[.int .i64 0,.int .i64 0])]) zaj kR kR kR ?_
 refine ⟨⟨zpr rfl rfl rfl (Do.loadN (cs:=[str q.1,.int .i64 q.2.1,.int .i64 q.2.2]) zci rfl rfl (cellsOwn 1 0 0 rfl rfl rfl)),zpr rfl rfl rfl (Do.move rfl),zpr rfl rfl rfl (Do.nilCheck rfl),zpr rfl rfl rfl (Do.fieldAddrB za1 rfl rfl),zpr rfl rfl rfl (Do.load zab rfl (Cell.own 0 0 rfl rfl rfl)),zpr rfl rfl rfl (Do.build (cs:=[.int .i64 0,.int .i64 0]) za8 rfl rfl),trivial⟩,rfl,rfl,by kernel_rfl,_,rfl,rfl,rfl,_,Do.store (H':=[(b3,.cells #[.slice A b.length C,.int .i64 (((j + 2:Nat):Int) + 2),.int .i64 0,.int .i64 0] 305 (0,0))]::[(b4,.cells #[str q.1,.int .i64 q.2.1,.int .i64 q.2.2] 86 (0,0))]::[(b2,.cells #[.int .i64 0,.int .i64 0] 82 (0,0))]::[(b1,.cells #[str q.1,.int .i64 q.2.1,.int .i64 q.2.2] 86 (0,0))]::H) 3 0 zb0 rfl rfl rfl rfl rfl rfl rfl rfl rfl,?_⟩
 rintro _ _ ⟨rfl,rfl⟩
 refine ⟨[(7,.int .i64 (((j + 2:Nat):Int) + 2))],rfl,?_⟩
 refine ⟨⟨zpr rfl rfl rfl (Do.assign rfl),.inl kR,zpr rfl rfl rfl (Do.move rfl),zpr rfl rfl rfl (Do.nilCheck rfl),zpr rfl rfl rfl (Do.fieldAddrB za1 rfl rfl),zpr rfl rfl rfl (Do.load zab rfl (Cell.own 0 0 rfl rfl rfl)),zpr rfl rfl rfl (Do.build (cs:=[.int .i64 0,.int .i64 0]) za8 rfl rfl),trivial⟩,rfl,rfl,by kernel_rfl,_,rfl,rfl,rfl,_,Do.store (H':=[(b3,.cells #[.slice A b.length C,.int .i64 (((j + 2:Nat):Int) + 2),.int .i64 0,.int .i64 0] 305 (0,0))]::[(b4,.cells #[str q.1,.int .i64 q.2.1,.int .i64 q.2.2] 86 (0,0))]::[(b2,.cells #[.int .i64 0,.int .i64 0] 82 (0,0))]::[(b1,.cells #[str q.1,.int .i64 q.2.1,.int .i64 q.2.2] 86 (0,0))]::H) 2 0 zaF rfl rfl rfl rfl rfl rfl rfl rfl rfl,?_⟩
 rintro _ _ ⟨rfl,rfl⟩
 refine ⟨[],rfl,?_⟩
 refine ⟨⟨.inl kR,.inl kR,.inl kR,.inl kR,.inl kR,.inl kR,.inl kR,trivial⟩,by kernel_rfl,?_⟩
 refine At.mono (E':=[(4,.pointer (some ⟨b1,0,none⟩)),(5,.int .i64 (((j + 2:Nat):Int) + 2)),(6,.pointer (some ⟨b2,0,none⟩))]) ⟨rfl,rfl,rfl,trivial⟩ ?_
 exact At.retMP (vs:=[.agg #[str q.1,.int .i64 q.2.1,.int .i64 q.2.2],.int .i64 (((j + 2:Nat):Int) + 2),.agg #[.int .i64 0,.int .i64 0]]) [] 4 rfl rfl Tryz.func82 rfl ⟨⟨_,rfl,LoadsTo.agg (cs:=[str q.1,.int .i64 q.2.1,.int .i64 q.2.2]) zci rfl (cellsOwn 3 0 0 rfl rfl rfl)⟩,rfl,⟨_,rfl,LoadsTo.agg (cs:=[.int .i64 0,.int .i64 0]) zaK rfl (cellsOwn 2 0 0 rfl rfl rfl)⟩,trivial⟩ (⟨by first | rfl | (simp only [Nat.cast_add]; rfl) | (congr 1),rfl⟩)
set_option maxRecDepth 100000
theorem Do.indexArrB {X:Pt}{E:Env}{H:List Seg}{t e n sz b o r:Nat}{x ix:Operand}{kk:IntKind}{i:Int}(j:Nat) (hu:X.P.underlying t=some (.array n e)) (hs:sizeN X.P e sz=true) (hx:ev E x=some (.pointer (some ⟨b,o,none⟩))) (hi:ev E ix=some (.int kk i)) (hij:i=(j:Int)) (hj:Nat.blt j n=true) (hr:o + j * sz=r) :
  Does X E H (.indexAddr t x ix) (Is (.pointer (some ⟨b,r,none⟩)) H):=by
 subst hr
 have:=Do.indexArr (X:=X) (E:=E) (H:=H) j hu hs hx hi hij (zbS hj)
 simpa [eaddr,zai] using this
theorem tf_el73:ElemOk Tryz.prog 73 86 tyQn (([],0,0):List UInt8×Int×Int) 32:=ElemOk.of Tryz.underlying73 kR kR rfl
theorem mr1_ok {w0:World}{base:Nat}{H:List Seg}{f m:Nat}{c0 c1 c2 c3 c4 c5:Value} :
  DCalls Tryz.prog 80 [.pointer (some ⟨f,0,none⟩),.pointer (some ⟨m,0,none⟩)] w0 base ([(f,.cells #[.int .i64 0,.int .i64 0] 82 (0,0))]::[(m,.cells #[c0,c1,c2,c3,c4,c5] 78 (0,0))]::H) .returning (fun m' H' => m' = .returning∧H' = [(f,.cells #[.int .i64 0,.int .i64 0] 82 (0,0))]::[(m,.cells #[c0,c1,c2,c3,c4,c5] 78 (0,0))]::H):=by
 refine DCalls.of_walk (n:=6) Tryz.func80 rfl rfl rfl fun fr cs => ?_
 refine At.seq<|At.region<|AtL.fieldAddrB zaS zg0 rfl rfl rfl<|AtL.load zak zg0 rfl rfl (Cell.own 0 0 rfl rfl rfl)<|AtL.nei zg0 rfl rfl rfl<|AtL.done ?_
 refine At.condF rfl<|At.skip<|At.endU rfl ?_
 exact Un.leftD (vs:=[]) Tryz.func80 rfl trivial (⟨rfl,rfl⟩)
set_option maxHeartbeats 2000000 in
theorem msgread_ok {w0:World}{base:Nat}{H:List Seg}{A:Option Addr}{C:Nat}{b:List UInt8}{id flags:Int}{qs:List Qn3}{an ns ar:List Rc5}(h:Rd tyB w0 base H A C b) (hM:MOk id flags qs an ns ar) (hA:MAt b id flags qs an ns ar) (h0:an.length=0∧ns.length=0∧ar.length=0) :
  SCalls Tryz.prog 32 [.slice A b.length C] w0 base (H) (fun v H' => ∃ (xq:Sl tyQn 86) (xa xn xr:Sl tyRec 101),xq.l=qs∧xa.l=an∧xn.l=ns∧xr.l=ar∧v = .tuple #[.agg #[int id,int flags,.slice xq.A xq.l.length xq.C,.slice xa.A xa.l.length xa.C,.slice xn.A xn.l.length xn.C,.slice xr.A xr.l.length xr.C],.agg #[int 0,int 0]]∧H' = xq.s::xa.s::xn.s::xr.s::H):=by
 have hle0:=h.le
 have hcap0:=h.cap
 have hb65:=hA.1
 have hb:b.length≤140737488355328:=by omega
 have hp:=hd_parts hA.2.1
 have hb12:=hA.2.1.2
 rw [hdB_len] at hb12
 obtain ⟨p1,p2,p3,hA1,hA2,hA3,hA4⟩:=hA.2.2
 have hM1:=hM.1; have hM2:=hM.2.1; have hM3:=hM.2.2.1
 refine SCalls.of_walk (n:=116) Tryz.func32 rfl rfl rfl fun cs => ?_
 refine At.seq<|At.region<|AtL.alloc tf_zero78 (cs:=#[.int .i64 0,.int .i64 0,.slice none 0 0,.slice none 0 0,.slice none 0 0,.slice none 0 0]) rfl zg0 rfl ?_
 intro b1
 refine AtL.alloc zaw (cs:=#[.int .i64 0,.int .i64 0]) rfl zg0 rfl ?_
 intro b2
 refine AtL.done<|At.seq<|At.region<|AtL.makeFunc zg0 rfl rfl rfl<|AtL.defer rfl zg0 rfl rfl rfl<|AtL.done ?_
 refine At.seq<|At.block<|At.seq<|At.region<|AtL.move zg0 rfl rfl<|AtL.lenL Tryz.underlying22 zg0 rfl rfl ?_
 refine AtL.gtr zg0 rfl rfl rfl<|AtL.assign zg0 rfl rfl<|AtL.done ?_
 refine At.condIs false rfl (decide_eq_false kW)<|At.seq<|At.region<|AtL.move zg0 rfl rfl<|AtL.lenL Tryz.underlying22 zg0 rfl rfl<|AtL.lss zg0 rfl rfl rfl ?_
 refine AtL.assign zg0 rfl rfl<|AtL.done ?_
 refine At.condIs false rfl (decide_eq_false kW)<|At.skip<|At.inBlock<|At.seq<|At.region<|AtL.alloc tf_zero163 (cs:=#[.int .i64 0,.int .i64 0,.int .i64 0,.int .i64 0,.int .i64 0,.int .i64 0]) rfl zg0 rfl ?_
 intro b3
 refine AtL.done<|At.seq<|At.region<|AtL.assign zg0 rfl rfl<|AtL.done<|At.seq ?_
 refine At.seq<|At.region<|AtL.move zg0 rfl rfl<|AtL.done<|At.block<|At.unroll ?_
 refine At.seq<|At.region<|AtL.lss zg0 rfl rfl rfl<|AtL.done<|At.seq<|At.condT rfl ?_
 refine At.skip<|At.seq<|At.block<|At.seq<|At.region<|AtL.move zg0 rfl rfl ?_
 refine AtL.assign zg0 rfl rfl<|AtL.done<|At.region<|AtL.move zg0 rfl rfl<|AtL.move zg0 rfl rfl<|AtL.move zg0 rfl rfl ?_
 refine AtL.call zaT zg0 rfl rfl (zbk (l:=b) (Rd.skip 3 h) 0 hp.1 hM1 hb) ?_
 rintro _ _ ⟨rfl,rfl⟩
 refine AtL.move zg0 rfl rfl<|AtL.extract zg0 rfl rfl rfl<|AtL.extract zg0 rfl rfl rfl<|AtL.extract zg0 rfl rfl rfl<|AtL.indexArrB 0 Tryz.underlying163 zan zg0 rfl rfl rfl rfl rfl rfl<|AtL.store (H':=[(b3,.cells #[.int .i64 id,.int .i64 0,.int .i64 0,.int .i64 0,.int .i64 0,.int .i64 0] 163 (0,0))]::[(b2,.cells #[.int .i64 0,.int .i64 0] 82 (0,0))]::[(b1,.cells #[.int .i64 0,.int .i64 0,.slice none 0 0,.slice none 0 0,.slice none 0 0,.slice none 0 0] 78 (0,0))]::H) 0 0 zan zg0 rfl rfl rfl rfl rfl rfl rfl rfl rfl ?_
 refine AtL.assign zg0 rfl rfl<|AtL.done<|At.inBlock<|At.region ?_
 refine AtL.add (z:=1) zg0 rfl rfl rfl kI<|AtL.move zg0 rfl rfl<|AtL.done<|At.again<|At.seq<|At.region ?_
 refine AtL.lss zg0 rfl rfl rfl<|AtL.done<|At.seq<|At.condT rfl<|At.skip<|At.seq ?_
 refine At.block<|At.seq<|At.region<|AtL.move zg0 rfl rfl<|AtL.assign zg0 rfl rfl<|AtL.done ?_
 refine At.region<|AtL.move zg0 rfl rfl<|AtL.move zg0 rfl rfl<|AtL.move zg0 rfl rfl<|AtL.call zaT zg0 rfl rfl (zbk (l:=b) (Rd.skip 3 h) 2 hp.2.1 hM2 hb) ?_
 rintro _ _ ⟨rfl,rfl⟩
 refine AtL.move zg0 rfl rfl<|AtL.extract zg0 rfl rfl rfl<|AtL.extract zg0 rfl rfl rfl<|AtL.extract zg0 rfl rfl rfl<|AtL.indexArrB 1 Tryz.underlying163 zan zg0 rfl rfl rfl rfl rfl rfl<|AtL.store (H':=[(b3,.cells #[.int .i64 id,.int .i64 flags,.int .i64 0,.int .i64 0,.int .i64 0,.int .i64 0] 163 (0,0))]::[(b2,.cells #[.int .i64 0,.int .i64 0] 82 (0,0))]::[(b1,.cells #[.int .i64 0,.int .i64 0,.slice none 0 0,.slice none 0 0,.slice none 0 0,.slice none 0 0] 78 (0,0))]::H) 0 0 zan zg0 rfl rfl rfl rfl rfl rfl rfl rfl rfl ?_
 refine AtL.assign zg0 rfl rfl<|AtL.done<|At.inBlock<|At.region ?_
 refine AtL.add (z:=2) zg0 rfl rfl rfl kI<|AtL.move zg0 rfl rfl<|AtL.done<|At.again<|At.seq<|At.region ?_
 refine AtL.lss zg0 rfl rfl rfl<|AtL.done<|At.seq<|At.condT rfl<|At.skip<|At.seq ?_
 refine At.block<|At.seq<|At.region<|AtL.move zg0 rfl rfl<|AtL.assign zg0 rfl rfl<|AtL.done ?_
 refine At.region<|AtL.move zg0 rfl rfl<|AtL.move zg0 rfl rfl<|AtL.move zg0 rfl rfl ?_
 refine AtL.call zaT zg0 rfl rfl (zbk (l:=b) (Rd.skip 3 h) 4 hp.2.2.1 kW hb) ?_
 rintro _ _ ⟨rfl,rfl⟩
 refine AtL.move zg0 rfl rfl<|AtL.extract zg0 rfl rfl rfl<|AtL.extract zg0 rfl rfl rfl<|AtL.extract zg0 rfl rfl rfl<|AtL.indexArrB 2 Tryz.underlying163 zan zg0 rfl rfl rfl rfl rfl rfl<|AtL.store (H':=[(b3,.cells #[.int .i64 id,.int .i64 flags,.int .i64 (qs.length:Int),.int .i64 0,.int .i64 0,.int .i64 0] 163 (0,0))]::[(b2,.cells #[.int .i64 0,.int .i64 0] 82 (0,0))]::[(b1,.cells #[.int .i64 0,.int .i64 0,.slice none 0 0,.slice none 0 0,.slice none 0 0,.slice none 0 0] 78 (0,0))]::H) 0 0 zan zg0 rfl rfl rfl rfl rfl rfl rfl rfl rfl ?_
 refine AtL.assign zg0 rfl rfl<|AtL.done<|At.inBlock<|At.region ?_
 refine AtL.add (z:=3) zg0 rfl rfl rfl kI<|AtL.move zg0 rfl rfl<|AtL.done<|At.again<|At.seq<|At.region ?_
 refine AtL.lss zg0 rfl rfl rfl<|AtL.done<|At.seq<|At.condT rfl<|At.skip<|At.seq ?_
 refine At.block<|At.seq<|At.region<|AtL.move zg0 rfl rfl<|AtL.assign zg0 rfl rfl<|AtL.done ?_
 refine At.region<|AtL.move zg0 rfl rfl<|AtL.move zg0 rfl rfl<|AtL.move zg0 rfl rfl ?_
 refine AtL.call zaT zg0 rfl rfl (zbk (l:=b) (Rd.skip 3 h) 6 hp.2.2.2.1 kW hb) ?_
 rintro _ _ ⟨rfl,rfl⟩
 refine AtL.move zg0 rfl rfl<|AtL.extract zg0 rfl rfl rfl<|AtL.extract zg0 rfl rfl rfl<|AtL.extract zg0 rfl rfl rfl<|AtL.indexArrB 3 Tryz.underlying163 zan zg0 rfl rfl rfl rfl rfl rfl<|AtL.store (H':=[(b3,.cells #[.int .i64 id,.int .i64 flags,.int .i64 (qs.length:Int),.int .i64 (an.length:Int),.int .i64 0,.int .i64 0] 163 (0,0))]::[(b2,.cells #[.int .i64 0,.int .i64 0] 82 (0,0))]::[(b1,.cells #[.int .i64 0,.int .i64 0,.slice none 0 0,.slice none 0 0,.slice none 0 0,.slice none 0 0] 78 (0,0))]::H) 0 0 zan zg0 rfl rfl rfl rfl rfl rfl rfl rfl rfl ?_
 refine AtL.assign zg0 rfl rfl<|AtL.done<|At.inBlock<|At.region ?_
 refine AtL.add (z:=4) zg0 rfl rfl rfl kI<|AtL.move zg0 rfl rfl<|AtL.done<|At.again<|At.seq<|At.region ?_
 refine AtL.lss zg0 rfl rfl rfl<|AtL.done<|At.seq<|At.condT rfl<|At.skip<|At.seq ?_
 refine At.block<|At.seq<|At.region<|AtL.move zg0 rfl rfl<|AtL.assign zg0 rfl rfl<|AtL.done ?_
 refine At.region<|AtL.move zg0 rfl rfl<|AtL.move zg0 rfl rfl<|AtL.move zg0 rfl rfl ?_
 refine AtL.call zaT zg0 rfl rfl (zbk (l:=b) (Rd.skip 3 h) 8 hp.2.2.2.2.1 kW hb) ?_
 rintro _ _ ⟨rfl,rfl⟩
 refine AtL.move zg0 rfl rfl<|AtL.extract zg0 rfl rfl rfl<|AtL.extract zg0 rfl rfl rfl<|AtL.extract zg0 rfl rfl rfl<|AtL.indexArrB 4 Tryz.underlying163 zan zg0 rfl rfl rfl rfl rfl rfl<|AtL.store (H':=[(b3,.cells #[.int .i64 id,.int .i64 flags,.int .i64 (qs.length:Int),.int .i64 (an.length:Int),.int .i64 (ns.length:Int),.int .i64 0] 163 (0,0))]::[(b2,.cells #[.int .i64 0,.int .i64 0] 82 (0,0))]::[(b1,.cells #[.int .i64 0,.int .i64 0,.slice none 0 0,.slice none 0 0,.slice none 0 0,.slice none 0 0] 78 (0,0))]::H) 0 0 zan zg0 rfl rfl rfl rfl rfl rfl rfl rfl rfl ?_
 refine AtL.assign zg0 rfl rfl<|AtL.done<|At.inBlock<|At.region ?_
 refine AtL.add (z:=5) zg0 rfl rfl rfl kI<|AtL.move zg0 rfl rfl<|AtL.done<|At.again<|At.seq<|At.region ?_
 refine AtL.lss zg0 rfl rfl rfl<|AtL.done<|At.seq<|At.condT rfl<|At.skip<|At.seq ?_
 refine At.block<|At.seq<|At.region<|AtL.move zg0 rfl rfl<|AtL.assign zg0 rfl rfl<|AtL.done ?_
 refine At.region<|AtL.move zg0 rfl rfl<|AtL.move zg0 rfl rfl<|AtL.move zg0 rfl rfl ?_
 refine AtL.call zaT zg0 rfl rfl (zbk (l:=b) (Rd.skip 3 h) 10 hp.2.2.2.2.2 kW hb) ?_
 rintro _ _ ⟨rfl,rfl⟩
 refine AtL.move zg0 rfl rfl<|AtL.extract zg0 rfl rfl rfl<|AtL.extract zg0 rfl rfl rfl<|AtL.extract zg0 rfl rfl rfl<|AtL.indexArrB 5 Tryz.underlying163 zan zg0 rfl rfl rfl rfl rfl rfl<|AtL.store (H':=[(b3,.cells #[.int .i64 id,.int .i64 flags,.int .i64 (qs.length:Int),.int .i64 (an.length:Int),.int .i64 (ns.length:Int),.int .i64 (ar.length:Int)] 163 (0,0))]::[(b2,.cells #[.int .i64 0,.int .i64 0] 82 (0,0))]::[(b1,.cells #[.int .i64 0,.int .i64 0,.slice none 0 0,.slice none 0 0,.slice none 0 0,.slice none 0 0] 78 (0,0))]::H) 0 0 zan zg0 rfl rfl rfl rfl rfl rfl rfl rfl rfl ?_
 refine AtL.assign zg0 rfl rfl<|AtL.done<|At.inBlock<|At.region ?_
 refine AtL.add (z:=6) zg0 rfl rfl rfl kI<|AtL.move zg0 rfl rfl<|AtL.done<|At.again<|At.seq<|At.region ?_
 refine AtL.lss zg0 rfl rfl rfl<|AtL.done<|At.seq<|At.condF rfl<|At.exit rfl<|At.seq ?_
 refine At.draw (es:=[5,7]) (pv:=[(0,.pointer (some ⟨b3,0,none⟩)),(1,.int .i64 id),(2,.pointer (some ⟨b3,1,none⟩)),(3,.int .i64 flags),(4,.pointer (some ⟨b1,0,none⟩))]) zaj kR kR kR ?_
 refine ⟨⟨zpr rfl rfl rfl (Do.indexArrB 0 Tryz.underlying163 zan rfl rfl rfl rfl rfl),zpr rfl rfl rfl (Do.load zab rfl (Cell.own 0 0 rfl rfl rfl)),zpr rfl rfl rfl (Do.indexArrB 1 Tryz.underlying163 zan rfl rfl rfl rfl rfl),zpr rfl rfl rfl (Do.load zab rfl (Cell.own 0 0 rfl rfl rfl)),zpr rfl rfl rfl (Do.fieldAddrB zdk rfl rfl),trivial⟩,rfl,rfl,by kernel_rfl,_,rfl,rfl,rfl,_,Do.store (H':=[(b3,.cells #[.int .i64 id,.int .i64 flags,.int .i64 (qs.length:Int),.int .i64 (an.length:Int),.int .i64 (ns.length:Int),.int .i64 (ar.length:Int)] 163 (0,0))]::[(b2,.cells #[.int .i64 0,.int .i64 0] 82 (0,0))]::[(b1,.cells #[.int .i64 id,.int .i64 0,.slice none 0 0,.slice none 0 0,.slice none 0 0,.slice none 0 0] 78 (0,0))]::H) 2 0 zan rfl rfl rfl rfl rfl rfl rfl rfl rfl,?_⟩
 rintro _ _ ⟨rfl,rfl⟩
 refine ⟨[(6,.pointer (some ⟨b1,1,none⟩))],rfl,?_⟩
 refine ⟨⟨zpr rfl rfl rfl (Do.fieldAddrB zdj rfl rfl),.inl kR,.inl kR,zpr rfl rfl rfl (Do.indexArrB 1 Tryz.underlying163 zan rfl rfl rfl rfl rfl),zpr rfl rfl rfl (Do.load zab rfl (Cell.own 0 0 rfl rfl rfl)),.inl kR,trivial⟩,rfl,rfl,by kernel_rfl,_,rfl,rfl,rfl,_,Do.store (H':=[(b3,.cells #[.int .i64 id,.int .i64 flags,.int .i64 (qs.length:Int),.int .i64 (an.length:Int),.int .i64 (ns.length:Int),.int .i64 (ar.length:Int)] 163 (0,0))]::[(b2,.cells #[.int .i64 0,.int .i64 0] 82 (0,0))]::[(b1,.cells #[.int .i64 id,.int .i64 flags,.slice none 0 0,.slice none 0 0,.slice none 0 0,.slice none 0 0] 78 (0,0))]::H) 2 0 zan rfl rfl rfl rfl rfl rfl rfl rfl rfl,?_⟩
 rintro _ _ ⟨rfl,rfl⟩
 refine ⟨[],rfl,?_⟩
 refine ⟨⟨.inl kR,.inl kR,.inl kR,.inl kR,.inl kR,.inl kR,trivial⟩,by kernel_rfl,?_⟩
 refine At.mono (E':=[(0,.slice A b.length C),(2,.pointer (some ⟨b1,0,none⟩)),(3,.pointer (some ⟨b2,0,none⟩)),(4,.pointer (some ⟨b3,0,none⟩)),(5,.int .i64 12)]) ⟨rfl,rfl,rfl,rfl,rfl,trivial⟩<|At.seq<|At.seq<|At.region<|AtL.indexArrB 2 Tryz.underlying163 zan zg0 rfl rfl rfl rfl rfl rfl<|AtL.load zab zg0 rfl rfl (Cell.own 0 0 rfl rfl rfl) ?_
 refine AtL.move zg0 rfl rfl<|AtL.done<|At.block<|At.nil<|At.pick (H':=[]::[(b1,.cells #[.int .i64 id,.int .i64 flags,.slice none 0 0,.slice none 0 0,.slice none 0 0,.slice none 0 0] 78 (0,0))]::[(b2,.cells #[.int .i64 0,.int .i64 0] 82 (0,0))]::[(b3,.cells #[.int .i64 id,.int .i64 flags,.int .i64 (qs.length:Int),.int .i64 (an.length:Int),.int .i64 (ns.length:Int),.int .i64 (ar.length:Int)] 163 (0,0))]::H) [0,3,2,1] 4 rfl rfl ?_
 refine At.loop3 (fun (jq:Nat) (atq:Nat) (xq:Sl tyQn 86) => [(0,.slice A b.length C),(2,.pointer (some ⟨b1,0,none⟩)),(3,.pointer (some ⟨b2,0,none⟩)),(4,.pointer (some ⟨b3,0,none⟩)),(5,.int .i64 (atq:Int)),(50,.int .i64 (qs.length:Int)),(51,.int .i64 (jq:Int))]) (fun (jq:Nat) (atq:Nat) (xq:Sl tyQn 86) => xq.s::[(b1,.cells #[.int .i64 id,.int .i64 flags,.slice xq.A xq.l.length xq.C,.slice none 0 0,.slice none 0 0,.slice none 0 0] 78 (0,0))]::[(b2,.cells #[.int .i64 0,.int .i64 0] 82 (0,0))]::[(b3,.cells #[.int .i64 id,.int .i64 flags,.int .i64 (qs.length:Int),.int .i64 (an.length:Int),.int .i64 (ns.length:Int),.int .i64 (ar.length:Int)] 163 (0,0))]::H) (fun (jq:Nat) (atq:Nat) (xq:Sl tyQn 86) => jq≤qs.length∧xq.l=qs.take jq∧LAt QAt b atq (qs.drop jq) p1∧atq≤b.length) (fun (jq:Nat) (atq:Nat) (xq:Sl tyQn 86) => qs.length - jq) 0 12 Sl.nil (⟨Nat.zero_le _,rfl,hA1,kW⟩) ⟨rfl,rfl,rfl,rfl,rfl,rfl,rfl,trivial⟩ rfl ?_
 rintro jq atq xq ⟨hjq,hxq,hlq,hbq⟩ ihL2
 have hcapq:=Own.cap_le xq.own
 have hxlq:=congrArg List.length hxq
 rw [List.length_take] at hxlq
 refine At.seq<|At.region<|AtL.lss zg0 rfl rfl rfl<|AtL.done<|At.seq<|At.condD rfl ?_ ?_
 ·intro hc4
  refine At.skip<|At.seq<|At.block<|At.seq ?_
  obtain ⟨nxq,hlq1,hlq2⟩:=LAt.cons (d:=(([],0,0):List UInt8×Int×Int)) hlq kW
  have hle9:=hlq1.le
  refine At.region<|AtL.move zg0 rfl rfl<|AtL.move zg0 rfl rfl ?_
  refine AtL.call tf_body82 zg0 rfl rfl (question_ok (Rd.skip 4 h) hb atq (hM.2.2.2.1 _ (zbj (l:=qs) (i:=jq) (d:=(([],0,0):List UInt8×Int×Int)) kW)) hlq1) ?_
  rintro _ _ ⟨rfl,rfl⟩
  refine AtL.move zg0 rfl rfl<|AtL.extract zg0 rfl rfl rfl<|AtL.extract zg0 rfl rfl rfl<|AtL.extract zg0 rfl rfl rfl<|AtL.alloc zbL (cs:=#[str [],.int .i64 0,.int .i64 0]) rfl zg0 rfl ?_
  intro b4
  refine AtL.alloc zaw (cs:=#[.int .i64 0,.int .i64 0]) rfl zg0 rfl ?_
  intro b5
  refine AtL.store (H':=[(b5,.cells #[.int .i64 0,.int .i64 0] 82 (0,0))]::[(b4,.cells #[str ((qs.getD jq (([],0,0):List UInt8×Int×Int)).1),.int .i64 ((qs.getD jq (([],0,0):List UInt8×Int×Int)).2.1),.int .i64 ((qs.getD jq (([],0,0):List UInt8×Int×Int)).2.2)] 86 (0,0))]::xq.s::[(b1,.cells #[.int .i64 id,.int .i64 flags,.slice xq.A xq.l.length xq.C,.slice none 0 0,.slice none 0 0,.slice none 0 0] 78 (0,0))]::[(b2,.cells #[.int .i64 0,.int .i64 0] 82 (0,0))]::[(b3,.cells #[.int .i64 id,.int .i64 flags,.int .i64 (qs.length:Int),.int .i64 (an.length:Int),.int .i64 (ns.length:Int),.int .i64 (ar.length:Int)] 163 (0,0))]::H) 1 0 zb0 zg0 rfl rfl rfl rfl rfl rfl rfl rfl rfl<|AtL.assign zg0 rfl rfl<|AtL.store (H':=[(b5,.cells #[.int .i64 0,.int .i64 0] 82 (0,0))]::[(b4,.cells #[str ((qs.getD jq (([],0,0):List UInt8×Int×Int)).1),.int .i64 ((qs.getD jq (([],0,0):List UInt8×Int×Int)).2.1),.int .i64 ((qs.getD jq (([],0,0):List UInt8×Int×Int)).2.2)] 86 (0,0))]::xq.s::[(b1,.cells #[.int .i64 id,.int .i64 flags,.slice xq.A xq.l.length xq.C,.slice none 0 0,.slice none 0 0,.slice none 0 0] 78 (0,0))]::[(b2,.cells #[.int .i64 0,.int .i64 0] 82 (0,0))]::[(b3,.cells #[.int .i64 id,.int .i64 flags,.int .i64 (qs.length:Int),.int .i64 (an.length:Int),.int .i64 (ns.length:Int),.int .i64 (ar.length:Int)] 163 (0,0))]::H) 0 0 zaF zg0 rfl rfl rfl rfl rfl rfl rfl rfl rfl<|AtL.done<|At.seq<|At.seq ?_
  refine At.region<|AtL.fieldAddrB zaS zg0 rfl rfl rfl<|AtL.load zak zg0 rfl rfl (Cell.own 0 0 rfl rfl rfl)<|AtL.nei zg0 rfl rfl rfl<|AtL.done<|At.condF rfl ?_
  refine At.skip<|At.region<|AtL.fieldAddrB zbM zg0 rfl rfl rfl<|AtL.load zb5 zg0 rfl rfl (Cell.own 3 0 rfl rfl rfl)<|AtL.loadN (cs:=[str ((qs.getD jq (([],0,0):List UInt8×Int×Int)).1),.int .i64 ((qs.getD jq (([],0,0):List UInt8×Int×Int)).2.1),.int .i64 ((qs.getD jq (([],0,0):List UInt8×Int×Int)).2.2)]) zci zg0 rfl rfl rfl (cellsOwn 1 0 0 rfl rfl rfl)<|AtL.buildSlice (cs:=[str ((qs.getD jq (([],0,0):List UInt8×Int×Int)).1),.int .i64 ((qs.getD jq (([],0,0):List UInt8×Int×Int)).2.1),.int .i64 ((qs.getD jq (([],0,0):List UInt8×Int×Int)).2.2)]) Tryz.underlying73 zbL zb0 rfl rfl zg0 rfl rfl rfl ?_
  intro b6
  refine AtL.own1 tyQn (l:=([((qs.getD jq (([],0,0):List UInt8×Int×Int)).1,(qs.getD jq (([],0,0):List UInt8×Int×Int)).2.1,(qs.getD jq (([],0,0):List UInt8×Int×Int)).2.2)]:List (List UInt8×Int×Int))) rfl rfl kP ?_
  intro s7 o8
  refine AtL.append (l:=xq.l) (news:=[((qs.getD jq (([],0,0):List UInt8×Int×Int)).1,(qs.getD jq (([],0,0):List UInt8×Int×Int)).2.1,(qs.getD jq (([],0,0):List UInt8×Int×Int)).2.2)]) 3 tf_el73 rfl xq.own (o8.rd (i:=0) rfl) kE zg0 rfl rfl rfl ?_
  intro A9 C10 s11 o12
  refine AtL.move zg0 rfl rfl<|AtL.fieldAddrB zbM zg0 rfl rfl rfl<|AtL.store (H':=s7::[(b5,.cells #[.int .i64 0,.int .i64 0] 82 (0,0))]::[(b4,.cells #[str ((qs.getD jq (([],0,0):List UInt8×Int×Int)).1),.int .i64 ((qs.getD jq (([],0,0):List UInt8×Int×Int)).2.1),.int .i64 ((qs.getD jq (([],0,0):List UInt8×Int×Int)).2.2)] 86 (0,0))]::s11::[(b1,.cells #[.int .i64 id,.int .i64 flags,.slice A9 (xq.l++([((qs.getD jq (([],0,0):List UInt8×Int×Int)).1,(qs.getD jq (([],0,0):List UInt8×Int×Int)).2.1,(qs.getD jq (([],0,0):List UInt8×Int×Int)).2.2)])).length C10,.slice none 0 0,.slice none 0 0,.slice none 0 0] 78 (0,0))]::[(b2,.cells #[.int .i64 0,.int .i64 0] 82 (0,0))]::[(b3,.cells #[.int .i64 id,.int .i64 flags,.int .i64 (qs.length:Int),.int .i64 (an.length:Int),.int .i64 (ns.length:Int),.int .i64 (ar.length:Int)] 163 (0,0))]::H) 4 0 tf_sz73 zg0 rfl rfl rfl rfl rfl rfl rfl rfl rfl<|AtL.assign zg0 rfl rfl<|AtL.done<|At.inBlock ?_
  refine At.region ?_
  refine AtL.add (z:=(jq:Int) + 1) zg0 rfl rfl rfl (w64 kW kW)<|AtL.move zg0 rfl rfl<|AtL.done<|At.pick (H':=s11::[(b1,.cells #[.int .i64 id,.int .i64 flags,.slice A9 (xq.l++([((qs.getD jq (([],0,0):List UInt8×Int×Int)).1,(qs.getD jq (([],0,0):List UInt8×Int×Int)).2.1,(qs.getD jq (([],0,0):List UInt8×Int×Int)).2.2)])).length C10,.slice none 0 0,.slice none 0 0,.slice none 0 0] 78 (0,0))]::[(b2,.cells #[.int .i64 0,.int .i64 0] 82 (0,0))]::[(b3,.cells #[.int .i64 id,.int .i64 flags,.int .i64 (qs.length:Int),.int .i64 (an.length:Int),.int .i64 (ns.length:Int),.int .i64 (ar.length:Int)] 163 (0,0))]::H) [3,4,5,6] 7 rfl rfl ?_
  refine ihL2 (jq + 1) nxq (⟨A9,C10,xq.l++([((qs.getD jq (([],0,0):List UInt8×Int×Int)).1,(qs.getD jq (([],0,0):List UInt8×Int×Int)).2.1,(qs.getD jq (([],0,0):List UInt8×Int×Int)).2.2)]),s11,o12⟩) (⟨by omega,(by dsimp only; rw [hxq,take_snoc (d:=(([],0,0):List UInt8×Int×Int)) kW]),hlq2,hlq1.le.2⟩) kW _ ?_
  exact ⟨rfl,rfl,rfl,rfl,kQ,rfl,kQ,trivial⟩
 ·intro hc4
  refine At.exit rfl<|At.seq<|At.seq<|At.region<|AtL.pick (H':=[(b1,.cells #[.int .i64 id,.int .i64 flags,.slice xq.A xq.l.length xq.C,.slice none 0 0,.slice none 0 0,.slice none 0 0] 78 (0,0))]::xq.s::[(b2,.cells #[.int .i64 0,.int .i64 0] 82 (0,0))]::[(b3,.cells #[.int .i64 id,.int .i64 flags,.int .i64 (qs.length:Int),.int .i64 (an.length:Int),.int .i64 (ns.length:Int),.int .i64 (ar.length:Int)] 163 (0,0))]::H) [1,0,2,3] 4 rfl rfl<|AtL.call zeh zg0 rfl rfl zfP ?_
  rintro _ _ ⟨rfl,rfl⟩
  refine AtL.move zg0 rfl rfl<|AtL.done<|At.block<|At.unroll<|At.seq<|At.region ?_
  refine AtL.lss zg0 rfl rfl rfl<|AtL.done<|At.seq<|At.condT rfl<|At.skip<|At.seq ?_
  refine At.block<|At.seq<|At.region<|AtL.move zg0 rfl rfl<|AtL.ofIs (Do.indexAny (v:=.pointer (some ⟨b1,3,none⟩)) rfl rfl (fun w => by kernel_rfl)) zg0 rfl<|AtL.assign zg0 rfl rfl ?_
  refine AtL.assign zg0 rfl rfl<|AtL.done<|At.seq<|At.region<|AtL.move zg0 rfl rfl ?_
  refine AtL.add (z:=3) zg0 rfl rfl rfl kI<|AtL.indexArrB 3 Tryz.underlying163 zan zg0 rfl rfl rfl rfl rfl rfl<|AtL.load zab zg0 rfl rfl (Cell.own 3 0 rfl rfl rfl)<|AtL.move zg0 rfl rfl<|AtL.done<|At.block ?_
  have hendq:atq=p1:=by have h9:=hlq; rw [List.drop_eq_nil_of_le kW] at h9; exact h9
  refine At.nil<|At.pick (H':=[]::xq.s::[(b1,.cells #[.int .i64 id,.int .i64 flags,.slice xq.A xq.l.length xq.C,.slice none 0 0,.slice none 0 0,.slice none 0 0] 78 (0,0))]::[(b2,.cells #[.int .i64 0,.int .i64 0] 82 (0,0))]::[(b3,.cells #[.int .i64 id,.int .i64 flags,.int .i64 (qs.length:Int),.int .i64 (an.length:Int),.int .i64 (ns.length:Int),.int .i64 (ar.length:Int)] 163 (0,0))]::H) [0,2,1,3,4] 5 rfl rfl ?_
  refine At.loop3 (fun (ja:Nat) (ata:Nat) (xa:Sl tyRec 101) => [(0,.slice A b.length C),(2,.pointer (some ⟨b1,0,none⟩)),(3,.pointer (some ⟨b2,0,none⟩)),(4,.pointer (some ⟨b3,0,none⟩)),(5,.int .i64 (ata:Int)),(11,.pointer (some ⟨b1,3,none⟩)),(73,.agg #[.pointer (some ⟨b1,3,none⟩),.pointer (some ⟨b1,4,none⟩),.pointer (some ⟨b1,5,none⟩)]),(74,.int .i64 0),(81,.int .i64 (an.length:Int)),(82,.int .i64 (ja:Int))]) (fun (ja:Nat) (ata:Nat) (xa:Sl tyRec 101) => xa.s::xq.s::[(b1,.cells #[.int .i64 id,.int .i64 flags,.slice xq.A xq.l.length xq.C,.slice xa.A xa.l.length xa.C,.slice none 0 0,.slice none 0 0] 78 (0,0))]::[(b2,.cells #[.int .i64 0,.int .i64 0] 82 (0,0))]::[(b3,.cells #[.int .i64 id,.int .i64 flags,.int .i64 (qs.length:Int),.int .i64 (an.length:Int),.int .i64 (ns.length:Int),.int .i64 (ar.length:Int)] 163 (0,0))]::H) (fun (ja:Nat) (ata:Nat) (xa:Sl tyRec 101) => ja≤an.length∧xa.l=an.take ja∧LAt RAt b ata (an.drop ja) p2∧ata≤b.length) (fun (ja:Nat) (ata:Nat) (xa:Sl tyRec 101) => an.length - ja) 0 atq Sl.nil (⟨Nat.zero_le _,rfl,(by rw [hendq]; exact hA2),hbq⟩) ⟨rfl,rfl,rfl,rfl,rfl,rfl,rfl,rfl,rfl,rfl,trivial⟩ rfl ?_
  rintro ja ata xa ⟨hja,hxa,hla,hba⟩ ihL4
  have hcapa:=Own.cap_le xa.own
  have hxla:=congrArg List.length hxa
  rw [List.length_take] at hxla
  refine At.seq<|At.region<|AtL.lss zg0 rfl rfl rfl<|AtL.done<|At.seq<|At.condD rfl ?_ ?_
  ·intro hc7
   refine At.skip<|At.seq<|At.block<|At.seq ?_
   exfalso; omega
  ·intro hc7
   refine At.exit rfl<|At.inBlock<|At.region ?_
   refine AtL.add (z:=1) zg0 rfl rfl rfl kI<|AtL.move zg0 rfl rfl<|AtL.done<|At.again<|At.seq<|At.region ?_
   refine AtL.lss zg0 rfl rfl rfl<|AtL.done<|At.seq<|At.condT rfl<|At.skip<|At.seq ?_
   refine At.block<|At.seq<|At.region<|AtL.move zg0 rfl rfl<|AtL.ofIs (Do.indexAny (v:=.pointer (some ⟨b1,4,none⟩)) rfl rfl (fun w => by kernel_rfl)) zg0 rfl<|AtL.assign zg0 rfl rfl ?_
   refine AtL.assign zg0 rfl rfl<|AtL.done<|At.seq<|At.region<|AtL.move zg0 rfl rfl ?_
   refine AtL.add (z:=4) zg0 rfl rfl rfl kI<|AtL.indexArrB 4 Tryz.underlying163 zan zg0 rfl rfl rfl rfl rfl rfl<|AtL.load zab zg0 rfl rfl (Cell.own 4 0 rfl rfl rfl)<|AtL.move zg0 rfl rfl<|AtL.done<|At.block ?_
   have henda:ata=p2:=by have h9:=hla; rw [List.drop_eq_nil_of_le kW] at h9; exact h9
   refine At.nil<|At.pick (H':=[]::xq.s::xa.s::[(b1,.cells #[.int .i64 id,.int .i64 flags,.slice xq.A xq.l.length xq.C,.slice xa.A xa.l.length xa.C,.slice none 0 0,.slice none 0 0] 78 (0,0))]::[(b2,.cells #[.int .i64 0,.int .i64 0] 82 (0,0))]::[(b3,.cells #[.int .i64 id,.int .i64 flags,.int .i64 (qs.length:Int),.int .i64 (an.length:Int),.int .i64 (ns.length:Int),.int .i64 (ar.length:Int)] 163 (0,0))]::H) [0,2,1,3,4,5] 6 rfl rfl ?_
   refine At.loop3 (fun (jn:Nat) (atn:Nat) (xn:Sl tyRec 101) => [(0,.slice A b.length C),(2,.pointer (some ⟨b1,0,none⟩)),(3,.pointer (some ⟨b2,0,none⟩)),(4,.pointer (some ⟨b3,0,none⟩)),(5,.int .i64 (atn:Int)),(11,.pointer (some ⟨b1,4,none⟩)),(73,.agg #[.pointer (some ⟨b1,3,none⟩),.pointer (some ⟨b1,4,none⟩),.pointer (some ⟨b1,5,none⟩)]),(74,.int .i64 1),(81,.int .i64 (ns.length:Int)),(82,.int .i64 (jn:Int))]) (fun (jn:Nat) (atn:Nat) (xn:Sl tyRec 101) => xn.s::xq.s::xa.s::[(b1,.cells #[.int .i64 id,.int .i64 flags,.slice xq.A xq.l.length xq.C,.slice xa.A xa.l.length xa.C,.slice xn.A xn.l.length xn.C,.slice none 0 0] 78 (0,0))]::[(b2,.cells #[.int .i64 0,.int .i64 0] 82 (0,0))]::[(b3,.cells #[.int .i64 id,.int .i64 flags,.int .i64 (qs.length:Int),.int .i64 (an.length:Int),.int .i64 (ns.length:Int),.int .i64 (ar.length:Int)] 163 (0,0))]::H) (fun (jn:Nat) (atn:Nat) (xn:Sl tyRec 101) => jn≤ns.length∧xn.l=ns.take jn∧LAt RAt b atn (ns.drop jn) p3∧atn≤b.length) (fun (jn:Nat) (atn:Nat) (xn:Sl tyRec 101) => ns.length - jn) 0 ata Sl.nil (⟨Nat.zero_le _,rfl,(by rw [henda]; exact hA3),hba⟩) ⟨rfl,rfl,rfl,rfl,rfl,rfl,rfl,rfl,rfl,rfl,trivial⟩ rfl ?_
   rintro jn atn xn ⟨hjn,hxn,hln,hbn⟩ ihL4
   have hcapn:=Own.cap_le xn.own
   have hxln:=congrArg List.length hxn
   rw [List.length_take] at hxln
   refine At.seq<|At.region<|AtL.lss zg0 rfl rfl rfl<|AtL.done<|At.seq<|At.condD rfl ?_ ?_
   ·intro hc7
    refine At.skip<|At.seq<|At.block<|At.seq ?_
    exfalso; omega
   ·intro hc7
    refine At.exit rfl<|At.inBlock<|At.region ?_
    refine AtL.add (z:=2) zg0 rfl rfl rfl kI<|AtL.move zg0 rfl rfl<|AtL.done<|At.again<|At.seq<|At.region ?_
    refine AtL.lss zg0 rfl rfl rfl<|AtL.done<|At.seq<|At.condT rfl<|At.skip<|At.seq ?_
    refine At.block<|At.seq<|At.region<|AtL.move zg0 rfl rfl<|AtL.ofIs (Do.indexAny (v:=.pointer (some ⟨b1,5,none⟩)) rfl rfl (fun w => by kernel_rfl)) zg0 rfl<|AtL.assign zg0 rfl rfl ?_
    refine AtL.assign zg0 rfl rfl<|AtL.done<|At.seq<|At.region<|AtL.move zg0 rfl rfl ?_
    refine AtL.add (z:=5) zg0 rfl rfl rfl kI<|AtL.indexArrB 5 Tryz.underlying163 zan zg0 rfl rfl rfl rfl rfl rfl<|AtL.load zab zg0 rfl rfl (Cell.own 5 0 rfl rfl rfl)<|AtL.move zg0 rfl rfl<|AtL.done<|At.block ?_
    have hendn:atn=p3:=by have h9:=hln; rw [List.drop_eq_nil_of_le kW] at h9; exact h9
    refine At.nil<|At.pick (H':=[]::xq.s::xa.s::xn.s::[(b1,.cells #[.int .i64 id,.int .i64 flags,.slice xq.A xq.l.length xq.C,.slice xa.A xa.l.length xa.C,.slice xn.A xn.l.length xn.C,.slice none 0 0] 78 (0,0))]::[(b2,.cells #[.int .i64 0,.int .i64 0] 82 (0,0))]::[(b3,.cells #[.int .i64 id,.int .i64 flags,.int .i64 (qs.length:Int),.int .i64 (an.length:Int),.int .i64 (ns.length:Int),.int .i64 (ar.length:Int)] 163 (0,0))]::H) [0,2,3,1,4,5,6] 7 rfl rfl ?_
    refine At.loop3 (fun (jr:Nat) (atr:Nat) (xr:Sl tyRec 101) => [(0,.slice A b.length C),(2,.pointer (some ⟨b1,0,none⟩)),(3,.pointer (some ⟨b2,0,none⟩)),(4,.pointer (some ⟨b3,0,none⟩)),(5,.int .i64 (atr:Int)),(11,.pointer (some ⟨b1,5,none⟩)),(73,.agg #[.pointer (some ⟨b1,3,none⟩),.pointer (some ⟨b1,4,none⟩),.pointer (some ⟨b1,5,none⟩)]),(74,.int .i64 2),(81,.int .i64 (ar.length:Int)),(82,.int .i64 (jr:Int))]) (fun (jr:Nat) (atr:Nat) (xr:Sl tyRec 101) => xr.s::xq.s::xa.s::xn.s::[(b1,.cells #[.int .i64 id,.int .i64 flags,.slice xq.A xq.l.length xq.C,.slice xa.A xa.l.length xa.C,.slice xn.A xn.l.length xn.C,.slice xr.A xr.l.length xr.C] 78 (0,0))]::[(b2,.cells #[.int .i64 0,.int .i64 0] 82 (0,0))]::[(b3,.cells #[.int .i64 id,.int .i64 flags,.int .i64 (qs.length:Int),.int .i64 (an.length:Int),.int .i64 (ns.length:Int),.int .i64 (ar.length:Int)] 163 (0,0))]::H) (fun (jr:Nat) (atr:Nat) (xr:Sl tyRec 101) => jr≤ar.length∧xr.l=ar.take jr∧LAt RAt b atr (ar.drop jr) b.length∧atr≤b.length) (fun (jr:Nat) (atr:Nat) (xr:Sl tyRec 101) => ar.length - jr) 0 atn Sl.nil (⟨Nat.zero_le _,rfl,(by rw [hendn]; exact hA4),hbn⟩) ⟨rfl,rfl,rfl,rfl,rfl,rfl,rfl,rfl,rfl,rfl,trivial⟩ rfl ?_
    rintro jr atr xr ⟨hjr,hxr,hlr,hbr⟩ ihL4
    have hcapr:=Own.cap_le xr.own
    have hxlr:=congrArg List.length hxr
    rw [List.length_take] at hxlr
    refine At.seq<|At.region<|AtL.lss zg0 rfl rfl rfl<|AtL.done<|At.seq<|At.condD rfl ?_ ?_
    ·intro hc7
     refine At.skip<|At.seq<|At.block<|At.seq ?_
     exfalso; omega
    ·intro hc7
     refine At.exit rfl<|At.inBlock<|At.region ?_
     refine AtL.add (z:=3) zg0 rfl rfl rfl kI<|AtL.move zg0 rfl rfl<|AtL.done<|At.again<|At.seq<|At.region ?_
     refine AtL.lss zg0 rfl rfl rfl<|AtL.done<|At.seq<|At.condF rfl<|At.exit rfl<|At.seq ?_
     refine At.seq ?_
     have hendr:atr=b.length:=by have h9:=hlr; rw [List.drop_eq_nil_of_le kW] at h9; exact h9
     refine At.region<|AtL.move zg0 rfl rfl<|AtL.move zg0 rfl rfl<|AtL.lenL Tryz.underlying22 zg0 rfl rfl<|AtL.nei zg0 rfl rfl rfl<|AtL.done ?_
     refine At.condIs false rfl (by rw [hendr]; simp)<|At.skip<|At.seq<|At.region<|AtL.loadN (cs:=[.int .i64 id,.int .i64 flags,.slice xq.A xq.l.length xq.C,.slice xa.A xa.l.length xa.C,.slice xn.A xn.l.length xn.C,.slice xr.A xr.l.length xr.C]) zfs zg0 rfl rfl rfl (cellsOwn 4 0 0 rfl rfl rfl)<|AtL.build (cs:=[.int .i64 0,.int .i64 0]) za8 zg0 rfl rfl rfl ?_
     refine AtL.store (H':=xr.s::xq.s::xa.s::xn.s::[(b1,.cells #[.int .i64 id,.int .i64 flags,.slice xq.A xq.l.length xq.C,.slice xa.A xa.l.length xa.C,.slice xn.A xn.l.length xn.C,.slice xr.A xr.l.length xr.C] 78 (0,0))]::[(b2,.cells #[.int .i64 0,.int .i64 0] 82 (0,0))]::[(b3,.cells #[.int .i64 id,.int .i64 flags,.int .i64 (qs.length:Int),.int .i64 (an.length:Int),.int .i64 (ns.length:Int),.int .i64 (ar.length:Int)] 163 (0,0))]::H) 4 0 tf_sz78 zg0 rfl rfl rfl rfl rfl rfl rfl rfl rfl<|AtL.store (H':=xr.s::xq.s::xa.s::xn.s::[(b1,.cells #[.int .i64 id,.int .i64 flags,.slice xq.A xq.l.length xq.C,.slice xa.A xa.l.length xa.C,.slice xn.A xn.l.length xn.C,.slice xr.A xr.l.length xr.C] 78 (0,0))]::[(b2,.cells #[.int .i64 0,.int .i64 0] 82 (0,0))]::[(b3,.cells #[.int .i64 id,.int .i64 flags,.int .i64 (qs.length:Int),.int .i64 (an.length:Int),.int .i64 (ns.length:Int),.int .i64 (ar.length:Int)] 163 (0,0))]::H) 5 0 zaF zg0 rfl rfl rfl rfl rfl rfl rfl rfl rfl<|AtL.done<|At.retU rfl<|Un.pick (H':=[(b2,.cells #[.int .i64 0,.int .i64 0] 82 (0,0))]::[(b1,.cells #[.int .i64 id,.int .i64 flags,.slice xq.A xq.l.length xq.C,.slice xa.A xa.l.length xa.C,.slice xn.A xn.l.length xn.C,.slice xr.A xr.l.length xr.C] 78 (0,0))]::xr.s::xq.s::xa.s::xn.s::[(b3,.cells #[.int .i64 id,.int .i64 flags,.int .i64 (qs.length:Int),.int .i64 (an.length:Int),.int .i64 (ns.length:Int),.int .i64 (ar.length:Int)] 163 (0,0))]::H) [5,4,0,1,2,3,6] 7 rfl rfl<|Un.defer tf_body80 rfl rfl mr1_ok ?_
     rintro _ _ ⟨rfl,rfl⟩
     exact Un.leftP (vs:=[.agg #[.int .i64 id,.int .i64 flags,.slice xq.A xq.l.length xq.C,.slice xa.A xa.l.length xa.C,.slice xn.A xn.l.length xn.C,.slice xr.A xr.l.length xr.C],.agg #[.int .i64 0,.int .i64 0]]) [3,4,5,2] 7 rfl rfl Tryz.func32 rfl ⟨⟨_,rfl,LoadsTo.agg (cs:=[.int .i64 id,.int .i64 flags,.slice xq.A xq.l.length xq.C,.slice xa.A xa.l.length xa.C,.slice xn.A xn.l.length xn.C,.slice xr.A xr.l.length xr.C]) zfs rfl (cellsOwn 1 0 0 rfl rfl rfl)⟩,⟨_,rfl,LoadsTo.agg (cs:=[.int .i64 0,.int .i64 0]) zaK rfl (cellsOwn 0 0 0 rfl rfl rfl)⟩,trivial⟩ (⟨xq,xa,xn,xr,(by rw [hxq,List.take_of_length_le kW]),(by rw [hxa,List.take_of_length_le kW]),(by rw [hxn,List.take_of_length_le kW]),(by rw [hxr,List.take_of_length_le kW]),rfl,rfl⟩)
set_option maxRecDepth 100000
set_option maxHeartbeats 1000000 in
theorem read1_ok {w0:World}{base:Nat}{H:List Seg}{xb:Nat}{y:Sl tyB 5}{id flags:Int}{qs:List (List UInt8×Int×Int)}{an ns ar:List (List UInt8×Int×Int×Int×List UInt8)}(hM:MOk id flags qs an ns ar) (hA:MAt y.l id flags qs an ns ar) (h0:an.length=0∧ns.length=0∧ar.length=0) (hq9:qs.length≤1000) (T10:Tab10 w0 base) :
  SCalls Tryz.prog 193 [.pointer (some ⟨xb,0,none⟩)] w0 base (y.s::[(xb,.cells #[.slice y.A y.l.length y.C] 22 (0,0))]::H) (fun v H' => ∃ x:Sl tyS 9,x.l=readL id flags qs∧v = .slice x.A x.l.length x.C∧H' = x.s::y.s::[(xb,.cells #[.slice y.A y.l.length y.C] 22 (0,0))]::H):=by
 have hM1:=hM.1; have hM2:=hM.2.1; have hM3:=hM.2.2.1
 obtain ⟨h0a,h0n,h0r⟩:=h0
 have h0:an.length=0∧ns.length=0∧ar.length=0:=⟨h0a,h0n,h0r⟩
 have hcy:=Own.cap_le y.own
 refine SCalls.of_walk (n:=125) Tryz.func193 rfl rfl rfl fun cs => ?_
 refine At.seq<|At.region<|AtL.assign zg0 rfl rfl<|AtL.done<|At.seq<|At.region ?_
 refine AtL.load zah zg0 rfl rfl (Cell.own 1 0 rfl rfl rfl)<|AtL.call tf_body32 zg0 rfl rfl (msgread_ok (y.own.rd (i:=0) rfl) hM hA h0) ?_
 rintro _ _ ⟨⟨A1,C2,l3,s4,o5⟩,⟨A6,C7,l8,s9,o10⟩,⟨A11,C12,l13,s14,o15⟩,⟨A16,C17,l18,s19,o20⟩,hm21,hm22,hm23,hm24,rfl,rfl⟩
 obtain rfl:qs=l3:=hm21.symm
 obtain rfl:an=l8:=hm22.symm
 obtain rfl:ns=l13:=hm23.symm
 obtain rfl:ar=l18:=hm24.symm
 refine AtL.move zg0 rfl rfl<|AtL.extract zg0 rfl rfl rfl<|AtL.extract zg0 rfl rfl rfl<|AtL.alloc tf_zero78 (cs:=#[.int .i64 0,.int .i64 0,.slice none 0 0,.slice none 0 0,.slice none 0 0,.slice none 0 0]) rfl zg0 rfl ?_
 intro b25
 refine AtL.alloc zaw (cs:=#[.int .i64 0,.int .i64 0]) rfl zg0 rfl ?_
 intro b26
 refine AtL.store (H':=[(b26,.cells #[.int .i64 0,.int .i64 0] 82 (0,0))]::[(b25,.cells #[.int .i64 id,.int .i64 flags,.slice A1 qs.length C2,.slice A6 an.length C7,.slice A11 ns.length C12,.slice A16 ar.length C17] 78 (0,0))]::s4::s9::s14::s19::y.s::[(xb,.cells #[.slice y.A y.l.length y.C] 22 (0,0))]::H) 1 0 tf_sz78 zg0 rfl rfl rfl rfl rfl rfl rfl rfl rfl<|AtL.store (H':=[(b26,.cells #[.int .i64 0,.int .i64 0] 82 (0,0))]::[(b25,.cells #[.int .i64 id,.int .i64 flags,.slice A1 qs.length C2,.slice A6 an.length C7,.slice A11 ns.length C12,.slice A16 ar.length C17] 78 (0,0))]::s4::s9::s14::s19::y.s::[(xb,.cells #[.slice y.A y.l.length y.C] 22 (0,0))]::H) 0 0 zaF zg0 rfl rfl rfl rfl rfl rfl rfl rfl rfl<|AtL.done<|At.seq<|At.seq<|At.region ?_
 refine AtL.fieldAddrB zaS zg0 rfl rfl rfl<|AtL.load zak zg0 rfl rfl (Cell.own 0 0 rfl rfl rfl)<|AtL.nei zg0 rfl rfl rfl<|AtL.done<|At.condF rfl<|At.skip ?_
 refine At.seq<|At.region<|AtL.makeIface Tryz.underlying9 rfl zg0 rfl rfl<|AtL.fieldAddrB zdk zg0 rfl rfl rfl<|AtL.load zab zg0 rfl rfl (Cell.own 1 0 rfl rfl rfl)<|AtL.makeIface Tryz.underlying3 rfl zg0 rfl rfl ?_
 refine AtL.makeIface Tryz.underlying9 rfl zg0 rfl rfl<|AtL.fieldAddrB zdj zg0 rfl rfl rfl<|AtL.load zab zg0 rfl rfl (Cell.own 1 0 rfl rfl rfl)<|AtL.makeIface Tryz.underlying3 rfl zg0 rfl rfl<|AtL.buildSlice (cs:=[.iface 9 (str [109,101,115,115,97,103,101]),.iface 3 (.int .i64 id),.iface 9 (str [102,108,97,103,115]),.iface 3 (.int .i64 flags)]) Tryz.underlying460 tf_zero20 zb1 rfl rfl zg0 rfl rfl rfl ?_
 intro b27
 refine AtL.call zeW zg0 rfl rfl (say_a kI ⟨by omega,by omega⟩ kI ⟨by omega,by omega⟩ T10) ?_
 rintro _ _ ⟨rfl,rfl⟩
 refine AtL.buildSlice (cs:=[str (Lib.join [[109,101,115,115,97,103,101],Lib.itoa id,[102,108,97,103,115],Lib.itoa flags] [32])]) Tryz.underlying67 za0 zaE rfl rfl zg0 rfl rfl rfl ?_
 intro b28
 refine AtL.own1 tyS (l:=([Lib.join [[109,101,115,115,97,103,101],Lib.itoa id,[102,108,97,103,115],Lib.itoa flags] [32]]:List (List UInt8))) rfl rfl kP ?_
 intro s29 o30
 refine AtL.assign zg0 rfl rfl<|AtL.done<|At.seq<|At.seq<|At.region<|AtL.fieldAddrB zbM zg0 rfl rfl rfl ?_
 refine AtL.load zb5 zg0 rfl rfl (Cell.own 3 0 rfl rfl rfl)<|AtL.lenL Tryz.underlying73 zg0 rfl rfl<|AtL.move zg0 rfl rfl<|AtL.done<|At.block<|At.pick (H':=s29::s4::s9::s14::s19::y.s::[(b25,.cells #[.int .i64 id,.int .i64 flags,.slice A1 qs.length C2,.slice A6 an.length C7,.slice A11 ns.length C12,.slice A16 ar.length C17] 78 (0,0))]::[(xb,.cells #[.slice y.A y.l.length y.C] 22 (0,0))]::H) [0,4,5,6,7,8,3,9] 10 rfl rfl ?_
 refine At.loop2 (fun (j:Nat) (x:Sl tyS 9) => [(2,.pointer (some ⟨b25,0,none⟩)),(4,.slice x.A x.l.length x.C),(45,.slice A1 qs.length C2),(46,.int .i64 (qs.length:Int)),(47,.int .i64 (j:Int))]) (fun (j:Nat) (x:Sl tyS 9) => x.s::s4::s9::s14::s19::y.s::[(b25,.cells #[.int .i64 id,.int .i64 flags,.slice A1 qs.length C2,.slice A6 an.length C7,.slice A11 ns.length C12,.slice A16 ar.length C17] 78 (0,0))]::[(xb,.cells #[.slice y.A y.l.length y.C] 22 (0,0))]::H) (fun (j:Nat) (x:Sl tyS 9) => j≤qs.length∧x.l=[Lib.join [[109,101,115,115,97,103,101],Lib.itoa id,[102,108,97,103,115],Lib.itoa flags] [32]]++(qs.take j).map lineQ) (fun (j:Nat) (x:Sl tyS 9) => qs.length - j) 0 (⟨(some ⟨b28,0,none⟩),1,[Lib.join [[109,101,115,115,97,103,101],Lib.itoa id,[102,108,97,103,115],Lib.itoa flags] [32]],s29,o30⟩) (⟨Nat.zero_le _,by simp⟩) ⟨rfl,rfl,rfl,rfl,rfl,trivial⟩ rfl ?_
 rintro j x ⟨hj,hxo⟩ ihL1
 have hxl:=congrArg List.length hxo
 simp only [List.length_append,List.length_map,List.length_take,List.length_cons,List.length_nil] at hxl
 have hcx:=Own.cap_le x.own
 refine At.seq<|At.region<|AtL.lss zg0 rfl rfl rfl<|AtL.done<|At.seq<|At.condD rfl ?_ ?_
 ·intro hc2
  refine At.skip<|At.seq<|At.block<|At.seq<|At.region ?_
  refine AtL.indexL j (o5.rd (i:=1) rfl) Tryz.underlying73 zb0 zg0 rfl rfl rfl rfl kW ?_
  refine AtL.loadE (n:=0) (o5.rd (i:=1) rfl) (getD_some (([],0,0):List UInt8×Int×Int) kW) rfl zci zg0 rfl rfl<|AtL.alloc zbL (cs:=#[str [],.int .i64 0,.int .i64 0]) rfl zg0 rfl ?_
  intro b31
  refine AtL.store (H':=[(b31,.cells #[str ((qs.getD j (([],0,0):List UInt8×Int×Int)).1),.int .i64 ((qs.getD j (([],0,0):List UInt8×Int×Int)).2.1),.int .i64 ((qs.getD j (([],0,0):List UInt8×Int×Int)).2.2)] 86 (0,0))]::x.s::s4::s9::s14::s19::y.s::[(b25,.cells #[.int .i64 id,.int .i64 flags,.slice A1 qs.length C2,.slice A6 an.length C7,.slice A11 ns.length C12,.slice A16 ar.length C17] 78 (0,0))]::[(xb,.cells #[.slice y.A y.l.length y.C] 22 (0,0))]::H) 0 0 zb0 zg0 rfl rfl rfl rfl rfl rfl rfl rfl rfl<|AtL.done<|At.seq ?_
  have hqk:=hM.2.2.2.1 _ (zbj (l:=qs) (i:=j) (d:=(([],0,0):List UInt8×Int×Int)) kW)
  have hqk1:=hqk.2.1; have hqk2:=hqk.2.2
  refine At.region<|AtL.fieldAddrB zb4 zg0 rfl rfl rfl<|AtL.load zad zg0 rfl rfl (Cell.own 0 0 rfl rfl rfl)<|AtL.call tf_body194 zg0 rfl rfl (ntext_ok ((qs.getD j (([],0,0):List UInt8×Int×Int)).1) hqk.1) ?_
  rintro _ _ ⟨rfl,rfl⟩
  refine AtL.move zg0 rfl rfl<|AtL.extract zg0 rfl rfl rfl<|AtL.extract zg0 rfl rfl rfl<|AtL.assign zg0 rfl rfl<|AtL.assign zg0 rfl rfl<|AtL.done ?_
  refine At.region<|AtL.move zg0 rfl rfl<|AtL.makeIface Tryz.underlying9 rfl zg0 rfl rfl<|AtL.move zg0 rfl rfl<|AtL.makeIface Tryz.underlying9 rfl zg0 rfl rfl<|AtL.fieldAddrB zcu zg0 rfl rfl rfl ?_
  refine AtL.load zab zg0 rfl rfl (Cell.own 0 0 rfl rfl rfl)<|AtL.makeIface Tryz.underlying3 rfl zg0 rfl rfl<|AtL.fieldAddrB zct zg0 rfl rfl rfl<|AtL.load zab zg0 rfl rfl (Cell.own 0 0 rfl rfl rfl)<|AtL.makeIface Tryz.underlying3 rfl zg0 rfl rfl<|AtL.buildSlice (cs:=[.iface 9 (str [97,115,107,115]),.iface 9 (str (textF (labOf ((qs.getD j (([],0,0):List UInt8×Int×Int)).1)))),.iface 3 (.int .i64 ((qs.getD j (([],0,0):List UInt8×Int×Int)).2.1)),.iface 3 (.int .i64 ((qs.getD j (([],0,0):List UInt8×Int×Int)).2.2))]) Tryz.underlying460 tf_zero20 zb1 rfl rfl zg0 rfl rfl rfl ?_
  intro b32
  refine AtL.call zeW zg0 rfl rfl (say_b kI (by have:=txtN_len hqk.1; omega) ⟨by omega,by omega⟩ ⟨by omega,by omega⟩ T10) ?_
  rintro _ _ ⟨rfl,rfl⟩
  refine AtL.buildSlice (cs:=[str (lineQ (qs.getD j (([],0,0):List UInt8×Int×Int)))]) Tryz.underlying67 za0 zaE rfl rfl zg0 rfl rfl rfl ?_
  intro b33
  refine AtL.own1 tyS (l:=([lineQ (qs.getD j (([],0,0):List UInt8×Int×Int))]:List (List UInt8))) rfl rfl kP ?_
  intro s34 o35
  refine AtL.append (l:=x.l) (news:=[lineQ (qs.getD j (([],0,0):List UInt8×Int×Int))]) 3 zbN rfl x.own (o35.rd (i:=0) rfl) kE zg0 rfl rfl rfl ?_
  intro A36 C37 s38 o39
  refine AtL.assign zg0 rfl rfl<|AtL.done<|At.inBlock<|At.region ?_
  refine AtL.add (z:=(j:Int) + 1) zg0 rfl rfl rfl (w64 kW kW)<|AtL.move zg0 rfl rfl<|AtL.done<|At.pick (H':=s38::s4::s9::s14::s19::y.s::[(b25,.cells #[.int .i64 id,.int .i64 flags,.slice A1 qs.length C2,.slice A6 an.length C7,.slice A11 ns.length C12,.slice A16 ar.length C17] 78 (0,0))]::[(xb,.cells #[.slice y.A y.l.length y.C] 22 (0,0))]::H) [3,4,5,6,7,8,9,10] 11 rfl rfl ?_
  refine ihL1 (j + 1) (⟨A36,C37,x.l++([lineQ (qs.getD j (([],0,0):List UInt8×Int×Int))]),s38,o39⟩) (⟨by omega,by dsimp only; rw [hxo,List.take_succ_eq_append_getElem kW,List.map_append]; simp [List.getD,show j < qs.length by omega]⟩) kW _ ?_
  exact ⟨rfl,kQ,rfl,rfl,kQ,trivial⟩
 ·intro hc2
  refine At.exit rfl<|At.seq<|At.seq<|At.region<|AtL.fieldAddrB zdi zg0 rfl rfl rfl<|AtL.load zaq zg0 rfl rfl (Cell.own 6 0 rfl rfl rfl) ?_
  refine AtL.fieldAddrB zdh zg0 rfl rfl rfl<|AtL.load zaq zg0 rfl rfl (Cell.own 6 0 rfl rfl rfl)<|AtL.fieldAddrB zdg zg0 rfl rfl rfl<|AtL.load zaq zg0 rfl rfl (Cell.own 6 0 rfl rfl rfl)<|AtL.buildSlice (cs:=[.slice A6 an.length C7,.slice A11 ns.length C12,.slice A16 ar.length C17]) Tryz.underlying356 tf_zero76 zfq rfl rfl zg0 rfl rfl rfl ?_
  intro b40
  refine AtL.lenL Tryz.underlying356 zg0 rfl rfl<|AtL.move zg0 rfl rfl<|AtL.done<|At.block<|At.unroll<|At.seq ?_
  refine At.region<|AtL.lss zg0 rfl rfl rfl<|AtL.done<|At.seq<|At.condT rfl<|At.skip ?_
  refine At.seq<|At.block<|At.seq<|At.region<|AtL.move zg0 rfl rfl<|AtL.indexB 0 Tryz.underlying356 zfq zg0 rfl rfl rfl rfl rfl rfl ?_
  refine AtL.load zaq zg0 rfl rfl (Cell.own 0 0 rfl rfl rfl)<|AtL.assign zg0 rfl rfl<|AtL.assign zg0 rfl rfl<|AtL.done<|At.seq<|At.region ?_
  refine AtL.move zg0 rfl rfl<|AtL.lenL Tryz.underlying76 zg0 rfl rfl<|AtL.move zg0 rfl rfl<|AtL.done<|At.block<|At.unroll ?_
  refine At.seq<|At.region<|AtL.lss zg0 rfl rfl rfl<|AtL.done<|At.seq ?_
  refine At.condIs false rfl (decide_eq_false kW)<|At.exit rfl<|At.inBlock<|At.region ?_
  refine AtL.add (z:=1) zg0 rfl rfl rfl kI<|AtL.move zg0 rfl rfl<|AtL.done<|At.again<|At.seq<|At.region ?_
  refine AtL.lss zg0 rfl rfl rfl<|AtL.done<|At.seq<|At.condT rfl<|At.skip<|At.seq ?_
  refine At.block<|At.seq<|At.region<|AtL.move zg0 rfl rfl<|AtL.indexB 1 Tryz.underlying356 zfq zg0 rfl rfl rfl rfl rfl rfl<|AtL.load zaq zg0 rfl rfl (Cell.own 0 0 rfl rfl rfl) ?_
  refine AtL.assign zg0 rfl rfl<|AtL.assign zg0 rfl rfl<|AtL.done<|At.seq<|At.region<|AtL.move zg0 rfl rfl ?_
  refine AtL.lenL Tryz.underlying76 zg0 rfl rfl<|AtL.move zg0 rfl rfl<|AtL.done<|At.block<|At.unroll<|At.seq ?_
  refine At.region<|AtL.lss zg0 rfl rfl rfl<|AtL.done<|At.seq ?_
  refine At.condIs false rfl (decide_eq_false kW)<|At.exit rfl<|At.inBlock<|At.region ?_
  refine AtL.add (z:=2) zg0 rfl rfl rfl kI<|AtL.move zg0 rfl rfl<|AtL.done<|At.again<|At.seq<|At.region ?_
  refine AtL.lss zg0 rfl rfl rfl<|AtL.done<|At.seq<|At.condT rfl<|At.skip<|At.seq ?_
  refine At.block<|At.seq<|At.region<|AtL.move zg0 rfl rfl<|AtL.indexB 2 Tryz.underlying356 zfq zg0 rfl rfl rfl rfl rfl rfl<|AtL.load zaq zg0 rfl rfl (Cell.own 0 0 rfl rfl rfl) ?_
  refine AtL.assign zg0 rfl rfl<|AtL.assign zg0 rfl rfl<|AtL.done<|At.seq<|At.region<|AtL.move zg0 rfl rfl ?_
  refine AtL.lenL Tryz.underlying76 zg0 rfl rfl<|AtL.move zg0 rfl rfl<|AtL.done<|At.block<|At.unroll<|At.seq ?_
  refine At.region<|AtL.lss zg0 rfl rfl rfl<|AtL.done<|At.seq ?_
  refine At.condIs false rfl (decide_eq_false kW)<|At.exit rfl<|At.inBlock<|At.region ?_
  refine AtL.add (z:=3) zg0 rfl rfl rfl kI<|AtL.move zg0 rfl rfl<|AtL.done<|At.again<|At.seq<|At.region ?_
  refine AtL.lss zg0 rfl rfl rfl<|AtL.done<|At.seq<|At.condF rfl<|At.exit rfl<|At.seq ?_
  refine At.region<|AtL.move zg0 rfl rfl<|AtL.assign zg0 rfl rfl<|AtL.done<|At.pick [1,6,8] 9 rfl rfl ?_
  exact At.ret Tryz.func193 rfl rfl (⟨x,(by show x.l=_; rw [hxo,List.take_of_length_le kW]; rfl),rfl,rfl⟩)
set_option maxRecDepth 100000
theorem zbr {w0:World}{base:Nat}{H:List Seg}{k:Int} :
  SCalls Tryz.prog 113 [.int .i64 k] w0 base (H) (fun v H' => ∃ b:Nat,v = .func (.func 195) #[] #[.pointer (some ⟨b,0,none⟩)]∧H' = [(b,.cells #[.int .i64 k] 3 (0,0))]::H):=by
 refine SCalls.of_walk (n:=4) Tryz.func113 rfl rfl rfl fun cs => ?_
 refine At.seq<|At.region<|AtL.box (cs:=#[.int .i64 k]) rfl zg0 rfl rfl ?_
 intro b1
 refine AtL.assign zg0 rfl rfl<|AtL.done<|At.seq<|At.region<|AtL.makeFunc zg0 rfl rfl rfl<|AtL.assign zg0 rfl rfl ?_
 refine AtL.done ?_
 exact At.ret Tryz.func113 rfl rfl (⟨b1,rfl,rfl⟩)
theorem lines_ok {w0:World}{base:Nat}{H:List Seg}  :
  SCalls Tryz.prog 48 [] w0 base (H) (fun v H' => ∃ (b:Nat) (L:List (List UInt8×Value)),atK [114,101,97,100] L=some (.func (.func 112) #[] #[])∧v = .map (some b)∧H' = [(b,mapO kyS (fun x:Value => x) L)]::H):=by
 refine SCalls.of_walk (n:=13) Tryz.func48 rfl rfl rfl fun cs => ?_
 refine At.seq<|At.region<|AtL.assign zg0 rfl rfl<|AtL.done<|At.seq<|At.region ?_
 refine AtL.makeMap kyS (fun x:Value => x) zg0 rfl ?_
 intro b1
 refine AtL.insert (Q:=kyS) (tv:=(fun x:Value => x)) (a:=[104,105,110,116]) (v:=(.func (.func 104) #[] #[])) (H':=[(b1,mapO kyS (fun x:Value => x) ([([104,105,110,116],(.func (.func 104) #[] #[]))]))]::H) 0 0 Tryz.underlying120 Tryz.underlying9 rfl zg0 rfl rfl kS rfl rfl rfl rfl ?_
 refine AtL.insert (Q:=kyS) (tv:=(fun x:Value => x)) (a:=[102,114,111,110,116]) (v:=(.func (.func 105) #[] #[])) (H':=[(b1,mapO kyS (fun x:Value => x) ([([104,105,110,116],(.func (.func 104) #[] #[])),([102,114,111,110,116],(.func (.func 105) #[] #[]))]))]::H) 0 0 Tryz.underlying120 Tryz.underlying9 rfl zg0 rfl rfl kS rfl rfl rfl rfl ?_
 refine AtL.insert (Q:=kyS) (tv:=(fun x:Value => x)) (a:=[97,115,107]) (v:=(.func (.func 106) #[] #[])) (H':=[(b1,mapO kyS (fun x:Value => x) ([([104,105,110,116],(.func (.func 104) #[] #[])),([102,114,111,110,116],(.func (.func 105) #[] #[])),([97,115,107],(.func (.func 106) #[] #[]))]))]::H) 0 0 Tryz.underlying120 Tryz.underlying9 rfl zg0 rfl rfl kS rfl rfl rfl rfl ?_
 refine AtL.insert (Q:=kyS) (tv:=(fun x:Value => x)) (a:=[115,99,114,105,112,116]) (v:=(.func (.func 107) #[] #[])) (H':=[(b1,mapO kyS (fun x:Value => x) ([([104,105,110,116],(.func (.func 104) #[] #[])),([102,114,111,110,116],(.func (.func 105) #[] #[])),([97,115,107],(.func (.func 106) #[] #[])),([115,99,114,105,112,116],(.func (.func 107) #[] #[]))]))]::H) 0 0 Tryz.underlying120 Tryz.underlying9 rfl zg0 rfl rfl kS rfl rfl rfl rfl ?_
 refine AtL.insert (Q:=kyS) (tv:=(fun x:Value => x)) (a:=[111,117,116]) (v:=(.func (.func 108) #[] #[])) (H':=[(b1,mapO kyS (fun x:Value => x) ([([104,105,110,116],(.func (.func 104) #[] #[])),([102,114,111,110,116],(.func (.func 105) #[] #[])),([97,115,107],(.func (.func 106) #[] #[])),([115,99,114,105,112,116],(.func (.func 107) #[] #[])),([111,117,116],(.func (.func 108) #[] #[]))]))]::H) 0 0 Tryz.underlying120 Tryz.underlying9 rfl zg0 rfl rfl kS rfl rfl rfl rfl ?_
 refine AtL.insert (Q:=kyS) (tv:=(fun x:Value => x)) (a:=[105,110,102,111]) (v:=(.func (.func 109) #[] #[])) (H':=[(b1,mapO kyS (fun x:Value => x) ([([104,105,110,116],(.func (.func 104) #[] #[])),([102,114,111,110,116],(.func (.func 105) #[] #[])),([97,115,107],(.func (.func 106) #[] #[])),([115,99,114,105,112,116],(.func (.func 107) #[] #[])),([111,117,116],(.func (.func 108) #[] #[])),([105,110,102,111],(.func (.func 109) #[] #[]))]))]::H) 0 0 Tryz.underlying120 Tryz.underlying9 rfl zg0 rfl rfl kS rfl rfl rfl rfl ?_
 refine AtL.insert (Q:=kyS) (tv:=(fun x:Value => x)) (a:=[99,111,117,110,116,115]) (v:=(.func (.func 110) #[] #[])) (H':=[(b1,mapO kyS (fun x:Value => x) ([([104,105,110,116],(.func (.func 104) #[] #[])),([102,114,111,110,116],(.func (.func 105) #[] #[])),([97,115,107],(.func (.func 106) #[] #[])),([115,99,114,105,112,116],(.func (.func 107) #[] #[])),([111,117,116],(.func (.func 108) #[] #[])),([105,110,102,111],(.func (.func 109) #[] #[])),([99,111,117,110,116,115],(.func (.func 110) #[] #[]))]))]::H) 0 0 Tryz.underlying120 Tryz.underlying9 rfl zg0 rfl rfl kS rfl rfl rfl rfl ?_
 refine AtL.insert (Q:=kyS) (tv:=(fun x:Value => x)) (a:=[99,111,110,110]) (v:=(.func (.func 111) #[] #[])) (H':=[(b1,mapO kyS (fun x:Value => x) ([([104,105,110,116],(.func (.func 104) #[] #[])),([102,114,111,110,116],(.func (.func 105) #[] #[])),([97,115,107],(.func (.func 106) #[] #[])),([115,99,114,105,112,116],(.func (.func 107) #[] #[])),([111,117,116],(.func (.func 108) #[] #[])),([105,110,102,111],(.func (.func 109) #[] #[])),([99,111,117,110,116,115],(.func (.func 110) #[] #[])),([99,111,110,110],(.func (.func 111) #[] #[]))]))]::H) 0 0 Tryz.underlying120 Tryz.underlying9 rfl zg0 rfl rfl kS rfl rfl rfl rfl ?_
 refine AtL.insert (Q:=kyS) (tv:=(fun x:Value => x)) (a:=[114,101,97,100]) (v:=(.func (.func 112) #[] #[])) (H':=[(b1,mapO kyS (fun x:Value => x) ([([104,105,110,116],(.func (.func 104) #[] #[])),([102,114,111,110,116],(.func (.func 105) #[] #[])),([97,115,107],(.func (.func 106) #[] #[])),([115,99,114,105,112,116],(.func (.func 107) #[] #[])),([111,117,116],(.func (.func 108) #[] #[])),([105,110,102,111],(.func (.func 109) #[] #[])),([99,111,117,110,116,115],(.func (.func 110) #[] #[])),([99,111,110,110],(.func (.func 111) #[] #[])),([114,101,97,100],(.func (.func 112) #[] #[]))]))]::H) 0 0 Tryz.underlying120 Tryz.underlying9 rfl zg0 rfl rfl kS rfl rfl rfl rfl<|AtL.call zaO zg0 rfl rfl (zbr (k:=1)) ?_
 rintro _ _ ⟨b2,rfl,rfl⟩
 refine AtL.insert (Q:=kyS) (tv:=(fun x:Value => x)) (a:=[100,97,116,97,103,114,97,109]) (v:=(.func (.func 195) #[] #[.pointer (some ⟨b2,0,none⟩)])) (H':=[(b2,.cells #[.int .i64 1] 3 (0,0))]::[(b1,mapO kyS (fun x:Value => x) ([([104,105,110,116],(.func (.func 104) #[] #[])),([102,114,111,110,116],(.func (.func 105) #[] #[])),([97,115,107],(.func (.func 106) #[] #[])),([115,99,114,105,112,116],(.func (.func 107) #[] #[])),([111,117,116],(.func (.func 108) #[] #[])),([105,110,102,111],(.func (.func 109) #[] #[])),([99,111,117,110,116,115],(.func (.func 110) #[] #[])),([99,111,110,110],(.func (.func 111) #[] #[])),([114,101,97,100],(.func (.func 112) #[] #[])),([100,97,116,97,103,114,97,109],(.func (.func 195) #[] #[.pointer (some ⟨b2,0,none⟩)]))]))]::H) 1 0 Tryz.underlying120 Tryz.underlying9 rfl zg0 rfl rfl kS rfl rfl rfl rfl<|AtL.call zaO zg0 rfl rfl (zbr (k:=8)) ?_
 rintro _ _ ⟨b3,rfl,rfl⟩
 refine AtL.insert (Q:=kyS) (tv:=(fun x:Value => x)) (a:=[117,112,115,116,114,101,97,109]) (v:=(.func (.func 195) #[] #[.pointer (some ⟨b3,0,none⟩)])) (H':=[(b3,.cells #[.int .i64 8] 3 (0,0))]::[(b2,.cells #[.int .i64 1] 3 (0,0))]::[(b1,mapO kyS (fun x:Value => x) ([([104,105,110,116],(.func (.func 104) #[] #[])),([102,114,111,110,116],(.func (.func 105) #[] #[])),([97,115,107],(.func (.func 106) #[] #[])),([115,99,114,105,112,116],(.func (.func 107) #[] #[])),([111,117,116],(.func (.func 108) #[] #[])),([105,110,102,111],(.func (.func 109) #[] #[])),([99,111,117,110,116,115],(.func (.func 110) #[] #[])),([99,111,110,110],(.func (.func 111) #[] #[])),([114,101,97,100],(.func (.func 112) #[] #[])),([100,97,116,97,103,114,97,109],(.func (.func 195) #[] #[.pointer (some ⟨b2,0,none⟩)])),([117,112,115,116,114,101,97,109],(.func (.func 195) #[] #[.pointer (some ⟨b3,0,none⟩)]))]))]::H) 2 0 Tryz.underlying120 Tryz.underlying9 rfl zg0 rfl rfl kS rfl rfl rfl rfl<|AtL.call zaO zg0 rfl rfl (zbr (k:=3)) ?_
 rintro _ _ ⟨b4,rfl,rfl⟩
 refine AtL.insert (Q:=kyS) (tv:=(fun x:Value => x)) (a:=[98,121,116,101,115]) (v:=(.func (.func 195) #[] #[.pointer (some ⟨b4,0,none⟩)])) (H':=[(b4,.cells #[.int .i64 3] 3 (0,0))]::[(b3,.cells #[.int .i64 8] 3 (0,0))]::[(b2,.cells #[.int .i64 1] 3 (0,0))]::[(b1,mapO kyS (fun x:Value => x) ([([104,105,110,116],(.func (.func 104) #[] #[])),([102,114,111,110,116],(.func (.func 105) #[] #[])),([97,115,107],(.func (.func 106) #[] #[])),([115,99,114,105,112,116],(.func (.func 107) #[] #[])),([111,117,116],(.func (.func 108) #[] #[])),([105,110,102,111],(.func (.func 109) #[] #[])),([99,111,117,110,116,115],(.func (.func 110) #[] #[])),([99,111,110,110],(.func (.func 111) #[] #[])),([114,101,97,100],(.func (.func 112) #[] #[])),([100,97,116,97,103,114,97,109],(.func (.func 195) #[] #[.pointer (some ⟨b2,0,none⟩)])),([117,112,115,116,114,101,97,109],(.func (.func 195) #[] #[.pointer (some ⟨b3,0,none⟩)])),([98,121,116,101,115],(.func (.func 195) #[] #[.pointer (some ⟨b4,0,none⟩)]))]))]::H) 3 0 Tryz.underlying120 Tryz.underlying9 rfl zg0 rfl rfl kS rfl rfl rfl rfl<|AtL.call zaO zg0 rfl rfl (zbr (k:=9)) ?_
 rintro _ _ ⟨b5,rfl,rfl⟩
 refine AtL.insert (Q:=kyS) (tv:=(fun x:Value => x)) (a:=[98,117,105,108,116]) (v:=(.func (.func 195) #[] #[.pointer (some ⟨b5,0,none⟩)])) (H':=[(b5,.cells #[.int .i64 9] 3 (0,0))]::[(b4,.cells #[.int .i64 3] 3 (0,0))]::[(b3,.cells #[.int .i64 8] 3 (0,0))]::[(b2,.cells #[.int .i64 1] 3 (0,0))]::[(b1,mapO kyS (fun x:Value => x) ([([104,105,110,116],(.func (.func 104) #[] #[])),([102,114,111,110,116],(.func (.func 105) #[] #[])),([97,115,107],(.func (.func 106) #[] #[])),([115,99,114,105,112,116],(.func (.func 107) #[] #[])),([111,117,116],(.func (.func 108) #[] #[])),([105,110,102,111],(.func (.func 109) #[] #[])),([99,111,117,110,116,115],(.func (.func 110) #[] #[])),([99,111,110,110],(.func (.func 111) #[] #[])),([114,101,97,100],(.func (.func 112) #[] #[])),([100,97,116,97,103,114,97,109],(.func (.func 195) #[] #[.pointer (some ⟨b2,0,none⟩)])),([117,112,115,116,114,101,97,109],(.func (.func 195) #[] #[.pointer (some ⟨b3,0,none⟩)])),([98,121,116,101,115],(.func (.func 195) #[] #[.pointer (some ⟨b4,0,none⟩)])),([98,117,105,108,116],(.func (.func 195) #[] #[.pointer (some ⟨b5,0,none⟩)]))]))]::H) 4 0 Tryz.underlying120 Tryz.underlying9 rfl zg0 rfl rfl kS rfl rfl rfl rfl<|AtL.call zaO zg0 rfl rfl (zbr (k:=2)) ?_
 rintro _ _ ⟨b6,rfl,rfl⟩
 refine AtL.insert (Q:=kyS) (tv:=(fun x:Value => x)) (a:=[111,112,101,110]) (v:=(.func (.func 195) #[] #[.pointer (some ⟨b6,0,none⟩)])) (H':=[(b6,.cells #[.int .i64 2] 3 (0,0))]::[(b5,.cells #[.int .i64 9] 3 (0,0))]::[(b4,.cells #[.int .i64 3] 3 (0,0))]::[(b3,.cells #[.int .i64 8] 3 (0,0))]::[(b2,.cells #[.int .i64 1] 3 (0,0))]::[(b1,mapO kyS (fun x:Value => x) ([([104,105,110,116],(.func (.func 104) #[] #[])),([102,114,111,110,116],(.func (.func 105) #[] #[])),([97,115,107],(.func (.func 106) #[] #[])),([115,99,114,105,112,116],(.func (.func 107) #[] #[])),([111,117,116],(.func (.func 108) #[] #[])),([105,110,102,111],(.func (.func 109) #[] #[])),([99,111,117,110,116,115],(.func (.func 110) #[] #[])),([99,111,110,110],(.func (.func 111) #[] #[])),([114,101,97,100],(.func (.func 112) #[] #[])),([100,97,116,97,103,114,97,109],(.func (.func 195) #[] #[.pointer (some ⟨b2,0,none⟩)])),([117,112,115,116,114,101,97,109],(.func (.func 195) #[] #[.pointer (some ⟨b3,0,none⟩)])),([98,121,116,101,115],(.func (.func 195) #[] #[.pointer (some ⟨b4,0,none⟩)])),([98,117,105,108,116],(.func (.func 195) #[] #[.pointer (some ⟨b5,0,none⟩)])),([111,112,101,110],(.func (.func 195) #[] #[.pointer (some ⟨b6,0,none⟩)]))]))]::H) 5 0 Tryz.underlying120 Tryz.underlying9 rfl zg0 rfl rfl kS rfl rfl rfl rfl<|AtL.call zaO zg0 rfl rfl (zbr (k:=4)) ?_
 rintro _ _ ⟨b7,rfl,rfl⟩
 refine AtL.insert (Q:=kyS) (tv:=(fun x:Value => x)) (a:=[101,110,100]) (v:=(.func (.func 195) #[] #[.pointer (some ⟨b7,0,none⟩)])) (H':=[(b7,.cells #[.int .i64 4] 3 (0,0))]::[(b6,.cells #[.int .i64 2] 3 (0,0))]::[(b5,.cells #[.int .i64 9] 3 (0,0))]::[(b4,.cells #[.int .i64 3] 3 (0,0))]::[(b3,.cells #[.int .i64 8] 3 (0,0))]::[(b2,.cells #[.int .i64 1] 3 (0,0))]::[(b1,mapO kyS (fun x:Value => x) ([([104,105,110,116],(.func (.func 104) #[] #[])),([102,114,111,110,116],(.func (.func 105) #[] #[])),([97,115,107],(.func (.func 106) #[] #[])),([115,99,114,105,112,116],(.func (.func 107) #[] #[])),([111,117,116],(.func (.func 108) #[] #[])),([105,110,102,111],(.func (.func 109) #[] #[])),([99,111,117,110,116,115],(.func (.func 110) #[] #[])),([99,111,110,110],(.func (.func 111) #[] #[])),([114,101,97,100],(.func (.func 112) #[] #[])),([100,97,116,97,103,114,97,109],(.func (.func 195) #[] #[.pointer (some ⟨b2,0,none⟩)])),([117,112,115,116,114,101,97,109],(.func (.func 195) #[] #[.pointer (some ⟨b3,0,none⟩)])),([98,121,116,101,115],(.func (.func 195) #[] #[.pointer (some ⟨b4,0,none⟩)])),([98,117,105,108,116],(.func (.func 195) #[] #[.pointer (some ⟨b5,0,none⟩)])),([111,112,101,110],(.func (.func 195) #[] #[.pointer (some ⟨b6,0,none⟩)])),([101,110,100],(.func (.func 195) #[] #[.pointer (some ⟨b7,0,none⟩)]))]))]::H) 6 0 Tryz.underlying120 Tryz.underlying9 rfl zg0 rfl rfl kS rfl rfl rfl rfl<|AtL.call zaO zg0 rfl rfl (zbr (k:=5)) ?_
 rintro _ _ ⟨b8,rfl,rfl⟩
 refine AtL.insert (Q:=kyS) (tv:=(fun x:Value => x)) (a:=[119,114,105,116,97,98,108,101]) (v:=(.func (.func 195) #[] #[.pointer (some ⟨b8,0,none⟩)])) (H':=[(b8,.cells #[.int .i64 5] 3 (0,0))]::[(b7,.cells #[.int .i64 4] 3 (0,0))]::[(b6,.cells #[.int .i64 2] 3 (0,0))]::[(b5,.cells #[.int .i64 9] 3 (0,0))]::[(b4,.cells #[.int .i64 3] 3 (0,0))]::[(b3,.cells #[.int .i64 8] 3 (0,0))]::[(b2,.cells #[.int .i64 1] 3 (0,0))]::[(b1,mapO kyS (fun x:Value => x) ([([104,105,110,116],(.func (.func 104) #[] #[])),([102,114,111,110,116],(.func (.func 105) #[] #[])),([97,115,107],(.func (.func 106) #[] #[])),([115,99,114,105,112,116],(.func (.func 107) #[] #[])),([111,117,116],(.func (.func 108) #[] #[])),([105,110,102,111],(.func (.func 109) #[] #[])),([99,111,117,110,116,115],(.func (.func 110) #[] #[])),([99,111,110,110],(.func (.func 111) #[] #[])),([114,101,97,100],(.func (.func 112) #[] #[])),([100,97,116,97,103,114,97,109],(.func (.func 195) #[] #[.pointer (some ⟨b2,0,none⟩)])),([117,112,115,116,114,101,97,109],(.func (.func 195) #[] #[.pointer (some ⟨b3,0,none⟩)])),([98,121,116,101,115],(.func (.func 195) #[] #[.pointer (some ⟨b4,0,none⟩)])),([98,117,105,108,116],(.func (.func 195) #[] #[.pointer (some ⟨b5,0,none⟩)])),([111,112,101,110],(.func (.func 195) #[] #[.pointer (some ⟨b6,0,none⟩)])),([101,110,100],(.func (.func 195) #[] #[.pointer (some ⟨b7,0,none⟩)])),([119,114,105,116,97,98,108,101],(.func (.func 195) #[] #[.pointer (some ⟨b8,0,none⟩)]))]))]::H) 7 0 Tryz.underlying120 Tryz.underlying9 rfl zg0 rfl rfl kS rfl rfl rfl rfl<|AtL.call zaO zg0 rfl rfl (zbr (k:=6)) ?_
 rintro _ _ ⟨b9,rfl,rfl⟩
 refine AtL.insert (Q:=kyS) (tv:=(fun x:Value => x)) (a:=[116,105,99,107]) (v:=(.func (.func 195) #[] #[.pointer (some ⟨b9,0,none⟩)])) (H':=[(b9,.cells #[.int .i64 6] 3 (0,0))]::[(b8,.cells #[.int .i64 5] 3 (0,0))]::[(b7,.cells #[.int .i64 4] 3 (0,0))]::[(b6,.cells #[.int .i64 2] 3 (0,0))]::[(b5,.cells #[.int .i64 9] 3 (0,0))]::[(b4,.cells #[.int .i64 3] 3 (0,0))]::[(b3,.cells #[.int .i64 8] 3 (0,0))]::[(b2,.cells #[.int .i64 1] 3 (0,0))]::[(b1,mapO kyS (fun x:Value => x) ([([104,105,110,116],(.func (.func 104) #[] #[])),([102,114,111,110,116],(.func (.func 105) #[] #[])),([97,115,107],(.func (.func 106) #[] #[])),([115,99,114,105,112,116],(.func (.func 107) #[] #[])),([111,117,116],(.func (.func 108) #[] #[])),([105,110,102,111],(.func (.func 109) #[] #[])),([99,111,117,110,116,115],(.func (.func 110) #[] #[])),([99,111,110,110],(.func (.func 111) #[] #[])),([114,101,97,100],(.func (.func 112) #[] #[])),([100,97,116,97,103,114,97,109],(.func (.func 195) #[] #[.pointer (some ⟨b2,0,none⟩)])),([117,112,115,116,114,101,97,109],(.func (.func 195) #[] #[.pointer (some ⟨b3,0,none⟩)])),([98,121,116,101,115],(.func (.func 195) #[] #[.pointer (some ⟨b4,0,none⟩)])),([98,117,105,108,116],(.func (.func 195) #[] #[.pointer (some ⟨b5,0,none⟩)])),([111,112,101,110],(.func (.func 195) #[] #[.pointer (some ⟨b6,0,none⟩)])),([101,110,100],(.func (.func 195) #[] #[.pointer (some ⟨b7,0,none⟩)])),([119,114,105,116,97,98,108,101],(.func (.func 195) #[] #[.pointer (some ⟨b8,0,none⟩)])),([116,105,99,107],(.func (.func 195) #[] #[.pointer (some ⟨b9,0,none⟩)]))]))]::H) 8 0 Tryz.underlying120 Tryz.underlying9 rfl zg0 rfl rfl kS rfl rfl rfl rfl<|AtL.call zaO zg0 rfl rfl (zbr (k:=7)) ?_
 rintro _ _ ⟨b10,rfl,rfl⟩
 refine AtL.insert (Q:=kyS) (tv:=(fun x:Value => x)) (a:=[100,114,97,119]) (v:=(.func (.func 195) #[] #[.pointer (some ⟨b10,0,none⟩)])) (H':=[(b10,.cells #[.int .i64 7] 3 (0,0))]::[(b9,.cells #[.int .i64 6] 3 (0,0))]::[(b8,.cells #[.int .i64 5] 3 (0,0))]::[(b7,.cells #[.int .i64 4] 3 (0,0))]::[(b6,.cells #[.int .i64 2] 3 (0,0))]::[(b5,.cells #[.int .i64 9] 3 (0,0))]::[(b4,.cells #[.int .i64 3] 3 (0,0))]::[(b3,.cells #[.int .i64 8] 3 (0,0))]::[(b2,.cells #[.int .i64 1] 3 (0,0))]::[(b1,mapO kyS (fun x:Value => x) ([([104,105,110,116],(.func (.func 104) #[] #[])),([102,114,111,110,116],(.func (.func 105) #[] #[])),([97,115,107],(.func (.func 106) #[] #[])),([115,99,114,105,112,116],(.func (.func 107) #[] #[])),([111,117,116],(.func (.func 108) #[] #[])),([105,110,102,111],(.func (.func 109) #[] #[])),([99,111,117,110,116,115],(.func (.func 110) #[] #[])),([99,111,110,110],(.func (.func 111) #[] #[])),([114,101,97,100],(.func (.func 112) #[] #[])),([100,97,116,97,103,114,97,109],(.func (.func 195) #[] #[.pointer (some ⟨b2,0,none⟩)])),([117,112,115,116,114,101,97,109],(.func (.func 195) #[] #[.pointer (some ⟨b3,0,none⟩)])),([98,121,116,101,115],(.func (.func 195) #[] #[.pointer (some ⟨b4,0,none⟩)])),([98,117,105,108,116],(.func (.func 195) #[] #[.pointer (some ⟨b5,0,none⟩)])),([111,112,101,110],(.func (.func 195) #[] #[.pointer (some ⟨b6,0,none⟩)])),([101,110,100],(.func (.func 195) #[] #[.pointer (some ⟨b7,0,none⟩)])),([119,114,105,116,97,98,108,101],(.func (.func 195) #[] #[.pointer (some ⟨b8,0,none⟩)])),([116,105,99,107],(.func (.func 195) #[] #[.pointer (some ⟨b9,0,none⟩)])),([100,114,97,119],(.func (.func 195) #[] #[.pointer (some ⟨b10,0,none⟩)]))]))]::H) 9 0 Tryz.underlying120 Tryz.underlying9 rfl zg0 rfl rfl kS rfl rfl rfl rfl<|AtL.call zaO zg0 rfl rfl (zbr (k:=10)) ?_
 rintro _ _ ⟨b11,rfl,rfl⟩
 refine AtL.insert (Q:=kyS) (tv:=(fun x:Value => x)) (a:=[115,104,117,116]) (v:=(.func (.func 195) #[] #[.pointer (some ⟨b11,0,none⟩)])) (H':=[(b11,.cells #[.int .i64 10] 3 (0,0))]::[(b10,.cells #[.int .i64 7] 3 (0,0))]::[(b9,.cells #[.int .i64 6] 3 (0,0))]::[(b8,.cells #[.int .i64 5] 3 (0,0))]::[(b7,.cells #[.int .i64 4] 3 (0,0))]::[(b6,.cells #[.int .i64 2] 3 (0,0))]::[(b5,.cells #[.int .i64 9] 3 (0,0))]::[(b4,.cells #[.int .i64 3] 3 (0,0))]::[(b3,.cells #[.int .i64 8] 3 (0,0))]::[(b2,.cells #[.int .i64 1] 3 (0,0))]::[(b1,mapO kyS (fun x:Value => x) ([([104,105,110,116],(.func (.func 104) #[] #[])),([102,114,111,110,116],(.func (.func 105) #[] #[])),([97,115,107],(.func (.func 106) #[] #[])),([115,99,114,105,112,116],(.func (.func 107) #[] #[])),([111,117,116],(.func (.func 108) #[] #[])),([105,110,102,111],(.func (.func 109) #[] #[])),([99,111,117,110,116,115],(.func (.func 110) #[] #[])),([99,111,110,110],(.func (.func 111) #[] #[])),([114,101,97,100],(.func (.func 112) #[] #[])),([100,97,116,97,103,114,97,109],(.func (.func 195) #[] #[.pointer (some ⟨b2,0,none⟩)])),([117,112,115,116,114,101,97,109],(.func (.func 195) #[] #[.pointer (some ⟨b3,0,none⟩)])),([98,121,116,101,115],(.func (.func 195) #[] #[.pointer (some ⟨b4,0,none⟩)])),([98,117,105,108,116],(.func (.func 195) #[] #[.pointer (some ⟨b5,0,none⟩)])),([111,112,101,110],(.func (.func 195) #[] #[.pointer (some ⟨b6,0,none⟩)])),([101,110,100],(.func (.func 195) #[] #[.pointer (some ⟨b7,0,none⟩)])),([119,114,105,116,97,98,108,101],(.func (.func 195) #[] #[.pointer (some ⟨b8,0,none⟩)])),([116,105,99,107],(.func (.func 195) #[] #[.pointer (some ⟨b9,0,none⟩)])),([100,114,97,119],(.func (.func 195) #[] #[.pointer (some ⟨b10,0,none⟩)])),([115,104,117,116],(.func (.func 195) #[] #[.pointer (some ⟨b11,0,none⟩)]))]))]::H) 10 0 Tryz.underlying120 Tryz.underlying9 rfl zg0 rfl rfl kS rfl rfl rfl rfl<|AtL.move zg0 rfl rfl<|AtL.assign zg0 rfl rfl<|AtL.done<|At.pick [10] 11 rfl rfl ?_
 exact At.ret Tryz.func48 rfl rfl (⟨b1,_,rfl,rfl,rfl⟩)
set_option maxRecDepth 100000
theorem bread_ok {w0:World}{base:Nat}{H:List Seg}{bv:Value}{D:Option Addr}{C:Nat}{l:List (List UInt8)}{x:List UInt8}(h:Rd tyS w0 base H D C l) (hll:l.length=1) (hg:l.getD 0 []=hexF x) (h1:1≤x.length) (hx:x.length≤4096) :
  SCalls Tryz.prog 112 [bv,.slice D l.length C] w0 base (H) (fun v H' => ∃ (xb:Nat) (y:Sl tyB 5),y.l=x∧v = .tuple #[.func (.func 193) #[] #[.pointer (some ⟨xb,0,none⟩)],.bool true]∧H' = y.s::[(xb,.cells #[.slice y.A y.l.length y.C] 22 (0,0))]::H):=by
 have hle0:=h.le
 have hcap0:=h.cap
 refine SCalls.of_walk (n:=20) Tryz.func112 rfl rfl rfl fun cs => ?_
 refine At.seq<|At.region<|AtL.assign zg0 rfl rfl<|AtL.assign zg0 rfl rfl<|AtL.done<|At.seq ?_
 refine At.region<|AtL.move zg0 rfl rfl<|AtL.call tf_body185 zg0 rfl rfl (unhex_ok (l:=l) (x:=x) h hll hg h1 hx) ?_
 rintro _ _ ⟨⟨A1,C2,l3,s4,o5⟩,hx6,rfl,rfl⟩
 obtain rfl:x=l3:=hx6.symm
 refine AtL.move zg0 rfl rfl<|AtL.extract zg0 rfl rfl rfl<|AtL.extract zg0 rfl rfl rfl<|AtL.alloc tf_zero22 (cs:=#[.slice none 0 0]) rfl zg0 rfl ?_
 intro b7
 refine AtL.store (H':=[(b7,.cells #[.slice A1 x.length C2] 22 (0,0))]::s4::H) 0 0 zba zg0 rfl rfl rfl rfl rfl rfl rfl rfl rfl<|AtL.assign zg0 rfl rfl<|AtL.done<|At.seq<|At.region<|AtL.makeFunc zg0 rfl rfl rfl ?_
 refine AtL.move zg0 rfl rfl<|AtL.move zg0 rfl rfl<|AtL.move (.inr ⟨_,_,_,rfl,rfl,rfl,rfl⟩) rfl rfl<|AtL.lenL Tryz.underlying67 (.inr ⟨_,_,_,rfl,rfl,rfl,rfl⟩) rfl rfl<|AtL.eqi (.inr ⟨_,_,_,rfl,rfl,rfl,rfl⟩) rfl rfl rfl<|AtL.pickT zg0 rfl rfl rfl ?_
 refine AtL.assign zg0 rfl rfl<|AtL.assign zg0 rfl rfl<|AtL.done<|At.pick [1,0] 2 rfl rfl ?_
 exact At.ret Tryz.func112 rfl rfl (⟨b7,⟨A1,C2,x,s4,o5⟩,rfl,(by first | rfl | (rw [decide_eq_true (show (l.length:Int)=1 by omega)]; rfl) | simp [oneOf,hll]),rfl⟩)
theorem bnew_ok {w0:World}{base:Nat}{H:List Seg}  :
  SCalls Tryz.prog 20 [] w0 base (H) (fun v H' => ∃ b:Nat,v = .pointer (some ⟨b,0,none⟩)∧H' = [(b,.cells #[.bool true,.slice none 0 0,.pointer none] 65 (0,0))]::H):=by
 refine SCalls.of_walk (n:=3) Tryz.func20 rfl rfl rfl fun cs => ?_
 refine At.seq<|At.region<|AtL.assign zg0 rfl rfl<|AtL.done<|At.seq<|At.region ?_
 refine AtL.build (cs:=[.bool true,.slice none 0 0,.pointer none]) tf_lay65 zg0 rfl rfl rfl<|AtL.box (cs:=#[.bool true,.slice none 0 0,.pointer none]) rfl zg0 rfl rfl ?_
 intro b1
 refine AtL.assign zg0 rfl rfl<|AtL.done ?_
 exact At.ret Tryz.func20 rfl rfl (⟨b1,rfl,rfl⟩)
theorem alone_read {w0:World}{base:Nat}{H:List Seg}  :
  SCalls Tryz.prog 49 [str [114,101,97,100]] w0 base (H) (fun v H' => v = .bool true∧H' = H):=by
 refine SCalls.of_walk (n:=13) Tryz.func49 rfl rfl rfl fun cs => ?_
 refine At.seq<|At.region<|AtL.assign zg0 rfl rfl<|AtL.done<|At.seq<|At.region ?_
 refine AtL.move zg0 rfl rfl<|AtL.eqs (a:=[114,101,97,100]) (b:=[104,105,110,116]) zg0 rfl rfl rfl<|AtL.move zg0 rfl rfl<|AtL.splitD (t:=5) rfl ?_ ?_
 ·intro hs5
  refine AtL.skipped rfl rfl rfl rfl rfl rfl<|AtL.skipped rfl rfl rfl rfl rfl rfl<|AtL.pickT zg0 rfl rfl rfl<|AtL.move zg0 rfl rfl<|AtL.skipped rfl rfl rfl rfl rfl rfl<|AtL.skipped rfl rfl rfl rfl rfl rfl ?_
  refine AtL.pickT zg0 rfl rfl rfl<|AtL.assign zg0 rfl rfl<|AtL.done ?_
  exact At.ret Tryz.func49 rfl rfl (⟨rfl,rfl⟩)
 ·intro hs5
  refine AtL.move (.inr ⟨_,_,_,rfl,rfl,rfl,rfl⟩) rfl rfl<|AtL.eqs (a:=[114,101,97,100]) (b:=[102,114,111,110,116]) (.inr ⟨_,_,_,rfl,rfl,rfl,rfl⟩) rfl rfl rfl<|AtL.pickF zg0 rfl rfl rfl<|AtL.move zg0 rfl rfl<|AtL.splitD (t:=9) rfl ?_ ?_
  ·intro hs9
   refine AtL.skipped rfl rfl rfl rfl rfl rfl<|AtL.skipped rfl rfl rfl rfl rfl rfl<|AtL.pickT zg0 rfl rfl rfl<|AtL.assign zg0 rfl rfl<|AtL.done ?_
   exact At.ret Tryz.func49 rfl rfl (⟨rfl,rfl⟩)
  ·intro hs9
   refine AtL.move (.inr ⟨_,_,_,rfl,rfl,rfl,rfl⟩) rfl rfl<|AtL.eqs (a:=[114,101,97,100]) (b:=[114,101,97,100]) (.inr ⟨_,_,_,rfl,rfl,rfl,rfl⟩) rfl rfl rfl<|AtL.pickF zg0 rfl rfl rfl<|AtL.assign zg0 rfl rfl<|AtL.done ?_
   exact At.ret Tryz.func49 rfl rfl (⟨rfl,rfl⟩)
theorem line_read {w0:World}{base:Nat}{H:List Seg}{bb:Nat}{id flags:Int}{qs:List (List UInt8×Int×Int)}{an ns ar:List (List UInt8×Int×Int×Int×List UInt8)}{x:List UInt8}(hM:MOk id flags qs an ns ar) (hA:MAt x id flags qs an ns ar) (h0:an.length=0∧ns.length=0∧ar.length=0) (hq9:qs.length≤1000) (h1:1≤x.length) (hx:x.length≤4096) (T10:Tab10 w0 base) (ML:MaxL w0 base) :
  SCalls Tryz.prog 16 [.pointer (some ⟨bb,0,none⟩),str ([114,101,97,100,32]++hexF x)] w0 base ([(bb,.cells #[.bool true,.slice none 0 0,.pointer none] 65 (0,0))]::H) (fun v H' => ∃ y:Sl tyS 9,y.l=readL id flags qs∧v = .slice y.A y.l.length y.C∧H' = y.s::[(bb,.cells #[.bool true,.slice none 0 0,.pointer none] 65 (0,0))]::H):=by
 have hxl9:(hexF x).length=2 * x.length:=zdt x
 refine SCalls.of_walk (n:=64) Tryz.func16 rfl rfl rfl fun cs => ?_
 refine At.seq<|At.region<|AtL.assign zg0 rfl rfl<|AtL.done<|At.seq<|At.seq ?_
 refine At.region<|AtL.move zg0 rfl rfl<|AtL.eqPtrNil Tryz.underlying63 zg0 rfl rfl rfl<|AtL.move zg0 rfl rfl<|AtL.move (.inr ⟨_,_,_,rfl,rfl,rfl,rfl⟩) rfl rfl<|AtL.nilCheck (.inr ⟨_,_,_,rfl,rfl,rfl,rfl⟩) rfl rfl ?_
 refine AtL.fieldAddrB tf_fo65_0 (.inr ⟨_,_,_,rfl,rfl,rfl,rfl⟩) rfl rfl rfl<|AtL.load tf_flat4 (.inr ⟨_,_,_,rfl,rfl,rfl,rfl⟩) rfl rfl (Cell.own 0 0 rfl rfl rfl)<|AtL.not (.inr ⟨_,_,_,rfl,rfl,rfl,rfl⟩) rfl rfl<|AtL.pickF zg0 rfl rfl rfl<|AtL.done<|At.condF rfl ?_
 refine At.skip<|At.seq<|At.region<|AtL.move zg0 rfl rfl ?_
 refine AtL.call tf_body23 zg0 rfl rfl (splitl_ok (x:=([114,101,97,100,32]++hexF x)) (L:=[[114,101,97,100],hexF x]) (read_sp x) (by rw [List.length_append,zdt]; simp only [List.length_cons,List.length_nil]; omega) ML) ?_
 rintro _ _ ⟨⟨A1,C2,l3,s4,o5⟩,hx6,rfl,rfl⟩
 replace hx6:l3=[[114,101,97,100],hexF x]:=hx6
 have hx6n:l3.length=2:=by rw [hx6]; rfl
 refine AtL.assign zg0 rfl rfl<|AtL.done<|At.seq ?_
 refine At.draw (es:=[0]) (pv:=[(1,.slice A1 l3.length C2),(2,.pointer (some (eaddr A1 (0 * tyS.sz)))),(3,str (l3.getD 0 []))]) zaj kR kR kR ?_
 refine ⟨⟨zpr rfl rfl rfl (Do.move rfl),zpr rfl rfl rfl (Do.indexL 0 (o5.rd (i:=0) rfl) Tryz.underlying67 zaE rfl rfl rfl kW),zpr rfl rfl rfl (Do.load (v:=str (l3.getD 0 [])) zad rfl (Rd.cell0 (o5.rd (i:=0) rfl) (getD_some [] kW) rfl)),trivial⟩,rfl,rfl,by kernel_rfl,_,rfl,rfl,rfl,_,Do.call tf_body48 rfl lines_ok,?_⟩
 rintro _ _ ⟨b7,L8,hL9,rfl,rfl⟩
 refine ⟨[(4,.tuple #[.func (.func 112) #[] #[],.bool true]),(5,.tuple #[.func (.func 112) #[] #[],.bool true]),(6,.func (.func 112) #[] #[]),(7,.bool true),(8,.func (.func 112) #[] #[]),(9,.bool true)],rfl,?_⟩
 refine ⟨⟨zpr rfl rfl rfl (Do.lookup (Q:=kyS) (tv:=(fun x:Value => x)) (a:=(l3.getD 0 [])) (v:=.tuple #[.func (.func 112) #[] #[],.bool true]) true 0 0 Tryz.underlying120 Tryz.underlying9 rfl tf_zero118 rfl rfl rfl rfl (by rw [show l3.getD 0 []=([114,101,97,100]:List UInt8) by rw [hx6]; rfl,hL9]; rfl)),zpr rfl rfl rfl (Do.move rfl),zpr rfl rfl rfl (Do.extract rfl rfl),zpr rfl rfl rfl (Do.extract rfl rfl),zpr rfl rfl rfl (Do.assign rfl),zpr rfl rfl rfl (Do.assign rfl),zpr rfl rfl rfl (Do.move rfl),zpr rfl rfl rfl (Do.indexL 0 (o5.rd (i:=1) rfl) Tryz.underlying67 zaE rfl rfl rfl kW),zpr rfl rfl rfl (Do.load (v:=str (l3.getD 0 [])) zad rfl (Rd.cell0 (o5.rd (i:=1) rfl) (getD_some [] kW) rfl)),trivial⟩,by kernel_rfl,?_⟩
 refine At.mono (E':=[(0,.pointer (some ⟨bb,0,none⟩)),(1,str ([114,101,97,100,32]++hexF x)),(5,.slice A1 l3.length C2),(6,.func (.func 112) #[] #[]),(7,.bool true)]) ⟨rfl,rfl,rfl,rfl,rfl,trivial⟩<|At.seq<|At.seq<|At.region<|AtL.move zg0 rfl rfl<|AtL.not zg0 rfl rfl ?_
 refine AtL.move zg0 rfl rfl<|AtL.move (.inr ⟨_,_,_,rfl,rfl,rfl,rfl⟩) rfl rfl<|AtL.lenS (l:=([114,101,97,100,32]++hexF x)) Tryz.underlying9 (.inr ⟨_,_,_,rfl,rfl,rfl,rfl⟩) rfl rfl<|AtL.gtr (.inr ⟨_,_,_,rfl,rfl,rfl,rfl⟩) rfl rfl rfl<|AtL.pickF zg0 rfl rfl rfl<|AtL.done ?_
 refine At.condIs false rfl (decide_eq_false (by rw [List.length_append]; simp only [List.length_cons,List.length_nil]; omega))<|At.skip<|At.seq<|At.region<|AtL.move zg0 rfl rfl<|AtL.move zg0 rfl rfl ?_
 refine AtL.move zg0 rfl rfl ?_
 have hleo15:=Own.le_cap o5
 refine AtL.sliceO 1 l3.length C2 o5 (zap rfl rfl) rfl rfl (by intro h; cases h) kW kW kW (Nat.le_refl _) Tryz.underlying67 zaE zg0 rfl rfl ?_
 intro A13 C14 o15
 clear hleo15
 have hlo15:(subl l3 1 l3.length).length=l3.length - 1:=zaA kW
 refine AtL.callV tf_body112 zg0 rfl rfl rfl rfl (bread_ok (bv:=.pointer (some ⟨bb,0,none⟩)) (l:=subl l3 1 l3.length) (x:=x) (o15.rd (i:=1) rfl) (by rw [hx6]; rfl) (by rw [hx6]; rfl) h1 hx) ?_
 rintro _ _ ⟨xb21,⟨A16,C17,l18,s19,o20⟩,hy22,rfl,rfl⟩
 obtain rfl:x=l18:=hy22.symm
 refine AtL.move zg0 rfl rfl<|AtL.extract zg0 rfl rfl rfl<|AtL.extract zg0 rfl rfl rfl<|AtL.assign zg0 rfl rfl<|AtL.assign zg0 rfl rfl<|AtL.done ?_
 refine At.seq<|At.block<|At.seq<|At.region<|AtL.move zg0 rfl rfl<|AtL.not zg0 rfl rfl ?_
 refine AtL.assign zg0 rfl rfl<|AtL.done<|At.condF rfl<|At.seq<|At.region<|AtL.move zg0 rfl rfl ?_
 refine AtL.nilCheck zg0 rfl rfl<|AtL.fieldAddrB tf_fo65_2 zg0 rfl rfl rfl<|AtL.load tf_flat28 zg0 rfl rfl (Cell.own 4 0 rfl rfl rfl)<|AtL.eqPtrNil Tryz.underlying28 zg0 rfl rfl rfl<|AtL.move zg0 rfl rfl<|AtL.move (.inr ⟨_,_,_,rfl,rfl,rfl,rfl⟩) rfl rfl ?_
 refine AtL.indexL 0 (o5.rd (i:=3) rfl) Tryz.underlying67 zaE (.inr ⟨_,_,_,rfl,rfl,rfl,rfl⟩) rfl rfl rfl rfl kW ?_
 refine AtL.load (v:=str (l3.getD 0 [])) zad (.inr ⟨_,_,_,rfl,rfl,rfl,rfl⟩) rfl rfl (Rd.cell0 (o5.rd (i:=3) rfl) (getD_some [] kW) rfl)<|AtL.call tf_body49 (.inr ⟨_,_,_,rfl,rfl,rfl,rfl⟩) rfl rfl ((show (l3.getD 0 [])=([114,101,97,100]:List UInt8) by rw [hx6]; rfl) ▸ alone_read) ?_
 rintro _ _ ⟨rfl,rfl⟩
 refine AtL.not (.inr ⟨_,_,_,rfl,rfl,rfl,rfl⟩) rfl rfl<|AtL.pickT zg0 rfl rfl rfl<|AtL.assign zg0 rfl rfl<|AtL.done<|At.condF rfl<|At.skip ?_
 refine At.inBlock<|At.seq<|At.region<|AtL.move zg0 rfl rfl<|AtL.callV tf_body193 zg0 rfl rfl rfl rfl (read1_ok (y:=⟨A16,C17,x,s19,o20⟩) hM hA h0 hq9 T10) ?_
 rintro _ _ ⟨⟨A23,C24,l25,s26,o27⟩,hy28,rfl,rfl⟩
 obtain rfl:readL id flags qs=l25:=hy28.symm
 refine AtL.assign zg0 rfl rfl<|AtL.done<|At.pick [0,5] 6 rfl rfl ?_
 exact At.ret Tryz.func16 rfl rfl (⟨⟨A23,C24,(readL id flags qs),s26,o27⟩,rfl,rfl,rfl⟩)
set_option maxRecDepth 100000
theorem not_t {p:Prop} [Decidable p] (h:p):(!decide p)=false:=by rw [decide_eq_true h]; rfl
theorem not_f {p:Prop} [Decidable p] (h:¬ p):(!decide p)=true:=by rw [decide_eq_false h]; rfl
theorem zea {w0:World}{base:Nat}{H:List Seg}(c:UInt8) :
  SCalls Tryz.prog 205 [.int .u8 (c.toNat:Int)] w0 base (H) (fun v H' => v = .bool (decide (48≤c.toNat∧c.toNat≤57))∧H' = H):=by
 refine SCalls.of_walk (n:=9) Tryz.func205 rfl rfl rfl fun cs => ?_
 refine At.seq<|At.region<|AtL.assign zg0 rfl rfl<|AtL.done<|At.seq<|At.region ?_
 refine AtL.move zg0 rfl rfl<|AtL.geq zg0 rfl rfl rfl<|AtL.move zg0 rfl rfl<|AtL.splitD (t:=5) rfl ?_ ?_
 ·intro hs5
  refine AtL.move (.inr ⟨_,_,_,rfl,rfl,rfl,rfl⟩) rfl rfl<|AtL.leq (.inr ⟨_,_,_,rfl,rfl,rfl,rfl⟩) rfl rfl rfl<|AtL.pickT zg0 rfl rfl rfl<|AtL.assign zg0 rfl rfl<|AtL.done ?_
  exact At.ret Tryz.func205 rfl rfl (⟨by first | exact congrArg Value.bool (decide_eq_decide.2 kW) | exact congrArg Value.bool (decide_eq_false kW).symm,rfl⟩)
 ·intro hs5
  refine AtL.skipped rfl rfl rfl rfl rfl rfl<|AtL.skipped rfl rfl rfl rfl rfl rfl<|AtL.pickF zg0 rfl rfl rfl<|AtL.assign zg0 rfl rfl<|AtL.done ?_
  exact At.ret Tryz.func205 rfl rfl (⟨by first | exact congrArg Value.bool (decide_eq_decide.2 kW) | exact congrArg Value.bool (decide_eq_false kW).symm,rfl⟩)
theorem esc_pt {w0:World}{base:Nat}{H:List Seg}{pb:Nat}{s:List UInt8}{i:Nat}{lv:Value}{c:UInt8}(hsl:s.length≤100000) (hi:i + 1 < s.length) (h1:s.getD (i + 1) 0=c) (hc:c.toNat=46∨c.toNat=92) :
  SCalls Tryz.prog 127 [.pointer (some ⟨pb,0,none⟩)] w0 base ([(pb,.cells #[str s,.int .i64 (i:Int),lv] 143 (0,0))]::H) (fun v H' => v = .int .u8 (c.toNat:Int)∧H' = [(pb,.cells #[str s,.int .i64 ((i:Int) + 2),lv] 143 (0,0))]::H):=by
 have he0:(subl s (i + 1) s.length).getD 0 0=s.getD (i + 1) 0:=by rw [zd1,Nat.add_assoc,Nat.add_comm 1]
 have hsb:(subl s (i + 1) s.length).length=s.length - (i + 1):=zaA (Nat.le_refl _)
 have hc9:((subl s (i + 1) s.length).getD 0 0).toNat=c.toNat:=by rw [he0,h1]
 refine SCalls.of_walk (n:=112) Tryz.func127 rfl rfl rfl fun cs => ?_
 refine At.seq<|At.region<|AtL.assign zg0 rfl rfl<|AtL.done<|At.seq<|At.region ?_
 refine AtL.move zg0 rfl rfl<|AtL.nilCheck zg0 rfl rfl<|AtL.fieldAddrB zac zg0 rfl rfl rfl<|AtL.fieldAddrB zag zg0 rfl rfl rfl<|AtL.load zab zg0 rfl rfl (Cell.own 0 0 rfl rfl rfl)<|AtL.assign zg0 rfl rfl ?_
 refine AtL.done<|At.seq<|At.region<|AtL.move zg0 rfl rfl<|AtL.nilCheck zg0 rfl rfl<|AtL.fieldAddrB zac zg0 rfl rfl rfl ?_
 refine AtL.fieldAddrB zar zg0 rfl rfl rfl<|AtL.load zad zg0 rfl rfl (Cell.own 0 0 rfl rfl rfl)<|AtL.move zg0 rfl rfl ?_
 refine AtL.add (z:=(i:Int) + 1) zg0 rfl rfl rfl (w64 kW kW) ?_
 refine AtL.sliceS (l:=s) (i + 1) s.length (zap rfl rfl) rfl kW kW Tryz.underlying9 zg0 rfl rfl<|AtL.assign zg0 rfl rfl<|AtL.done<|At.seq<|At.block<|At.seq ?_
 refine At.region<|AtL.move zg0 rfl rfl<|AtL.eqs (a:=subl s (i + 1) s.length) (b:=[]) zg0 rfl rfl rfl<|AtL.assign zg0 rfl rfl<|AtL.done<|At.condIs false rfl (decide_eq_false (fun h9 => by rw [h9] at hsb; simp at hsb; omega)) ?_
 refine At.seq<|At.region<|AtL.move zg0 rfl rfl ?_
 refine AtL.indexS (l:=subl s (i + 1) s.length) 0 rfl kW Tryz.underlying9 zg0 rfl rfl rfl<|AtL.call zcQ zg0 rfl rfl (zea ((subl s (i + 1) s.length).getD 0 0)) ?_
 rintro _ _ ⟨rfl,rfl⟩
 refine AtL.not zg0 rfl rfl<|AtL.assign zg0 rfl rfl<|AtL.done ?_
 refine At.condIs true rfl (not_f kW)<|At.seq<|At.seq<|At.region<|AtL.move zg0 rfl rfl ?_
 refine AtL.indexS (l:=subl s (i + 1) s.length) 0 rfl kW Tryz.underlying9 zg0 rfl rfl rfl<|AtL.lss zg0 rfl rfl rfl<|AtL.move zg0 rfl rfl<|AtL.joinS 4 (E':=[(39,.bool (decide (((((subl s (i + 1) s.length).getD 0 0).toNat:Int) < 33)∨(126 < (((subl s (i + 1) s.length).getD 0 0).toNat:Int))))),(0,.pointer (some ⟨pb,0,none⟩)),(3,.int .i64 (i:Int)),(4,str (subl s (i + 1) s.length))]) (fun J => ?_) ?_
 ·refine AtL.splitD (t:=35) rfl ?_ ?_
  ·intro hs35
   refine AtL.skipped rfl rfl rfl rfl rfl rfl<|AtL.skipped rfl rfl rfl rfl rfl rfl<|AtL.skipped rfl rfl rfl rfl rfl rfl<|AtL.pickT zg0 rfl rfl rfl ?_
   exact J _ (by exact ⟨(boolIs (by clear J; first | (simp [hs35]; done) | (simp_all; done) | grind)),rfl,rfl,rfl,trivial⟩)
  ·intro hs35
   refine AtL.move (.inr ⟨_,_,_,rfl,rfl,rfl,rfl⟩) rfl rfl ?_
   refine AtL.indexS (l:=subl s (i + 1) s.length) 0 rfl kW Tryz.underlying9 (.inr ⟨_,_,_,rfl,rfl,rfl,rfl⟩) rfl rfl rfl<|AtL.gtr (.inr ⟨_,_,_,rfl,rfl,rfl,rfl⟩) rfl rfl rfl<|AtL.pickF zg0 rfl rfl rfl ?_
   exact J _ (by exact ⟨(boolIs (by clear J; first | (simp [hs35]; done) | (simp_all; done) | grind)),rfl,rfl,rfl,trivial⟩)
 ·refine AtL.done ?_
  refine At.condIs false rfl (decide_eq_false kW)<|At.skip<|At.seq<|At.region<|AtL.move zg0 rfl rfl<|AtL.nilCheck zg0 rfl rfl ?_
  refine AtL.fieldAddrB zac zg0 rfl rfl rfl<|AtL.fieldAddrB zag zg0 rfl rfl rfl<|AtL.load zab zg0 rfl rfl (Cell.own 0 0 rfl rfl rfl) ?_
  refine AtL.add (z:=(i:Int) + 2) zg0 rfl rfl rfl (w64 kW kW)<|AtL.nilCheck zg0 rfl rfl<|AtL.fieldAddrB zac zg0 rfl rfl rfl<|AtL.fieldAddrB zag zg0 rfl rfl rfl<|AtL.store (H':=[(pb,.cells #[str s,.int .i64 ((i:Int) + 2),lv] 143 (0,0))]::H) 0 0 zan zg0 rfl rfl rfl rfl rfl rfl rfl rfl rfl<|AtL.done ?_
  refine At.seq<|At.region<|AtL.move zg0 rfl rfl ?_
  refine AtL.indexS (l:=subl s (i + 1) s.length) 0 rfl kW Tryz.underlying9 zg0 rfl rfl rfl<|AtL.assign zg0 rfl rfl<|AtL.done ?_
  exact At.ret Tryz.func127 rfl rfl (⟨by rw [he0,h1]; rfl,rfl⟩)
theorem esc_dg {w0:World}{base:Nat}{H:List Seg}{pb:Nat}{s:List UInt8}{i:Nat}{lv:Value}{c:UInt8}(hsl:s.length≤100000) (hi:i + 3 < s.length) (h1:s.getD (i + 1) 0=48 + c / 100) (h2:s.getD (i + 2) 0=48 + c / 10 % 10) (h3:s.getD (i + 3) 0=48 + c % 10) :
  SCalls Tryz.prog 127 [.pointer (some ⟨pb,0,none⟩)] w0 base ([(pb,.cells #[str s,.int .i64 (i:Int),lv] 143 (0,0))]::H) (fun v H' => v = .int .u8 (c.toNat:Int)∧H' = [(pb,.cells #[str s,.int .i64 ((i:Int) + 4),lv] 143 (0,0))]::H):=by
 have he0:(subl s (i + 1) s.length).getD 0 0=s.getD (i + 1) 0:=by rw [zd1,Nat.add_assoc,Nat.add_comm 1]
 have he1:(subl s (i + 1) s.length).getD 1 0=s.getD (i + 2) 0:=by rw [zd1,Nat.add_assoc,Nat.add_comm 1]
 have he2:(subl s (i + 1) s.length).getD 2 0=s.getD (i + 3) 0:=by rw [zd1,Nat.add_assoc,Nat.add_comm 1]
 have hsb:(subl s (i + 1) s.length).length=s.length - (i + 1):=zaA (Nat.le_refl _)
 have hd0:((subl s (i + 1) s.length).getD 0 0)=48 + c / 100:=by rw [he0,h1]
 have hd1:((subl s (i + 1) s.length).getD 1 0)=48 + c / 10 % 10:=by rw [he1,h2]
 have hd2:((subl s (i + 1) s.length).getD 2 0)=48 + c % 10:=by rw [he2,h3]
 obtain ⟨hg0,hg1,hg2⟩:=dg_is c
 have hsm:=dg_sum c
 have hcl:=c.toNat_lt
 have hl0:=(c / 100).toNat_lt
 have hl1:=(c / 10 % 10).toNat_lt
 have hl2:=(c % 10).toNat_lt
 have hq0:((subl s (i + 1) s.length).getD 0 0).toNat=(48 + c / 100).toNat:=by rw [hd0]
 have hq1:((subl s (i + 1) s.length).getD 1 0).toNat=(48 + c / 10 % 10).toNat:=by rw [hd1]
 have hq2:((subl s (i + 1) s.length).getD 2 0).toNat=(48 + c % 10).toNat:=by rw [hd2]
 refine SCalls.of_walk (n:=112) Tryz.func127 rfl rfl rfl fun cs => ?_
 refine At.seq<|At.region<|AtL.assign zg0 rfl rfl<|AtL.done<|At.seq<|At.region ?_
 refine AtL.move zg0 rfl rfl<|AtL.nilCheck zg0 rfl rfl<|AtL.fieldAddrB zac zg0 rfl rfl rfl<|AtL.fieldAddrB zag zg0 rfl rfl rfl<|AtL.load zab zg0 rfl rfl (Cell.own 0 0 rfl rfl rfl)<|AtL.assign zg0 rfl rfl ?_
 refine AtL.done<|At.seq<|At.region<|AtL.move zg0 rfl rfl<|AtL.nilCheck zg0 rfl rfl<|AtL.fieldAddrB zac zg0 rfl rfl rfl ?_
 refine AtL.fieldAddrB zar zg0 rfl rfl rfl<|AtL.load zad zg0 rfl rfl (Cell.own 0 0 rfl rfl rfl)<|AtL.move zg0 rfl rfl ?_
 refine AtL.add (z:=(i:Int) + 1) zg0 rfl rfl rfl (w64 kW kW) ?_
 refine AtL.sliceS (l:=s) (i + 1) s.length (zap rfl rfl) rfl kW kW Tryz.underlying9 zg0 rfl rfl<|AtL.assign zg0 rfl rfl<|AtL.done<|At.seq<|At.block<|At.seq ?_
 refine At.region<|AtL.move zg0 rfl rfl<|AtL.eqs (a:=subl s (i + 1) s.length) (b:=[]) zg0 rfl rfl rfl<|AtL.assign zg0 rfl rfl<|AtL.done<|At.condIs false rfl (decide_eq_false (fun h9 => by rw [h9] at hsb; simp at hsb; omega)) ?_
 refine At.seq<|At.region<|AtL.move zg0 rfl rfl ?_
 refine AtL.indexS (l:=subl s (i + 1) s.length) 0 rfl kW Tryz.underlying9 zg0 rfl rfl rfl<|AtL.call zcQ zg0 rfl rfl (zea ((subl s (i + 1) s.length).getD 0 0)) ?_
 rintro _ _ ⟨rfl,rfl⟩
 refine AtL.not zg0 rfl rfl<|AtL.assign zg0 rfl rfl<|AtL.done ?_
 refine At.condIs false rfl (not_t kW)<|At.seq<|At.region<|AtL.move zg0 rfl rfl<|AtL.lenS (l:=subl s (i + 1) s.length) Tryz.underlying9 zg0 rfl rfl<|AtL.lss zg0 rfl rfl rfl ?_
 refine AtL.move zg0 rfl rfl<|AtL.joinS 5 (E':=[(66,.bool (decide ((((subl s (i + 1) s.length).length:Int) < 3)∨(¬ (48≤((subl s (i + 1) s.length).getD 1 0).toNat∧((subl s (i + 1) s.length).getD 1 0).toNat≤57))))),(0,.pointer (some ⟨pb,0,none⟩)),(3,.int .i64 (i:Int)),(4,str (subl s (i + 1) s.length))]) (fun J => ?_) ?_
 ·refine AtL.splitD (t:=61) rfl ?_ ?_
  ·intro hs61
   refine AtL.skipped rfl rfl rfl rfl rfl rfl<|AtL.skipped rfl rfl rfl rfl rfl rfl<|AtL.skipped rfl rfl rfl rfl rfl rfl<|AtL.skipped rfl rfl rfl rfl rfl rfl<|AtL.pickT zg0 rfl rfl rfl ?_
   exact J _ (by exact ⟨(boolIs (by clear J; first | (simp [hs61]; done) | (simp_all; done) | grind)),rfl,rfl,rfl,trivial⟩)
  ·intro hs61
   refine AtL.move (.inr ⟨_,_,_,rfl,rfl,rfl,rfl⟩) rfl rfl ?_
   refine AtL.indexS (l:=subl s (i + 1) s.length) 1 rfl kW Tryz.underlying9 (.inr ⟨_,_,_,rfl,rfl,rfl,rfl⟩) rfl rfl rfl<|AtL.call zcQ (.inr ⟨_,_,_,rfl,rfl,rfl,rfl⟩) rfl rfl (zea ((subl s (i + 1) s.length).getD 1 0)) ?_
   rintro _ _ ⟨rfl,rfl⟩
   refine AtL.not (.inr ⟨_,_,_,rfl,rfl,rfl,rfl⟩) rfl rfl<|AtL.pickF zg0 rfl rfl rfl ?_
   exact J _ (by exact ⟨(boolIs (by clear J; first | (simp [hs61]; done) | (simp_all; done) | grind)),rfl,rfl,rfl,trivial⟩)
 ·refine AtL.move zg0 rfl rfl<|AtL.joinS 5 (E':=[(72,.bool (decide (((((subl s (i + 1) s.length).length:Int) < 3)∨(¬ (48≤((subl s (i + 1) s.length).getD 1 0).toNat∧((subl s (i + 1) s.length).getD 1 0).toNat≤57)))∨(¬ (48≤((subl s (i + 1) s.length).getD 2 0).toNat∧((subl s (i + 1) s.length).getD 2 0).toNat≤57))))),(0,.pointer (some ⟨pb,0,none⟩)),(3,.int .i64 (i:Int)),(4,str (subl s (i + 1) s.length))]) (fun J => ?_) ?_
  ·refine AtL.splitD (t:=67) rfl ?_ ?_
   ·intro hs67
    refine AtL.skipped rfl rfl rfl rfl rfl rfl<|AtL.skipped rfl rfl rfl rfl rfl rfl<|AtL.skipped rfl rfl rfl rfl rfl rfl<|AtL.skipped rfl rfl rfl rfl rfl rfl<|AtL.pickT zg0 rfl rfl rfl ?_
    exact J _ (by exact ⟨(boolIs (by clear J; first | (simp [hs67]; done) | (simp_all; done) | grind)),rfl,rfl,rfl,trivial⟩)
   ·intro hs67
    refine AtL.move (.inr ⟨_,_,_,rfl,rfl,rfl,rfl⟩) rfl rfl ?_
    refine AtL.indexS (l:=subl s (i + 1) s.length) 2 rfl kW Tryz.underlying9 (.inr ⟨_,_,_,rfl,rfl,rfl,rfl⟩) rfl rfl rfl<|AtL.call zcQ (.inr ⟨_,_,_,rfl,rfl,rfl,rfl⟩) rfl rfl (zea ((subl s (i + 1) s.length).getD 2 0)) ?_
    rintro _ _ ⟨rfl,rfl⟩
    refine AtL.not (.inr ⟨_,_,_,rfl,rfl,rfl,rfl⟩) rfl rfl<|AtL.pickF zg0 rfl rfl rfl ?_
    exact J _ (by exact ⟨(boolIs (by clear J; first | (simp [hs67]; done) | (simp_all; done) | grind)),rfl,rfl,rfl,trivial⟩)
  ·refine AtL.assign zg0 rfl rfl<|AtL.done ?_
   refine At.condIs false rfl (decide_eq_false kW)<|At.skip<|At.inBlock<|At.seq ?_
   have hB1:=u8_le ((c / 100))
   have hB2:=u8_le ((c / 10 % 10))
   have hB3:=u8_le ((c % 10))
   refine At.draw (es:=[]) (pv:=[(0,str (subl s (i + 1) s.length)),(1,.int .u8 (((subl s (i + 1) s.length).getD 0 0).toNat:Int)),(2,.int .u8 ((c / 100).toNat:Int)),(3,.int .i64 ((c / 100).toNat:Int)),(4,.int .i64 (100 * ((c / 100).toNat:Int))),(5,str (subl s (i + 1) s.length)),(6,.int .u8 (((subl s (i + 1) s.length).getD 1 0).toNat:Int)),(7,.int .u8 ((c / 10 % 10).toNat:Int)),(8,.int .i64 ((c / 10 % 10).toNat:Int)),(9,.int .i64 (10 * ((c / 10 % 10).toNat:Int))),(10,.int .i64 ((100 * ((c / 100).toNat:Int)) + (10 * ((c / 10 % 10).toNat:Int)))),(11,str (subl s (i + 1) s.length)),(12,.int .u8 (((subl s (i + 1) s.length).getD 2 0).toNat:Int)),(13,.int .u8 ((c % 10).toNat:Int)),(14,.int .i64 ((c % 10).toNat:Int)),(15,.int .i64 (((100 * ((c / 100).toNat:Int)) + (10 * ((c / 10 % 10).toNat:Int))) + ((c % 10).toNat:Int))),(16,.int .i64 (((100 * ((c / 100).toNat:Int)) + (10 * ((c / 10 % 10).toNat:Int))) + ((c % 10).toNat:Int)))]) zaj kR kR kR ?_
   refine ⟨⟨zpr rfl rfl rfl (Do.move rfl),zpr rfl rfl rfl (Do.indexS (l:=subl s (i + 1) s.length) 0 rfl kW Tryz.underlying9 rfl rfl),zpr rfl rfl rfl (Do.sub (z:=((c / 100).toNat:Int)) rfl rfl (by rw [hd0]; exact dg_s1 c)),zpr rfl rfl rfl (Do.convInt (z:=((c / 100).toNat:Int)) Tryz.underlying5 Tryz.underlying3 rfl (zbK _)),zpr rfl rfl rfl (Do.mul (z:=100 * ((c / 100).toNat:Int)) rfl rfl (w64 kW kW)),zpr rfl rfl rfl (Do.move rfl),zpr rfl rfl rfl (Do.indexS (l:=subl s (i + 1) s.length) 1 rfl kW Tryz.underlying9 rfl rfl),zpr rfl rfl rfl (Do.sub (z:=((c / 10 % 10).toNat:Int)) rfl rfl (by rw [hd1]; exact dg_s2 c)),zpr rfl rfl rfl (Do.convInt (z:=((c / 10 % 10).toNat:Int)) Tryz.underlying5 Tryz.underlying3 rfl (zbK _)),zpr rfl rfl rfl (Do.mul (z:=10 * ((c / 10 % 10).toNat:Int)) rfl rfl (w64 kW kW)),zpr rfl rfl rfl (Do.add (z:=(100 * ((c / 100).toNat:Int)) + (10 * ((c / 10 % 10).toNat:Int))) rfl rfl (w64 kW kW)),zpr rfl rfl rfl (Do.move rfl),zpr rfl rfl rfl (Do.indexS (l:=subl s (i + 1) s.length) 2 rfl kW Tryz.underlying9 rfl rfl),zpr rfl rfl rfl (Do.sub (z:=((c % 10).toNat:Int)) rfl rfl (by rw [hd2]; exact dg_s3 c)),zpr rfl rfl rfl (Do.convInt (z:=((c % 10).toNat:Int)) Tryz.underlying5 Tryz.underlying3 rfl (zbK _)),zpr rfl rfl rfl (Do.add (z:=((100 * ((c / 100).toNat:Int)) + (10 * ((c / 10 % 10).toNat:Int))) + ((c % 10).toNat:Int)) rfl rfl (w64 kW kW)),zpr rfl rfl rfl (Do.assign rfl),trivial⟩,by kernel_rfl,?_⟩
   refine At.mono (E':=[(0,.pointer (some ⟨pb,0,none⟩)),(3,.int .i64 (i:Int)),(5,.int .i64 (((100 * ((c / 100).toNat:Int)) + (10 * ((c / 10 % 10).toNat:Int))) + ((c % 10).toNat:Int)))]) ⟨rfl,rfl,rfl,trivial⟩<|At.seq<|At.seq<|At.region<|AtL.move zg0 rfl rfl<|AtL.gtr zg0 rfl rfl rfl ?_
   refine AtL.done ?_
   refine At.condIs false rfl (decide_eq_false kW)<|At.skip<|At.seq<|At.region<|AtL.move zg0 rfl rfl<|AtL.nilCheck zg0 rfl rfl ?_
   refine AtL.fieldAddrB zac zg0 rfl rfl rfl<|AtL.fieldAddrB zag zg0 rfl rfl rfl<|AtL.load zab zg0 rfl rfl (Cell.own 0 0 rfl rfl rfl) ?_
   refine AtL.add (z:=(i:Int) + 4) zg0 rfl rfl rfl (w64 kW kW)<|AtL.nilCheck zg0 rfl rfl<|AtL.fieldAddrB zac zg0 rfl rfl rfl<|AtL.fieldAddrB zag zg0 rfl rfl rfl<|AtL.store (H':=[(pb,.cells #[str s,.int .i64 ((i:Int) + 4),lv] 143 (0,0))]::H) 0 0 zan zg0 rfl rfl rfl rfl rfl rfl rfl rfl rfl<|AtL.done ?_
   refine At.seq<|At.region<|AtL.move zg0 rfl rfl<|AtL.convInt (z:=((UInt8.ofInt (((100 * ((c / 100).toNat:Int)) + (10 * ((c / 10 % 10).toNat:Int))) + ((c % 10).toNat:Int))).toNat:Int)) Tryz.underlying3 Tryz.underlying5 zg0 rfl rfl (zee _)<|AtL.assign zg0 rfl rfl<|AtL.done ?_
   exact At.ret Tryz.func127 rfl rfl (⟨by rw [hsm,zes,UInt8.ofNat_toNat]; rfl,rfl⟩)
theorem label_ok {w0:World}{base:Nat}{H:List Seg}{pb:Nat}{s t r:List UInt8}{i:Nat}{x:Sl tyS 9}(hsl:s.length≤100000) (hs:s.drop i=labT t++46::r) (ht:1≤t.length∧t.length≤63) (hxl:x.l.length≤1000) :
  SCalls Tryz.prog 62 [.pointer (some ⟨pb,0,none⟩)] w0 base (x.s::[(pb,.cells #[str s,.int .i64 (i:Int),.slice x.A x.l.length x.C] 143 (0,0))]::H) (fun v H' => ∃ (y:Sl tyS 9) (a:Nat),y.l=x.l++[t]∧(v = .tuple #[]∧a=i + (labT t).length)∧H' = y.s::[(pb,.cells #[str s,.int .i64 ((a:Int) + 1),.slice y.A y.l.length y.C] 143 (0,0))]::H):=by
 have hd0:=lab_drop (j:=0) (a:=i) hs (by simp [labT])
 have hh0:=lab_head hd0 kW
 have hl0:=lab_len hd0
 have hcx:=Own.cap_le x.own
 refine SCalls.of_walk (n:=129) Tryz.func62 rfl rfl rfl fun cs => ?_
 refine At.seq<|At.region<|AtL.move zg0 rfl rfl<|AtL.nilCheck zg0 rfl rfl<|AtL.fieldAddrB zac zg0 rfl rfl rfl<|AtL.fieldAddrB zag zg0 rfl rfl rfl ?_
 refine AtL.load zab zg0 rfl rfl (Cell.own 1 0 rfl rfl rfl)<|AtL.assign zg0 rfl rfl<|AtL.done<|At.seq<|At.region<|AtL.assign zg0 rfl rfl ?_
 refine AtL.done<|At.seq<|At.seq ?_
 refine At.draw (es:=[]) (pv:=[(0,.pointer (some ⟨pb,0,none⟩)),(1,.pointer (some ⟨pb,0,none⟩)),(2,.pointer (some ⟨pb,0,none⟩)),(3,.pointer (some ⟨pb,0,none⟩)),(4,str s),(5,.pointer (some ⟨pb,0,none⟩)),(6,.pointer (some ⟨pb,0,none⟩)),(7,.pointer (some ⟨pb,0,none⟩)),(8,.pointer (some ⟨pb,1,none⟩)),(9,.int .i64 (i:Int)),(10,.int .u8 ((s.getD i 0).toNat:Int)),(11,.bool false)]) zaj kR kR kR ?_
 refine ⟨⟨zpr rfl rfl rfl (Do.move rfl),zpr rfl rfl rfl (Do.nilCheck rfl),zpr rfl rfl rfl (Do.fieldAddrB zac rfl rfl),zpr rfl rfl rfl (Do.fieldAddrB zar rfl rfl),zpr rfl rfl rfl (Do.load zad rfl (Cell.own 1 0 rfl rfl rfl)),zpr rfl rfl rfl (Do.move rfl),zpr rfl rfl rfl (Do.nilCheck rfl),zpr rfl rfl rfl (Do.fieldAddrB zac rfl rfl),zpr rfl rfl rfl (Do.fieldAddrB zag rfl rfl),zpr rfl rfl rfl (Do.load zab rfl (Cell.own 1 0 rfl rfl rfl)),zpr rfl rfl rfl (Do.indexS (l:=s) i rfl kW Tryz.underlying9 rfl rfl),zpr rfl rfl rfl (Do.asBool (Do.eqi rfl rfl) (decide_eq_false kW)),trivial⟩,by kernel_rfl,?_⟩
 refine At.mono (E':=[(0,.pointer (some ⟨pb,0,none⟩)),(2,.int .i64 (i:Int)),(3,.slice none 0 0),(21,.bool false)]) ⟨rfl,rfl,rfl,rfl,trivial⟩<|At.condF rfl<|At.skip<|At.seq<|At.block<|At.nil ?_
 refine At.loop3 (fun (j:Nat) (b:Sl tyB 5) (a:Nat) => [(0,.pointer (some ⟨pb,0,none⟩)),(2,.int .i64 (i:Int)),(3,.slice b.A b.l.length b.C)]) (fun (j:Nat) (b:Sl tyB 5) (a:Nat) => b.s::x.s::[(pb,.cells #[str s,.int .i64 (a:Int),.slice x.A x.l.length x.C] 143 (0,0))]::H) (fun (j:Nat) (b:Sl tyB 5) (a:Nat) => j≤t.length∧b.l=t.take j∧a=i + (labT (t.take j)).length) (fun (j:Nat) (b:Sl tyB 5) (a:Nat) => t.length - j) 0 Sl.nil i (⟨Nat.zero_le _,rfl,by simp [labT]⟩) ⟨rfl,rfl,rfl,trivial⟩ rfl ?_
 rintro j b a ⟨hj,hb,ha⟩ ihL1
 have hdr:=lab_drop hs ha
 have hal:=lab_len hdr
 have hbl:=congrArg List.length hb
 rw [List.length_take] at hbl
 have hcb:=Own.cap_le b.own
 refine At.seq<|At.seq ?_
 rcases Nat.lt_or_ge j t.length with hjt | hjt
 ·have hh:=lab_head hdr hjt
  have hn9:=lab_next hdr hjt
  rcases letF_cases (t.getD j 0) with ⟨hlf,hc9⟩ | ⟨hlf,hpc⟩ | hlf
  ·have hg0:=zbC hn9 0
   rw [hlf,Nat.add_zero] at hg0
   have hln:=congrArg List.length hn9
   rw [hlf,List.length_drop] at hln
   simp only [List.length_append,List.length_cons,List.length_nil] at hln
   have hg1:s.getD a 0=t.getD j 0:=hg0
   refine At.draw (es:=[]) (pv:=[(0,.pointer (some ⟨pb,0,none⟩)),(1,.pointer (some ⟨pb,0,none⟩)),(2,.pointer (some ⟨pb,0,none⟩)),(3,.pointer (some ⟨pb,1,none⟩)),(4,.int .i64 (a:Int)),(5,.pointer (some ⟨pb,0,none⟩)),(6,.pointer (some ⟨pb,0,none⟩)),(7,.pointer (some ⟨pb,0,none⟩)),(8,.pointer (some ⟨pb,0,none⟩)),(9,str s),(10,.int .i64 (s.length:Int)),(11,.bool true),(12,.bool true),(13,.pointer (some ⟨pb,0,none⟩)),(14,.pointer (some ⟨pb,0,none⟩)),(15,.pointer (some ⟨pb,0,none⟩)),(16,.pointer (some ⟨pb,0,none⟩)),(17,str s),(18,.pointer (some ⟨pb,0,none⟩)),(19,.pointer (some ⟨pb,0,none⟩)),(20,.pointer (some ⟨pb,0,none⟩)),(21,.pointer (some ⟨pb,1,none⟩)),(22,.int .i64 (a:Int)),(23,.int .u8 ((s.getD a 0).toNat:Int)),(24,.bool true),(25,.bool true)]) zaj kR kR kR ?_
   refine ⟨⟨zpr rfl rfl rfl (Do.move rfl),zpr rfl rfl rfl (Do.nilCheck rfl),zpr rfl rfl rfl (Do.fieldAddrB zac rfl rfl),zpr rfl rfl rfl (Do.fieldAddrB zag rfl rfl),zpr rfl rfl rfl (Do.load zab rfl (Cell.own 2 0 rfl rfl rfl)),zpr rfl rfl rfl (Do.move rfl),zpr rfl rfl rfl (Do.nilCheck rfl),zpr rfl rfl rfl (Do.fieldAddrB zac rfl rfl),zpr rfl rfl rfl (Do.fieldAddrB zar rfl rfl),zpr rfl rfl rfl (Do.load zad rfl (Cell.own 2 0 rfl rfl rfl)),zpr rfl rfl rfl (Do.lenS (l:=s) Tryz.underlying9 rfl),zpr rfl rfl rfl (Do.asBool (Do.lss rfl rfl) (decide_eq_true kW)),zpr rfl rfl rfl (Do.move rfl),zpr rfl rfl ⟨_,_,_,rfl,rfl,rfl,rfl⟩ (Do.move rfl),zpr rfl rfl ⟨_,_,_,rfl,rfl,rfl,rfl⟩ (Do.nilCheck rfl),zpr rfl rfl ⟨_,_,_,rfl,rfl,rfl,rfl⟩ (Do.fieldAddrB zac rfl rfl),zpr rfl rfl ⟨_,_,_,rfl,rfl,rfl,rfl⟩ (Do.fieldAddrB zar rfl rfl),zpr rfl rfl ⟨_,_,_,rfl,rfl,rfl,rfl⟩ (Do.load zad rfl (Cell.own 2 0 rfl rfl rfl)),zpr rfl rfl ⟨_,_,_,rfl,rfl,rfl,rfl⟩ (Do.move rfl),zpr rfl rfl ⟨_,_,_,rfl,rfl,rfl,rfl⟩ (Do.nilCheck rfl),zpr rfl rfl ⟨_,_,_,rfl,rfl,rfl,rfl⟩ (Do.fieldAddrB zac rfl rfl),zpr rfl rfl ⟨_,_,_,rfl,rfl,rfl,rfl⟩ (Do.fieldAddrB zag rfl rfl),zpr rfl rfl ⟨_,_,_,rfl,rfl,rfl,rfl⟩ (Do.load zab rfl (Cell.own 2 0 rfl rfl rfl)),zpr rfl rfl ⟨_,_,_,rfl,rfl,rfl,rfl⟩ (Do.indexS (l:=s) a rfl kW Tryz.underlying9 rfl rfl),zpr rfl rfl ⟨_,_,_,rfl,rfl,rfl,rfl⟩ (Do.asBool (Do.nei rfl rfl) (by rw [decide_eq_false (show ¬ (((s.getD a 0).toNat:Int)=46) by omega)]; rfl)),zpr rfl rfl rfl (Do.pickT rfl rfl),trivial⟩,by kernel_rfl,?_⟩
   refine At.mono (E':=[(0,.pointer (some ⟨pb,0,none⟩)),(2,.int .i64 (i:Int)),(3,.slice b.A b.l.length b.C),(52,.bool true)]) ⟨rfl,rfl,rfl,rfl,trivial⟩<|At.condT rfl<|At.skip<|At.block<|At.seq ?_
   refine At.draw (es:=[]) (pv:=[(0,.pointer (some ⟨pb,0,none⟩)),(1,.pointer (some ⟨pb,0,none⟩)),(2,.pointer (some ⟨pb,0,none⟩)),(3,.pointer (some ⟨pb,0,none⟩)),(4,str s),(5,.pointer (some ⟨pb,0,none⟩)),(6,.pointer (some ⟨pb,0,none⟩)),(7,.pointer (some ⟨pb,0,none⟩)),(8,.pointer (some ⟨pb,1,none⟩)),(9,.int .i64 (a:Int)),(10,.int .u8 ((s.getD a 0).toNat:Int)),(11,.int .u8 ((s.getD a 0).toNat:Int))]) zaj kR kR kR ?_
   refine ⟨⟨zpr rfl rfl rfl (Do.move rfl),zpr rfl rfl rfl (Do.nilCheck rfl),zpr rfl rfl rfl (Do.fieldAddrB zac rfl rfl),zpr rfl rfl rfl (Do.fieldAddrB zar rfl rfl),zpr rfl rfl rfl (Do.load zad rfl (Cell.own 2 0 rfl rfl rfl)),zpr rfl rfl rfl (Do.move rfl),zpr rfl rfl rfl (Do.nilCheck rfl),zpr rfl rfl rfl (Do.fieldAddrB zac rfl rfl),zpr rfl rfl rfl (Do.fieldAddrB zag rfl rfl),zpr rfl rfl rfl (Do.load zab rfl (Cell.own 2 0 rfl rfl rfl)),zpr rfl rfl rfl (Do.indexS (l:=s) a rfl kW Tryz.underlying9 rfl rfl),zpr rfl rfl rfl (Do.assign rfl),trivial⟩,by kernel_rfl,?_⟩
   refine At.mono (E':=[(0,.pointer (some ⟨pb,0,none⟩)),(2,.int .i64 (i:Int)),(3,.slice b.A b.l.length b.C),(4,.int .u8 ((s.getD a 0).toNat:Int))]) ⟨rfl,rfl,rfl,rfl,trivial⟩<|At.block<|At.seq<|At.region<|AtL.move zg0 rfl rfl<|AtL.lss zg0 rfl rfl rfl ?_
   refine AtL.move zg0 rfl rfl<|AtL.joinS 3 (E':=[(83,.bool (decide ((((s.getD a 0).toNat:Int) < 33)∨(126 < ((s.getD a 0).toNat:Int))))),(0,.pointer (some ⟨pb,0,none⟩)),(2,.int .i64 (i:Int)),(3,.slice b.A b.l.length b.C),(4,.int .u8 ((s.getD a 0).toNat:Int))]) (fun J => ?_) ?_
   ·refine AtL.splitD (t:=80) rfl ?_ ?_
    ·intro hs80
     refine AtL.skipped rfl rfl rfl rfl rfl rfl<|AtL.skipped rfl rfl rfl rfl rfl rfl<|AtL.pickT zg0 rfl rfl rfl ?_
     exact J _ (by exact ⟨(boolIs (by clear J; first | (simp [hs80]; done) | (simp_all; done) | grind)),rfl,rfl,rfl,rfl,trivial⟩)
    ·intro hs80
     refine AtL.move (.inr ⟨_,_,_,rfl,rfl,rfl,rfl⟩) rfl rfl<|AtL.gtr (.inr ⟨_,_,_,rfl,rfl,rfl,rfl⟩) rfl rfl rfl<|AtL.pickF zg0 rfl rfl rfl ?_
     exact J _ (by exact ⟨(boolIs (by clear J; first | (simp [hs80]; done) | (simp_all; done) | grind)),rfl,rfl,rfl,rfl,trivial⟩)
   ·refine AtL.assign zg0 rfl rfl<|AtL.done ?_
    refine At.condIs false rfl (decide_eq_false kW)<|At.seq<|At.region<|AtL.move zg0 rfl rfl<|AtL.eqi zg0 rfl rfl rfl<|AtL.assign zg0 rfl rfl ?_
    refine AtL.done ?_
    refine At.condIs false rfl (decide_eq_false (by rw [hg1]; omega))<|At.seq<|At.region<|AtL.move zg0 rfl rfl<|AtL.move zg0 rfl rfl<|AtL.buildSlice (cs:=[.int .u8 ((s.getD a 0).toNat:Int)]) Tryz.underlying22 zaQ zaR rfl rfl zg0 rfl rfl rfl ?_
    intro b1
    refine AtL.own1 tyB (l:=([s.getD a 0]:List UInt8)) rfl rfl kP ?_
    intro s2 o3
    refine AtL.append (l:=b.l) (news:=[s.getD a 0]) 1 zas rfl b.own (o3.rd (i:=0) rfl) kE zg0 rfl rfl rfl ?_
    intro A4 C5 s6 o7
    refine AtL.assign zg0 rfl rfl<|AtL.done<|At.region<|AtL.move zg0 rfl rfl<|AtL.nilCheck zg0 rfl rfl<|AtL.fieldAddrB zac zg0 rfl rfl rfl ?_
    refine AtL.fieldAddrB zag zg0 rfl rfl rfl<|AtL.load zab zg0 rfl rfl (Cell.own 3 0 rfl rfl rfl) ?_
    refine AtL.add (z:=(a:Int) + 1) zg0 rfl rfl rfl (w64 kW kW)<|AtL.nilCheck zg0 rfl rfl<|AtL.fieldAddrB zac zg0 rfl rfl rfl<|AtL.fieldAddrB zag zg0 rfl rfl rfl<|AtL.store (H':=s2::s6::x.s::[(pb,.cells #[str s,.int .i64 ((a:Int) + 1),.slice x.A x.l.length x.C] 143 (0,0))]::H) 3 0 zan zg0 rfl rfl rfl rfl rfl rfl rfl rfl rfl<|AtL.done ?_
    refine At.inBlock<|At.inBlock<|At.pick (H':=s6::x.s::[(pb,.cells #[str s,.int .i64 ((a:Int) + 1),.slice x.A x.l.length x.C] 143 (0,0))]::H) [1,2,3] 4 rfl rfl ?_
    refine ihL1 (j + 1) (⟨A4,C5,b.l++[s.getD a 0],s6,o7⟩) (a + 1) (⟨by omega,by dsimp only; rw [zb8 kW,hb,hg1],by rw [zew kW,ha,hlf]; rfl⟩) kW _ ?_
    exact ⟨rfl,rfl,kQ,trivial⟩
  ·have hg0:=zbC hn9 0
   rw [hlf,Nat.add_zero] at hg0
   have hln:=congrArg List.length hn9
   rw [hlf,List.length_drop] at hln
   simp only [List.length_append,List.length_cons,List.length_nil] at hln
   have hg1:s.getD a 0=92:=hg0
   have hp1:=zbC hn9 1
   rw [hlf] at hp1
   replace hp1:s.getD (a + 1) 0=t.getD j 0:=hp1
   refine At.draw (es:=[]) (pv:=[(0,.pointer (some ⟨pb,0,none⟩)),(1,.pointer (some ⟨pb,0,none⟩)),(2,.pointer (some ⟨pb,0,none⟩)),(3,.pointer (some ⟨pb,1,none⟩)),(4,.int .i64 (a:Int)),(5,.pointer (some ⟨pb,0,none⟩)),(6,.pointer (some ⟨pb,0,none⟩)),(7,.pointer (some ⟨pb,0,none⟩)),(8,.pointer (some ⟨pb,0,none⟩)),(9,str s),(10,.int .i64 (s.length:Int)),(11,.bool true),(12,.bool true),(13,.pointer (some ⟨pb,0,none⟩)),(14,.pointer (some ⟨pb,0,none⟩)),(15,.pointer (some ⟨pb,0,none⟩)),(16,.pointer (some ⟨pb,0,none⟩)),(17,str s),(18,.pointer (some ⟨pb,0,none⟩)),(19,.pointer (some ⟨pb,0,none⟩)),(20,.pointer (some ⟨pb,0,none⟩)),(21,.pointer (some ⟨pb,1,none⟩)),(22,.int .i64 (a:Int)),(23,.int .u8 ((s.getD a 0).toNat:Int)),(24,.bool true),(25,.bool true)]) zaj kR kR kR ?_
   refine ⟨⟨zpr rfl rfl rfl (Do.move rfl),zpr rfl rfl rfl (Do.nilCheck rfl),zpr rfl rfl rfl (Do.fieldAddrB zac rfl rfl),zpr rfl rfl rfl (Do.fieldAddrB zag rfl rfl),zpr rfl rfl rfl (Do.load zab rfl (Cell.own 2 0 rfl rfl rfl)),zpr rfl rfl rfl (Do.move rfl),zpr rfl rfl rfl (Do.nilCheck rfl),zpr rfl rfl rfl (Do.fieldAddrB zac rfl rfl),zpr rfl rfl rfl (Do.fieldAddrB zar rfl rfl),zpr rfl rfl rfl (Do.load zad rfl (Cell.own 2 0 rfl rfl rfl)),zpr rfl rfl rfl (Do.lenS (l:=s) Tryz.underlying9 rfl),zpr rfl rfl rfl (Do.asBool (Do.lss rfl rfl) (decide_eq_true kW)),zpr rfl rfl rfl (Do.move rfl),zpr rfl rfl ⟨_,_,_,rfl,rfl,rfl,rfl⟩ (Do.move rfl),zpr rfl rfl ⟨_,_,_,rfl,rfl,rfl,rfl⟩ (Do.nilCheck rfl),zpr rfl rfl ⟨_,_,_,rfl,rfl,rfl,rfl⟩ (Do.fieldAddrB zac rfl rfl),zpr rfl rfl ⟨_,_,_,rfl,rfl,rfl,rfl⟩ (Do.fieldAddrB zar rfl rfl),zpr rfl rfl ⟨_,_,_,rfl,rfl,rfl,rfl⟩ (Do.load zad rfl (Cell.own 2 0 rfl rfl rfl)),zpr rfl rfl ⟨_,_,_,rfl,rfl,rfl,rfl⟩ (Do.move rfl),zpr rfl rfl ⟨_,_,_,rfl,rfl,rfl,rfl⟩ (Do.nilCheck rfl),zpr rfl rfl ⟨_,_,_,rfl,rfl,rfl,rfl⟩ (Do.fieldAddrB zac rfl rfl),zpr rfl rfl ⟨_,_,_,rfl,rfl,rfl,rfl⟩ (Do.fieldAddrB zag rfl rfl),zpr rfl rfl ⟨_,_,_,rfl,rfl,rfl,rfl⟩ (Do.load zab rfl (Cell.own 2 0 rfl rfl rfl)),zpr rfl rfl ⟨_,_,_,rfl,rfl,rfl,rfl⟩ (Do.indexS (l:=s) a rfl kW Tryz.underlying9 rfl rfl),zpr rfl rfl ⟨_,_,_,rfl,rfl,rfl,rfl⟩ (Do.asBool (Do.nei rfl rfl) (by rw [decide_eq_false (show ¬ (((s.getD a 0).toNat:Int)=46) by omega)]; rfl)),zpr rfl rfl rfl (Do.pickT rfl rfl),trivial⟩,by kernel_rfl,?_⟩
   refine At.mono (E':=[(0,.pointer (some ⟨pb,0,none⟩)),(2,.int .i64 (i:Int)),(3,.slice b.A b.l.length b.C),(52,.bool true)]) ⟨rfl,rfl,rfl,rfl,trivial⟩<|At.condT rfl<|At.skip<|At.block<|At.seq ?_
   refine At.draw (es:=[]) (pv:=[(0,.pointer (some ⟨pb,0,none⟩)),(1,.pointer (some ⟨pb,0,none⟩)),(2,.pointer (some ⟨pb,0,none⟩)),(3,.pointer (some ⟨pb,0,none⟩)),(4,str s),(5,.pointer (some ⟨pb,0,none⟩)),(6,.pointer (some ⟨pb,0,none⟩)),(7,.pointer (some ⟨pb,0,none⟩)),(8,.pointer (some ⟨pb,1,none⟩)),(9,.int .i64 (a:Int)),(10,.int .u8 ((s.getD a 0).toNat:Int)),(11,.int .u8 ((s.getD a 0).toNat:Int))]) zaj kR kR kR ?_
   refine ⟨⟨zpr rfl rfl rfl (Do.move rfl),zpr rfl rfl rfl (Do.nilCheck rfl),zpr rfl rfl rfl (Do.fieldAddrB zac rfl rfl),zpr rfl rfl rfl (Do.fieldAddrB zar rfl rfl),zpr rfl rfl rfl (Do.load zad rfl (Cell.own 2 0 rfl rfl rfl)),zpr rfl rfl rfl (Do.move rfl),zpr rfl rfl rfl (Do.nilCheck rfl),zpr rfl rfl rfl (Do.fieldAddrB zac rfl rfl),zpr rfl rfl rfl (Do.fieldAddrB zag rfl rfl),zpr rfl rfl rfl (Do.load zab rfl (Cell.own 2 0 rfl rfl rfl)),zpr rfl rfl rfl (Do.indexS (l:=s) a rfl kW Tryz.underlying9 rfl rfl),zpr rfl rfl rfl (Do.assign rfl),trivial⟩,by kernel_rfl,?_⟩
   refine At.mono (E':=[(0,.pointer (some ⟨pb,0,none⟩)),(2,.int .i64 (i:Int)),(3,.slice b.A b.l.length b.C),(4,.int .u8 ((s.getD a 0).toNat:Int))]) ⟨rfl,rfl,rfl,rfl,trivial⟩<|At.block<|At.seq<|At.region<|AtL.move zg0 rfl rfl<|AtL.lss zg0 rfl rfl rfl ?_
   refine AtL.move zg0 rfl rfl<|AtL.joinS 3 (E':=[(83,.bool (decide ((((s.getD a 0).toNat:Int) < 33)∨(126 < ((s.getD a 0).toNat:Int))))),(0,.pointer (some ⟨pb,0,none⟩)),(2,.int .i64 (i:Int)),(3,.slice b.A b.l.length b.C),(4,.int .u8 ((s.getD a 0).toNat:Int))]) (fun J => ?_) ?_
   ·refine AtL.splitD (t:=80) rfl ?_ ?_
    ·intro hs80
     refine AtL.skipped rfl rfl rfl rfl rfl rfl<|AtL.skipped rfl rfl rfl rfl rfl rfl<|AtL.pickT zg0 rfl rfl rfl ?_
     exact J _ (by exact ⟨(boolIs (by clear J; first | (simp [hs80]; done) | (simp_all; done) | grind)),rfl,rfl,rfl,rfl,trivial⟩)
    ·intro hs80
     refine AtL.move (.inr ⟨_,_,_,rfl,rfl,rfl,rfl⟩) rfl rfl<|AtL.gtr (.inr ⟨_,_,_,rfl,rfl,rfl,rfl⟩) rfl rfl rfl<|AtL.pickF zg0 rfl rfl rfl ?_
     exact J _ (by exact ⟨(boolIs (by clear J; first | (simp [hs80]; done) | (simp_all; done) | grind)),rfl,rfl,rfl,rfl,trivial⟩)
   ·refine AtL.assign zg0 rfl rfl<|AtL.done ?_
    refine At.condIs false rfl (decide_eq_false kW)<|At.seq<|At.region<|AtL.move zg0 rfl rfl<|AtL.eqi zg0 rfl rfl rfl<|AtL.assign zg0 rfl rfl ?_
    refine AtL.done ?_
    refine At.condIs true rfl (decide_eq_true (by rw [hg1]; rfl))<|At.region<|AtL.move zg0 rfl rfl<|AtL.move zg0 rfl rfl<|AtL.pick (H':=[(pb,.cells #[str s,.int .i64 (a:Int),.slice x.A x.l.length x.C] 143 (0,0))]::b.s::x.s::H) [2,0,1] 3 rfl rfl ?_
    refine AtL.call ze0 zg0 rfl rfl (esc_pt (s:=s) (i:=a) (c:=t.getD j 0) hsl kW hp1 hpc) ?_
    rintro _ _ ⟨rfl,rfl⟩
    refine AtL.buildSlice (cs:=[.int .u8 ((t.getD j 0).toNat:Int)]) Tryz.underlying22 zaQ zaR rfl rfl zg0 rfl rfl rfl ?_
    intro b8
    refine AtL.own1 tyB (l:=([t.getD j 0]:List UInt8)) rfl rfl kP ?_
    intro s9 o10
    refine AtL.append (l:=b.l) (news:=[t.getD j 0]) 2 zas rfl b.own (o10.rd (i:=0) rfl) kE zg0 rfl rfl rfl ?_
    intro A11 C12 s13 o14
    refine AtL.assign zg0 rfl rfl<|AtL.done<|At.inBlock<|At.inBlock<|At.pick (H':=s13::x.s::[(pb,.cells #[str s,.int .i64 ((a:Int) + 2),.slice x.A x.l.length x.C] 143 (0,0))]::H) [2,3,1] 4 rfl rfl ?_
    refine ihL1 (j + 1) (⟨A11,C12,b.l++[t.getD j 0],s13,o14⟩) (a + 2) (⟨by omega,by dsimp only; rw [zb8 kW,hb],by rw [zew kW,ha,hlf]; rfl⟩) kW _ ?_
    exact ⟨rfl,rfl,kQ,trivial⟩
  ·have hg0:=zbC hn9 0
   rw [hlf,Nat.add_zero] at hg0
   have hln:=congrArg List.length hn9
   rw [hlf,List.length_drop] at hln
   simp only [List.length_append,List.length_cons,List.length_nil] at hln
   have hg1:s.getD a 0=92:=hg0
   have hp1:=zbC hn9 1
   rw [hlf] at hp1
   replace hp1:s.getD (a + 1) 0=48 + t.getD j 0 / 100:=hp1
   have hp2:=zbC hn9 2
   rw [hlf] at hp2
   replace hp2:s.getD (a + 2) 0=48 + t.getD j 0 / 10 % 10:=hp2
   have hp3:=zbC hn9 3
   rw [hlf] at hp3
   replace hp3:s.getD (a + 3) 0=48 + t.getD j 0 % 10:=hp3
   refine At.draw (es:=[]) (pv:=[(0,.pointer (some ⟨pb,0,none⟩)),(1,.pointer (some ⟨pb,0,none⟩)),(2,.pointer (some ⟨pb,0,none⟩)),(3,.pointer (some ⟨pb,1,none⟩)),(4,.int .i64 (a:Int)),(5,.pointer (some ⟨pb,0,none⟩)),(6,.pointer (some ⟨pb,0,none⟩)),(7,.pointer (some ⟨pb,0,none⟩)),(8,.pointer (some ⟨pb,0,none⟩)),(9,str s),(10,.int .i64 (s.length:Int)),(11,.bool true),(12,.bool true),(13,.pointer (some ⟨pb,0,none⟩)),(14,.pointer (some ⟨pb,0,none⟩)),(15,.pointer (some ⟨pb,0,none⟩)),(16,.pointer (some ⟨pb,0,none⟩)),(17,str s),(18,.pointer (some ⟨pb,0,none⟩)),(19,.pointer (some ⟨pb,0,none⟩)),(20,.pointer (some ⟨pb,0,none⟩)),(21,.pointer (some ⟨pb,1,none⟩)),(22,.int .i64 (a:Int)),(23,.int .u8 ((s.getD a 0).toNat:Int)),(24,.bool true),(25,.bool true)]) zaj kR kR kR ?_
   refine ⟨⟨zpr rfl rfl rfl (Do.move rfl),zpr rfl rfl rfl (Do.nilCheck rfl),zpr rfl rfl rfl (Do.fieldAddrB zac rfl rfl),zpr rfl rfl rfl (Do.fieldAddrB zag rfl rfl),zpr rfl rfl rfl (Do.load zab rfl (Cell.own 2 0 rfl rfl rfl)),zpr rfl rfl rfl (Do.move rfl),zpr rfl rfl rfl (Do.nilCheck rfl),zpr rfl rfl rfl (Do.fieldAddrB zac rfl rfl),zpr rfl rfl rfl (Do.fieldAddrB zar rfl rfl),zpr rfl rfl rfl (Do.load zad rfl (Cell.own 2 0 rfl rfl rfl)),zpr rfl rfl rfl (Do.lenS (l:=s) Tryz.underlying9 rfl),zpr rfl rfl rfl (Do.asBool (Do.lss rfl rfl) (decide_eq_true kW)),zpr rfl rfl rfl (Do.move rfl),zpr rfl rfl ⟨_,_,_,rfl,rfl,rfl,rfl⟩ (Do.move rfl),zpr rfl rfl ⟨_,_,_,rfl,rfl,rfl,rfl⟩ (Do.nilCheck rfl),zpr rfl rfl ⟨_,_,_,rfl,rfl,rfl,rfl⟩ (Do.fieldAddrB zac rfl rfl),zpr rfl rfl ⟨_,_,_,rfl,rfl,rfl,rfl⟩ (Do.fieldAddrB zar rfl rfl),zpr rfl rfl ⟨_,_,_,rfl,rfl,rfl,rfl⟩ (Do.load zad rfl (Cell.own 2 0 rfl rfl rfl)),zpr rfl rfl ⟨_,_,_,rfl,rfl,rfl,rfl⟩ (Do.move rfl),zpr rfl rfl ⟨_,_,_,rfl,rfl,rfl,rfl⟩ (Do.nilCheck rfl),zpr rfl rfl ⟨_,_,_,rfl,rfl,rfl,rfl⟩ (Do.fieldAddrB zac rfl rfl),zpr rfl rfl ⟨_,_,_,rfl,rfl,rfl,rfl⟩ (Do.fieldAddrB zag rfl rfl),zpr rfl rfl ⟨_,_,_,rfl,rfl,rfl,rfl⟩ (Do.load zab rfl (Cell.own 2 0 rfl rfl rfl)),zpr rfl rfl ⟨_,_,_,rfl,rfl,rfl,rfl⟩ (Do.indexS (l:=s) a rfl kW Tryz.underlying9 rfl rfl),zpr rfl rfl ⟨_,_,_,rfl,rfl,rfl,rfl⟩ (Do.asBool (Do.nei rfl rfl) (by rw [decide_eq_false (show ¬ (((s.getD a 0).toNat:Int)=46) by omega)]; rfl)),zpr rfl rfl rfl (Do.pickT rfl rfl),trivial⟩,by kernel_rfl,?_⟩
   refine At.mono (E':=[(0,.pointer (some ⟨pb,0,none⟩)),(2,.int .i64 (i:Int)),(3,.slice b.A b.l.length b.C),(52,.bool true)]) ⟨rfl,rfl,rfl,rfl,trivial⟩<|At.condT rfl<|At.skip<|At.block<|At.seq ?_
   refine At.draw (es:=[]) (pv:=[(0,.pointer (some ⟨pb,0,none⟩)),(1,.pointer (some ⟨pb,0,none⟩)),(2,.pointer (some ⟨pb,0,none⟩)),(3,.pointer (some ⟨pb,0,none⟩)),(4,str s),(5,.pointer (some ⟨pb,0,none⟩)),(6,.pointer (some ⟨pb,0,none⟩)),(7,.pointer (some ⟨pb,0,none⟩)),(8,.pointer (some ⟨pb,1,none⟩)),(9,.int .i64 (a:Int)),(10,.int .u8 ((s.getD a 0).toNat:Int)),(11,.int .u8 ((s.getD a 0).toNat:Int))]) zaj kR kR kR ?_
   refine ⟨⟨zpr rfl rfl rfl (Do.move rfl),zpr rfl rfl rfl (Do.nilCheck rfl),zpr rfl rfl rfl (Do.fieldAddrB zac rfl rfl),zpr rfl rfl rfl (Do.fieldAddrB zar rfl rfl),zpr rfl rfl rfl (Do.load zad rfl (Cell.own 2 0 rfl rfl rfl)),zpr rfl rfl rfl (Do.move rfl),zpr rfl rfl rfl (Do.nilCheck rfl),zpr rfl rfl rfl (Do.fieldAddrB zac rfl rfl),zpr rfl rfl rfl (Do.fieldAddrB zag rfl rfl),zpr rfl rfl rfl (Do.load zab rfl (Cell.own 2 0 rfl rfl rfl)),zpr rfl rfl rfl (Do.indexS (l:=s) a rfl kW Tryz.underlying9 rfl rfl),zpr rfl rfl rfl (Do.assign rfl),trivial⟩,by kernel_rfl,?_⟩
   refine At.mono (E':=[(0,.pointer (some ⟨pb,0,none⟩)),(2,.int .i64 (i:Int)),(3,.slice b.A b.l.length b.C),(4,.int .u8 ((s.getD a 0).toNat:Int))]) ⟨rfl,rfl,rfl,rfl,trivial⟩<|At.block<|At.seq<|At.region<|AtL.move zg0 rfl rfl<|AtL.lss zg0 rfl rfl rfl ?_
   refine AtL.move zg0 rfl rfl<|AtL.joinS 3 (E':=[(83,.bool (decide ((((s.getD a 0).toNat:Int) < 33)∨(126 < ((s.getD a 0).toNat:Int))))),(0,.pointer (some ⟨pb,0,none⟩)),(2,.int .i64 (i:Int)),(3,.slice b.A b.l.length b.C),(4,.int .u8 ((s.getD a 0).toNat:Int))]) (fun J => ?_) ?_
   ·refine AtL.splitD (t:=80) rfl ?_ ?_
    ·intro hs80
     refine AtL.skipped rfl rfl rfl rfl rfl rfl<|AtL.skipped rfl rfl rfl rfl rfl rfl<|AtL.pickT zg0 rfl rfl rfl ?_
     exact J _ (by exact ⟨(boolIs (by clear J; first | (simp [hs80]; done) | (simp_all; done) | grind)),rfl,rfl,rfl,rfl,trivial⟩)
    ·intro hs80
     refine AtL.move (.inr ⟨_,_,_,rfl,rfl,rfl,rfl⟩) rfl rfl<|AtL.gtr (.inr ⟨_,_,_,rfl,rfl,rfl,rfl⟩) rfl rfl rfl<|AtL.pickF zg0 rfl rfl rfl ?_
     exact J _ (by exact ⟨(boolIs (by clear J; first | (simp [hs80]; done) | (simp_all; done) | grind)),rfl,rfl,rfl,rfl,trivial⟩)
   ·refine AtL.assign zg0 rfl rfl<|AtL.done ?_
    refine At.condIs false rfl (decide_eq_false kW)<|At.seq<|At.region<|AtL.move zg0 rfl rfl<|AtL.eqi zg0 rfl rfl rfl<|AtL.assign zg0 rfl rfl ?_
    refine AtL.done ?_
    refine At.condIs true rfl (decide_eq_true (by rw [hg1]; rfl))<|At.region<|AtL.move zg0 rfl rfl<|AtL.move zg0 rfl rfl<|AtL.pick (H':=[(pb,.cells #[str s,.int .i64 (a:Int),.slice x.A x.l.length x.C] 143 (0,0))]::b.s::x.s::H) [2,0,1] 3 rfl rfl ?_
    refine AtL.call ze0 zg0 rfl rfl (esc_dg (s:=s) (i:=a) (c:=t.getD j 0) hsl kW hp1 hp2 hp3) ?_
    rintro _ _ ⟨rfl,rfl⟩
    refine AtL.buildSlice (cs:=[.int .u8 ((t.getD j 0).toNat:Int)]) Tryz.underlying22 zaQ zaR rfl rfl zg0 rfl rfl rfl ?_
    intro b15
    refine AtL.own1 tyB (l:=([t.getD j 0]:List UInt8)) rfl rfl kP ?_
    intro s16 o17
    refine AtL.append (l:=b.l) (news:=[t.getD j 0]) 2 zas rfl b.own (o17.rd (i:=0) rfl) kE zg0 rfl rfl rfl ?_
    intro A18 C19 s20 o21
    refine AtL.assign zg0 rfl rfl<|AtL.done<|At.inBlock<|At.inBlock<|At.pick (H':=s20::x.s::[(pb,.cells #[str s,.int .i64 ((a:Int) + 4),.slice x.A x.l.length x.C] 143 (0,0))]::H) [2,3,1] 4 rfl rfl ?_
    refine ihL1 (j + 1) (⟨A18,C19,b.l++[t.getD j 0],s20,o21⟩) (a + 4) (⟨by omega,by dsimp only; rw [zb8 kW,hb],by rw [zew kW,ha,hlf]; rfl⟩) kW _ ?_
    exact ⟨rfl,rfl,kQ,trivial⟩
 ·have hge:=lab_end hdr hjt
  refine At.draw (es:=[]) (pv:=[(0,.pointer (some ⟨pb,0,none⟩)),(1,.pointer (some ⟨pb,0,none⟩)),(2,.pointer (some ⟨pb,0,none⟩)),(3,.pointer (some ⟨pb,1,none⟩)),(4,.int .i64 (a:Int)),(5,.pointer (some ⟨pb,0,none⟩)),(6,.pointer (some ⟨pb,0,none⟩)),(7,.pointer (some ⟨pb,0,none⟩)),(8,.pointer (some ⟨pb,0,none⟩)),(9,str s),(10,.int .i64 (s.length:Int)),(11,.bool true),(12,.bool true),(13,.pointer (some ⟨pb,0,none⟩)),(14,.pointer (some ⟨pb,0,none⟩)),(15,.pointer (some ⟨pb,0,none⟩)),(16,.pointer (some ⟨pb,0,none⟩)),(17,str s),(18,.pointer (some ⟨pb,0,none⟩)),(19,.pointer (some ⟨pb,0,none⟩)),(20,.pointer (some ⟨pb,0,none⟩)),(21,.pointer (some ⟨pb,1,none⟩)),(22,.int .i64 (a:Int)),(23,.int .u8 ((s.getD a 0).toNat:Int)),(24,.bool false),(25,.bool false)]) zaj kR kR kR ?_
  refine ⟨⟨zpr rfl rfl rfl (Do.move rfl),zpr rfl rfl rfl (Do.nilCheck rfl),zpr rfl rfl rfl (Do.fieldAddrB zac rfl rfl),zpr rfl rfl rfl (Do.fieldAddrB zag rfl rfl),zpr rfl rfl rfl (Do.load zab rfl (Cell.own 2 0 rfl rfl rfl)),zpr rfl rfl rfl (Do.move rfl),zpr rfl rfl rfl (Do.nilCheck rfl),zpr rfl rfl rfl (Do.fieldAddrB zac rfl rfl),zpr rfl rfl rfl (Do.fieldAddrB zar rfl rfl),zpr rfl rfl rfl (Do.load zad rfl (Cell.own 2 0 rfl rfl rfl)),zpr rfl rfl rfl (Do.lenS (l:=s) Tryz.underlying9 rfl),zpr rfl rfl rfl (Do.asBool (Do.lss rfl rfl) (decide_eq_true kW)),zpr rfl rfl rfl (Do.move rfl),zpr rfl rfl ⟨_,_,_,rfl,rfl,rfl,rfl⟩ (Do.move rfl),zpr rfl rfl ⟨_,_,_,rfl,rfl,rfl,rfl⟩ (Do.nilCheck rfl),zpr rfl rfl ⟨_,_,_,rfl,rfl,rfl,rfl⟩ (Do.fieldAddrB zac rfl rfl),zpr rfl rfl ⟨_,_,_,rfl,rfl,rfl,rfl⟩ (Do.fieldAddrB zar rfl rfl),zpr rfl rfl ⟨_,_,_,rfl,rfl,rfl,rfl⟩ (Do.load zad rfl (Cell.own 2 0 rfl rfl rfl)),zpr rfl rfl ⟨_,_,_,rfl,rfl,rfl,rfl⟩ (Do.move rfl),zpr rfl rfl ⟨_,_,_,rfl,rfl,rfl,rfl⟩ (Do.nilCheck rfl),zpr rfl rfl ⟨_,_,_,rfl,rfl,rfl,rfl⟩ (Do.fieldAddrB zac rfl rfl),zpr rfl rfl ⟨_,_,_,rfl,rfl,rfl,rfl⟩ (Do.fieldAddrB zag rfl rfl),zpr rfl rfl ⟨_,_,_,rfl,rfl,rfl,rfl⟩ (Do.load zab rfl (Cell.own 2 0 rfl rfl rfl)),zpr rfl rfl ⟨_,_,_,rfl,rfl,rfl,rfl⟩ (Do.indexS (l:=s) a rfl kW Tryz.underlying9 rfl rfl),zpr rfl rfl ⟨_,_,_,rfl,rfl,rfl,rfl⟩ (Do.asBool (Do.nei rfl rfl) (by rw [hge]; rfl)),zpr rfl rfl rfl (Do.pickT rfl rfl),trivial⟩,by kernel_rfl,?_⟩
  refine At.mono (E':=[(0,.pointer (some ⟨pb,0,none⟩)),(2,.int .i64 (i:Int)),(3,.slice b.A b.l.length b.C),(52,.bool false)]) ⟨rfl,rfl,rfl,rfl,trivial⟩<|At.condF rfl<|At.exit rfl<|At.seq<|At.seq<|At.region ?_
  refine AtL.move zg0 rfl rfl<|AtL.lenL Tryz.underlying22 zg0 rfl rfl<|AtL.gtr zg0 rfl rfl rfl<|AtL.done ?_
  refine At.condIs false rfl (decide_eq_false kW)<|At.skip<|At.seq<|At.region<|AtL.move zg0 rfl rfl<|AtL.nilCheck zg0 rfl rfl ?_
  refine AtL.fieldAddrB zac zg0 rfl rfl rfl<|AtL.fieldAddrB zag zg0 rfl rfl rfl<|AtL.load zab zg0 rfl rfl (Cell.own 2 0 rfl rfl rfl) ?_
  refine AtL.add (z:=(a:Int) + 1) zg0 rfl rfl rfl (w64 kW kW)<|AtL.nilCheck zg0 rfl rfl<|AtL.fieldAddrB zac zg0 rfl rfl rfl<|AtL.fieldAddrB zag zg0 rfl rfl rfl<|AtL.store (H':=b.s::x.s::[(pb,.cells #[str s,.int .i64 ((a:Int) + 1),.slice x.A x.l.length x.C] 143 (0,0))]::H) 2 0 zan zg0 rfl rfl rfl rfl rfl rfl rfl rfl rfl<|AtL.done ?_
  refine At.draw (es:=[7,8,11]) (pv:=[(0,.pointer (some ⟨pb,0,none⟩)),(1,.pointer (some ⟨pb,0,none⟩)),(2,.pointer (some ⟨pb,0,none⟩)),(3,.pointer (some ⟨pb,2,none⟩)),(4,.slice x.A x.l.length x.C),(5,.slice b.A b.l.length b.C),(6,str b.l)]) zaj kR kR kR ?_
  refine ⟨⟨zpr rfl rfl rfl (Do.move rfl),zpr rfl rfl rfl (Do.move rfl),zpr rfl rfl rfl (Do.nilCheck rfl),zpr rfl rfl rfl (Do.fieldAddrB zcO rfl rfl),zpr rfl rfl rfl (Do.load zbu rfl (Cell.own 2 0 rfl rfl rfl)),zpr rfl rfl rfl (Do.move rfl),zpr rfl rfl rfl (Do.strOf (b.own.rd (i:=0) rfl) Tryz.underlying22 Tryz.underlying5 Tryz.underlying9 rfl),trivial⟩,rfl,rfl,by kernel_rfl,_,rfl,rfl,rfl,_,Do.own1 tyS (l:=([b.l]:List (List UInt8))) (Do.buildSlice (cs:=[str b.l]) Tryz.underlying67 za0 zaE rfl rfl rfl rfl) rfl rfl kP,?_⟩
  rintro _ _ ⟨b22,s23,o24,rfl,rfl⟩
  refine ⟨[],rfl,?_⟩
  refine ⟨⟨zpr rfl rfl rfl (Do.move rfl),zpr rfl rfl rfl (Do.move rfl),zpr rfl rfl rfl (Do.nilCheck rfl),zpr rfl rfl rfl (Do.fieldAddrB zcO rfl rfl),zpr rfl rfl rfl (Do.load zbu rfl (Cell.own 3 0 rfl rfl rfl)),.inl kR,.inl kR,trivial⟩,rfl,rfl,by kernel_rfl,_,rfl,rfl,rfl,_,Do.append (l:=x.l) (news:=[b.l]) 2 zbN rfl x.own (o24.rd (i:=0) rfl) kE rfl rfl,?_⟩
  rintro _ _ ⟨A25,C26,s27,o28,rfl,rfl⟩
  refine ⟨[(9,.pointer (some ⟨pb,0,none⟩)),(10,.pointer (some ⟨pb,2,none⟩))],rfl,?_⟩
  refine ⟨⟨zpr rfl rfl rfl (Do.nilCheck rfl),zpr rfl rfl rfl (Do.fieldAddrB zcO rfl rfl),zpr rfl rfl rfl (Do.move rfl),.inl kR,.inl kR,.inl kR,.inl kR,.inl kR,.inl kR,trivial⟩,rfl,rfl,by kernel_rfl,_,rfl,rfl,rfl,_,Do.store (H':=s23::b.s::s27::[(pb,.cells #[str s,.int .i64 ((a:Int) + 1),.slice A25 (x.l++[b.l]).length C26] 143 (0,0))]::H) 3 0 zeg rfl rfl rfl rfl rfl rfl rfl rfl rfl,?_⟩
  rintro _ _ ⟨rfl,rfl⟩
  refine ⟨[],rfl,?_⟩
  refine ⟨⟨.inl kR,.inl kR,.inl kR,.inl kR,.inl kR,.inl kR,.inl kR,.inl kR,.inl kR,trivial⟩,by kernel_rfl,?_⟩
  refine At.mono (E':=[]) trivial<|At.pick [2,3] 4 rfl rfl ?_
  exact At.end_ Tryz.func62 rfl rfl (⟨⟨A25,C26,x.l++[b.l],s27,o28⟩,a,(by show x.l++[b.l]=x.l++[t]; rw [hb,List.take_of_length_le hjt]),⟨rfl,(by rw [ha,List.take_of_length_le hjt])⟩,rfl⟩)
set_option maxRecDepth 100000
theorem mp1_ok {w0:World}{base:Nat}{H:List Seg}{n f:Nat}{c0 c1 c2:Value} :
  DCalls Tryz.prog 60 [.pointer (some ⟨n,0,none⟩),.pointer (some ⟨f,0,none⟩)] w0 base ([(n,.cells #[c0] 9 (0,0))]::[(f,.cells #[c1,c2] 82 (0,0))]::H) .returning (fun m' H' => m' = .returning∧H' = [(n,.cells #[c0] 9 (0,0))]::[(f,.cells #[c1,c2] 82 (0,0))]::H):=by
 refine DCalls.of_walk (n:=17) Tryz.func60 rfl rfl rfl fun fr cs => ?_
 refine At.seq<|At.region<|AtL.recoverNone rfl<|AtL.assign zg0 rfl rfl<|AtL.done<|At.seq ?_
 refine At.seq<|At.region<|AtL.move zg0 rfl rfl<|AtL.typeAssert (u:=.tuple #[.agg #[.int .i64 0,.int .i64 0],.bool false]) zg0 rfl rfl (fun w => by kernel_rfl)<|AtL.move zg0 rfl rfl<|AtL.extract zg0 rfl rfl rfl ?_
 refine AtL.extract zg0 rfl rfl rfl<|AtL.alloc tf_zero137 (cs:=#[.int .i64 0,.int .i64 0]) rfl zg0 rfl ?_
 intro b1
 refine AtL.store (H':=[(b1,.cells #[.int .i64 0,.int .i64 0] 137 (0,0))]::[(n,.cells #[c0] 9 (0,0))]::[(f,.cells #[c1,c2] 82 (0,0))]::H) 0 0 tf_sz137 zg0 rfl rfl rfl rfl rfl rfl rfl rfl rfl<|AtL.assign zg0 rfl rfl<|AtL.done<|At.seq<|At.region<|AtL.move zg0 rfl rfl ?_
 refine AtL.done<|At.condF rfl<|At.skip<|At.seq<|At.region<|AtL.move zg0 rfl rfl ?_
 refine AtL.neNilIface Tryz.underlying20 zg0 rfl rfl<|AtL.done<|At.condF rfl<|At.skip<|At.endU rfl<|Un.pick (H':=[(n,.cells #[c0] 9 (0,0))]::[(f,.cells #[c1,c2] 82 (0,0))]::H) [1,2] 3 rfl rfl ?_
 exact Un.leftD (vs:=[]) Tryz.func60 rfl trivial (⟨rfl,rfl⟩)
theorem parse_ok {w0:World}{base:Nat}{H:List Seg}{s:List UInt8}{ls:List (List UInt8)}(hs:s=textF ls) (hls:LsOk ls) (hnm:(nmL ls).length≤255) :
  SCalls Tryz.prog 24 [str s] w0 base (H) (fun v H' => v = .tuple #[str (nmL ls),.agg #[int 0,int 0]]∧H' = H):=by
 have hnm0:=hnm
 refine SCalls.of_walk (n:=52) Tryz.func24 rfl rfl rfl fun cs => ?_
 refine At.seq<|At.region<|AtL.alloc za0 (cs:=#[str []]) rfl zg0 rfl ?_
 intro b1
 refine AtL.alloc zaw (cs:=#[.int .i64 0,.int .i64 0]) rfl zg0 rfl ?_
 intro b2
 refine AtL.done<|At.seq<|At.region<|AtL.makeFunc zg0 rfl rfl rfl<|AtL.defer rfl zg0 rfl rfl rfl<|AtL.done ?_
 refine At.seq<|At.region<|AtL.move zg0 rfl rfl<|AtL.build (cs:=[str s,.int .i64 0]) tf_lay141 zg0 rfl rfl rfl<|AtL.build (cs:=[str s,.int .i64 0,.slice none 0 0]) tf_lay143 zg0 rfl rfl rfl<|AtL.box (cs:=#[str s,.int .i64 0,.slice none 0 0]) rfl zg0 rfl rfl ?_
 intro b3
 refine AtL.assign zg0 rfl rfl<|AtL.done<|At.seq<|At.seq<|At.region<|AtL.move zg0 rfl rfl ?_
 refine AtL.done<|At.block<|At.seq<|At.region<|AtL.eqs (a:=s) (b:=[]) zg0 rfl rfl rfl<|AtL.assign zg0 rfl rfl ?_
 refine AtL.done ?_
 refine At.condIs false rfl (decide_eq_false (fun h9 => textF_ne ls (by rw [← hs,h9])))<|At.seq<|At.region<|AtL.eqs (a:=s) (b:=[46]) zg0 rfl rfl rfl<|AtL.assign zg0 rfl rfl<|AtL.done ?_
 refine At.condD rfl ?_ ?_
 ·intro hc2
  have hnil:=textF_dot hls (by rw [← hs]; exact hc2)
  refine At.seq<|At.region<|AtL.build (cs:=[.int .i64 0,.int .i64 0]) za8 zg0 rfl rfl rfl<|AtL.store (H':=[(b3,.cells #[str s,.int .i64 0,.slice none 0 0] 143 (0,0))]::[(b2,.cells #[.int .i64 0,.int .i64 0] 82 (0,0))]::[(b1,.cells #[str [0]] 9 (0,0))]::H) 2 0 zaE zg0 rfl rfl rfl rfl rfl rfl rfl rfl rfl<|AtL.store (H':=[(b3,.cells #[str s,.int .i64 0,.slice none 0 0] 143 (0,0))]::[(b2,.cells #[.int .i64 0,.int .i64 0] 82 (0,0))]::[(b1,.cells #[str [0]] 9 (0,0))]::H) 1 0 zaF zg0 rfl rfl rfl rfl rfl rfl rfl rfl rfl<|AtL.done ?_
  refine At.retU rfl<|Un.pick (H':=[(b1,.cells #[str [0]] 9 (0,0))]::[(b2,.cells #[.int .i64 0,.int .i64 0] 82 (0,0))]::[(b3,.cells #[str s,.int .i64 0,.slice none 0 0] 143 (0,0))]::H) [2,1,0] 3 rfl rfl<|Un.defer tf_body60 rfl rfl mp1_ok ?_
  rintro _ _ ⟨rfl,rfl⟩
  exact Un.leftP (vs:=[str [0],.agg #[.int .i64 0,.int .i64 0]]) [] 3 rfl rfl Tryz.func24 rfl ⟨⟨_,rfl,LoadsTo.flat zad (Cell.own 0 0 rfl rfl rfl)⟩,⟨_,rfl,LoadsTo.agg (cs:=[.int .i64 0,.int .i64 0]) zaK rfl (cellsOwn 1 0 0 rfl rfl rfl)⟩,trivial⟩ (⟨by rw [hnil]; rfl,rfl⟩)
 ·intro hc2
  have hne:ls≠[]:=fun e => hc2 (by rw [hs,e]; rfl)
  have hst:s=ls.flatMap labP:=by rw [hs,zd0 hne]
  have hsl:s.length≤100000:=by have h1:=txt_len ls; rw [← hst] at h1; rw [nmL,List.length_append] at hnm; omega
  have hll:=zfW hls; rw [nmL,List.length_append] at hnm
  refine At.skip<|At.inBlock<|At.seq<|At.block<|At.nil<|At.pick (H':=[]::[(b3,.cells #[str s,.int .i64 0,.slice none 0 0] 143 (0,0))]::[(b1,.cells #[str []] 9 (0,0))]::[(b2,.cells #[.int .i64 0,.int .i64 0] 82 (0,0))]::H) [0,1,3,2] 4 rfl rfl ?_
  refine At.loop3 (fun (k:Nat) (x:Sl tyS 9) (a:Nat) => [(2,.pointer (some ⟨b1,0,none⟩)),(3,.pointer (some ⟨b2,0,none⟩)),(4,.pointer (some ⟨b3,0,none⟩))]) (fun (k:Nat) (x:Sl tyS 9) (a:Nat) => x.s::[(b3,.cells #[str s,.int .i64 (a:Int),.slice x.A x.l.length x.C] 143 (0,0))]::[(b1,.cells #[str []] 9 (0,0))]::[(b2,.cells #[.int .i64 0,.int .i64 0] 82 (0,0))]::H) (fun (k:Nat) (x:Sl tyS 9) (a:Nat) => k≤ls.length∧x.l=ls.take k∧a=((ls.take k).flatMap labP).length) (fun (k:Nat) (x:Sl tyS 9) (a:Nat) => ls.length - k) 0 Sl.nil 0 (⟨Nat.zero_le _,rfl,rfl⟩) ⟨rfl,rfl,rfl,trivial⟩ rfl ?_
  rintro k x a ⟨hk,hx,ha⟩ ihL1
  have hmo:=txt_more hst ha hk
  have hxl:=congrArg List.length hx
  rw [List.length_take] at hxl
  have hcx:=Own.cap_le x.own
  refine At.seq<|At.seq ?_
  refine At.draw (es:=[]) (pv:=[(0,.pointer (some ⟨b3,0,none⟩)),(1,.pointer (some ⟨b3,0,none⟩)),(2,.pointer (some ⟨b3,0,none⟩)),(3,.pointer (some ⟨b3,1,none⟩)),(4,.int .i64 (a:Int)),(5,.pointer (some ⟨b3,0,none⟩)),(6,.pointer (some ⟨b3,0,none⟩)),(7,.pointer (some ⟨b3,0,none⟩)),(8,.pointer (some ⟨b3,0,none⟩)),(9,str s),(10,.int .i64 (s.length:Int)),(11,.bool (decide ((a:Int) < (s.length:Int))))]) zaj kR kR kR ?_
  refine ⟨⟨zpr rfl rfl rfl (Do.move rfl),zpr rfl rfl rfl (Do.nilCheck rfl),zpr rfl rfl rfl (Do.fieldAddrB zac rfl rfl),zpr rfl rfl rfl (Do.fieldAddrB zag rfl rfl),zpr rfl rfl rfl (Do.load zab rfl (Cell.own 1 0 rfl rfl rfl)),zpr rfl rfl rfl (Do.move rfl),zpr rfl rfl rfl (Do.nilCheck rfl),zpr rfl rfl rfl (Do.fieldAddrB zac rfl rfl),zpr rfl rfl rfl (Do.fieldAddrB zar rfl rfl),zpr rfl rfl rfl (Do.load zad rfl (Cell.own 1 0 rfl rfl rfl)),zpr rfl rfl rfl (Do.lenS (l:=s) Tryz.underlying9 rfl),zpr rfl rfl rfl (Do.lss rfl rfl),trivial⟩,by kernel_rfl,?_⟩
  refine At.mono (E':=[(2,.pointer (some ⟨b1,0,none⟩)),(3,.pointer (some ⟨b2,0,none⟩)),(4,.pointer (some ⟨b3,0,none⟩)),(32,.bool (decide ((a:Int) < (s.length:Int))))]) ⟨rfl,rfl,rfl,rfl,trivial⟩<|At.condD rfl ?_ ?_
  ·intro hc3
   refine At.skip<|At.block<|At.region<|AtL.move zg0 rfl rfl ?_
   refine AtL.call tf_body62 zg0 rfl rfl (label_ok (s:=s) (t:=ls.getD k []) (i:=a) (x:=x) hsl (txt_next hst ha kW) (hls _ (zbj (l:=ls) (i:=k) (d:=[]) kW)) kW) ?_
   rintro _ _ ⟨⟨A4,C5,l6,s7,o8⟩,a10,hx9,⟨rfl,ha11⟩,rfl⟩
   obtain rfl:x.l++[ls.getD k []]=l6:=hx9.symm
   refine AtL.done<|At.inBlock ?_
   refine ihL1 (k + 1) (⟨A4,C5,x.l++[ls.getD k []],s7,o8⟩) (a10 + 1) (⟨by omega,by show x.l++[ls.getD k []]=_; rw [hx,List.take_succ_eq_append_getElem kW]; simp [List.getD,show k < ls.length by omega],by rw [txt_step kW,ha11,ha]; omega⟩) kW _ ?_
   exact ⟨rfl,rfl,rfl,trivial⟩
  ·intro hc3
   have hxx:x.l=ls:=by rw [hx,List.take_of_length_le kW]
   have hnm9:=hnm0
   refine At.exit rfl<|At.seq<|At.region<|AtL.move zg0 rfl rfl<|AtL.nilCheck zg0 rfl rfl<|AtL.fieldAddrB zcO zg0 rfl rfl rfl ?_
   refine AtL.load zbu zg0 rfl rfl (Cell.own 1 0 rfl rfl rfl) ?_
   refine AtL.call tf_body63 zg0 rfl rfl (njoin_ok (l:=x.l) (x.own.rd (i:=0) rfl) (by rw [hxx]; exact hls) (by rw [hxx,nmP_L]; exact hnm0)) ?_
   rintro _ _ ⟨rfl,rfl⟩
   refine AtL.move zg0 rfl rfl<|AtL.extract zg0 rfl rfl rfl<|AtL.extract zg0 rfl rfl rfl<|AtL.store (H':=x.s::[(b3,.cells #[str s,.int .i64 (a:Int),.slice x.A x.l.length x.C] 143 (0,0))]::[(b1,.cells #[str (nmP x.l)] 9 (0,0))]::[(b2,.cells #[.int .i64 0,.int .i64 0] 82 (0,0))]::H) 2 0 zaE zg0 rfl rfl rfl rfl rfl rfl rfl rfl rfl<|AtL.assign zg0 rfl rfl<|AtL.done ?_
   refine At.seq<|At.seq<|At.region<|AtL.move zg0 rfl rfl<|AtL.nei zg0 rfl rfl rfl<|AtL.done ?_
   refine At.condF rfl<|At.skip<|At.seq<|At.region<|AtL.load zad zg0 rfl rfl (Cell.own 2 0 rfl rfl rfl)<|AtL.build (cs:=[.int .i64 0,.int .i64 0]) za8 zg0 rfl rfl rfl ?_
   refine AtL.store (H':=x.s::[(b3,.cells #[str s,.int .i64 (a:Int),.slice x.A x.l.length x.C] 143 (0,0))]::[(b1,.cells #[str (nmP x.l)] 9 (0,0))]::[(b2,.cells #[.int .i64 0,.int .i64 0] 82 (0,0))]::H) 2 0 zaE zg0 rfl rfl rfl rfl rfl rfl rfl rfl rfl<|AtL.store (H':=x.s::[(b3,.cells #[str s,.int .i64 (a:Int),.slice x.A x.l.length x.C] 143 (0,0))]::[(b1,.cells #[str (nmP x.l)] 9 (0,0))]::[(b2,.cells #[.int .i64 0,.int .i64 0] 82 (0,0))]::H) 3 0 zaF zg0 rfl rfl rfl rfl rfl rfl rfl rfl rfl<|AtL.done<|At.retU rfl<|Un.pick (H':=[(b1,.cells #[str (nmP x.l)] 9 (0,0))]::[(b2,.cells #[.int .i64 0,.int .i64 0] 82 (0,0))]::x.s::[(b3,.cells #[str s,.int .i64 (a:Int),.slice x.A x.l.length x.C] 143 (0,0))]::H) [2,3,0,1] 4 rfl rfl<|Un.defer tf_body60 rfl rfl mp1_ok ?_
   rintro _ _ ⟨rfl,rfl⟩
   exact Un.leftP (vs:=[str (nmP x.l),.agg #[.int .i64 0,.int .i64 0]]) [] 4 rfl rfl Tryz.func24 rfl ⟨⟨_,rfl,LoadsTo.flat zad (Cell.own 0 0 rfl rfl rfl)⟩,⟨_,rfl,LoadsTo.agg (cs:=[.int .i64 0,.int .i64 0]) zaK rfl (cellsOwn 1 0 0 rfl rfl rfl)⟩,trivial⟩ (⟨by rw [hxx,nmP_L]; rfl,rfl⟩)
end Go.Proofs.YtdncjmehhahidaaGreatDoor
