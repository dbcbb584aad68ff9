/- The parts of the proof that this law needs, in the order of their texts: the logic of walks, the plain laws, the walks. -/
import Derived.Test.YtdncjmehhahidaaGreatDoorQE13
import Derived.Test.YtdncjmehhahidaaGreatDoorQE23
namespace Go.Proofs.YtdncjmehhahidaaGreatDoor
set_option maxHeartbeats 400000
set_option linter.unusedVariables false
set_option linter.unusedSimpArgs false
set_option maxRecDepth 100000
open Classical in
noncomputable def pcsOf (t:Int) (s:List UInt8):List (List UInt8×Bool):=if h:∃ l,DtP t s l then h.choose else []
noncomputable def dpW (K:KM):Nat→List (List UInt8×Bool)→Option (List UInt8×KM)
  | _,[] => some ([],K)
  | p,(s,false)::l => (dpW K (p + s.length) l).map fun r => (s++r.1,r.2)
  | p,(n,true)::l => if p≤65535 then (dpW (kU K p n) (p + (nmW K (lsOf n)).length) l).map fun r => (nmW K (lsOf n)++r.1,r.2) else none
set_option maxRecDepth 100000
noncomputable def askW (K:KM) (p:Nat) (q:Qn3):Option (List UInt8×KM):=if p≤65535 then some (nmW K (lsOf q.1)++(be2 q.2.1++be2 q.2.2),kU K p q.1) else none
noncomputable def recW (K:KM) (p:Nat) (x:Rc5):Option (List UInt8×KM):=if p≤65535 then (dpW (kU K p x.1) (p + ((nmW K (lsOf x.1)).length + 10)) (pcsOf x.2.1 x.2.2.2.2)).map fun r => (nmW K (lsOf x.1)++(be2 x.2.1++be2 x.2.2.1)++be4 x.2.2.2.1++be2 (r.1.length:Nat)++r.1,r.2) else none
theorem askW_ok {K:KM}{p:Nat}{q:Qn3}(h:p≤65535):askW K p q=some (nmW K (lsOf q.1)++(be2 q.2.1++be2 q.2.2),kU K p q.1):=if_pos h
theorem askW_long {K:KM}{p:Nat}{q:Qn3}(h:65535 < p):askW K p q=none:=if_neg kW
noncomputable def mWr (out:List UInt8) (K:KM):List Rc5→Option (List UInt8)
 | [] => if out.length≤65535 then some out else none
 | x::xs => match recW K out.length x with
  | some p => mWr (out++p.1) p.2 xs
  | none => none
noncomputable def mWq (out:List UInt8) (K:KM) (rs:List Rc5):List Qn3→Option (List UInt8)
 | [] => mWr out K rs
 | q::qs => match askW K out.length q with
  | some p => mWq (out++p.1) p.2 rs qs
  | none => none
noncomputable def msgF (id flags:Int) (qs:List Qn3) (an ns ar:List Rc5):Option (List UInt8):=mWq (hdB id flags qs.length an.length ns.length ar.length) (fun _ => none) (an++ns++ar) qs
theorem mWq_step {out w:List UInt8}{K K' : KM}{rs:List Rc5}{q:Qn3}{qs:List Qn3}(h:askW K out.length q=some (w,K')):mWq out K rs (q::qs)=mWq (out++w) K' rs qs:=by rw [mWq,h]
theorem mWq_none {out:List UInt8}{K:KM}{rs:List Rc5}{q:Qn3}{qs:List Qn3}(h:askW K out.length q=none):mWq out K rs (q::qs)=none:=by rw [mWq,h]
set_option maxRecDepth 100000
set_option maxHeartbeats 1000000 in
theorem ask_ok {w0:World}{base:Nat}{H:List Seg}{pb mb mn:Nat}{T:List (List UInt8×Int×Nat)}{end_ at_:Int}{q:Qn3}(b:List UInt8) (hat:at_=(b.length:Int)) (hb:b.length≤140000) (hend:end_≤b.length) (hpk:PkOk (fun _:Unit => b) b.length T) (hq:QOk q) :
  SCalls Tryz.prog 56 [.pointer (some ⟨pb,0,none⟩),.int .i64 at_,.agg #[str q.1,.int .i64 q.2.1,.int .i64 q.2.2]] w0 base ([(pb,.cells #[.map (some mb),.int .i64 end_] 244 (0,0))]::[(mb,mapG kyS int T mn)]::H) (fun v H' => (∃ (x:Sl tyB 5) (T' : List (List UInt8×Int×Nat)) (mn' : Nat) (end' : Int),b.length≤65535∧QAt (b++x.l) b.length q (b.length + x.l.length)∧x.l.length≤260∧PkOk (fun _:Unit => b++x.l) (b.length + x.l.length) T'∧end'≤(b.length:Int) + (x.l.length:Int)∧askW (kOf T) b.length q=some (x.l,kOf T')∧v = .tuple #[.slice x.A x.l.length x.C,int 0]∧H' = x.s::[(pb,.cells #[.map (some mb),.int .i64 end'] 244 (0,0))]::[(mb,mapG kyS int T' mn')]::H)∨(∃ e:Int,e≠0∧askW (kOf T) b.length q=none∧v = .tuple #[.slice none 0 0,int e]∧H' = H)):=by
 have hq1:=hq.2.1; have hq2:=hq.2.2; have hq0:=hq.1.le
 refine SCalls.of_walk (n:=48) Tryz.func56 rfl rfl rfl fun cs => ?_
 refine At.seq<|At.region<|AtL.box (cs:=#[str q.1,.int .i64 q.2.1,.int .i64 q.2.2]) rfl zg0 rfl rfl ?_
 intro b1
 refine AtL.assign zg0 rfl rfl<|AtL.assign zg0 rfl rfl<|AtL.done<|At.seq<|At.seq<|At.region ?_
 refine AtL.move zg0 rfl rfl<|AtL.pick (H':=[(pb,.cells #[.map (some mb),.int .i64 end_] 244 (0,0))]::[(mb,mapG kyS int T mn)]::[(b1,.cells #[str q.1,.int .i64 q.2.1,.int .i64 q.2.2] 86 (0,0))]::H) [1,2,0] 3 rfl rfl<|AtL.call tf_body118 zg0 rfl rfl rnone_ok ?_
 rintro _ _ ⟨rfl,rfl⟩
 refine AtL.done<|At.condF rfl<|At.skip<|At.seq<|At.seq<|At.region ?_
 refine AtL.fieldAddrB zb4 zg0 rfl rfl rfl<|AtL.load zad zg0 rfl rfl (Cell.own 2 0 rfl rfl rfl)<|AtL.call zb6 zg0 rfl rfl (zcT hq.1) ?_
 rintro _ _ ⟨rfl,rfl⟩
 refine AtL.assign zg0 rfl rfl<|AtL.done<|At.seq<|At.region<|AtL.move zg0 rfl rfl<|AtL.nei zg0 rfl rfl rfl ?_
 refine AtL.done<|At.condF rfl<|At.skip<|At.seq<|At.seq<|At.region ?_
 refine AtL.fieldAddrB zcu zg0 rfl rfl rfl<|AtL.load zab zg0 rfl rfl (Cell.own 2 0 rfl rfl rfl) ?_
 refine AtL.call ze2 zg0 rfl rfl (zel (n:=q.2.1) (m:=65535) kW) ?_
 rintro _ _ ⟨rfl,rfl⟩
 refine AtL.not zg0 rfl rfl<|AtL.move zg0 rfl rfl<|AtL.fieldAddrB zct (.inr ⟨_,_,_,rfl,rfl,rfl,rfl⟩) rfl rfl rfl<|AtL.load zab (.inr ⟨_,_,_,rfl,rfl,rfl,rfl⟩) rfl rfl (Cell.own 2 0 rfl rfl rfl) ?_
 refine AtL.call ze2 (.inr ⟨_,_,_,rfl,rfl,rfl,rfl⟩) rfl rfl (zel (n:=q.2.2) (m:=65535) kW) ?_
 rintro _ _ ⟨rfl,rfl⟩
 refine AtL.not (.inr ⟨_,_,_,rfl,rfl,rfl,rfl⟩) rfl rfl<|AtL.pickF zg0 rfl rfl rfl<|AtL.done<|At.condF rfl<|At.skip<|At.seq ?_
 refine At.region<|AtL.move zg0 rfl rfl<|AtL.move zg0 rfl rfl<|AtL.fieldAddrB zb4 zg0 rfl rfl rfl<|AtL.load zad zg0 rfl rfl (Cell.own 2 0 rfl rfl rfl)<|AtL.call ze1 zg0 rfl rfl (wname_any (fun _:Unit => b) b.length (fun _ => rfl) hat hq.1 hend hpk) ?_
 rintro _ _ (⟨⟨A2,C3,l4,s5,o6⟩,Tp7,mp8,hpn90,hpn91,hpn92,hpn93,hpn96,rfl,rfl⟩ | ⟨hpn94,rfl,rfl⟩)
 ·replace hpn91:∀ z,∃ k9,Rn (((fun _:Unit => b)) z++l4) b.length b.length q.1 (b.length + l4.length) k9:=hpn91
  replace hpn92:l4.length≤q.1.length:=hpn92
  replace hpn93:PkOk (fun z => ((fun _:Unit => b)) z++l4) (b.length + l4.length) Tp7:=hpn93
  replace hpn96:l4=nmW (kOf T) (lsOf q.1)∧kOf Tp7=kU (kOf T) b.length q.1:=hpn96
  refine AtL.move zg0 rfl rfl<|AtL.extract zg0 rfl rfl rfl<|AtL.extract zg0 rfl rfl rfl<|AtL.assign zg0 rfl rfl<|AtL.assign zg0 rfl rfl<|AtL.done ?_
  refine At.seq<|At.seq<|At.region<|AtL.move zg0 rfl rfl<|AtL.nei zg0 rfl rfl rfl<|AtL.done ?_
  refine At.condF rfl<|At.skip<|At.seq<|At.region<|AtL.move zg0 rfl rfl<|AtL.fieldAddrB zcu zg0 rfl rfl rfl ?_
  refine AtL.load zab zg0 rfl rfl (Cell.own 3 0 rfl rfl rfl)<|AtL.fieldAddrB zct zg0 rfl rfl rfl<|AtL.load zab zg0 rfl rfl (Cell.own 3 0 rfl rfl rfl)<|AtL.buildSlice (cs:=[.int .i64 q.2.1,.int .i64 q.2.2]) Tryz.underlying103 zdZ zan rfl rfl zg0 rfl rfl rfl ?_
  intro b10
  refine AtL.own1 tyI (l:=([q.2.1,q.2.2]:List Int)) rfl rfl kP ?_
  intro s11 o12
  refine AtL.call tf_body121 zg0 rfl rfl (twos2 (o12.rd (i:=0) rfl) kW kW) ?_
  rintro _ _ ⟨⟨A13,C14,l15,s16,o17⟩,htw18,rfl,rfl⟩
  obtain rfl:be2 q.2.1++be2 q.2.2=l15:=htw18.symm
  refine AtL.append (l:=l4) (news:=(be2 q.2.1++be2 q.2.2)) 2 zas rfl o6 (o17.rd (i:=0) rfl) (by first | omega | (simp only [List.length_append,List.length_cons,List.length_nil,zae]; omega) | (simp [zae]; done) | (simp [zae]; omega)) zg0 rfl rfl rfl ?_
  intro A19 C20 s21 o22
  refine AtL.assign zg0 rfl rfl<|AtL.assign zg0 rfl rfl<|AtL.done<|At.pick (H':=s21::[(pb,.cells #[.map (some mb),.int .i64 (((b.length:Nat):Int) + (l4.length:Int))] 244 (0,0))]::[(mb,mapG kyS int Tp7 mp8)]::H) [2,3,4] 6 rfl rfl ?_
  obtain ⟨k8,hk8⟩:=hpn91 ()
  exact At.ret Tryz.func56 rfl rfl (.inl ⟨⟨A19,C20,l4++(be2 q.2.1++be2 q.2.2),s21,o22⟩,Tp7,mp8,_,hpn90,QAt.mk' hk8,(by simp only [List.length_append,zae]; omega),(by have h9:=hpn93.app (be2 q.2.1++be2 q.2.2); simp only [List.append_assoc,Nat.add_assoc,List.length_append] at h9 ⊢; exact h9),(by simp only [List.length_append,zae]; omega),(by rw [askW_ok hpn90,← hpn96.1,← hpn96.2]),rfl,rfl⟩)
 ·refine AtL.move zg0 rfl rfl<|AtL.extract zg0 rfl rfl rfl<|AtL.extract zg0 rfl rfl rfl<|AtL.assign zg0 rfl rfl<|AtL.assign zg0 rfl rfl<|AtL.done ?_
  refine At.seq<|At.seq<|At.region<|AtL.move zg0 rfl rfl<|AtL.nei zg0 rfl rfl rfl<|AtL.done ?_
  refine At.condT rfl<|At.seq<|At.region<|AtL.move zg0 rfl rfl<|AtL.assign zg0 rfl rfl<|AtL.assign zg0 rfl rfl ?_
  refine AtL.done<|At.pick [] 3 rfl rfl ?_
  exact At.ret Tryz.func56 rfl rfl (.inr ⟨_,by decide,askW_long (by assumption),rfl,rfl⟩)
set_option maxRecDepth 100000
theorem mw1_ok {w0:World}{base:Nat}{H:List Seg}{e o:Nat}{x:Value} :
  DCalls Tryz.prog 52 [.pointer (some ⟨e,0,none⟩),.pointer (some ⟨o,0,none⟩)] w0 base ([(e,.cells #[.int .i64 0] 54 (0,0))]::[(o,.cells #[x] 22 (0,0))]::H) .returning (fun m' H' => m' = .returning∧H' = [(e,.cells #[.int .i64 0] 54 (0,0))]::[(o,.cells #[x] 22 (0,0))]::H):=by
 refine DCalls.of_walk (n:=4) Tryz.func52 rfl rfl rfl fun fr cs => ?_
 refine At.seq<|At.region<|AtL.load zak zg0 rfl rfl (Cell.own 0 0 rfl rfl rfl)<|AtL.nei zg0 rfl rfl rfl<|AtL.done<|At.condF rfl ?_
 refine At.skip<|At.endU rfl ?_
 exact Un.leftD (vs:=[]) Tryz.func52 rfl trivial (⟨rfl,rfl⟩)
theorem mw1_bad {w0:World}{base:Nat}{H:List Seg}{e o:Nat}{x:Value}{k:Int}(hk:k≠0) :
  DCalls Tryz.prog 52 [.pointer (some ⟨e,0,none⟩),.pointer (some ⟨o,0,none⟩)] w0 base ([(e,.cells #[.int .i64 k] 54 (0,0))]::[(o,.cells #[x] 22 (0,0))]::H) .returning (fun m' H' => m' = .returning∧H' = [(e,.cells #[.int .i64 k] 54 (0,0))]::[(o,.cells #[.slice none 0 0] 22 (0,0))]::H):=by
 refine DCalls.of_walk (n:=4) Tryz.func52 rfl rfl rfl fun fr cs => ?_
 refine At.seq<|At.region<|AtL.load zak zg0 rfl rfl (Cell.own 0 0 rfl rfl rfl)<|AtL.nei zg0 rfl rfl rfl<|AtL.done ?_
 refine At.condIs true rfl (by simp [hk])<|At.region<|AtL.store (H':=[(e,.cells #[.int .i64 k] 54 (0,0))]::[(o,.cells #[.slice none 0 0] 22 (0,0))]::H) 1 0 zba zg0 rfl rfl rfl rfl rfl rfl rfl rfl rfl<|AtL.done<|At.endU rfl ?_
 exact Un.leftD (vs:=[]) Tryz.func52 rfl trivial (⟨rfl,rfl⟩)
set_option maxHeartbeats 2000000 in
theorem msgwrite_ok {w0:World}{base:Nat}{H:List Seg}{id flags:Int}{Aq Aa An Ar:Option Addr}{Cq Ca Cn Cr:Nat}{qs:List (List UInt8×Int×Int)}{an ns ar:List (List UInt8×Int×Int×Int×List UInt8)}(hq:Rd tyQn w0 base H Aq Cq qs) (ha:Rd tyRec w0 base H Aa Ca an) (hn:Rd tyRec w0 base H An Cn ns) (hr:Rd tyRec w0 base H Ar Cr ar) (hB:qs.length≤140737488355328∧an.length≤140737488355328∧ns.length≤140737488355328∧ar.length≤140737488355328) (hqs8:∀ q ∈ qs,q.1.length≤4398046511104) (han8:∀ x ∈ an,x.1.length≤4398046511104∧x.2.2.2.2.length≤4398046511104) (hns8:∀ x ∈ ns,x.1.length≤4398046511104∧x.2.2.2.2.length≤4398046511104) (har8:∀ x ∈ ar,x.1.length≤4398046511104∧x.2.2.2.2.length≤4398046511104) (h0:an.length=0∧ns.length=0∧ar.length=0) :
  SCalls Tryz.prog 21 [.agg #[.int .i64 id,.int .i64 flags,.slice Aq qs.length Cq,.slice Aa an.length Ca,.slice An ns.length Cn,.slice Ar ar.length Cr]] w0 base (H) (fun v H' => (∃ x:Sl tyB 5,MOk id flags qs an ns ar∧MAt x.l id flags qs an ns ar∧msgF id flags qs an ns ar=some x.l∧v = .tuple #[.slice x.A x.l.length x.C,int 0]∧H' = x.s::H)∨(∃ e:Int,e≠0∧(MOk id flags qs an ns ar→msgF id flags qs an ns ar=none)∧v = .tuple #[.slice none 0 0,int e]∧H' = H)):=by
 have hleq:=hq.le
 have hcapq:=hq.cap
 have hlea:=ha.le
 have hcapa:=ha.cap
 have hlen:=hn.le
 have hcapn:=hn.cap
 have hler:=hr.le
 have hcapr:=hr.cap
 refine SCalls.of_walk (n:=118) Tryz.func21 rfl rfl rfl fun cs => ?_
 refine At.seq<|At.region<|AtL.box (cs:=#[.int .i64 id,.int .i64 flags,.slice Aq qs.length Cq,.slice Aa an.length Ca,.slice An ns.length Cn,.slice Ar ar.length Cr]) rfl zg0 rfl rfl ?_
 intro b1
 refine AtL.alloc tf_zero22 (cs:=#[.slice none 0 0]) rfl zg0 rfl ?_
 intro b2
 refine AtL.alloc zef (cs:=#[.int .i64 0]) rfl zg0 rfl ?_
 intro b3
 refine AtL.done<|At.seq<|At.region<|AtL.makeFunc zg0 rfl rfl rfl<|AtL.defer rfl zg0 rfl rfl rfl<|AtL.done ?_
 refine At.seq<|At.seq<|At.region<|AtL.loadN (cs:=[.int .i64 id,.int .i64 flags,.slice Aq qs.length Cq,.slice Aa an.length Ca,.slice An ns.length Cn,.slice Ar ar.length Cr]) zfs zg0 rfl rfl rfl (cellsOwn 2 0 0 rfl rfl rfl)<|AtL.call tf_body53 zg0 rfl rfl (msgcheck_ok (id:=id) (flags:=flags) (qs:=qs) (an:=an) (ns:=ns) (ar:=ar) (Rd.skip 3 hq) (Rd.skip 3 ha) (Rd.skip 3 hn) (Rd.skip 3 hr) hB hqs8 han8 hns8 har8 h0) ?_
 rintro _ _ ⟨e4,hmk5,rfl,rfl⟩
 refine AtL.assign zg0 rfl rfl<|AtL.done<|At.seq<|At.region<|AtL.move zg0 rfl rfl<|AtL.nei zg0 rfl rfl rfl ?_
 refine AtL.done<|At.cond rfl ?_ ?_
 ·intro hc1
  have hc1:¬ ((e4:Int)=0):=of_decide_eq_false (zaX hc1)
  refine At.seq<|At.region<|AtL.move zg0 rfl rfl<|AtL.store (H':=[(b3,.cells #[.int .i64 0] 54 (0,0))]::[(b2,.cells #[.slice none 0 0] 22 (0,0))]::[(b1,.cells #[.int .i64 id,.int .i64 flags,.slice Aq qs.length Cq,.slice Aa an.length Ca,.slice An ns.length Cn,.slice Ar ar.length Cr] 78 (0,0))]::H) 1 0 zba zg0 rfl rfl rfl rfl rfl rfl rfl rfl rfl<|AtL.store (H':=[(b3,.cells #[.int .i64 e4] 54 (0,0))]::[(b2,.cells #[.slice none 0 0] 22 (0,0))]::[(b1,.cells #[.int .i64 id,.int .i64 flags,.slice Aq qs.length Cq,.slice Aa an.length Ca,.slice An ns.length Cn,.slice Ar ar.length Cr] 78 (0,0))]::H) 0 0 zch zg0 rfl rfl rfl rfl rfl rfl rfl rfl rfl<|AtL.done ?_
  refine At.retU rfl<|Un.defer zdl rfl rfl (mw1_bad hc1) ?_
  rintro _ _ ⟨rfl,rfl⟩
  exact Un.leftP (vs:=[.slice none 0 0,.int .i64 e4]) [] 3 rfl rfl Tryz.func21 rfl ⟨⟨_,rfl,LoadsTo.flat zah (Cell.own 1 0 rfl rfl rfl)⟩,⟨_,rfl,LoadsTo.flat zak (Cell.own 0 0 rfl rfl rfl)⟩,trivial⟩ (.inr ⟨_,hc1,fun h9 => absurd (hmk5.2 h9) hc1,rfl,rfl⟩)
 ·intro hc1
  have hc1:(e4:Int)=0:=of_decide_eq_true (zaJ hc1)
  refine At.skip<|At.seq<|At.seq ?_
  have hM:=hmk5.1 (by first | exact hc1 | omega)
  have hM1:=hM.1; have hM2:=hM.2.1; have hM3:=hM.2.2.1
  refine At.region<|AtL.fieldAddrB zdk zg0 rfl rfl rfl<|AtL.load zab zg0 rfl rfl (Cell.own 2 0 rfl rfl rfl)<|AtL.fieldAddrB zdj zg0 rfl rfl rfl<|AtL.load zab zg0 rfl rfl (Cell.own 2 0 rfl rfl rfl)<|AtL.fieldAddrB zbM zg0 rfl rfl rfl ?_
  refine AtL.load zb5 zg0 rfl rfl (Cell.own 2 0 rfl rfl rfl)<|AtL.lenL Tryz.underlying73 zg0 rfl rfl<|AtL.fieldAddrB zdi zg0 rfl rfl rfl<|AtL.load zaq zg0 rfl rfl (Cell.own 2 0 rfl rfl rfl)<|AtL.lenL Tryz.underlying76 zg0 rfl rfl<|AtL.fieldAddrB zdh zg0 rfl rfl rfl ?_
  refine AtL.load zaq zg0 rfl rfl (Cell.own 2 0 rfl rfl rfl)<|AtL.lenL Tryz.underlying76 zg0 rfl rfl<|AtL.fieldAddrB zdg zg0 rfl rfl rfl<|AtL.load zaq zg0 rfl rfl (Cell.own 2 0 rfl rfl rfl)<|AtL.lenL Tryz.underlying76 zg0 rfl rfl<|AtL.buildSlice (cs:=[.int .i64 id,.int .i64 flags,.int .i64 (qs.length:Int),.int .i64 (an.length:Int),.int .i64 (ns.length:Int),.int .i64 (ar.length:Int)]) Tryz.underlying103 zdZ zan rfl rfl zg0 rfl rfl rfl ?_
  intro b6
  refine AtL.own1 tyI (l:=([id,flags,(qs.length:Int),(an.length:Int),(ns.length:Int),(ar.length:Int)]:List Int)) rfl rfl kP ?_
  intro s7 o8
  refine AtL.lenL Tryz.underlying103 zg0 rfl rfl<|AtL.move zg0 rfl rfl<|AtL.done<|At.block<|At.unroll<|At.seq ?_
  refine At.region<|AtL.lss zg0 rfl rfl rfl<|AtL.done<|At.seq<|At.condT rfl<|At.skip ?_
  refine At.seq<|At.block<|At.seq<|At.region ?_
  refine AtL.indexL 0 (o8.rd (i:=0) rfl) Tryz.underlying103 zan zg0 rfl rfl rfl rfl kO ?_
  refine AtL.load (v:=.int .i64 id) zab zg0 rfl rfl (Rd.cell0 (o8.rd (i:=0) rfl) (getD_some 0 kO) rfl)<|AtL.assign zg0 rfl rfl<|AtL.done<|At.seq<|At.region<|AtL.move zg0 rfl rfl ?_
  refine AtL.call zbw zg0 rfl rfl (zbW id kW kW) ?_
  rintro _ _ ⟨A9,C10,s11,o12,rfl,rfl⟩
  refine AtL.move zg0 rfl rfl<|AtL.extract zg0 rfl rfl rfl<|AtL.extract zg0 rfl rfl rfl<|AtL.assign zg0 rfl rfl<|AtL.assign zg0 rfl rfl<|AtL.done ?_
  refine At.region<|AtL.load zah zg0 rfl rfl (Cell.own 3 0 rfl rfl rfl)<|AtL.move zg0 rfl rfl<|AtL.nil ?_
  refine AtL.append (l:=[]) (news:=(be2 id)) 0 zas rfl (Own.nil tyB 5) (o12.rd (i:=1) rfl) (by first | omega | (simp only [List.length_append,List.length_cons,List.length_nil,zae]; omega) | (simp [zae]; done) | (simp [zae]; omega)) zg0 rfl rfl rfl ?_
  intro A13 C14 s15 o16
  refine AtL.store (H':=s15::s11::s7::[(b3,.cells #[.int .i64 0] 54 (0,0))]::[(b2,.cells #[.slice A13 ([]++(be2 id)).length C14] 22 (0,0))]::[(b1,.cells #[.int .i64 id,.int .i64 flags,.slice Aq qs.length Cq,.slice Aa an.length Ca,.slice An ns.length Cn,.slice Ar ar.length Cr] 78 (0,0))]::H) 4 0 zba zg0 rfl rfl rfl rfl rfl rfl rfl rfl rfl<|AtL.done<|At.inBlock<|At.region ?_
  refine AtL.add (z:=1) zg0 rfl rfl rfl kI<|AtL.move zg0 rfl rfl<|AtL.done<|At.again<|At.seq<|At.region ?_
  refine AtL.lss zg0 rfl rfl rfl<|AtL.done<|At.seq<|At.condT rfl<|At.skip<|At.seq ?_
  refine At.block<|At.seq<|At.region ?_
  refine AtL.indexL 1 (o8.rd (i:=2) rfl) Tryz.underlying103 zan zg0 rfl rfl rfl rfl kO ?_
  refine AtL.load (v:=.int .i64 flags) zab zg0 rfl rfl (Rd.cell0 (o8.rd (i:=2) rfl) (getD_some 0 kO) rfl)<|AtL.assign zg0 rfl rfl<|AtL.done<|At.seq<|At.region<|AtL.move zg0 rfl rfl ?_
  refine AtL.call zbw zg0 rfl rfl (zbW flags kW kW) ?_
  rintro _ _ ⟨A17,C18,s19,o20,rfl,rfl⟩
  refine AtL.move zg0 rfl rfl<|AtL.extract zg0 rfl rfl rfl<|AtL.extract zg0 rfl rfl rfl<|AtL.assign zg0 rfl rfl<|AtL.assign zg0 rfl rfl<|AtL.done ?_
  refine At.region<|AtL.load zah zg0 rfl rfl (Cell.own 5 0 rfl rfl rfl)<|AtL.move zg0 rfl rfl ?_
  refine AtL.append (l:=[]++(be2 id)) (news:=(be2 flags)) 1 zas rfl o16 (o20.rd (i:=0) rfl) (by first | omega | (simp only [List.length_append,List.length_cons,List.length_nil,zae]; omega) | (simp [zae]; done) | (simp [zae]; omega)) zg0 rfl rfl rfl ?_
  intro A21 C22 s23 o24
  refine AtL.store (H':=s19::s23::s11::s7::[(b3,.cells #[.int .i64 0] 54 (0,0))]::[(b2,.cells #[.slice A21 (([]++(be2 id))++(be2 flags)).length C22] 22 (0,0))]::[(b1,.cells #[.int .i64 id,.int .i64 flags,.slice Aq qs.length Cq,.slice Aa an.length Ca,.slice An ns.length Cn,.slice Ar ar.length Cr] 78 (0,0))]::H) 5 0 zba zg0 rfl rfl rfl rfl rfl rfl rfl rfl rfl<|AtL.done<|At.inBlock<|At.region ?_
  refine AtL.add (z:=2) zg0 rfl rfl rfl kI<|AtL.move zg0 rfl rfl<|AtL.done<|At.again<|At.seq<|At.region ?_
  refine AtL.lss zg0 rfl rfl rfl<|AtL.done<|At.seq<|At.condT rfl<|At.skip<|At.seq ?_
  refine At.block<|At.seq<|At.region ?_
  refine AtL.indexL 2 (o8.rd (i:=3) rfl) Tryz.underlying103 zan zg0 rfl rfl rfl rfl kO ?_
  refine AtL.load (v:=.int .i64 (qs.length:Int)) zab zg0 rfl rfl (Rd.cell0 (o8.rd (i:=3) rfl) (getD_some 0 kO) rfl)<|AtL.assign zg0 rfl rfl<|AtL.done<|At.seq<|At.region<|AtL.move zg0 rfl rfl ?_
  refine AtL.call zbw zg0 rfl rfl (zbW (qs.length:Int) kW kW) ?_
  rintro _ _ ⟨A25,C26,s27,o28,rfl,rfl⟩
  refine AtL.move zg0 rfl rfl<|AtL.extract zg0 rfl rfl rfl<|AtL.extract zg0 rfl rfl rfl<|AtL.assign zg0 rfl rfl<|AtL.assign zg0 rfl rfl<|AtL.done ?_
  refine At.region<|AtL.load zah zg0 rfl rfl (Cell.own 6 0 rfl rfl rfl)<|AtL.move zg0 rfl rfl ?_
  refine AtL.append (l:=([]++(be2 id))++(be2 flags)) (news:=(be2 (qs.length:Int))) 2 zas rfl o24 (o28.rd (i:=0) rfl) (by first | omega | (simp only [List.length_append,List.length_cons,List.length_nil,zae]; omega) | (simp [zae]; done) | (simp [zae]; omega)) zg0 rfl rfl rfl ?_
  intro A29 C30 s31 o32
  refine AtL.store (H':=s27::s19::s31::s11::s7::[(b3,.cells #[.int .i64 0] 54 (0,0))]::[(b2,.cells #[.slice A29 ((([]++(be2 id))++(be2 flags))++(be2 (qs.length:Int))).length C30] 22 (0,0))]::[(b1,.cells #[.int .i64 id,.int .i64 flags,.slice Aq qs.length Cq,.slice Aa an.length Ca,.slice An ns.length Cn,.slice Ar ar.length Cr] 78 (0,0))]::H) 6 0 zba zg0 rfl rfl rfl rfl rfl rfl rfl rfl rfl<|AtL.done<|At.inBlock<|At.region ?_
  refine AtL.add (z:=3) zg0 rfl rfl rfl kI<|AtL.move zg0 rfl rfl<|AtL.done<|At.again<|At.seq<|At.region ?_
  refine AtL.lss zg0 rfl rfl rfl<|AtL.done<|At.seq<|At.condT rfl<|At.skip<|At.seq ?_
  refine At.block<|At.seq<|At.region ?_
  refine AtL.indexL 3 (o8.rd (i:=4) rfl) Tryz.underlying103 zan zg0 rfl rfl rfl rfl kO ?_
  refine AtL.load (v:=.int .i64 (an.length:Int)) zab zg0 rfl rfl (Rd.cell0 (o8.rd (i:=4) rfl) (getD_some 0 kO) rfl)<|AtL.assign zg0 rfl rfl<|AtL.done<|At.seq<|At.region<|AtL.move zg0 rfl rfl ?_
  refine AtL.call zbw zg0 rfl rfl (zbW (an.length:Int) kW kW) ?_
  rintro _ _ ⟨A33,C34,s35,o36,rfl,rfl⟩
  refine AtL.move zg0 rfl rfl<|AtL.extract zg0 rfl rfl rfl<|AtL.extract zg0 rfl rfl rfl<|AtL.assign zg0 rfl rfl<|AtL.assign zg0 rfl rfl<|AtL.done ?_
  refine At.region<|AtL.load zah zg0 rfl rfl (Cell.own 7 0 rfl rfl rfl)<|AtL.move zg0 rfl rfl ?_
  refine AtL.append (l:=(([]++(be2 id))++(be2 flags))++(be2 (qs.length:Int))) (news:=(be2 (an.length:Int))) 3 zas rfl o32 (o36.rd (i:=0) rfl) (by first | omega | (simp only [List.length_append,List.length_cons,List.length_nil,zae]; omega) | (simp [zae]; done) | (simp [zae]; omega)) zg0 rfl rfl rfl ?_
  intro A37 C38 s39 o40
  refine AtL.store (H':=s35::s27::s19::s39::s11::s7::[(b3,.cells #[.int .i64 0] 54 (0,0))]::[(b2,.cells #[.slice A37 (((([]++(be2 id))++(be2 flags))++(be2 (qs.length:Int)))++(be2 (an.length:Int))).length C38] 22 (0,0))]::[(b1,.cells #[.int .i64 id,.int .i64 flags,.slice Aq qs.length Cq,.slice Aa an.length Ca,.slice An ns.length Cn,.slice Ar ar.length Cr] 78 (0,0))]::H) 7 0 zba zg0 rfl rfl rfl rfl rfl rfl rfl rfl rfl<|AtL.done<|At.inBlock<|At.region ?_
  refine AtL.add (z:=4) zg0 rfl rfl rfl kI<|AtL.move zg0 rfl rfl<|AtL.done<|At.again<|At.seq<|At.region ?_
  refine AtL.lss zg0 rfl rfl rfl<|AtL.done<|At.seq<|At.condT rfl<|At.skip<|At.seq ?_
  refine At.block<|At.seq<|At.region ?_
  refine AtL.indexL 4 (o8.rd (i:=5) rfl) Tryz.underlying103 zan zg0 rfl rfl rfl rfl kO ?_
  refine AtL.load (v:=.int .i64 (ns.length:Int)) zab zg0 rfl rfl (Rd.cell0 (o8.rd (i:=5) rfl) (getD_some 0 kO) rfl)<|AtL.assign zg0 rfl rfl<|AtL.done<|At.seq<|At.region<|AtL.move zg0 rfl rfl ?_
  refine AtL.call zbw zg0 rfl rfl (zbW (ns.length:Int) kW kW) ?_
  rintro _ _ ⟨A41,C42,s43,o44,rfl,rfl⟩
  refine AtL.move zg0 rfl rfl<|AtL.extract zg0 rfl rfl rfl<|AtL.extract zg0 rfl rfl rfl<|AtL.assign zg0 rfl rfl<|AtL.assign zg0 rfl rfl<|AtL.done ?_
  refine At.region<|AtL.load zah zg0 rfl rfl (Cell.own 8 0 rfl rfl rfl)<|AtL.move zg0 rfl rfl ?_
  refine AtL.append (l:=((([]++(be2 id))++(be2 flags))++(be2 (qs.length:Int)))++(be2 (an.length:Int))) (news:=(be2 (ns.length:Int))) 4 zas rfl o40 (o44.rd (i:=0) rfl) (by first | omega | (simp only [List.length_append,List.length_cons,List.length_nil,zae]; omega) | (simp [zae]; done) | (simp [zae]; omega)) zg0 rfl rfl rfl ?_
  intro A45 C46 s47 o48
  refine AtL.store (H':=s43::s35::s27::s19::s47::s11::s7::[(b3,.cells #[.int .i64 0] 54 (0,0))]::[(b2,.cells #[.slice A45 ((((([]++(be2 id))++(be2 flags))++(be2 (qs.length:Int)))++(be2 (an.length:Int)))++(be2 (ns.length:Int))).length C46] 22 (0,0))]::[(b1,.cells #[.int .i64 id,.int .i64 flags,.slice Aq qs.length Cq,.slice Aa an.length Ca,.slice An ns.length Cn,.slice Ar ar.length Cr] 78 (0,0))]::H) 8 0 zba zg0 rfl rfl rfl rfl rfl rfl rfl rfl rfl<|AtL.done<|At.inBlock<|At.region ?_
  refine AtL.add (z:=5) zg0 rfl rfl rfl kI<|AtL.move zg0 rfl rfl<|AtL.done<|At.again<|At.seq<|At.region ?_
  refine AtL.lss zg0 rfl rfl rfl<|AtL.done<|At.seq<|At.condT rfl<|At.skip<|At.seq ?_
  refine At.block<|At.seq<|At.region ?_
  refine AtL.indexL 5 (o8.rd (i:=6) rfl) Tryz.underlying103 zan zg0 rfl rfl rfl rfl kO ?_
  refine AtL.load (v:=.int .i64 (ar.length:Int)) zab zg0 rfl rfl (Rd.cell0 (o8.rd (i:=6) rfl) (getD_some 0 kO) rfl)<|AtL.assign zg0 rfl rfl<|AtL.done<|At.seq<|At.region<|AtL.move zg0 rfl rfl ?_
  refine AtL.call zbw zg0 rfl rfl (zbW (ar.length:Int) kW kW) ?_
  rintro _ _ ⟨A49,C50,s51,o52,rfl,rfl⟩
  refine AtL.move zg0 rfl rfl<|AtL.extract zg0 rfl rfl rfl<|AtL.extract zg0 rfl rfl rfl<|AtL.assign zg0 rfl rfl<|AtL.assign zg0 rfl rfl<|AtL.done ?_
  refine At.region<|AtL.load zah zg0 rfl rfl (Cell.own 9 0 rfl rfl rfl)<|AtL.move zg0 rfl rfl ?_
  refine AtL.append (l:=(((([]++(be2 id))++(be2 flags))++(be2 (qs.length:Int)))++(be2 (an.length:Int)))++(be2 (ns.length:Int))) (news:=(be2 (ar.length:Int))) 5 zas rfl o48 (o52.rd (i:=0) rfl) (by first | omega | (simp only [List.length_append,List.length_cons,List.length_nil,zae]; omega) | (simp [zae]; done) | (simp [zae]; omega)) zg0 rfl rfl rfl ?_
  intro A53 C54 s55 o56
  refine AtL.store (H':=s51::s43::s35::s27::s19::s55::s11::s7::[(b3,.cells #[.int .i64 0] 54 (0,0))]::[(b2,.cells #[.slice A53 (((((([]++(be2 id))++(be2 flags))++(be2 (qs.length:Int)))++(be2 (an.length:Int)))++(be2 (ns.length:Int)))++(be2 (ar.length:Int))).length C54] 22 (0,0))]::[(b1,.cells #[.int .i64 id,.int .i64 flags,.slice Aq qs.length Cq,.slice Aa an.length Ca,.slice An ns.length Cn,.slice Ar ar.length Cr] 78 (0,0))]::H) 9 0 zba zg0 rfl rfl rfl rfl rfl rfl rfl rfl rfl<|AtL.done<|At.inBlock<|At.region ?_
  refine AtL.add (z:=6) zg0 rfl rfl rfl kI<|AtL.move zg0 rfl rfl<|AtL.done<|At.again<|At.seq<|At.region ?_
  refine AtL.lss zg0 rfl rfl rfl<|AtL.done<|At.seq<|At.condF rfl<|At.exit rfl<|At.seq ?_
  refine At.region<|AtL.call tf_body55 zg0 rfl rfl wnew_ok ?_
  rintro _ _ ⟨pb57,mb58,rfl,rfl⟩
  refine AtL.assign zg0 rfl rfl<|AtL.done<|At.seq<|At.seq<|At.region<|AtL.fieldAddrB zbM zg0 rfl rfl rfl ?_
  refine AtL.load zb5 zg0 rfl rfl (Cell.own 12 0 rfl rfl rfl)<|AtL.lenL Tryz.underlying73 zg0 rfl rfl<|AtL.move zg0 rfl rfl<|AtL.done<|At.block<|At.pick (H':=s55::[(b2,.cells #[.slice A53 (((((([]++(be2 id))++(be2 flags))++(be2 (qs.length:Int)))++(be2 (an.length:Int)))++(be2 (ns.length:Int)))++(be2 (ar.length:Int))).length C54] 22 (0,0))]::[(b3,.cells #[.int .i64 0] 54 (0,0))]::[(b1,.cells #[.int .i64 id,.int .i64 flags,.slice Aq qs.length Cq,.slice Aa an.length Ca,.slice An ns.length Cn,.slice Ar ar.length Cr] 78 (0,0))]::[(pb57,.cells #[.map (some mb58),.int .i64 0] 244 (0,0))]::[(mb58,mapG kyS int ([]:List (List UInt8×Int×Nat)) 0)]::H) [7,11,10,12,0,1] 13 rfl rfl ?_
  refine At.loop5 (fun (jq:Nat) (xq:Sl tyB 5) (Tq:List (List UInt8×Int×Nat)) (mq:Nat) (eq:Int) => [(1,.pointer (some ⟨b1,0,none⟩)),(2,.pointer (some ⟨b2,0,none⟩)),(3,.pointer (some ⟨b3,0,none⟩)),(9,.pointer (some ⟨pb57,0,none⟩)),(59,.slice Aq qs.length Cq),(60,.int .i64 (qs.length:Int)),(61,.int .i64 (jq:Int))]) (fun (jq:Nat) (xq:Sl tyB 5) (Tq:List (List UInt8×Int×Nat)) (mq:Nat) (eq:Int) => xq.s::[(b2,.cells #[.slice xq.A xq.l.length xq.C] 22 (0,0))]::[(b3,.cells #[.int .i64 0] 54 (0,0))]::[(b1,.cells #[.int .i64 id,.int .i64 flags,.slice Aq qs.length Cq,.slice Aa an.length Ca,.slice An ns.length Cn,.slice Ar ar.length Cr] 78 (0,0))]::[(pb57,.cells #[.map (some mb58),.int .i64 eq] 244 (0,0))]::[(mb58,mapG kyS int Tq mq)]::H) (fun (jq:Nat) (xq:Sl tyB 5) (Tq:List (List UInt8×Int×Nat)) (mq:Nat) (eq:Int) => (jq≤qs.length∧WAt xq.l (hdB id flags qs.length an.length ns.length ar.length) (qs.take jq) [] [] [])∧PkOk (fun _:Unit => xq.l) xq.l.length Tq∧eq≤(xq.l.length:Int)∧xq.l.length≤131600∧msgF id flags qs an ns ar=mWq xq.l (kOf Tq) (an++ns++ar) (qs.drop jq)) (fun (jq:Nat) (xq:Sl tyB 5) (Tq:List (List UInt8×Int×Nat)) (mq:Nat) (eq:Int) => qs.length - jq) 0 (⟨A53,C54,((((([]++(be2 id))++(be2 flags))++(be2 (qs.length:Int)))++(be2 (an.length:Int)))++(be2 (ns.length:Int)))++(be2 (ar.length:Int)),s55,o56⟩) ([]:List (List UInt8×Int×Nat)) 0 0 (⟨⟨Nat.zero_le _,WAt.begin (hdB_len ..)⟩,PkOk.nil _ _,(by simp only [List.length_append,zae,List.length_nil]; omega),(by simp only [List.length_append,zae,List.length_nil]; omega),rfl⟩) ⟨rfl,rfl,rfl,rfl,rfl,rfl,rfl,trivial⟩ rfl ?_
  rintro jq xq Tq mq eq ⟨⟨hjq,hwq⟩,hpq,heq,hlq,hfq⟩ ihL2
  have hcapq:=Own.cap_le xq.own
  refine At.seq<|At.region<|AtL.lss zg0 rfl rfl rfl<|AtL.done<|At.seq<|At.condD rfl ?_ ?_
  ·intro hc3
   refine At.skip<|At.seq<|At.block<|At.seq<|At.region ?_
   refine AtL.indexL jq (Rd.skip 6 hq) Tryz.underlying73 zb0 zg0 rfl rfl rfl rfl kW ?_
   refine AtL.loadE (n:=0) (Rd.skip 6 hq) (getD_some (([],0,0):List UInt8×Int×Int) kW) rfl zci zg0 rfl rfl<|AtL.alloc zbL (cs:=#[str [],.int .i64 0,.int .i64 0]) rfl zg0 rfl ?_
   intro b59
   refine AtL.store (H':=[(b59,.cells #[str ((qs.getD jq (([],0,0):List UInt8×Int×Int)).1),.int .i64 ((qs.getD jq (([],0,0):List UInt8×Int×Int)).2.1),.int .i64 ((qs.getD jq (([],0,0):List UInt8×Int×Int)).2.2)] 86 (0,0))]::xq.s::[(b2,.cells #[.slice xq.A xq.l.length xq.C] 22 (0,0))]::[(b3,.cells #[.int .i64 0] 54 (0,0))]::[(b1,.cells #[.int .i64 id,.int .i64 flags,.slice Aq qs.length Cq,.slice Aa an.length Ca,.slice An ns.length Cn,.slice Ar ar.length Cr] 78 (0,0))]::[(pb57,.cells #[.map (some mb58),.int .i64 eq] 244 (0,0))]::[(mb58,mapG kyS int Tq mq)]::H) 0 0 zb0 zg0 rfl rfl rfl rfl rfl rfl rfl rfl rfl<|AtL.done<|At.seq<|At.region<|AtL.move zg0 rfl rfl<|AtL.load zah zg0 rfl rfl (Cell.own 2 0 rfl rfl rfl) ?_
   refine AtL.lenL Tryz.underlying22 zg0 rfl rfl<|AtL.loadN (cs:=[str ((qs.getD jq (([],0,0):List UInt8×Int×Int)).1),.int .i64 ((qs.getD jq (([],0,0):List UInt8×Int×Int)).2.1),.int .i64 ((qs.getD jq (([],0,0):List UInt8×Int×Int)).2.2)]) zci zg0 rfl rfl rfl (cellsOwn 0 0 0 rfl rfl rfl)<|AtL.pick (H':=[(pb57,.cells #[.map (some mb58),.int .i64 eq] 244 (0,0))]::[(mb58,mapG kyS int Tq mq)]::[(b59,.cells #[str ((qs.getD jq (([],0,0):List UInt8×Int×Int)).1),.int .i64 ((qs.getD jq (([],0,0):List UInt8×Int×Int)).2.1),.int .i64 ((qs.getD jq (([],0,0):List UInt8×Int×Int)).2.2)] 86 (0,0))]::xq.s::[(b2,.cells #[.slice xq.A xq.l.length xq.C] 22 (0,0))]::[(b3,.cells #[.int .i64 0] 54 (0,0))]::[(b1,.cells #[.int .i64 id,.int .i64 flags,.slice Aq qs.length Cq,.slice Aa an.length Ca,.slice An ns.length Cn,.slice Ar ar.length Cr] 78 (0,0))]::H) [5,6,0,1,2,3,4] 7 rfl rfl ?_
   refine AtL.call tf_body56 zg0 rfl rfl (ask_ok xq.l rfl kW kW hpq (hM.2.2.2.1 _ (zbj (l:=qs) (i:=jq) (d:=(([],0,0):List UInt8×Int×Int)) kW))) ?_
   rintro _ _ (⟨⟨A60,C61,l62,s63,o64⟩,Tp65,mp66,ed67,han680,han681,han682,han683,han684,han686,rfl,rfl⟩ | ⟨e69,han685,han687,rfl,rfl⟩)
   ·replace han681:QAt (xq.l++l62) xq.l.length (qs.getD jq (([],0,0):List UInt8×Int×Int)) (xq.l.length + l62.length):=han681
    replace han682:l62.length≤260:=han682
    replace han683:PkOk (fun _:Unit => xq.l++l62) (xq.l.length + l62.length) Tp65:=han683
    replace han684:ed67≤(xq.l.length:Int) + (l62.length:Int):=han684
    replace han686:askW (kOf Tq) xq.l.length (qs.getD jq (([],0,0):List UInt8×Int×Int))=some (l62,kOf Tp65):=han686
    refine AtL.move zg0 rfl rfl<|AtL.extract zg0 rfl rfl rfl<|AtL.extract zg0 rfl rfl rfl<|AtL.assign zg0 rfl rfl<|AtL.assign zg0 rfl rfl<|AtL.done ?_
    refine At.seq<|At.seq<|At.region<|AtL.move zg0 rfl rfl<|AtL.nei zg0 rfl rfl rfl<|AtL.done ?_
    refine At.condF rfl<|At.skip<|At.region<|AtL.load zah zg0 rfl rfl (Cell.own 5 0 rfl rfl rfl)<|AtL.move zg0 rfl rfl ?_
    refine AtL.append (l:=xq.l) (news:=l62) 4 zas rfl xq.own (o64.rd (i:=0) rfl) (by first | omega | (simp only [List.length_append,List.length_cons,List.length_nil,zae]; omega) | (simp [zae]; done) | (simp [zae]; omega)) zg0 rfl rfl rfl ?_
    intro A70 C71 s72 o73
    refine AtL.store (H':=s63::[(pb57,.cells #[.map (some mb58),.int .i64 ed67] 244 (0,0))]::[(mb58,mapG kyS int Tp65 mp66)]::[(b59,.cells #[str ((qs.getD jq (([],0,0):List UInt8×Int×Int)).1),.int .i64 ((qs.getD jq (([],0,0):List UInt8×Int×Int)).2.1),.int .i64 ((qs.getD jq (([],0,0):List UInt8×Int×Int)).2.2)] 86 (0,0))]::s72::[(b2,.cells #[.slice A70 (xq.l++l62).length C71] 22 (0,0))]::[(b3,.cells #[.int .i64 0] 54 (0,0))]::[(b1,.cells #[.int .i64 id,.int .i64 flags,.slice Aq qs.length Cq,.slice Aa an.length Ca,.slice An ns.length Cn,.slice Ar ar.length Cr] 78 (0,0))]::H) 5 0 zba zg0 rfl rfl rfl rfl rfl rfl rfl rfl rfl<|AtL.done<|At.inBlock<|At.region ?_
    refine AtL.add (z:=(jq:Int) + 1) zg0 rfl rfl rfl (w64 kW kW)<|AtL.move zg0 rfl rfl<|AtL.done<|At.pick (H':=s72::[(b2,.cells #[.slice A70 (xq.l++l62).length C71] 22 (0,0))]::[(b3,.cells #[.int .i64 0] 54 (0,0))]::[(b1,.cells #[.int .i64 id,.int .i64 flags,.slice Aq qs.length Cq,.slice Aa an.length Ca,.slice An ns.length Cn,.slice Ar ar.length Cr] 78 (0,0))]::[(pb57,.cells #[.map (some mb58),.int .i64 ed67] 244 (0,0))]::[(mb58,mapG kyS int Tp65 mp66)]::H) [4,5,6,7,1,2] 8 rfl rfl ?_
    refine ihL2 (jq + 1) (⟨A70,C71,xq.l++l62,s72,o73⟩) Tp65 mp66 ed67 (⟨⟨by omega,(by dsimp only; rw [take_snoc (d:=(([],0,0):List UInt8×Int×Int)) kW]; exact WAt.q hwq han681)⟩,(by have h9:=han683; rw [← List.length_append] at h9; exact h9),by simp only [List.length_append]; omega,by simp only [List.length_append]; omega,(by dsimp only; rw [hfq,zeE (d:=(([],0,0):List UInt8×Int×Int)) kW,mWq_step han686])⟩) kW _ ?_
    exact ⟨rfl,rfl,rfl,rfl,rfl,rfl,kQ,trivial⟩
   ·refine AtL.move zg0 rfl rfl<|AtL.extract zg0 rfl rfl rfl<|AtL.extract zg0 rfl rfl rfl<|AtL.assign zg0 rfl rfl<|AtL.assign zg0 rfl rfl<|AtL.done ?_
    refine At.seq<|At.seq<|At.region<|AtL.move zg0 rfl rfl<|AtL.nei zg0 rfl rfl rfl<|AtL.done ?_
    refine At.condIs true rfl (by simp [han685])<|At.seq<|At.region<|AtL.load zah zg0 rfl rfl (Cell.own 2 0 rfl rfl rfl)<|AtL.store (H':=[(b59,.cells #[str ((qs.getD jq (([],0,0):List UInt8×Int×Int)).1),.int .i64 ((qs.getD jq (([],0,0):List UInt8×Int×Int)).2.1),.int .i64 ((qs.getD jq (([],0,0):List UInt8×Int×Int)).2.2)] 86 (0,0))]::xq.s::[(b2,.cells #[.slice xq.A xq.l.length xq.C] 22 (0,0))]::[(b3,.cells #[.int .i64 0] 54 (0,0))]::[(b1,.cells #[.int .i64 id,.int .i64 flags,.slice Aq qs.length Cq,.slice Aa an.length Ca,.slice An ns.length Cn,.slice Ar ar.length Cr] 78 (0,0))]::H) 2 0 zba zg0 rfl rfl rfl rfl rfl rfl rfl rfl rfl<|AtL.store (H':=[(b59,.cells #[str ((qs.getD jq (([],0,0):List UInt8×Int×Int)).1),.int .i64 ((qs.getD jq (([],0,0):List UInt8×Int×Int)).2.1),.int .i64 ((qs.getD jq (([],0,0):List UInt8×Int×Int)).2.2)] 86 (0,0))]::xq.s::[(b2,.cells #[.slice xq.A xq.l.length xq.C] 22 (0,0))]::[(b3,.cells #[.int .i64 3] 54 (0,0))]::[(b1,.cells #[.int .i64 id,.int .i64 flags,.slice Aq qs.length Cq,.slice Aa an.length Ca,.slice An ns.length Cn,.slice Ar ar.length Cr] 78 (0,0))]::H) 3 0 zch zg0 rfl rfl rfl rfl rfl rfl rfl rfl rfl ?_
    refine AtL.done<|At.retU rfl<|Un.pick (H':=[(b3,.cells #[.int .i64 3] 54 (0,0))]::[(b2,.cells #[.slice xq.A xq.l.length xq.C] 22 (0,0))]::[(b59,.cells #[str ((qs.getD jq (([],0,0):List UInt8×Int×Int)).1),.int .i64 ((qs.getD jq (([],0,0):List UInt8×Int×Int)).2.1),.int .i64 ((qs.getD jq (([],0,0):List UInt8×Int×Int)).2.2)] 86 (0,0))]::xq.s::[(b1,.cells #[.int .i64 id,.int .i64 flags,.slice Aq qs.length Cq,.slice Aa an.length Ca,.slice An ns.length Cn,.slice Ar ar.length Cr] 78 (0,0))]::H) [3,2,0,1,4] 5 rfl rfl ?_
    refine Un.defer zdl rfl rfl (mw1_bad kI) ?_
    rintro _ _ ⟨rfl,rfl⟩
    exact Un.leftP (vs:=[.slice none 0 0,.int .i64 3]) [] 5 rfl rfl Tryz.func21 rfl ⟨⟨_,rfl,LoadsTo.flat zah (Cell.own 1 0 rfl rfl rfl)⟩,⟨_,rfl,LoadsTo.flat zak (Cell.own 0 0 rfl rfl rfl)⟩,trivial⟩ (.inr ⟨_,kI,fun _ => (by rw [hfq,zeE (d:=(([],0,0):List UInt8×Int×Int)) kW]; rw [mWq_none han687]),rfl,rfl⟩)
  ·intro hc3
   refine At.exit rfl<|At.seq<|At.seq<|At.region<|AtL.pick (H':=[(b1,.cells #[.int .i64 id,.int .i64 flags,.slice Aq qs.length Cq,.slice Aa an.length Ca,.slice An ns.length Cn,.slice Ar ar.length Cr] 78 (0,0))]::xq.s::[(b2,.cells #[.slice xq.A xq.l.length xq.C] 22 (0,0))]::[(b3,.cells #[.int .i64 0] 54 (0,0))]::[(pb57,.cells #[.map (some mb58),.int .i64 eq] 244 (0,0))]::[(mb58,mapG kyS int Tq mq)]::H) [3,0,1,2,4,5] 6 rfl rfl<|AtL.call zeh zg0 rfl rfl zfP ?_
   rintro _ _ ⟨rfl,rfl⟩
   refine AtL.move zg0 rfl rfl<|AtL.done<|At.block<|At.unroll<|At.seq<|At.region ?_
   refine AtL.lss zg0 rfl rfl rfl<|AtL.done<|At.seq<|At.condT rfl<|At.skip<|At.seq ?_
   refine At.block<|At.seq<|At.region<|AtL.ofIs (Do.indexAny (v:=.pointer (some ⟨b1,3,none⟩)) rfl rfl (fun w => by kernel_rfl)) zg0 rfl<|AtL.assign zg0 rfl rfl<|AtL.done ?_
   refine At.seq<|At.region<|AtL.move zg0 rfl rfl<|AtL.nilCheck zg0 rfl rfl<|AtL.load zaq zg0 rfl rfl (Cell.own 0 0 rfl rfl rfl)<|AtL.lenL Tryz.underlying76 zg0 rfl rfl ?_
   refine AtL.move zg0 rfl rfl<|AtL.done<|At.block<|At.pick (H':=xq.s::[(b2,.cells #[.slice xq.A xq.l.length xq.C] 22 (0,0))]::[(b3,.cells #[.int .i64 0] 54 (0,0))]::[(b1,.cells #[.int .i64 id,.int .i64 flags,.slice Aq qs.length Cq,.slice Aa an.length Ca,.slice An ns.length Cn,.slice Ar ar.length Cr] 78 (0,0))]::[(pb57,.cells #[.map (some mb58),.int .i64 eq] 244 (0,0))]::[(mb58,mapG kyS int Tq mq)]::H) [1,2,3,0,4,5] 6 rfl rfl ?_
   refine At.loop5 (fun (ja:Nat) (xa:Sl tyB 5) (Ta:List (List UInt8×Int×Nat)) (ma:Nat) (ea:Int) => [(2,.pointer (some ⟨b2,0,none⟩)),(3,.pointer (some ⟨b3,0,none⟩)),(9,.pointer (some ⟨pb57,0,none⟩)),(80,.agg #[.pointer (some ⟨b1,3,none⟩),.pointer (some ⟨b1,4,none⟩),.pointer (some ⟨b1,5,none⟩)]),(81,.int .i64 0),(86,.slice Aa an.length Ca),(87,.int .i64 (an.length:Int)),(88,.int .i64 (ja:Int))]) (fun (ja:Nat) (xa:Sl tyB 5) (Ta:List (List UInt8×Int×Nat)) (ma:Nat) (ea:Int) => xa.s::[(b2,.cells #[.slice xa.A xa.l.length xa.C] 22 (0,0))]::[(b3,.cells #[.int .i64 0] 54 (0,0))]::[(b1,.cells #[.int .i64 id,.int .i64 flags,.slice Aq qs.length Cq,.slice Aa an.length Ca,.slice An ns.length Cn,.slice Ar ar.length Cr] 78 (0,0))]::[(pb57,.cells #[.map (some mb58),.int .i64 ea] 244 (0,0))]::[(mb58,mapG kyS int Ta ma)]::H) (fun (ja:Nat) (xa:Sl tyB 5) (Ta:List (List UInt8×Int×Nat)) (ma:Nat) (ea:Int) => (ja≤an.length∧WAt xa.l (hdB id flags qs.length an.length ns.length ar.length) qs (an.take ja) [] [])∧PkOk (fun _:Unit => xa.l) xa.l.length Ta∧ea≤(xa.l.length:Int)∧xa.l.length≤131600∧msgF id flags qs an ns ar=mWr xa.l (kOf Ta) (an.drop ja++ns++ar)) (fun (ja:Nat) (xa:Sl tyB 5) (Ta:List (List UInt8×Int×Nat)) (ma:Nat) (ea:Int) => an.length - ja) 0 xq Tq mq eq (⟨⟨Nat.zero_le _,by rw [List.take_of_length_le kW] at hwq; exact hwq⟩,hpq,heq,hlq,(by rw [hfq,List.drop_eq_nil_of_le kW]; rfl)⟩) ⟨rfl,rfl,rfl,rfl,rfl,rfl,rfl,rfl,trivial⟩ rfl ?_
   rintro ja xa Ta ma ea ⟨⟨hja,hwa⟩,hpa,hea,hla,hfa⟩ ihL4
   have hcapa:=Own.cap_le xa.own
   refine At.seq<|At.region<|AtL.lss zg0 rfl rfl rfl<|AtL.done<|At.seq<|At.condD rfl ?_ ?_
   ·intro hc6
    refine At.skip<|At.seq<|At.block<|At.seq<|At.region ?_
    refine AtL.indexL ja (Rd.skip 6 ha) Tryz.underlying76 za7 zg0 rfl rfl rfl rfl kW ?_
    refine AtL.loadE (n:=0) (Rd.skip 6 ha) (getD_some (([],0,0,0,[]):List UInt8×Int×Int×Int×List UInt8) kW) rfl zb7 zg0 rfl rfl<|AtL.alloc zbF (cs:=#[str [],.int .i64 0,.int .i64 0,.int .i64 0,str []]) rfl zg0 rfl ?_
    intro b74
    refine AtL.store (H':=[(b74,.cells #[str ((an.getD ja (([],0,0,0,[]):List UInt8×Int×Int×Int×List UInt8)).1),.int .i64 ((an.getD ja (([],0,0,0,[]):List UInt8×Int×Int×Int×List UInt8)).2.1),.int .i64 ((an.getD ja (([],0,0,0,[]):List UInt8×Int×Int×Int×List UInt8)).2.2.1),.int .i64 ((an.getD ja (([],0,0,0,[]):List UInt8×Int×Int×Int×List UInt8)).2.2.2.1),str ((an.getD ja (([],0,0,0,[]):List UInt8×Int×Int×Int×List UInt8)).2.2.2.2)] 101 (0,0))]::xa.s::[(b2,.cells #[.slice xa.A xa.l.length xa.C] 22 (0,0))]::[(b3,.cells #[.int .i64 0] 54 (0,0))]::[(b1,.cells #[.int .i64 id,.int .i64 flags,.slice Aq qs.length Cq,.slice Aa an.length Ca,.slice An ns.length Cn,.slice Ar ar.length Cr] 78 (0,0))]::[(pb57,.cells #[.map (some mb58),.int .i64 ea] 244 (0,0))]::[(mb58,mapG kyS int Ta ma)]::H) 0 0 za7 zg0 rfl rfl rfl rfl rfl rfl rfl rfl rfl<|AtL.done<|At.seq ?_
    exfalso; omega
   ·intro hc6
    refine At.exit rfl<|At.inBlock<|At.region ?_
    refine AtL.add (z:=1) zg0 rfl rfl rfl kI<|AtL.move zg0 rfl rfl<|AtL.done<|At.again<|At.seq<|At.region ?_
    refine AtL.lss zg0 rfl rfl rfl<|AtL.done<|At.seq<|At.condT rfl<|At.skip<|At.seq ?_
    refine At.block<|At.seq<|At.region<|AtL.ofIs (Do.indexAny (v:=.pointer (some ⟨b1,4,none⟩)) rfl rfl (fun w => by kernel_rfl)) zg0 rfl<|AtL.assign zg0 rfl rfl<|AtL.done ?_
    refine At.seq<|At.region<|AtL.move zg0 rfl rfl<|AtL.nilCheck zg0 rfl rfl<|AtL.load zaq zg0 rfl rfl (Cell.own 3 0 rfl rfl rfl)<|AtL.lenL Tryz.underlying76 zg0 rfl rfl ?_
    refine AtL.move zg0 rfl rfl<|AtL.done<|At.block ?_
    refine At.loop5 (fun (jn:Nat) (xn:Sl tyB 5) (Tn:List (List UInt8×Int×Nat)) (mn:Nat) (en:Int) => [(2,.pointer (some ⟨b2,0,none⟩)),(3,.pointer (some ⟨b3,0,none⟩)),(9,.pointer (some ⟨pb57,0,none⟩)),(80,.agg #[.pointer (some ⟨b1,3,none⟩),.pointer (some ⟨b1,4,none⟩),.pointer (some ⟨b1,5,none⟩)]),(81,.int .i64 1),(86,.slice An ns.length Cn),(87,.int .i64 (ns.length:Int)),(88,.int .i64 (jn:Int))]) (fun (jn:Nat) (xn:Sl tyB 5) (Tn:List (List UInt8×Int×Nat)) (mn:Nat) (en:Int) => xn.s::[(b2,.cells #[.slice xn.A xn.l.length xn.C] 22 (0,0))]::[(b3,.cells #[.int .i64 0] 54 (0,0))]::[(b1,.cells #[.int .i64 id,.int .i64 flags,.slice Aq qs.length Cq,.slice Aa an.length Ca,.slice An ns.length Cn,.slice Ar ar.length Cr] 78 (0,0))]::[(pb57,.cells #[.map (some mb58),.int .i64 en] 244 (0,0))]::[(mb58,mapG kyS int Tn mn)]::H) (fun (jn:Nat) (xn:Sl tyB 5) (Tn:List (List UInt8×Int×Nat)) (mn:Nat) (en:Int) => (jn≤ns.length∧WAt xn.l (hdB id flags qs.length an.length ns.length ar.length) qs an (ns.take jn) [])∧PkOk (fun _:Unit => xn.l) xn.l.length Tn∧en≤(xn.l.length:Int)∧xn.l.length≤131600∧msgF id flags qs an ns ar=mWr xn.l (kOf Tn) (ns.drop jn++ar)) (fun (jn:Nat) (xn:Sl tyB 5) (Tn:List (List UInt8×Int×Nat)) (mn:Nat) (en:Int) => ns.length - jn) 0 xa Ta ma ea (⟨⟨Nat.zero_le _,by rw [List.take_of_length_le kW] at hwa; exact hwa⟩,hpa,hea,hla,(by rw [hfa,List.drop_eq_nil_of_le kW]; rfl)⟩) ⟨rfl,rfl,rfl,rfl,rfl,rfl,rfl,rfl,trivial⟩ rfl ?_
    rintro jn xn Tn mn en ⟨⟨hjn,hwn⟩,hpn,hen,hln,hfn⟩ ihL4
    have hcapn:=Own.cap_le xn.own
    refine At.seq<|At.region<|AtL.lss zg0 rfl rfl rfl<|AtL.done<|At.seq<|At.condD rfl ?_ ?_
    ·intro hc6
     refine At.skip<|At.seq<|At.block<|At.seq<|At.region ?_
     refine AtL.indexL jn (Rd.skip 6 hn) Tryz.underlying76 za7 zg0 rfl rfl rfl rfl kW ?_
     refine AtL.loadE (n:=0) (Rd.skip 6 hn) (getD_some (([],0,0,0,[]):List UInt8×Int×Int×Int×List UInt8) kW) rfl zb7 zg0 rfl rfl<|AtL.alloc zbF (cs:=#[str [],.int .i64 0,.int .i64 0,.int .i64 0,str []]) rfl zg0 rfl ?_
     intro b75
     refine AtL.store (H':=[(b75,.cells #[str ((ns.getD jn (([],0,0,0,[]):List UInt8×Int×Int×Int×List UInt8)).1),.int .i64 ((ns.getD jn (([],0,0,0,[]):List UInt8×Int×Int×Int×List UInt8)).2.1),.int .i64 ((ns.getD jn (([],0,0,0,[]):List UInt8×Int×Int×Int×List UInt8)).2.2.1),.int .i64 ((ns.getD jn (([],0,0,0,[]):List UInt8×Int×Int×Int×List UInt8)).2.2.2.1),str ((ns.getD jn (([],0,0,0,[]):List UInt8×Int×Int×Int×List UInt8)).2.2.2.2)] 101 (0,0))]::xn.s::[(b2,.cells #[.slice xn.A xn.l.length xn.C] 22 (0,0))]::[(b3,.cells #[.int .i64 0] 54 (0,0))]::[(b1,.cells #[.int .i64 id,.int .i64 flags,.slice Aq qs.length Cq,.slice Aa an.length Ca,.slice An ns.length Cn,.slice Ar ar.length Cr] 78 (0,0))]::[(pb57,.cells #[.map (some mb58),.int .i64 en] 244 (0,0))]::[(mb58,mapG kyS int Tn mn)]::H) 0 0 za7 zg0 rfl rfl rfl rfl rfl rfl rfl rfl rfl<|AtL.done<|At.seq ?_
     exfalso; omega
    ·intro hc6
     refine At.exit rfl<|At.inBlock<|At.region ?_
     refine AtL.add (z:=2) zg0 rfl rfl rfl kI<|AtL.move zg0 rfl rfl<|AtL.done<|At.again<|At.seq<|At.region ?_
     refine AtL.lss zg0 rfl rfl rfl<|AtL.done<|At.seq<|At.condT rfl<|At.skip<|At.seq ?_
     refine At.block<|At.seq<|At.region<|AtL.ofIs (Do.indexAny (v:=.pointer (some ⟨b1,5,none⟩)) rfl rfl (fun w => by kernel_rfl)) zg0 rfl<|AtL.assign zg0 rfl rfl<|AtL.done ?_
     refine At.seq<|At.region<|AtL.move zg0 rfl rfl<|AtL.nilCheck zg0 rfl rfl<|AtL.load zaq zg0 rfl rfl (Cell.own 3 0 rfl rfl rfl)<|AtL.lenL Tryz.underlying76 zg0 rfl rfl ?_
     refine AtL.move zg0 rfl rfl<|AtL.done<|At.block ?_
     refine At.loop5 (fun (jr:Nat) (xr:Sl tyB 5) (Tr:List (List UInt8×Int×Nat)) (mr:Nat) (er:Int) => [(2,.pointer (some ⟨b2,0,none⟩)),(3,.pointer (some ⟨b3,0,none⟩)),(9,.pointer (some ⟨pb57,0,none⟩)),(80,.agg #[.pointer (some ⟨b1,3,none⟩),.pointer (some ⟨b1,4,none⟩),.pointer (some ⟨b1,5,none⟩)]),(81,.int .i64 2),(86,.slice Ar ar.length Cr),(87,.int .i64 (ar.length:Int)),(88,.int .i64 (jr:Int))]) (fun (jr:Nat) (xr:Sl tyB 5) (Tr:List (List UInt8×Int×Nat)) (mr:Nat) (er:Int) => xr.s::[(b2,.cells #[.slice xr.A xr.l.length xr.C] 22 (0,0))]::[(b3,.cells #[.int .i64 0] 54 (0,0))]::[(b1,.cells #[.int .i64 id,.int .i64 flags,.slice Aq qs.length Cq,.slice Aa an.length Ca,.slice An ns.length Cn,.slice Ar ar.length Cr] 78 (0,0))]::[(pb57,.cells #[.map (some mb58),.int .i64 er] 244 (0,0))]::[(mb58,mapG kyS int Tr mr)]::H) (fun (jr:Nat) (xr:Sl tyB 5) (Tr:List (List UInt8×Int×Nat)) (mr:Nat) (er:Int) => (jr≤ar.length∧WAt xr.l (hdB id flags qs.length an.length ns.length ar.length) qs an ns (ar.take jr))∧PkOk (fun _:Unit => xr.l) xr.l.length Tr∧er≤(xr.l.length:Int)∧xr.l.length≤131600∧msgF id flags qs an ns ar=mWr xr.l (kOf Tr) (ar.drop jr)) (fun (jr:Nat) (xr:Sl tyB 5) (Tr:List (List UInt8×Int×Nat)) (mr:Nat) (er:Int) => ar.length - jr) 0 xn Tn mn en (⟨⟨Nat.zero_le _,by rw [List.take_of_length_le kW] at hwn; exact hwn⟩,hpn,hen,hln,(by rw [hfn,List.drop_eq_nil_of_le kW]; rfl)⟩) ⟨rfl,rfl,rfl,rfl,rfl,rfl,rfl,rfl,trivial⟩ rfl ?_
     rintro jr xr Tr mr er ⟨⟨hjr,hwr⟩,hpr,her,hlr,hfr⟩ ihL4
     have hcapr:=Own.cap_le xr.own
     refine At.seq<|At.region<|AtL.lss zg0 rfl rfl rfl<|AtL.done<|At.seq<|At.condD rfl ?_ ?_
     ·intro hc6
      refine At.skip<|At.seq<|At.block<|At.seq<|At.region ?_
      refine AtL.indexL jr (Rd.skip 6 hr) Tryz.underlying76 za7 zg0 rfl rfl rfl rfl kW ?_
      refine AtL.loadE (n:=0) (Rd.skip 6 hr) (getD_some (([],0,0,0,[]):List UInt8×Int×Int×Int×List UInt8) kW) rfl zb7 zg0 rfl rfl<|AtL.alloc zbF (cs:=#[str [],.int .i64 0,.int .i64 0,.int .i64 0,str []]) rfl zg0 rfl ?_
      intro b76
      refine AtL.store (H':=[(b76,.cells #[str ((ar.getD jr (([],0,0,0,[]):List UInt8×Int×Int×Int×List UInt8)).1),.int .i64 ((ar.getD jr (([],0,0,0,[]):List UInt8×Int×Int×Int×List UInt8)).2.1),.int .i64 ((ar.getD jr (([],0,0,0,[]):List UInt8×Int×Int×Int×List UInt8)).2.2.1),.int .i64 ((ar.getD jr (([],0,0,0,[]):List UInt8×Int×Int×Int×List UInt8)).2.2.2.1),str ((ar.getD jr (([],0,0,0,[]):List UInt8×Int×Int×Int×List UInt8)).2.2.2.2)] 101 (0,0))]::xr.s::[(b2,.cells #[.slice xr.A xr.l.length xr.C] 22 (0,0))]::[(b3,.cells #[.int .i64 0] 54 (0,0))]::[(b1,.cells #[.int .i64 id,.int .i64 flags,.slice Aq qs.length Cq,.slice Aa an.length Ca,.slice An ns.length Cn,.slice Ar ar.length Cr] 78 (0,0))]::[(pb57,.cells #[.map (some mb58),.int .i64 er] 244 (0,0))]::[(mb58,mapG kyS int Tr mr)]::H) 0 0 za7 zg0 rfl rfl rfl rfl rfl rfl rfl rfl rfl<|AtL.done<|At.seq ?_
      exfalso; omega
     ·intro hc6
      refine At.exit rfl<|At.inBlock<|At.region ?_
      refine AtL.add (z:=3) zg0 rfl rfl rfl kI<|AtL.move zg0 rfl rfl<|AtL.done<|At.again<|At.seq<|At.region ?_
      refine AtL.lss zg0 rfl rfl rfl<|AtL.done<|At.seq<|At.condF rfl<|At.exit rfl<|At.seq ?_
      refine At.seq<|At.region<|AtL.load zah zg0 rfl rfl (Cell.own 1 0 rfl rfl rfl)<|AtL.lenL Tryz.underlying22 zg0 rfl rfl<|AtL.gtr zg0 rfl rfl rfl<|AtL.done ?_
      refine At.condD rfl ?_ ?_
      ·intro hc8
       refine At.seq<|At.region<|AtL.load zah zg0 rfl rfl (Cell.own 1 0 rfl rfl rfl)<|AtL.store (H':=xr.s::[(b2,.cells #[.slice xr.A xr.l.length xr.C] 22 (0,0))]::[(b3,.cells #[.int .i64 0] 54 (0,0))]::[(b1,.cells #[.int .i64 id,.int .i64 flags,.slice Aq qs.length Cq,.slice Aa an.length Ca,.slice An ns.length Cn,.slice Ar ar.length Cr] 78 (0,0))]::[(pb57,.cells #[.map (some mb58),.int .i64 er] 244 (0,0))]::[(mb58,mapG kyS int Tr mr)]::H) 1 0 zba zg0 rfl rfl rfl rfl rfl rfl rfl rfl rfl<|AtL.store (H':=xr.s::[(b2,.cells #[.slice xr.A xr.l.length xr.C] 22 (0,0))]::[(b3,.cells #[.int .i64 3] 54 (0,0))]::[(b1,.cells #[.int .i64 id,.int .i64 flags,.slice Aq qs.length Cq,.slice Aa an.length Ca,.slice An ns.length Cn,.slice Ar ar.length Cr] 78 (0,0))]::[(pb57,.cells #[.map (some mb58),.int .i64 er] 244 (0,0))]::[(mb58,mapG kyS int Tr mr)]::H) 2 0 zch zg0 rfl rfl rfl rfl rfl rfl rfl rfl rfl<|AtL.done ?_
       refine At.retU rfl<|Un.pick (H':=[(b3,.cells #[.int .i64 3] 54 (0,0))]::[(b2,.cells #[.slice xr.A xr.l.length xr.C] 22 (0,0))]::xr.s::[(b1,.cells #[.int .i64 id,.int .i64 flags,.slice Aq qs.length Cq,.slice Aa an.length Ca,.slice An ns.length Cn,.slice Ar ar.length Cr] 78 (0,0))]::[(pb57,.cells #[.map (some mb58),.int .i64 er] 244 (0,0))]::[(mb58,mapG kyS int Tr mr)]::H) [2,1,0,3,4,5] 6 rfl rfl ?_
       refine Un.defer zdl rfl rfl (mw1_bad kI) ?_
       rintro _ _ ⟨rfl,rfl⟩
       exact Un.leftP (vs:=[.slice none 0 0,.int .i64 3]) [] 6 rfl rfl Tryz.func21 rfl ⟨⟨_,rfl,LoadsTo.flat zah (Cell.own 1 0 rfl rfl rfl)⟩,⟨_,rfl,LoadsTo.flat zak (Cell.own 0 0 rfl rfl rfl)⟩,trivial⟩ (.inr ⟨_,kI,fun _ => (by rw [hfr,List.drop_eq_nil_of_le kW,mWr,if_neg kW]),rfl,rfl⟩)
      ·intro hc8
       refine At.skip<|At.seq<|At.region<|AtL.load zah zg0 rfl rfl (Cell.own 1 0 rfl rfl rfl)<|AtL.store (H':=xr.s::[(b2,.cells #[.slice xr.A xr.l.length xr.C] 22 (0,0))]::[(b3,.cells #[.int .i64 0] 54 (0,0))]::[(b1,.cells #[.int .i64 id,.int .i64 flags,.slice Aq qs.length Cq,.slice Aa an.length Ca,.slice An ns.length Cn,.slice Ar ar.length Cr] 78 (0,0))]::[(pb57,.cells #[.map (some mb58),.int .i64 er] 244 (0,0))]::[(mb58,mapG kyS int Tr mr)]::H) 1 0 zba zg0 rfl rfl rfl rfl rfl rfl rfl rfl rfl<|AtL.store (H':=xr.s::[(b2,.cells #[.slice xr.A xr.l.length xr.C] 22 (0,0))]::[(b3,.cells #[.int .i64 0] 54 (0,0))]::[(b1,.cells #[.int .i64 id,.int .i64 flags,.slice Aq qs.length Cq,.slice Aa an.length Ca,.slice An ns.length Cn,.slice Ar ar.length Cr] 78 (0,0))]::[(pb57,.cells #[.map (some mb58),.int .i64 er] 244 (0,0))]::[(mb58,mapG kyS int Tr mr)]::H) 2 0 zch zg0 rfl rfl rfl rfl rfl rfl rfl rfl rfl ?_
       refine AtL.done<|At.retU rfl<|Un.pick (H':=[(b3,.cells #[.int .i64 0] 54 (0,0))]::[(b2,.cells #[.slice xr.A xr.l.length xr.C] 22 (0,0))]::xr.s::[(b1,.cells #[.int .i64 id,.int .i64 flags,.slice Aq qs.length Cq,.slice Aa an.length Ca,.slice An ns.length Cn,.slice Ar ar.length Cr] 78 (0,0))]::[(pb57,.cells #[.map (some mb58),.int .i64 er] 244 (0,0))]::[(mb58,mapG kyS int Tr mr)]::H) [2,1,0,3,4,5] 6 rfl rfl<|Un.defer zdl rfl rfl mw1_ok ?_
       rintro _ _ ⟨rfl,rfl⟩
       exact Un.leftP (vs:=[.slice xr.A xr.l.length xr.C,.int .i64 0]) [2] 6 rfl rfl Tryz.func21 rfl ⟨⟨_,rfl,LoadsTo.flat zah (Cell.own 1 0 rfl rfl rfl)⟩,⟨_,rfl,LoadsTo.flat zak (Cell.own 0 0 rfl rfl rfl)⟩,trivial⟩ (.inl ⟨xr,hM,WAt.done (by rw [List.take_of_length_le kW] at hwr; exact hwr) kW,(by rw [hfr,List.drop_eq_nil_of_le kW,mWr,if_pos kW]),rfl,rfl⟩)
set_option maxRecDepth 100000
set_option maxHeartbeats 1000000 in
theorem zf3 {w0:World}{base:Nat}{H:List Seg}{D:Option Addr}{C:Nat}{id:Int}{qs:List (List UInt8×Int×Int)}(h:Rd tyQn w0 base H D C qs) (hqn:∀ q ∈ qs,q.1.length≤1048576) (T10:Tab10 w0 base) (ML:MaxL w0 base) :
  SCalls Tryz.prog 6 [.int .i64 id,.slice D qs.length C] w0 base (H) (fun v H' => v = .bool true∧H' = H):=by
 have hle0:=h.le
 have hcap0:=h.cap
 refine SCalls.of_walk (n:=89) Tryz.func6 rfl rfl rfl fun cs => ?_
 refine At.seq<|At.region<|AtL.assign zg0 rfl rfl<|AtL.done<|At.seq<|At.region ?_
 refine AtL.call tf_body15 zg0 rfl rfl (awakeb_any T10) ?_
 rintro _ _ ⟨rfl,hHq⟩
 obtain rfl:=hHq.symm
 refine AtL.assign zg0 rfl rfl<|AtL.done<|At.seq<|At.seq<|At.region<|AtL.move zg0 rfl rfl ?_
 refine AtL.lenL Tryz.underlying73 zg0 rfl rfl<|AtL.gtr zg0 rfl rfl rfl<|AtL.done<|At.cond rfl ?_ ?_
 ·intro hc1
  have hc1:20 < (qs.length:Int):=of_decide_eq_true hc1
  refine At.seq<|At.region<|AtL.move zg0 rfl rfl<|AtL.assign zg0 rfl rfl<|AtL.done ?_
  exact At.ret Tryz.func6 rfl rfl (⟨rfl,rfl⟩)
 ·intro hc1
  have hc1:¬ (20 < (qs.length:Int)):=of_decide_eq_false hc1
  refine At.skip<|At.seq<|At.region<|AtL.call tf_body20 zg0 rfl rfl bnew_ok ?_
  rintro _ _ ⟨b1,rfl,rfl⟩
  refine AtL.assign zg0 rfl rfl<|AtL.done<|At.seq<|At.region<|AtL.move zg0 rfl rfl<|AtL.move zg0 rfl rfl ?_
  refine AtL.build (cs:=[.int .i64 id,.int .i64 0,.slice D qs.length C,.slice none 0 0,.slice none 0 0,.slice none 0 0]) tf_lay78 zg0 rfl rfl rfl ?_
  refine AtL.call tf_body21 zg0 rfl rfl (msgwrite_ok (id:=id) (flags:=0) (qs:=qs) (an:=[]) (ns:=[]) (ar:=[]) (Rd.skip 1 h) Rd.nil_ Rd.nil_ Rd.nil_ ⟨by omega,by decide,by decide,by decide⟩ (fun q hq => by have:=hqn q hq; omega) (fun x hx => absurd hx (by simp)) (fun x hx => absurd hx (by simp)) (fun x hx => absurd hx (by simp)) ⟨rfl,rfl,rfl⟩) ?_
  rintro _ _ (⟨⟨A2,C3,l4,s5,o6⟩,hM7,hA8,hf9,rfl,rfl⟩ | ⟨e10,he11,hg12,rfl,rfl⟩)
  ·replace hA8:MAt l4 id 0 qs [] [] []:=hA8
   refine AtL.move zg0 rfl rfl<|AtL.extract zg0 rfl rfl rfl<|AtL.extract zg0 rfl rfl rfl<|AtL.assign zg0 rfl rfl<|AtL.assign zg0 rfl rfl<|AtL.done ?_
   refine At.seq<|At.seq<|At.region<|AtL.move zg0 rfl rfl<|AtL.eqPtrNil Tryz.underlying63 zg0 rfl rfl rfl<|AtL.done ?_
   refine At.condF rfl<|At.skip<|At.seq<|At.seq<|At.region<|AtL.move zg0 rfl rfl ?_
   refine AtL.nei zg0 rfl rfl rfl<|AtL.move zg0 rfl rfl<|AtL.move (.inr ⟨_,_,_,rfl,rfl,rfl,rfl⟩) rfl rfl<|AtL.lenL Tryz.underlying22 (.inr ⟨_,_,_,rfl,rfl,rfl,rfl⟩) rfl rfl<|AtL.gtr (.inr ⟨_,_,_,rfl,rfl,rfl,rfl⟩) rfl rfl rfl<|AtL.pickF zg0 rfl rfl rfl ?_
   refine AtL.done<|At.cond rfl ?_ ?_
   ·intro hc3
    have hc3:2000 < (l4.length:Int):=of_decide_eq_true hc3
    refine At.seq<|At.region<|AtL.move zg0 rfl rfl<|AtL.assign zg0 rfl rfl<|AtL.done<|At.pick (H':=H) [] 2 rfl rfl ?_
    exact At.ret Tryz.func6 rfl rfl (⟨rfl,rfl⟩)
   ·intro hc3
    have hc3:¬ (2000 < (l4.length:Int)):=of_decide_eq_false hc3
    have hrl:=readL_len id 0 qs
    have hxl9:=zdt l4
    refine At.skip<|At.seq<|At.region<|AtL.move zg0 rfl rfl<|AtL.move zg0 rfl rfl ?_
    refine AtL.call tf_body22 zg0 rfl rfl (lhex_ok (b:=l4) (o6.rd (i:=0) rfl) kW) ?_
    rintro _ _ ⟨rfl,rfl⟩
    refine AtL.cat zg0 rfl rfl rfl (by first | omega | (simp only [List.length_append,List.length_cons,List.length_nil]; omega) | (simp; omega))<|AtL.pick (H':=[(b1,.cells #[.bool true,.slice none 0 0,.pointer none] 65 (0,0))]::s5::H) [1,0] 2 rfl rfl ?_
    refine AtL.call tf_body16 zg0 rfl rfl (line_read hM7 hA8 ⟨rfl,rfl,rfl⟩ kW (by have h9:=hA8.2.1.2; rw [hdB_len] at h9; omega) kW T10 ML) ?_
    rintro _ _ ⟨⟨A13,C14,l15,s16,o17⟩,hy18,rfl,rfl⟩
    obtain rfl:readL id 0 qs=l15:=hy18.symm
    refine AtL.assign zg0 rfl rfl<|AtL.done<|At.seq<|At.seq<|At.region<|AtL.move zg0 rfl rfl ?_
    refine AtL.lenL Tryz.underlying67 zg0 rfl rfl<|AtL.move zg0 rfl rfl<|AtL.lenL Tryz.underlying73 zg0 rfl rfl ?_
    refine AtL.add (z:=1 + (qs.length:Int)) zg0 rfl rfl rfl (w64 kW kW)<|AtL.nei zg0 rfl rfl rfl<|AtL.done ?_
    refine At.condIs false rfl (not_t (by show ((readL id 0 qs).length:Int)=_; omega))<|At.skip<|At.seq<|At.seq<|At.region<|AtL.assign zg0 rfl rfl ?_
    refine AtL.done<|At.block<|At.pick (H':=s16::H) [0] 3 rfl rfl<|At.loop (fun (i:Nat) => [(1,.slice D qs.length C),(5,.bool true),(9,.slice A13 (readL id 0 qs).length C14),(10,.int .i64 (i:Int))]) (fun (i:Nat) => s16::H) (fun (i:Nat) => i≤qs.length) (fun (i:Nat) => qs.length - i) 0 (Nat.zero_le _) ⟨rfl,rfl,rfl,rfl,trivial⟩ rfl ?_
    rintro i hi ihL1
    refine At.seq<|At.seq<|At.region<|AtL.move zg0 rfl rfl<|AtL.move zg0 rfl rfl<|AtL.lenL Tryz.underlying73 zg0 rfl rfl ?_
    refine AtL.lss zg0 rfl rfl rfl<|AtL.done<|At.cond rfl ?_ ?_
    ·intro hc5
     have hc5:(i:Int) < (qs.length:Int):=of_decide_eq_true hc5
     refine At.skip<|At.seq<|At.block<|At.seq ?_
     have hqk:=hM7.2.2.2.1 _ (zbj (l:=qs) (i:=i) (d:=(([],0,0):List UInt8×Int×Int)) kW)
     refine At.region<|AtL.move zg0 rfl rfl<|AtL.move zg0 rfl rfl ?_
     refine AtL.add (z:=1 + (i:Int)) zg0 rfl rfl rfl (w64 kW kW) ?_
     refine AtL.indexL (1 + i) (o17.rd (i:=0) rfl) Tryz.underlying67 zaE zg0 rfl rfl rfl rfl kW ?_
     refine AtL.load (v:=str ((readL id 0 qs).getD (1 + i) [])) zad zg0 rfl rfl (Rd.cell0 (o17.rd (i:=0) rfl) (getD_some [] kW) rfl) ?_
     refine AtL.call tf_body23 zg0 rfl rfl (splitl_ok (x:=((readL id 0 qs).getD (1 + i) [])) (L:=[[97,115,107,115],textF (labOf (qs.getD i (([],0,0):List UInt8×Int×Int)).1),Lib.itoa (qs.getD i (([],0,0):List UInt8×Int×Int)).2.1,Lib.itoa (qs.getD i (([],0,0):List UInt8×Int×Int)).2.2]) (by rw [readL_at kW]; exact lineQ_sp _) (by rw [readL_at kW]; have h9:=lineQ_len hqk.1 hqk.2.1 hqk.2.2; omega) ML) ?_
     rintro _ _ ⟨⟨A19,C20,l21,s22,o23⟩,hx24,rfl,rfl⟩
     replace hx24:l21=[[97,115,107,115],textF (labOf (qs.getD i (([],0,0):List UInt8×Int×Int)).1),Lib.itoa (qs.getD i (([],0,0):List UInt8×Int×Int)).2.1,Lib.itoa (qs.getD i (([],0,0):List UInt8×Int×Int)).2.2]:=hx24
     have hx24n:l21.length=4:=by rw [hx24]; rfl
     refine AtL.assign zg0 rfl rfl<|AtL.done<|At.seq<|At.seq<|At.region<|AtL.move zg0 rfl rfl ?_
     refine AtL.lenL Tryz.underlying67 zg0 rfl rfl<|AtL.nei zg0 rfl rfl rfl<|AtL.move zg0 rfl rfl<|AtL.join 5 (E':=[(68,.bool (decide ((¬ ((l21.length:Int)=4))∨(¬ ((l21.getD 0 [])=[97,115,107,115]))))),(1,.slice D qs.length C),(5,.bool true),(9,.slice A13 (readL id 0 qs).length C14),(10,.int .i64 (i:Int)),(11,.slice A19 l21.length C20)]) (H':=s22::s16::H) (fun J => ?_) ?_
     ·refine AtL.split (t:=63) rfl ?_ ?_
      ·intro hs63
       have hs63:¬ ((l21.length:Int)=4):=of_decide_eq_false (zaX hs63)
       refine AtL.skipped rfl rfl rfl rfl rfl rfl<|AtL.skipped rfl rfl rfl rfl rfl rfl<|AtL.skipped rfl rfl rfl rfl rfl rfl<|AtL.skipped rfl rfl rfl rfl rfl rfl<|AtL.pickT zg0 rfl rfl rfl ?_
       exact J _ (by exact ⟨(boolIs (by clear J; first | (simp [hs63]; done) | (simp_all; done) | grind)),rfl,rfl,rfl,rfl,rfl,trivial⟩)
      ·intro hs63
       have hs63:(l21.length:Int)=4:=of_decide_eq_true (zaJ hs63)
       refine AtL.move (.inr ⟨_,_,_,rfl,rfl,rfl,rfl⟩) rfl rfl ?_
       refine AtL.indexL 0 (o23.rd (i:=0) rfl) Tryz.underlying67 zaE (.inr ⟨_,_,_,rfl,rfl,rfl,rfl⟩) rfl rfl rfl rfl kW ?_
       refine AtL.load (v:=str (l21.getD 0 [])) zad (.inr ⟨_,_,_,rfl,rfl,rfl,rfl⟩) rfl rfl (Rd.cell0 (o23.rd (i:=0) rfl) (getD_some [] kW) rfl)<|AtL.nes (a:=(l21.getD 0 [])) (b:=[97,115,107,115]) (.inr ⟨_,_,_,rfl,rfl,rfl,rfl⟩) rfl rfl rfl<|AtL.pickF zg0 rfl rfl rfl ?_
       exact J _ (by exact ⟨(boolIs (by clear J; first | (simp [hs63]; done) | (simp_all; done) | grind)),rfl,rfl,rfl,rfl,rfl,trivial⟩)
     ·refine AtL.done ?_
      refine At.condIs false rfl (decide_eq_false (fun h9 => h9.elim (fun h => h kW) (fun h => h (by rw [hx24]; rfl))))<|At.skip<|At.seq<|At.region<|AtL.move zg0 rfl rfl ?_
      refine AtL.indexL 1 (o23.rd (i:=0) rfl) Tryz.underlying67 zaE zg0 rfl rfl rfl rfl kW ?_
      refine AtL.load (v:=str (l21.getD 1 [])) zad zg0 rfl rfl (Rd.cell0 (o23.rd (i:=0) rfl) (getD_some [] kW) rfl) ?_
      refine AtL.call tf_body24 zg0 rfl rfl (parse_ok (s:=(l21.getD 1 [])) (ls:=(labOf (qs.getD i (([],0,0):List UInt8×Int×Int)).1)) (by rw [hx24]; rfl) hqk.1.labels.1 (by rw [← hqk.1.labels.2]; obtain ⟨_,_,_,h9⟩:=hqk.1; exact h9)) ?_
      rintro _ _ ⟨rfl,rfl⟩
      refine AtL.move zg0 rfl rfl<|AtL.extract zg0 rfl rfl rfl<|AtL.extract zg0 rfl rfl rfl<|AtL.alloc zaw (cs:=#[.int .i64 0,.int .i64 0]) rfl zg0 rfl ?_
      intro b25
      refine AtL.assign zg0 rfl rfl<|AtL.store (H':=[(b25,.cells #[.int .i64 0,.int .i64 0] 82 (0,0))]::s22::s16::H) 0 0 zaF zg0 rfl rfl rfl rfl rfl rfl rfl rfl rfl<|AtL.done<|At.seq<|At.region<|AtL.fieldAddrB zaS zg0 rfl rfl rfl ?_
      refine AtL.load zak zg0 rfl rfl (Cell.own 0 0 rfl rfl rfl)<|AtL.nei zg0 rfl rfl rfl<|AtL.move zg0 rfl rfl<|AtL.move (.inr ⟨_,_,_,rfl,rfl,rfl,rfl⟩) rfl rfl<|AtL.move (.inr ⟨_,_,_,rfl,rfl,rfl,rfl⟩) rfl rfl<|AtL.move (.inr ⟨_,_,_,rfl,rfl,rfl,rfl⟩) rfl rfl ?_
      refine AtL.indexL i (Rd.skip 3 h) Tryz.underlying73 zb0 (.inr ⟨_,_,_,rfl,rfl,rfl,rfl⟩) rfl rfl rfl rfl kW<|AtL.fieldAddr zb4 (.inr ⟨_,_,_,rfl,rfl,rfl,rfl⟩) rfl rfl ?_
      refine AtL.load (v:=str ((qs.getD i (([],0,0):List UInt8×Int×Int)).1)) zad (.inr ⟨_,_,_,rfl,rfl,rfl,rfl⟩) rfl rfl (Rd.cell_at (Rd.skip 3 h) (j:=0) (getD_some (([],0,0):List UInt8×Int×Int) kW) rfl)<|AtL.nes (a:=nmL (labOf (qs.getD i (([],0,0):List UInt8×Int×Int)).1)) (b:=(qs.getD i (([],0,0):List UInt8×Int×Int)).1) (.inr ⟨_,_,_,rfl,rfl,rfl,rfl⟩) rfl rfl rfl<|AtL.pickF zg0 rfl rfl rfl<|AtL.done<|At.condIs false rfl (not_t hqk.1.labels.2.symm)<|At.skip ?_
      refine At.inBlock<|At.region<|AtL.move zg0 rfl rfl ?_
      refine AtL.add (z:=(i:Int) + 1) zg0 rfl rfl rfl (w64 kW kW)<|AtL.assign zg0 rfl rfl<|AtL.done<|At.pick (H':=s16::H) [2] 3 rfl rfl ?_
      refine ihL1 (i + 1) kW kW _ ?_
      exact ⟨rfl,rfl,rfl,kQ,trivial⟩
    ·intro hc5
     have hc5:¬ ((i:Int) < (qs.length:Int)):=of_decide_eq_false hc5
     refine At.exit rfl<|At.seq<|At.region<|AtL.move zg0 rfl rfl<|AtL.assign zg0 rfl rfl<|AtL.done ?_
     refine At.pick (H':=H) [] 1 rfl rfl ?_
     exact At.ret Tryz.func6 rfl rfl (⟨rfl,rfl⟩)
  ·refine AtL.move zg0 rfl rfl<|AtL.extract zg0 rfl rfl rfl<|AtL.extract zg0 rfl rfl rfl<|AtL.assign zg0 rfl rfl<|AtL.assign zg0 rfl rfl<|AtL.done ?_
   refine At.seq<|At.seq<|At.region<|AtL.move zg0 rfl rfl<|AtL.eqPtrNil Tryz.underlying63 zg0 rfl rfl rfl<|AtL.done ?_
   refine At.condF rfl<|At.skip<|At.seq<|At.seq<|At.region<|AtL.move zg0 rfl rfl ?_
   refine AtL.nei zg0 rfl rfl rfl<|AtL.move zg0 rfl rfl<|AtL.join 4 (E':=[(35,.bool (!(decide ((e10:Int)=0)))),(1,.slice D qs.length C),(5,.bool true),(6,.pointer (some ⟨b1,0,none⟩)),(7,.slice none 0 0)]) (H':=[(b1,.cells #[.bool true,.slice none 0 0,.pointer none] 65 (0,0))]::H) (fun J => ?_) ?_
   ·refine AtL.split (t:=31) rfl ?_ ?_
    ·intro hs31
     have hs31:¬ ((e10:Int)=0):=of_decide_eq_false (zaX hs31)
     refine AtL.skipped rfl rfl rfl rfl rfl rfl<|AtL.skipped rfl rfl rfl rfl rfl rfl<|AtL.skipped rfl rfl rfl rfl rfl rfl<|AtL.pickT zg0 rfl rfl rfl ?_
     exact J _ (by exact ⟨(boolIs (by clear J; first | (simp [hs31]; done) | (simp_all; done) | grind)),rfl,rfl,rfl,rfl,trivial⟩)
    ·intro hs31
     have hs31:(e10:Int)=0:=of_decide_eq_true (zaJ hs31)
     refine AtL.move (.inr ⟨_,_,_,rfl,rfl,rfl,rfl⟩) rfl rfl<|AtL.lenL Tryz.underlying22 (.inr ⟨_,_,_,rfl,rfl,rfl,rfl⟩) rfl rfl<|AtL.gtr (.inr ⟨_,_,_,rfl,rfl,rfl,rfl⟩) rfl rfl rfl<|AtL.pickF zg0 rfl rfl rfl ?_
     exact J _ (by exact ⟨(boolIs (by clear J; first | (simp [hs31]; done) | (simp_all; done) | grind)),rfl,rfl,rfl,rfl,trivial⟩)
   ·refine AtL.done ?_
    refine At.condIs true rfl (by first | exact not_f he11 | exact decide_eq_true (.inl he11) | simp [he11])<|At.seq<|At.region<|AtL.move zg0 rfl rfl<|AtL.assign zg0 rfl rfl<|AtL.done ?_
    refine At.pick (H':=H) [] 1 rfl rfl ?_
    exact At.ret Tryz.func6 rfl rfl (⟨rfl,rfl⟩)
set_option maxRecDepth 100000
theorem tab10_of {W:World}{d:DataW Unit}(h:Go.Lib.VarReads Tryz.prog W "internal/strconv.uint64pow10" d) (e:d=Go.Lib.tabData .u64 Go.Lib.pow10Tab:=by kernel_rfl):Tab10 W W.heap.size:=by
 subst e
 have hg:Tryz.prog.globalNamed "internal/strconv.uint64pow10" = some 6:=by kernel_rfl
 have hT:Go.Lib.TabIs Tryz.prog W "internal/strconv.uint64pow10" .u64 Go.Lib.pow10Tab:=by
  obtain ⟨g',t',cs,fuel,p,hg',ht',hvar,hd⟩:=h
  obtain rfl:=Option.some.inj (hg.symm.trans hg')
  obtain rfl:=Option.some.inj ((show (Tryz.prog.globals[6]?).map (·.type)=some 725 by kernel_rfl).symm.trans ht')
  unfold Go.Lib.TabIs
  rw [hvar,← Go.Lib.cells_of_tab Tryz.underlying725 Tryz.underlying558 kR kR hd]
 exact ⟨zdz (Go.Lib.TabIs.cell hT hg 0 kI),hT⟩
set_option maxRecDepth 100000
theorem maxl_of {W:World}(hsh:W.ShapedOpen Tryz.prog):MaxL W W.heap.size:=by
 obtain ⟨m,hm⟩:=cell_of_shapedOpen_int (P:=Tryz.prog) (g:=0) (t:=3) (zero:=#[.int .i64 0]) hsh (of_decide_eq_true kR) kR rfl kR kR Tryz.underlying3
 exact ⟨zdz hm,⟨m,hm⟩⟩
end Go.Proofs.YtdncjmehhahidaaGreatDoor
