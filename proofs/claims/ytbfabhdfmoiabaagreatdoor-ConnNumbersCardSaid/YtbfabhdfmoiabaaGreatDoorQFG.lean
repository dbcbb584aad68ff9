/- The parts of the proof that this law needs, in the order of their texts: the logic of walks, the plain laws, the walks. -/
import Derived.Test.YtbfabhdfmoiabaaGreatDoorQFF
namespace Go.Proofs.YtbfabhdfmoiabaaGreatDoor
set_option maxHeartbeats 400000
set_option linter.unusedVariables false
set_option linter.unusedSimpArgs false
set_option maxRecDepth 100000
theorem KvOk.snoc {kvs:List (Int×Lk×Nat)}{mn:Nat}{last:Int}(h:KvOk kvs mn last) {lk:Lk}(hw:inT lk.wh) (hf:kvs.length < 256):KvOk (kvs++[(last + 1,lk,mn)]) (mn + 1) (last + 1):=by
 have hl:=h.last
 refine ⟨fun e he => ?_,?_,?_,fun e he => ?_,fun e he => ?_,?_,by omega⟩
 ·rcases List.mem_append.1 he with he | he
  ·have:=h.lt e he; omega
  ·rw [List.mem_singleton.1 he]; exact Nat.lt_succ_self _
 ·rw [List.map_append,List.nodup_append]
  refine ⟨h.nd,by simp,fun a ha b hb q => ?_⟩
  simp only [List.map_cons,List.map_nil,List.mem_singleton] at hb
  obtain ⟨e,he,rfl⟩:=List.mem_map.1 ha
  have:=h.lt e he
  omega
 ·rw [List.map_append,List.pairwise_append]
  refine ⟨h.sorted,List.pairwise_singleton ..,fun a ha b hb => ?_⟩
  simp only [List.map_cons,List.map_nil,List.mem_singleton] at hb
  obtain ⟨e,he,rfl⟩:=List.mem_map.1 ha
  have:=(h.le e he).2
  omega
 ·rcases List.mem_append.1 he with he | he
  ·have:=h.le e he; omega
  ·rw [List.mem_singleton.1 he]; dsimp only; omega
 ·rcases List.mem_append.1 he with he | he
  ·exact h.wh e he
  ·rw [List.mem_singleton.1 he]; exact hw
 ·rw [List.length_append]; simp only [List.length_cons,List.length_nil]; omega
theorem zgR (x:Req) (L:Seg):((Lk.req x).s++L).Perm ([[(x.b,.cells #[x.ch.v,.bool x.sd,.int .i64 x.client,.int .i64 x.wh,.int .i64 x.buffer,.slice x.wait.A x.wait.l.length x.wait.C,.bool x.closing,.bool false,.pointer (some ⟨x.hr,0,none⟩),.pointer (some ⟨x.wb,0,none⟩),.int .i64 x.last,.int .i64 x.behind] 116 (0,0))],[(x.wb,.cells #[.int .i64 16,.int .i64 x.first,.int .i64 x.next,.map (some x.mb)] 128 (0,0))],[(x.mb,mapG kyI tvB x.dn x.n)],x.ch.s,x.wait.s,x.hs,(x.dn.flatMap fun e => e.2.1.s),L]:List Seg).flatten:=by
 show ((Req.H x false).flatten++L).Perm _
 simp only [Req.H,List.flatten_cons,List.flatten_nil,List.append_assoc,List.append_nil,List.nil_append]
 exact List.Perm.refl _
theorem zeJ (kvs:List (Int×Lk×Nat)) (e:Int×Lk×Nat):(zv (kvs++[e])).Perm (e.2.1.s++zv kvs):=by
 rw [zv,List.flatMap_append,List.flatMap_cons,List.flatMap_nil,List.append_nil]
 exact List.perm_append_comm
theorem zfq {a b s:Seg}(G:List Seg) {H:List Seg}(h:s.Perm G.flatten):(a::b::(G++H)).flatten.Perm (a::b::s::H).flatten:=(zaW G h).symm
theorem bopen_str {w0:World}{base:Nat}{H:List Seg}{c mb:Nat}{most idle buffer last:Int}{kvs:List (Int×Lk×Nat)}{mn:Nat}{P:List (Int×LkV)}{client now:Int}{sd:Bool}(hm:¬ most=0) (hc:Cs kvs mn last P) (hf:(P.length:Int) < most) (h256:most≤256) (hT:inT now) (hl:last≤1099511627776) :
  SCalls Tryz.prog 10 [(B c),int 1,.bool sd,int client,int now] w0 base (O0 c most idle buffer last mb::[(mb,mapG kyI Lk.v kvs mn)]::zv kvs::H) (fun v H' => ∃ K:List (Int×Lk×Nat),Cs K (mn + 1) (last + 1) (P++[(last + 1,(.str ⟨⟨sd,[],false,false,false,false,false⟩,sd,client,now,buffer,[],false,[],false⟩ 0))])∧v = .tuple #[int (last + 1),int 0]∧H' = (O0 c most idle buffer (last + 1) mb)::[(mb,mapG kyI Lk.v K (mn + 1))]::zv K::H):=by
 have hlen:=ziS hc.all
 refine (zj2 (H:=zv kvs::H) hm hc.ok (by rw [hlen]; exact hf) hT hl).flatR ?_
 rintro v H1 ⟨x,hp,hk,hy,rfl,rfl⟩
 have hw:inT x.wh:=by have:=congrArg StrV.wh hp; rw [show x.wh=x.p.wh from rfl,this]; exact hT
 refine ⟨_,zfq (s:=zv (kvs++[(last + 1,Lk.str x,mn)])) [(O4 x.b x.ch.v x.sd x.client x.wh x.buffer x.wait.A x.wait.l.length x.wait.C x.closing false x.r),(O1 x.r 65535 x.br x.y.A x.y.l.length x.y.C (x.off:Int) x.lr x.e),x.ch.s,x.wait.s,x.y.s,zv kvs] ((zeJ _ _).trans (zc9 x _)),_,⟨hc.ok.snoc (lk:=.str x) hw (by omega),all_snoc hc.all ⟨Z,.str hp hk ?_⟩⟩,Z,Z⟩
 have h8:=congrArg (fun v => v.ch.k) hp
 rw [hy,show x.ch.y.l=x.p.ch.k from rfl,h8]; exact Nat.le_refl _
theorem bopen_req {w0:World}{base:Nat}{H:List Seg}{c mb:Nat}{most idle buffer last:Int}{kvs:List (Int×Lk×Nat)}{mn:Nat}{P:List (Int×LkV)}{client now:Int}{sd:Bool}(hm:¬ most=0) (hc:Cs kvs mn last P) (hf:(P.length:Int) < most) (h256:most≤256) (hT:inT now) (hl:last≤1099511627776) :
  SCalls Tryz.prog 10 [(B c),int 2,.bool sd,int client,int now] w0 base (O0 c most idle buffer last mb::[(mb,mapG kyI Lk.v kvs mn)]::zv kvs::H) (fun v H' => ∃ K:List (Int×Lk×Nat),Cs K (mn + 1) (last + 1) (P++[(last + 1,(.req ⟨⟨sd,[],false,false,false,false,false⟩,sd,client,now,buffer,[],false,[],false,1,1,[],0,0⟩))])∧v = .tuple #[int (last + 1),int 0]∧H' = (O0 c most idle buffer (last + 1) mb)::[(mb,mapG kyI Lk.v K (mn + 1))]::zv K::H):=by
 have hlen:=ziS hc.all
 refine (zj3 (H:=zv kvs::H) hm hc.ok (by rw [hlen]; exact hf) hT hl).flatR ?_
 rintro v H1 ⟨x,ph,y,g,hs,hr,h1,h2,h3,h4,h5,⟨h6,h7,h8,h9,h10,h11,h12⟩,rfl,rfl⟩
 have hw:inT x.wh:=by rw [h4]; exact hT
 refine ⟨_,zfq (s:=zv (kvs++[(last + 1,Lk.req x,mn)])) [(O2 x.b x.ch.v x.sd x.client x.wh x.buffer x.wait.A x.wait.l.length x.wait.C x.closing false x.hr x.wb x.last x.behind),(O3 x.wb 16 x.first x.next x.mb),[(x.mb,mapG kyI tvB x.dn x.n)],x.ch.s,x.wait.s,x.hs,(x.dn.flatMap fun e => e.2.1.s),zv kvs] ((zeJ _ _).trans (zgR x _)),_,⟨hc.ok.snoc (lk:=.req x) hw (by omega),all_snoc hc.all ⟨Z,.req hs hr ?_ ?_ ?_ ?_⟩⟩,Z,Z⟩
 ·rw [h10]; rfl
 ·rw [h10]; intro e he; cases he
 ·rw [h10]; exact List.nodup_nil
 ·rw [h1,h2,h3,h4,h5,h6,h7,h8,h9,h11,h12]; rfl
theorem bopen_full {w0:World}{base:Nat}{H:List Seg}{c mb:Nat}{most idle buffer last:Int}{kvs:List (Int×Lk×Nat)}{mn:Nat}{P:List (Int×LkV)}{client now k:Int}{sd:Bool}(hk:k=1∨k=2) (hm:¬ most=0) (hc:Cs kvs mn last P) (hf:most≤(P.length:Int)) (hT:inT now) :
  SCalls Tryz.prog 10 [(B c),int k,.bool sd,int client,int now] w0 base (O0 c most idle buffer last mb::[(mb,mapG kyI Lk.v kvs mn)]::zv kvs::H) (fun v H' => v = .tuple #[int 0,int 8]∧H' = (O0 c most idle buffer last mb)::[(mb,mapG kyI Lk.v kvs mn)]::zv kvs::H) :=
 zh4 (H:=zv kvs::H) hk hm (by rw [ziS hc.all]; exact hf) hT
theorem btick {w0:World}{base:Nat}{H:List Seg}{c mb:Nat}{most idle buffer last:Int}{kvs:List (Int×Lk×Nat)}{mn:Nat}{P:List (Int×LkV)}{now:Int}(hm:¬ most=0) (hc:Cs kvs mn last P) (hT:inT now) (hid:0≤idle∧idle≤1073741824) :
  SCalls Tryz.prog 19 [(B c),int now] w0 base (O0 c most idle buffer last mb::[(mb,mapG kyI Lk.v kvs mn)]::zv kvs::H) (fun v H' => ∃ (o:Sl tyI 3) (K:List (Int×Lk×Nat)),o.l=(P.filter fun p => !ziD now idle p).map (fun p => p.1)∧Cs K mn last (P.filter (ziD now idle))∧v = .slice o.A o.l.length o.C∧H' = o.s::O0 c most idle buffer last mb::[(mb,mapG kyI Lk.v K mn)]::zv K::H):=by
 refine (ctick_ok now hm hc.ok hT hid).sepR ?_
 rintro v H1 ⟨o,ho,rfl,rfl⟩
 obtain ⟨h1,h2⟩:=all_live hc.all now idle
 refine ⟨_,fun w S => ?_,o,kvs.filter (zcO now idle),by rw [ho,h2],⟨hc.ok.sub (List.filter_sublist ..),h1⟩,Z,Z⟩
 have hp:(zv kvs).Perm (zv (kvs.filter (zcO now idle))++zv (kvs.filter fun e => !zcO now idle e)):=by
  rw [zv,zv,zv,← List.flatMap_append]
  exact (List.filter_append_perm _ _).symm.flatMap_right _
 have S1:=S.flat (H':=(o.s++[(c,.cells #[.int .i64 most,.int .i64 idle,.int .i64 buffer,.int .i64 last,.map (some mb)] 64 (0,0))]++[(mb,mapG kyI Lk.v (kvs.filter (zcO now idle)) mn)]++zv (kvs.filter (zcO now idle)))::zv (kvs.filter fun e => !zcO now idle e)::H) (by
  simp only [List.flatten_cons,List.append_assoc]
  refine List.Perm.append_left _ (List.Perm.append_left _ (List.Perm.append_left _ ?_))
  rw [← List.append_assoc]
  exact hp.append_right _)
 exact (S1.pick [0] 2 Z).flat (List.Perm.of_eq (by show (_::H).flatten=_; simp [List.append_assoc]))
theorem ball {w0:World}{base:Nat}{H:List Seg}{c mb:Nat}{most idle buffer last:Int}{kvs:List (Int×Lk×Nat)}{mn:Nat}{P:List (Int×LkV)}(hm:¬ most=0) (hc:Cs kvs mn last P) :
  SCalls Tryz.prog 20 [(B c)] w0 base (O0 c most idle buffer last mb::[(mb,mapG kyI Lk.v kvs mn)]::zv kvs::H) (fun v H' => ∃ o:Sl tyI 3,o.l=P.map (fun p => p.1)∧v = .slice o.A o.l.length o.C∧H' = o.s::O0 c most idle buffer last mb::[(mb,mapG kyI Lk.v kvs mn)]::zv kvs::H):=by
 refine (zen (H:=zv kvs::H) hm hc.ok).mono ?_
 rintro v H1 ⟨o,ho,rfl,rfl⟩
 exact ⟨o,by rw [ho,all_keys hc.all],Z,Z⟩
theorem sep_two {w0:World}{base:Nat}{w:World}{H:List Seg}{a b R L:Seg}(S:Sep w0 base w (a::b::(R++L)::H)):Sep w0 base w (a::b::L::H) :=
 (S.flat (H':=a::b::R::L::H) (by simp [List.append_assoc])).pick [0,1,3] 4 rfl
theorem clast_ok {w0:World}{base:Nat}{H:List Seg}{c mb:Nat}{most idle buffer last:Int}(hm:¬ most=0) :
  SCalls Tryz.prog 27 [B c] w0 base (O0 c most idle buffer last mb::H) (fun v H' => v=int last∧H' = (O0 c most idle buffer last mb)::H):=by
 refine SCalls.of_walk (n:=9) Tryz.func27 Z Z Z fun cs => ?_
 refine zc<|za<|AtL.assign zg0 Z Z<|AtL.done<|zc<|zc ?_
 refine za<|zb zg0 Z Z<|zk zb2 zg0 Z Z (zcH hm) ?_
 rintro _ _ ⟨rfl,rfl⟩
 refine AtL.done<|zB Z<|zj<|zc<|za<|zb zg0 Z Z ?_
 refine zf zg0 Z Z<|zd zbT zg0 Z Z Z<|zh zo zg0 Z Z (Cell.own 0 0 Z Z Z)<|AtL.assign zg0 Z Z<|AtL.done ?_
 exact zt Tryz.func27 Z Z (⟨Z,Z⟩)
set_option maxRecDepth 100000
theorem ints_stop {a b:List Int}(hl:a.length=b.length) (hj:∀ j,j < a.length→a.getD j 0=b.getD j 0):a=b:=by
 apply List.ext_getElem hl
 intro i h1 h2
 have:=hj i h1
 simpa [List.getD,h1,h2] using this
theorem zeY {w0:World}{base:Nat}{H:List Seg}{A A2:Option Addr}{C C2:Nat}{a b:List Int}(h:Rd tyI w0 base H A C a) (h2:Rd tyI w0 base H A2 C2 b) :
  SCalls Tryz.prog 21 [.slice A a.length C,.slice A2 b.length C2] w0 base (H) (fun v H' => v = .bool (decide (a=b))∧H' = H):=by
 have hle0:=h.le
 have hcap0:=h.cap
 have hle1:=h2.le
 have hcap1:=h2.cap
 refine SCalls.of_walk (n:=26) Tryz.func21 Z Z Z fun cs => ?_
 refine zc<|za<|AtL.assign zg0 Z Z<|AtL.done<|zc<|zc ?_
 refine za<|zb zg0 Z Z<|zC Tryz.underlying23 zg0 Z Z<|zb zg0 Z Z<|zC Tryz.underlying23 zg0 Z Z<|zT zg0 Z Z Z ?_
 refine AtL.done<|zae Z ?_ ?_
 ·intro hc1
  have hc1:¬ ((a.length:Int)=(b.length:Int)):=of_decide_eq_false (zO hc1)
  refine zc<|za<|AtL.assign zg0 Z Z<|AtL.done ?_
  exact zt Tryz.func21 Z Z (⟨congrArg Value.bool (decide_eq_false (fun h9 => by have:=congrArg List.length h9; omega)).symm,Z⟩)
 ·intro hc1
  have hc1:(a.length:Int)=(b.length:Int):=of_decide_eq_true (zJ hc1)
  refine zj<|zc<|zc<|za<|AtL.assign zg0 Z Z<|AtL.done ?_
  refine At.block<|zcF (fun (i:Nat) => [(0,.slice A a.length C),(1,.slice A2 b.length C2),(5,V (i:Int))]) (fun (i:Nat) => H) (fun (i:Nat) => i≤a.length∧∀ j,j < i→a.getD j 0=b.getD j 0) (fun (i:Nat) => a.length - i) 0 (⟨Nat.zero_le _,fun j h => absurd h (Nat.not_lt_zero _)⟩) ⟨Z,Z,Z,trivial⟩ Z ?_
  rintro i ⟨hi,hj⟩ ihL1
  refine zc<|zc<|za<|zb zg0 Z Z<|zb zg0 Z Z<|zC Tryz.underlying23 zg0 Z Z ?_
  refine zA zg0 Z Z Z<|AtL.done<|zq Z ?_ ?_
  ·intro hc2
   refine zj<|zc<|At.block<|zc ?_
   refine zac (es:=[]) (pv:=[(0,.slice A a.length C),(1,V (i:Int)),(2,.pointer (some (za3 A (i * tyI.sz)))),(3,V (a.getD i 0)),(4,.slice A2 b.length C2),(5,V (i:Int)),(6,.pointer (some (za3 A2 (i * tyI.sz)))),(7,V (b.getD i 0)),(8,.bool (!(decide (((a.getD i 0):Int)=(b.getD i 0)))))]) zV (by kernel_rfl) (by kernel_rfl) (by kernel_rfl) ?_
   refine ⟨⟨zpr Z Z Z (zi Z),zpr Z Z Z (zi Z),zpr Z Z Z (zar i h Tryz.underlying23 zaB Z Z Z (by omega)),zpr Z Z Z (zu (v:=V (a.getD i 0)) zo Z (zH h (zz 0 (by omega)) Z)),zpr Z Z Z (zi Z),zpr Z Z Z (zi Z),zpr Z Z Z (zar i h2 Tryz.underlying23 zaB Z Z Z (by omega)),zpr Z Z Z (zu (v:=V (b.getD i 0)) zo Z (zH h2 (zz 0 (by omega)) Z)),zpr Z Z Z (Do.nei Z Z),trivial⟩,by kernel_rfl,?_⟩
   refine At.mono (E':=[(0,.slice A a.length C),(1,.slice A2 b.length C2),(5,V (i:Int)),(25,.bool (!(decide (((a.getD i 0):Int)=(b.getD i 0)))))]) ⟨Z,Z,Z,Z,trivial⟩<|zae Z ?_ ?_
   ·intro hc3
    have hc3:¬ (((a.getD i 0):Int)=(b.getD i 0)):=of_decide_eq_false (zO hc3)
    refine zc<|za<|AtL.assign zg0 Z Z<|AtL.done ?_
    exact zt Tryz.func21 Z Z (⟨congrArg Value.bool (decide_eq_false (fun h9 => hc3 (by rw [h9]))).symm,Z⟩)
   ·intro hc3
    have hc3:((a.getD i 0):Int)=(b.getD i 0):=of_decide_eq_true (zJ hc3)
    refine zj<|zp<|za<|zb zg0 Z Z ?_
    refine AtL.add (z:=(i:Int) + 1) zg0 Z Z Z (w64 (by omega) (by omega))<|AtL.assign zg0 Z Z<|AtL.done ?_
    refine ihL1 (i + 1) (⟨by omega,fun j hj2 => (Nat.lt_succ_iff_lt_or_eq.1 hj2).elim (hj j) (fun h9 => by subst h9; omega)⟩) (by omega) _ ?_
    exact ⟨Z,Z,(by first | rfl | exact zaf (by simp []) | exact zah (by omega) | exact zah (by simp []) | exact zaf (by simp []; omega)),trivial⟩
  ·intro hc2
   refine zau Z<|zc<|za<|AtL.assign zg0 Z Z<|AtL.done ?_
   exact zt Tryz.func21 Z Z (⟨congrArg Value.bool (decide_eq_true (ints_stop (by omega) (fun j h9 => hj j (by omega)))).symm,Z⟩)
theorem bnew {w0:World}{base:Nat}{H:List Seg}{most idle buffer:Int}(h1:1≤most∧most≤256) (h2:1≤idle∧idle≤1073741824) (h3:512≤buffer∧buffer≤1048576) :
  SCalls Tryz.prog 9 [int most,int idle,int buffer] w0 base H (fun v H' => ∃ (c mb:Nat) (K:List (Int×Lk×Nat)),Cs K 0 0 []∧v = .tuple #[(B c),int 0]∧H' = (O0 c most idle buffer 0 mb)::[(mb,mapG kyI Lk.v K 0)]::zv K::H):=by
 refine (cnew_ok h1 h2 h3).flatR ?_
 rintro v H1 ⟨c,mb,rfl,rfl⟩
 exact ⟨_,List.Perm.of_eq (by show _=(O0 c most idle buffer 0 mb::[(mb,mapG kyI Lk.v ([]:List (Int×Lk×Nat)) 0)]::zv []::H).flatten; rfl),c,mb,[],⟨⟨(fun e h => by cases h),List.nodup_nil,List.Pairwise.nil,(fun e h => by cases h),(fun e h => by cases h),Nat.zero_le _,Int.le_refl _⟩,.nil⟩,Z,Z⟩
theorem zid {w0:World}{base:Nat}{H:List Seg}{c mb:Nat}{most idle buffer last:Int}{kvs:List (Int×Lk×Nat)}{mn:Nat}{P P2:List (Int×LkV)}{client now n:Int}{sd:Bool}(hm:¬ most=0) (hc:Cs kvs mn last P) (hf:(P.length:Int) < most) (h256:most≤256) (hT:inT now) (hl:last≤1099511627776) (hn:last + 1=n) (hP:P++[(n,(.str ⟨⟨sd,[],false,false,false,false,false⟩,sd,client,now,buffer,[],false,[],false⟩ 0))]=P2) :
  SCalls Tryz.prog 10 [(B c),int 1,.bool sd,int client,int now] w0 base (O0 c most idle buffer last mb::[(mb,mapG kyI Lk.v kvs mn)]::zv kvs::H) (fun v H' => ∃ K:List (Int×Lk×Nat),Cs K (mn + 1) n P2∧v = .tuple #[int n,int 0]∧H' = (O0 c most idle buffer n mb)::[(mb,mapG kyI Lk.v K (mn + 1))]::zv K::H):=by
 subst hn; subst hP; exact bopen_str hm hc hf h256 hT hl
theorem bopen_req2 {w0:World}{base:Nat}{H:List Seg}{c mb:Nat}{most idle buffer last:Int}{kvs:List (Int×Lk×Nat)}{mn:Nat}{P P2:List (Int×LkV)}{client now n:Int}{sd:Bool}(hm:¬ most=0) (hc:Cs kvs mn last P) (hf:(P.length:Int) < most) (h256:most≤256) (hT:inT now) (hl:last≤1099511627776) (hn:last + 1=n) (hP:P++[(n,(.req ⟨⟨sd,[],false,false,false,false,false⟩,sd,client,now,buffer,[],false,[],false,1,1,[],0,0⟩))]=P2) :
  SCalls Tryz.prog 10 [(B c),int 2,.bool sd,int client,int now] w0 base (O0 c most idle buffer last mb::[(mb,mapG kyI Lk.v kvs mn)]::zv kvs::H) (fun v H' => ∃ K:List (Int×Lk×Nat),Cs K (mn + 1) n P2∧v = .tuple #[int n,int 0]∧H' = (O0 c most idle buffer n mb)::[(mb,mapG kyI Lk.v K (mn + 1))]::zv K::H):=by
 subst hn; subst hP; exact bopen_req hm hc hf h256 hT hl
theorem bpush0 {w0:World}{base:Nat}{H:List Seg}{c mb:Nat}{most idle buffer last:Int}{kvs:List (Int×Lk×Nat)}{mn:Nat}{P P2:List (Int×LkV)}{i now e:Int}{x x' : StrV}{sz:Nat}{cl:Bool}{A:Option Addr}{C:Nat}{l:List UInt8}(hm:¬ most=0) (hc:Cs kvs mn last P) (hat:atP i P=some (.str x sz)) (h:Rd tyB w0 base H A C l) (hT:inT now) (hl7:l.length≤70000) (hcl:x.closing=false) (hsz:sz + l.length≤200000000) (hr:x.push l now=([],e,cl,x')) (hP:(if cl=true then delP i P else setP i (.str x' (sz + l.length)) P)=P2) :
  SCalls Tryz.prog 14 [(B c),int i,.slice A l.length C,int now] w0 base (O0 c most idle buffer last mb::[(mb,mapG kyI Lk.v kvs mn)]::zv kvs::H) (fun v H' => ∃ (o:Sl tyGot 44) (K:List (Int×Lk×Nat)),o.l=[]∧Cs K mn last P2∧v = .tuple #[.slice o.A o.l.length o.C,int e]∧H' = o.s::O0 c most idle buffer last mb::[(mb,mapG kyI Lk.v K mn)]::zv K::H):=by
 refine (zkc hm hc hat h hT hl7 hcl hsz).flatR ?_
 rintro v H1 ⟨o,ys,K,h1,h2,h3,rfl,rfl⟩
 rw [hr] at h2 h3
 have hy:ys=[]:=List.map_eq_nil_iff.1 h2
 subst hy
 exact ⟨_,(by show List.Perm _ (o.s::O0 c most idle buffer last mb::[(mb,mapG kyI Lk.v K mn)]::zv K::H).flatten; exact List.Perm.refl _),o,K,h1,hP ▸ h3,by rw [hr],Z⟩
theorem bpush1 {w0:World}{base:Nat}{H:List Seg}{c mb:Nat}{most idle buffer last:Int}{kvs:List (Int×Lk×Nat)}{mn:Nat}{P P2:List (Int×LkV)}{i now e:Int}{x x' : StrV}{sz:Nat}{cl:Bool}{A:Option Addr}{C:Nat}{l m:List UInt8}(hm:¬ most=0) (hc:Cs kvs mn last P) (hat:atP i P=some (.str x sz)) (h:Rd tyB w0 base H A C l) (hT:inT now) (hl7:l.length≤70000) (hcl:x.closing=false) (hsz:sz + l.length≤200000000) (hr:x.push l now=([m],e,cl,x')) (hP:(if cl=true then delP i P else setP i (.str x' (sz + l.length)) P)=P2) :
  SCalls Tryz.prog 14 [(B c),int i,.slice A l.length C,int now] w0 base (O0 c most idle buffer last mb::[(mb,mapG kyI Lk.v kvs mn)]::zv kvs::H) (fun v H' => ∃ (o:Sl tyGot 44) (y:Sl tyB 5) (K:List (Int×Lk×Nat)),o.l=[gotV y.v]∧y.l=m∧Cs K mn last P2∧v = .tuple #[.slice o.A o.l.length o.C,int e]∧H' = o.s::y.s::O0 c most idle buffer last mb::[(mb,mapG kyI Lk.v K mn)]::zv K::H):=by
 refine (zkc hm hc hat h hT hl7 hcl hsz).flatR ?_
 rintro v H1 ⟨o,ys,K,h1,h2,h3,rfl,rfl⟩
 rw [hr] at h2 h3
 match ys,h1,h2 with
 | [y],h1,h2 =>
  have h2:y.l=m:=by simpa using h2
  exact ⟨_,(by show List.Perm _ (o.s::y.s::O0 c most idle buffer last mb::[(mb,mapG kyI Lk.v K mn)]::zv K::H).flatten; exact List.Perm.of_eq (by simp [zas])),o,y,K,h1,h2,hP ▸ h3,by rw [hr],Z⟩
theorem btake2 {w0:World}{base:Nat}{H:List Seg}{c mb:Nat}{most idle buffer last:Int}{kvs:List (Int×Lk×Nat)}{mn:Nat}{P P2:List (Int×LkV)}{i now:Int}{x x' : StrV}{sz m:Nat}{cl:Bool}{r:List UInt8}(hm:¬ most=0) (hc:Cs kvs mn last P) (hat:atP i P=some (.str x sz)) (hT:inT now) (hw:x.wait.length≤1073741824) (hr:x.take m now=(r,cl,x')) (hP:(if cl=true then delP i P else setP i (.str x' sz) P)=P2) :
  SCalls Tryz.prog 16 [(B c),int i,int (m:Int),int now] w0 base (O0 c most idle buffer last mb::[(mb,mapG kyI Lk.v kvs mn)]::zv kvs::H) (fun v H' => ∃ (o:Sl tyB 5) (K:List (Int×Lk×Nat)),o.l=r∧Cs K mn last P2∧v = .tuple #[.slice o.A o.l.length o.C,int 0]∧H' = o.s::O0 c most idle buffer last mb::[(mb,mapG kyI Lk.v K mn)]::zv K::H):=by
 have h:=btake_str (w0:=w0) (base:=base) (H:=H) (idle:=idle) (buffer:=buffer) (c:=c) (mb:=mb) (m:=m) hm hc hat hT hw
 rw [hr] at h
 dsimp only at h
 rwa [hP] at h
theorem banswer2 {w0:World}{base:Nat}{H:List Seg}{c mb:Nat}{most idle buffer last:Int}{kvs:List (Int×Lk×Nat)}{mn:Nat}{P P2:List (Int×LkV)}{i slot e:Int}{x x' : StrV}{sz:Nat}{cl:Bool}{A:Option Addr}{C:Nat}{l:List UInt8}(hm:¬ most=0) (hc:Cs kvs mn last P) (hat:atP i P=some (.str x sz)) (h:Rd tyB w0 base H A C l) (hl:l.length≤1000000) (hw:x.wait.length≤1073741824) (hr:x.answer slot l=(e,cl,x')) (hP:(if cl=true then delP i P else setP i (.str x' sz) P)=P2) :
  SCalls Tryz.prog 15 [(B c),int i,int slot,.slice A l.length C] w0 base (O0 c most idle buffer last mb::[(mb,mapG kyI Lk.v kvs mn)]::zv kvs::H) (fun v H' => ∃ K:List (Int×Lk×Nat),Cs K mn last P2∧v=int e∧H' = (O0 c most idle buffer last mb)::[(mb,mapG kyI Lk.v K mn)]::zv K::H):=by
 have h:=zk0 (w0:=w0) (base:=base) (H:=H) (idle:=idle) (buffer:=buffer) (c:=c) (mb:=mb) (slot:=slot) hm hc hat h hl hw
 rw [hr] at h
 dsimp only at h
 rwa [hP] at h
theorem btick2 {w0:World}{base:Nat}{H:List Seg}{c mb:Nat}{most idle buffer last:Int}{kvs:List (Int×Lk×Nat)}{mn:Nat}{P P2:List (Int×LkV)}{now:Int}{r:List Int}(hm:¬ most=0) (hc:Cs kvs mn last P) (hT:inT now) (hid:0≤idle∧idle≤1073741824) (hr:(P.filter fun p => !ziD now idle p).map (fun p => p.1)=r) (hP:P.filter (ziD now idle)=P2) :
  SCalls Tryz.prog 19 [(B c),int now] w0 base (O0 c most idle buffer last mb::[(mb,mapG kyI Lk.v kvs mn)]::zv kvs::H) (fun v H' => ∃ (o:Sl tyI 3) (K:List (Int×Lk×Nat)),o.l=r∧Cs K mn last P2∧v = .slice o.A o.l.length o.C∧H' = o.s::O0 c most idle buffer last mb::[(mb,mapG kyI Lk.v K mn)]::zv K::H):=by
 subst hr; subst hP; exact btick hm hc hT hid
theorem ball2 {w0:World}{base:Nat}{H:List Seg}{c mb:Nat}{most idle buffer last:Int}{kvs:List (Int×Lk×Nat)}{mn:Nat}{P:List (Int×LkV)}{r:List Int}(hm:¬ most=0) (hc:Cs kvs mn last P) (hr:P.map (fun p => p.1)=r) :
  SCalls Tryz.prog 20 [(B c)] w0 base (O0 c most idle buffer last mb::[(mb,mapG kyI Lk.v kvs mn)]::zv kvs::H) (fun v H' => ∃ o:Sl tyI 3,o.l=r∧v = .slice o.A o.l.length o.C∧H' = o.s::O0 c most idle buffer last mb::[(mb,mapG kyI Lk.v kvs mn)]::zv kvs::H):=by
 subst hr; exact ball hm hc
set_option maxRecDepth 100000
def mg28:List UInt8:=[1,2,3,4,5,6,7,8,9,10,11,12]
def fm28:List UInt8:=[0,12]++mg28
theorem fr_aw:frF 65535 (fm28++[0])=⟨[mg28],0,[0]⟩:=by
 have h0:frF 65535 [0]=⟨[],0,[0]⟩:=zfp (by decide +kernel) (by decide +kernel)
 have h1:frS 65535 (fm28++[0])=⟨0,12⟩:=by kernel_rfl
 have h2:(fm28++[0]).drop 14=[0]:=by decide +kernel
 have h3:subl (fm28++[0]) 2 14=mg28:=by decide +kernel
 rw [zgs (by rw [h1]; decide),h1]
 show (⟨subl (fm28++[0]) 2 14::(frF 65535 ((fm28++[0]).drop 14)).out,(frF 65535 ((fm28++[0]).drop 14)).e,(frF 65535 ((fm28++[0]).drop 14)).rest⟩:FrR)=_
 rw [h2,h3,h0]
theorem fr_one:frF 65535 [0]=⟨[],0,[0]⟩:=zfp (by decide +kernel) (by decide +kernel)
theorem fr_two:frF 65535 [0,5]=⟨[],4,[]⟩:=by
 have h:(frS 65535 [0,5]).e=4:=by decide +kernel
 rw [ziK (by rw [h]; decide),h]
theorem zee {w0:World}{base:Nat}{H:List Seg}  :
  SCalls Tryz.prog 30 [] w0 base (H) (fun v H' => ∃ x:Sl tyB 5,x.l=mg28∧v = .slice x.A x.l.length x.C∧H' = x.s::H):=by
 have hmg:mg28.length=12:=rfl
 have hfm:fm28.length=14:=rfl
 refine SCalls.of_walk (n:=2) Tryz.func30 Z Z Z fun cs => ?_
 refine zc<|za<|AtL.assign zg0 Z Z<|AtL.done<|zc<|za ?_
 refine zG (cs:=[.int .u8 1,.int .u8 2,.int .u8 3,.int .u8 4,.int .u8 5,.int .u8 6,.int .u8 7,.int .u8 8,.int .u8 9,.int .u8 10,.int .u8 11,.int .u8 12]) Tryz.underlying34 zbf zQ Z Z zg0 Z Z Z ?_
 intro b1
 refine zaD tyB (l:=([1,2,3,4,5,6,7,8,9,10,11,12]:List UInt8)) Z Z (by first | decide | simp) ?_
 intro s2 o3
 refine AtL.assign zg0 Z Z<|AtL.done ?_
 exact zt Tryz.func30 Z Z (⟨⟨(some ⟨b1,0,none⟩),12,[1,2,3,4,5,6,7,8,9,10,11,12],s2,o3⟩,Z,Z,Z⟩)
theorem zgZ {w0:World}{base:Nat}{H:List Seg}  :
  SCalls Tryz.prog 29 [] w0 base (H) (fun v H' => ∃ x:Sl tyB 5,x.l=fm28∧v = .slice x.A x.l.length x.C∧H' = x.s::H):=by
 have hmg:mg28.length=12:=rfl
 have hfm:fm28.length=14:=rfl
 refine SCalls.of_walk (n:=4) Tryz.func29 Z Z Z fun cs => ?_
 refine zc<|za<|AtL.assign zg0 Z Z<|AtL.done<|zc<|za ?_
 refine zG (cs:=[.int .u8 0,.int .u8 12]) Tryz.underlying34 zbf zQ Z Z zg0 Z Z Z ?_
 intro b1
 refine zaD tyB (l:=([0,12]:List UInt8)) Z Z (by first | decide | simp) ?_
 intro s2 o3
 refine zk zgH zg0 Z Z zee ?_
 rintro _ _ ⟨⟨A4,C5,l6,s7,o8⟩,hx9,rfl,rfl⟩
 obtain rfl:mg28=l6:=hx9.symm
 refine zam (l:=[0,12]) (news:=mg28) 1 zbq Z o3 (o8.rd (i:=0) Z) (by first | omega | (simp only [List.length_append,List.length_cons,List.length_nil]; omega) | (simp; done) | (simp; omega)) zg0 Z Z Z ?_
 intro A10 C11 s12 o13
 refine AtL.assign zg0 Z Z<|AtL.done<|At.pick [1] 2 Z Z ?_
 exact zt Tryz.func29 Z Z (⟨⟨A10,C11,[0,12]++mg28,s12,o13⟩,Z,Z,Z⟩)
theorem two_ok {w0:World}{base:Nat}{H:List Seg}  :
  SCalls Tryz.prog 22 [] w0 base (H) (fun v H' => ∃ (c mb:Nat) (K:List (Int×Lk×Nat)),Cs K (0 + 1 + 1) 2 ([(1,(.str (⟨⟨false,[],false,false,false,false,false⟩,false,7,0,600,[],false,[],false⟩:StrV) 0)),(2,(.req ⟨⟨true,[],false,false,false,false,false⟩,true,8,0,600,[],false,[],false,1,1,[],0,0⟩))]:List (Int×LkV))∧v = B c∧H' = (O0 c 2 10 600 2 mb)::[(mb,mapG kyI Lk.v K (0 + 1 + 1))]::zv K::H):=by
 refine SCalls.of_walk (n:=42) Tryz.func22 Z Z Z fun cs => ?_
 refine zc<|za<|AtL.assign zg0 Z Z<|AtL.done<|zc<|za ?_
 refine zk zio zg0 Z Z (bnew (most:=2) (idle:=10) (buffer:=600) (by omega) (by omega) (by omega)) ?_
 rintro _ _ ⟨c,mb,K1,hcs2,rfl,rfl⟩
 refine zb zg0 Z Z<|AtL.extract zg0 Z Z Z<|AtL.extract zg0 Z Z Z<|AtL.assign zg0 Z Z<|AtL.assign zg0 Z Z<|AtL.done ?_
 refine zc<|zc<|za<|zb zg0 Z Z<|zT zg0 Z Z Z<|zb zg0 Z Z ?_
 refine zb (.inr ⟨_,_,_,Z,Z,Z,Z⟩) Z Z<|zbo Tryz.underlying25 (.inr ⟨_,_,_,Z,Z,Z,Z⟩) Z Z Z<|zm zg0 Z Z Z<|AtL.done<|zB Z<|zj ?_
 refine zc<|za<|zb zg0 Z Z ?_
 refine zk zd9 zg0 Z Z (zid (n:=1) (P2:=([(1,(.str (⟨⟨false,[],false,false,false,false,false⟩,false,7,0,600,[],false,[],false⟩:StrV) 0))]:List (Int×LkV))) (P:=([]:List (Int×LkV))) (by omega) hcs2 (by simp) (by omega) (show inT 0 from (by unfold inT; omega)) (by omega) (by omega) Z) ?_
 rintro _ _ ⟨K3,hcs4,rfl,rfl⟩
 refine zb zg0 Z Z<|AtL.extract zg0 Z Z Z<|AtL.extract zg0 Z Z Z<|AtL.assign zg0 Z Z<|AtL.assign zg0 Z Z<|AtL.done ?_
 refine zc<|za<|zb zg0 Z Z ?_
 refine zk zd9 zg0 Z Z (bopen_req2 (n:=2) (P2:=([(1,(.str (⟨⟨false,[],false,false,false,false,false⟩,false,7,0,600,[],false,[],false⟩:StrV) 0)),(2,(.req ⟨⟨true,[],false,false,false,false,false⟩,true,8,0,600,[],false,[],false,1,1,[],0,0⟩))]:List (Int×LkV))) (P:=([(1,(.str (⟨⟨false,[],false,false,false,false,false⟩,false,7,0,600,[],false,[],false⟩:StrV) 0))]:List (Int×LkV))) (by omega) hcs4 (by simp) (by omega) (show inT 0 from (by unfold inT; omega)) (by omega) (by omega) Z) ?_
 rintro _ _ ⟨K5,hcs6,rfl,rfl⟩
 refine zb zg0 Z Z<|AtL.extract zg0 Z Z Z<|AtL.extract zg0 Z Z Z<|AtL.assign zg0 Z Z<|AtL.assign zg0 Z Z<|AtL.done ?_
 refine zc<|zc<|za<|zb zg0 Z Z<|zT zg0 Z Z Z<|zb zg0 Z Z ?_
 refine zb (.inr ⟨_,_,_,Z,Z,Z,Z⟩) Z Z<|zT (.inr ⟨_,_,_,Z,Z,Z,Z⟩) Z Z Z<|zm zg0 Z Z Z<|zb zg0 Z Z<|zb (.inr ⟨_,_,_,Z,Z,Z,Z⟩) Z Z<|zT (.inr ⟨_,_,_,Z,Z,Z,Z⟩) Z Z Z ?_
 refine zm zg0 Z Z Z<|zb zg0 Z Z<|zb (.inr ⟨_,_,_,Z,Z,Z,Z⟩) Z Z<|zT (.inr ⟨_,_,_,Z,Z,Z,Z⟩) Z Z Z<|zm zg0 Z Z Z<|AtL.done ?_
 refine zB Z<|zj<|zc<|za<|zb zg0 Z Z<|AtL.assign zg0 Z Z ?_
 refine AtL.done ?_
 exact zt Tryz.func22 Z Z (⟨c,mb,K5,hcs6,Z,Z⟩)
theorem aw_push:(⟨⟨false,[],false,false,false,false,false⟩,false,7,0,600,[],false,[],false⟩:StrV).push (fm28++[0]) 5=([mg28],0,false,(⟨⟨false,[],false,false,false,false,false⟩,false,7,5,600,[],false,[0],false⟩:StrV)):=by
 have h:frF 65535 ([]++(fm28++[0]))=⟨[mg28],0,[0]⟩:=fr_aw
 simp only [StrV.push,ChV.push,frP,frB,h,Bool.false_eq_true,if_false]
 rfl
theorem awake28_ok {w0:World}{base:Nat}{H:List Seg}  :
  SCalls Tryz.prog 8 [] w0 base (H) (fun v H' => v = .bool true∧H' = H):=by
 have hmg:mg28.length=12:=rfl
 have hfm:fm28.length=14:=rfl
 refine SCalls.of_walk (n:=79) Tryz.func8 Z Z Z fun cs => ?_
 refine zc<|za<|AtL.assign zg0 Z Z<|AtL.done<|zc<|za ?_
 refine zk zjv zg0 Z Z two_ok ?_
 rintro _ _ ⟨c,mb,K1,hcs2,rfl,rfl⟩
 refine AtL.assign zg0 Z Z<|AtL.done<|zc<|zc<|za<|zb zg0 Z Z ?_
 refine zbo Tryz.underlying25 zg0 Z Z Z<|AtL.done<|zB Z<|zj<|zc<|za ?_
 refine zb zg0 Z Z ?_
 refine zk zd9 zg0 Z Z (bopen_full (by decide) (P:=([(1,(.str (⟨⟨false,[],false,false,false,false,false⟩,false,7,0,600,[],false,[],false⟩:StrV) 0)),(2,(.req ⟨⟨true,[],false,false,false,false,false⟩,true,8,0,600,[],false,[],false,1,1,[],0,0⟩))]:List (Int×LkV))) (by omega) hcs2 (by simp) (show inT 0 from (by unfold inT; omega))) ?_
 rintro _ _ ⟨rfl,rfl⟩
 refine zb zg0 Z Z<|AtL.extract zg0 Z Z Z<|AtL.extract zg0 Z Z Z<|AtL.assign zg0 Z Z<|AtL.assign zg0 Z Z<|AtL.done ?_
 refine zc<|za<|zb zg0 Z Z<|zk zjt zg0 Z Z zgZ ?_
 rintro _ _ ⟨⟨A3,C4,l5,s6,o7⟩,hx8,rfl,rfl⟩
 obtain rfl:fm28=l5:=hx8.symm
 refine zG (cs:=[.int .u8 0]) Tryz.underlying34 zbf zQ Z Z zg0 Z Z Z ?_
 intro b9
 refine zaD tyB (l:=([0]:List UInt8)) Z Z (by first | decide | simp) ?_
 intro s10 o11
 refine zam (l:=fm28) (news:=[0]) 1 zbq Z o7 (o11.rd (i:=0) Z) (by first | omega | (simp only [List.length_append,List.length_cons,List.length_nil]; omega) | (simp; done) | (simp; omega)) zg0 Z Z Z ?_
 intro A12 C13 s14 o15
 refine AtL.pick (H':=O0 c 2 10 600 2 mb::[(mb,mapG kyI Lk.v K1 (0 + 1 + 1))]::zv K1::s10::s14::H) [2,3,4,0,1] 5 Z Z ?_
 refine zk zdG zg0 Z Z (bpush1 (m:=mg28) (e:=0) (cl:=false) (x:=(⟨⟨false,[],false,false,false,false,false⟩,false,7,0,600,[],false,[],false⟩:StrV)) (x':=(⟨⟨false,[],false,false,false,false,false⟩,false,7,5,600,[],false,[0],false⟩:StrV)) (P2:=([(1,(.str (⟨⟨false,[],false,false,false,false,false⟩,false,7,5,600,[],false,[0],false⟩:StrV) (0 + (fm28++[0]).length))),(2,(.req ⟨⟨true,[],false,false,false,false,false⟩,true,8,0,600,[],false,[],false,1,1,[],0,0⟩))]:List (Int×LkV))) (l:=fm28++[0]) (P:=([(1,(.str (⟨⟨false,[],false,false,false,false,false⟩,false,7,0,600,[],false,[],false⟩:StrV) 0)),(2,(.req ⟨⟨true,[],false,false,false,false,false⟩,true,8,0,600,[],false,[],false,1,1,[],0,0⟩))]:List (Int×LkV))) (by omega) hcs2 Z (o15.rd (i:=1) Z) (show inT 5 from (by unfold inT; omega)) (by first | decide | (simp; done) | omega) Z (by first | decide | (simp; done) | omega) (show _=_ from aw_push) Z) ?_
 rintro _ _ ⟨⟨A20,C21,l22,s23,o24⟩,y25,K16,ho19,hy26,hcs17,rfl,rfl⟩
 obtain rfl:[gotV y25.v]=l22:=ho19.symm
 have hel27:∀ q ∈ [gotV y25.v],Rd zbE w0 base (y25.s::H) q.2.2.2.2.2.1.A q.2.2.2.2.2.1.C q.2.2.2.2.2.1.l∧Rd tyB w0 base (y25.s::H) q.2.2.2.2.2.2.A q.2.2.2.2.2.2.C q.2.2.2.2.2.2.l:=by intro q hq; rw [List.mem_singleton.1 hq]; exact ⟨zbQ,y25.own.rd (i:=0) rfl⟩
 refine zb zg0 Z Z<|AtL.extract zg0 Z Z Z<|AtL.extract zg0 Z Z Z<|AtL.assign zg0 Z Z<|AtL.assign zg0 Z Z<|AtL.done ?_
 refine zc<|za<|zb zg0 Z Z<|zk zgH zg0 Z Z zee ?_
 rintro _ _ ⟨⟨A28,C29,l30,s31,o32⟩,hx33,rfl,rfl⟩
 obtain rfl:mg28=l30:=hx33.symm
 refine AtL.pick (H':=O0 c 2 10 600 2 mb::[(mb,mapG kyI Lk.v K16 (0 + 1 + 1))]::zv K16::s31::s23::y25.s::s10::s14::H) [3,4,5,0,1,2,6,7] 8 Z Z ?_
 refine zk zgK zg0 Z Z (banswer2 (slot:=0) (e:=0) (l:=mg28) (cl:=false) (x:=(⟨⟨false,[],false,false,false,false,false⟩,false,7,5,600,[],false,[0],false⟩:StrV)) (x':=(⟨⟨false,[],false,false,false,false,false⟩,false,7,5,600,fm28,false,[0],false⟩:StrV)) (P2:=([(1,(.str (⟨⟨false,[],false,false,false,false,false⟩,false,7,5,600,fm28,false,[0],false⟩:StrV) (0 + (fm28++[0]).length))),(2,(.req ⟨⟨true,[],false,false,false,false,false⟩,true,8,0,600,[],false,[],false,1,1,[],0,0⟩))]:List (Int×LkV))) (P:=([(1,(.str (⟨⟨false,[],false,false,false,false,false⟩,false,7,5,600,[],false,[0],false⟩:StrV) (0 + (fm28++[0]).length))),(2,(.req ⟨⟨true,[],false,false,false,false,false⟩,true,8,0,600,[],false,[],false,1,1,[],0,0⟩))]:List (Int×LkV))) (by omega) hcs17 Z (o32.rd (i:=0) Z) (by first | decide | (simp; done) | omega) (by first | decide | (simp; done) | omega) (by kernel_rfl) Z) ?_
 rintro _ _ ⟨K34,hcs35,rfl,rfl⟩
 refine AtL.assign zg0 Z Z<|AtL.done<|zc<|za<|zb zg0 Z Z ?_
 refine zk zgJ zg0 Z Z (btake2 (m:=100) (r:=fm28) (cl:=false) (x:=(⟨⟨false,[],false,false,false,false,false⟩,false,7,5,600,fm28,false,[0],false⟩:StrV)) (x':=(⟨⟨false,[],false,false,false,false,false⟩,false,7,6,600,[],false,[0],false⟩:StrV)) (P2:=([(1,(.str (⟨⟨false,[],false,false,false,false,false⟩,false,7,6,600,[],false,[0],false⟩:StrV) (0 + (fm28++[0]).length))),(2,(.req ⟨⟨true,[],false,false,false,false,false⟩,true,8,0,600,[],false,[],false,1,1,[],0,0⟩))]:List (Int×LkV))) (P:=([(1,(.str (⟨⟨false,[],false,false,false,false,false⟩,false,7,5,600,fm28,false,[0],false⟩:StrV) (0 + (fm28++[0]).length))),(2,(.req ⟨⟨true,[],false,false,false,false,false⟩,true,8,0,600,[],false,[],false,1,1,[],0,0⟩))]:List (Int×LkV))) (by omega) hcs35 Z (show inT 6 from (by unfold inT; omega)) (by first | decide | (simp; done) | omega) (by kernel_rfl) Z) ?_
 rintro _ _ ⟨⟨A39,C40,l41,s42,o43⟩,K36,ho38,hcs37,rfl,rfl⟩
 obtain rfl:fm28=l41:=ho38.symm
 refine zb zg0 Z Z<|AtL.extract zg0 Z Z Z<|AtL.extract zg0 Z Z Z<|AtL.assign zg0 Z Z<|AtL.assign zg0 Z Z<|AtL.done ?_
 refine zc ?_
 refine zac (es:=[26,43]) (pv:=[(0,V 8),(1,.bool true),(2,.bool true),(3,.slice A20 [gotV y25.v].length C21),(4,V ([gotV y25.v].length:Int)),(5,.bool true),(6,.bool true),(7,.bool true),(8,.slice A20 [gotV y25.v].length C21),(9,.pointer (some (za3 A20 (0 * tyGot.sz)))),(10,.pointer (some ((za3 A20 (0 * tyGot.sz)).add 0))),(11,V (([gotV y25.v].getD 0 ((0,0,[],[],0,⟨none,0,[]⟩,⟨none,0,[]⟩):Int×Int×List UInt8×List UInt8×Int×Vs (List UInt8×List UInt8)×Vs UInt8)).1)),(12,.bool true),(13,.bool true),(14,.bool true),(15,.slice A20 [gotV y25.v].length C21),(16,.pointer (some (za3 A20 (0 * tyGot.sz)))),(17,.pointer (some ((za3 A20 (0 * tyGot.sz)).add 1))),(18,V (([gotV y25.v].getD 0 ((0,0,[],[],0,⟨none,0,[]⟩,⟨none,0,[]⟩):Int×Int×List UInt8×List UInt8×Int×Vs (List UInt8×List UInt8)×Vs UInt8)).2.1)),(19,.bool true),(20,.bool true),(21,.bool true),(22,.slice A20 [gotV y25.v].length C21),(23,.pointer (some (za3 A20 (0 * tyGot.sz)))),(24,.pointer (some ((za3 A20 (0 * tyGot.sz)).add 6))),(25,.slice (([gotV y25.v].getD 0 ((0,0,[],[],0,⟨none,0,[]⟩,⟨none,0,[]⟩):Int×Int×List UInt8×List UInt8×Int×Vs (List UInt8×List UInt8)×Vs UInt8)).2.2.2.2.2.2.A) (([gotV y25.v].getD 0 ((0,0,[],[],0,⟨none,0,[]⟩,⟨none,0,[]⟩):Int×Int×List UInt8×List UInt8×Int×Vs (List UInt8×List UInt8)×Vs UInt8)).2.2.2.2.2.2.l).length (([gotV y25.v].getD 0 ((0,0,[],[],0,⟨none,0,[]⟩,⟨none,0,[]⟩):Int×Int×List UInt8×List UInt8×Int×Vs (List UInt8×List UInt8)×Vs UInt8)).2.2.2.2.2.2.C))]) zV (by kernel_rfl) (by kernel_rfl) (by kernel_rfl) ?_
 refine ⟨⟨zpr Z Z Z (zi Z),zpr Z Z Z (zM (zdg Z Z) (by decide)),zpr Z Z Z (zi Z),zpr Z Z ⟨_,_,_,Z,Z,Z,Z⟩ (zi Z),zpr Z Z ⟨_,_,_,Z,Z,Z,Z⟩ (zbt Tryz.underlying37 Z),zpr Z Z ⟨_,_,_,Z,Z,Z,Z⟩ (zM (zdg Z Z) (decide_eq_true Z)),zpr Z Z Z (za4 Z Z),zpr Z Z Z (zi Z),zpr Z Z ⟨_,_,_,Z,Z,Z,Z⟩ (zi Z),zpr Z Z ⟨_,_,_,Z,Z,Z,Z⟩ (zar 0 (o24.rd (i:=5) Z) Tryz.underlying37 zfO Z Z Z (Nat.lt_succ_self 0)),zpr Z Z ⟨_,_,_,Z,Z,Z,Z⟩ (zch tf_fo44_0 Z),zpr Z Z ⟨_,_,_,Z,Z,Z,Z⟩ (zu (v:=V (([gotV y25.v].getD 0 ((0,0,[],[],0,⟨none,0,[]⟩,⟨none,0,[]⟩):Int×Int×List UInt8×List UInt8×Int×Vs (List UInt8×List UInt8)×Vs UInt8)).1)) zo Z (Rd.cell_at (o24.rd (i:=5) Z) (j:=0) (zz ((0,0,[],[],0,⟨none,0,[]⟩,⟨none,0,[]⟩):Int×Int×List UInt8×List UInt8×Int×Vs (List UInt8×List UInt8)×Vs UInt8) (Nat.lt_succ_self 0)) Z)),zpr Z Z ⟨_,_,_,Z,Z,Z,Z⟩ (zM (zdg Z Z) (decide_eq_true Z)),zpr Z Z Z (za4 Z Z),zpr Z Z Z (zi Z),zpr Z Z ⟨_,_,_,Z,Z,Z,Z⟩ (zi Z),zpr Z Z ⟨_,_,_,Z,Z,Z,Z⟩ (zar 0 (o24.rd (i:=5) Z) Tryz.underlying37 zfO Z Z Z (Nat.lt_succ_self 0)),zpr Z Z ⟨_,_,_,Z,Z,Z,Z⟩ (zch tf_fo44_1 Z),zpr Z Z ⟨_,_,_,Z,Z,Z,Z⟩ (zu (v:=V (([gotV y25.v].getD 0 ((0,0,[],[],0,⟨none,0,[]⟩,⟨none,0,[]⟩):Int×Int×List UInt8×List UInt8×Int×Vs (List UInt8×List UInt8)×Vs UInt8)).2.1)) zo Z (Rd.cell_at (o24.rd (i:=5) Z) (j:=1) (zz ((0,0,[],[],0,⟨none,0,[]⟩,⟨none,0,[]⟩):Int×Int×List UInt8×List UInt8×Int×Vs (List UInt8×List UInt8)×Vs UInt8) (Nat.lt_succ_self 0)) Z)),zpr Z Z ⟨_,_,_,Z,Z,Z,Z⟩ (zM (zdg Z Z) (decide_eq_true Z)),zpr Z Z Z (za4 Z Z),zpr Z Z Z (zi Z),zpr Z Z ⟨_,_,_,Z,Z,Z,Z⟩ (zi Z),zpr Z Z ⟨_,_,_,Z,Z,Z,Z⟩ (zar 0 (o24.rd (i:=5) Z) Tryz.underlying37 zfO Z Z Z (Nat.lt_succ_self 0)),zpr Z Z ⟨_,_,_,Z,Z,Z,Z⟩ (zch zjg Z),zpr Z Z ⟨_,_,_,Z,Z,Z,Z⟩ (zu (v:=.slice (([gotV y25.v].getD 0 ((0,0,[],[],0,⟨none,0,[]⟩,⟨none,0,[]⟩):Int×Int×List UInt8×List UInt8×Int×Vs (List UInt8×List UInt8)×Vs UInt8)).2.2.2.2.2.2.A) (([gotV y25.v].getD 0 ((0,0,[],[],0,⟨none,0,[]⟩,⟨none,0,[]⟩):Int×Int×List UInt8×List UInt8×Int×Vs (List UInt8×List UInt8)×Vs UInt8)).2.2.2.2.2.2.l).length (([gotV y25.v].getD 0 ((0,0,[],[],0,⟨none,0,[]⟩,⟨none,0,[]⟩):Int×Int×List UInt8×List UInt8×Int×Vs (List UInt8×List UInt8)×Vs UInt8)).2.2.2.2.2.2.C)) zE Z (Rd.cell_at (o24.rd (i:=5) Z) (j:=6) (zz ((0,0,[],[],0,⟨none,0,[]⟩,⟨none,0,[]⟩):Int×Int×List UInt8×List UInt8×Int×Vs (List UInt8×List UInt8)×Vs UInt8) (Nat.lt_succ_self 0)) Z)),trivial⟩,Z,Z,by kernel_rfl,_,Z,Z,⟨_,_,_,Z,Z,Z,Z⟩,_,zaz zgH Z zee,?_⟩
 rintro _ _ ⟨⟨A44,C45,l46,s47,o48⟩,hx49,rfl,rfl⟩
 obtain rfl:mg28=l46:=hx49.symm
 refine ⟨[(27,.bool true),(28,.bool true),(29,.bool true),(30,V 0),(31,.bool true),(32,.bool true),(33,.bool true),(34,V 0),(35,.bool true),(36,.bool true),(37,.bool true),(38,V 0),(39,.bool true),(40,.bool true),(41,.bool true),(42,.slice A39 fm28.length C40)],Z,?_⟩
 refine ⟨⟨zpr Z Z ⟨_,_,_,Z,Z,Z,Z⟩ (zM (zaz zjw Z (same_ok (l:=([gotV y25.v].getD 0 ((0,0,[],[],0,⟨none,0,[]⟩,⟨none,0,[]⟩):Int×Int×List UInt8×List UInt8×Int×Vs (List UInt8×List UInt8)×Vs UInt8)).2.2.2.2.2.2.l) (l2:=mg28) (Rd.pick [7] 10 Z Z (hel27 _ (zbh (l:=[gotV y25.v]) (i:=0) (d:=((0,0,[],[],0,⟨none,0,[]⟩,⟨none,0,[]⟩):Int×Int×List UInt8×List UInt8×Int×Vs (List UInt8×List UInt8)×Vs UInt8)) (Nat.lt_succ_self 0))).2) (o48.rd (i:=0) Z))) (decide_eq_true hy26)),zpr Z Z Z (za4 Z Z),zpr Z Z Z (zi Z),zpr Z Z ⟨_,_,_,Z,Z,Z,Z⟩ (zi Z),zpr Z Z ⟨_,_,_,Z,Z,Z,Z⟩ (zM (zdg Z Z) (by decide)),zpr Z Z Z (za4 Z Z),zpr Z Z Z (zi Z),zpr Z Z ⟨_,_,_,Z,Z,Z,Z⟩ (zi Z),zpr Z Z ⟨_,_,_,Z,Z,Z,Z⟩ (zM (zdg Z Z) (by decide)),zpr Z Z Z (za4 Z Z),zpr Z Z Z (zi Z),zpr Z Z ⟨_,_,_,Z,Z,Z,Z⟩ (zi Z),zpr Z Z ⟨_,_,_,Z,Z,Z,Z⟩ (zM (zdg Z Z) (by decide)),zpr Z Z Z (za4 Z Z),zpr Z Z Z (zi Z),zpr Z Z ⟨_,_,_,Z,Z,Z,Z⟩ (zi Z),.inl (by kernel_rfl),.inl (by kernel_rfl),.inl (by kernel_rfl),.inl (by kernel_rfl),.inl (by kernel_rfl),.inl (by kernel_rfl),.inl (by kernel_rfl),.inl (by kernel_rfl),.inl (by kernel_rfl),.inl (by kernel_rfl),.inl (by kernel_rfl),.inl (by kernel_rfl),.inl (by kernel_rfl),.inl (by kernel_rfl),.inl (by kernel_rfl),.inl (by kernel_rfl),.inl (by kernel_rfl),.inl (by kernel_rfl),.inl (by kernel_rfl),.inl (by kernel_rfl),.inl (by kernel_rfl),.inl (by kernel_rfl),zpr Z Z ⟨_,_,_,Z,Z,Z,Z⟩ (zi Z),zpr Z Z ⟨_,_,_,Z,Z,Z,Z⟩ (zar 0 (o24.rd (i:=6) Z) Tryz.underlying37 zfO Z Z Z (Nat.lt_succ_self 0)),zpr Z Z ⟨_,_,_,Z,Z,Z,Z⟩ (zch zjg Z),zpr Z Z ⟨_,_,_,Z,Z,Z,Z⟩ (zu (v:=.slice (([gotV y25.v].getD 0 ((0,0,[],[],0,⟨none,0,[]⟩,⟨none,0,[]⟩):Int×Int×List UInt8×List UInt8×Int×Vs (List UInt8×List UInt8)×Vs UInt8)).2.2.2.2.2.2.A) (([gotV y25.v].getD 0 ((0,0,[],[],0,⟨none,0,[]⟩,⟨none,0,[]⟩):Int×Int×List UInt8×List UInt8×Int×Vs (List UInt8×List UInt8)×Vs UInt8)).2.2.2.2.2.2.l).length (([gotV y25.v].getD 0 ((0,0,[],[],0,⟨none,0,[]⟩,⟨none,0,[]⟩):Int×Int×List UInt8×List UInt8×Int×Vs (List UInt8×List UInt8)×Vs UInt8)).2.2.2.2.2.2.C)) zE Z (Rd.cell_at (o24.rd (i:=6) Z) (j:=6) (zz ((0,0,[],[],0,⟨none,0,[]⟩,⟨none,0,[]⟩):Int×Int×List UInt8×List UInt8×Int×Vs (List UInt8×List UInt8)×Vs UInt8) (Nat.lt_succ_self 0)) Z)),trivial⟩,Z,Z,by kernel_rfl,_,Z,Z,⟨_,_,_,Z,Z,Z,Z⟩,_,zaz zjt Z zgZ,?_⟩
 rintro _ _ ⟨⟨A50,C51,l52,s53,o54⟩,hx55,rfl,rfl⟩
 obtain rfl:fm28=l52:=hx55.symm
 refine ⟨[(44,.bool true),(45,.bool true),(46,.bool true)],Z,?_⟩
 refine ⟨⟨zpr Z Z ⟨_,_,_,Z,Z,Z,Z⟩ (zM (zaz zjw Z (same_ok (l:=fm28) (l2:=fm28) (o43.rd (i:=2) Z) (o54.rd (i:=0) Z))) (decide_eq_true Z)),zpr Z Z Z (za4 Z Z),zpr Z Z Z (Do.assign Z),.inl (by kernel_rfl),.inl (by kernel_rfl),.inl (by kernel_rfl),.inl (by kernel_rfl),.inl (by kernel_rfl),.inl (by kernel_rfl),.inl (by kernel_rfl),.inl (by kernel_rfl),.inl (by kernel_rfl),.inl (by kernel_rfl),.inl (by kernel_rfl),.inl (by kernel_rfl),.inl (by kernel_rfl),.inl (by kernel_rfl),.inl (by kernel_rfl),zpr Z Z ⟨_,_,_,Z,Z,Z,Z⟩ (zi Z),.inl (by kernel_rfl),.inl (by kernel_rfl),.inl (by kernel_rfl),.inl (by kernel_rfl),.inl (by kernel_rfl),.inl (by kernel_rfl),.inl (by kernel_rfl),.inl (by kernel_rfl),.inl (by kernel_rfl),.inl (by kernel_rfl),.inl (by kernel_rfl),.inl (by kernel_rfl),.inl (by kernel_rfl),.inl (by kernel_rfl),.inl (by kernel_rfl),.inl (by kernel_rfl),.inl (by kernel_rfl),.inl (by kernel_rfl),.inl (by kernel_rfl),.inl (by kernel_rfl),.inl (by kernel_rfl),.inl (by kernel_rfl),.inl (by kernel_rfl),.inl (by kernel_rfl),.inl (by kernel_rfl),.inl (by kernel_rfl),trivial⟩,by kernel_rfl,?_⟩
 refine At.mono (E':=[(0,.bool true)]) ⟨Z,trivial⟩<|At.pick [] 11 Z Z ?_
 exact zt Tryz.func8 Z Z (⟨Z,Z⟩)
set_option maxRecDepth 100000
theorem kn_push1:(⟨⟨false,[],false,false,false,false,false⟩,false,7,0,600,[],false,[],false⟩:StrV).push [0] 5=([],0,false,(⟨⟨false,[],false,false,false,false,false⟩,false,7,5,600,[],false,[0],false⟩:StrV)):=by
 have h:frF 65535 ([]++[0])=⟨[],0,[0]⟩:=fr_one
 simp only [StrV.push,ChV.push,frP,frB,h,Bool.false_eq_true,if_false]
 rfl
theorem kn_push2:(⟨⟨false,[],false,false,false,false,false⟩,false,7,5,600,[],false,[0],false⟩:StrV).push [5] 7=([],4,true,(⟨⟨false,[],false,false,false,false,false⟩,false,7,7,600,[],false,[],true⟩:StrV)):=by
 have h:frF 65535 ([0]++[5])=⟨[],4,[]⟩:=fr_two
 simp only [StrV.push,ChV.push,frP,frB,h,Bool.false_eq_true,if_false]
 rfl
theorem zj4 {w0:World}{base:Nat}{H:List Seg}  :
  SCalls Tryz.prog 5 [] w0 base (H) (fun v H' => v = .bool true∧H' = H):=by
 have hmg:mg28.length=12:=rfl
 have hfm:fm28.length=14:=rfl
 refine SCalls.of_walk (n:=85) Tryz.func5 Z Z Z fun cs => ?_
 refine zc<|za<|AtL.assign zg0 Z Z<|AtL.done<|zc<|za ?_
 refine zk zjv zg0 Z Z two_ok ?_
 rintro _ _ ⟨c,mb,K1,hcs2,rfl,rfl⟩
 refine AtL.assign zg0 Z Z<|AtL.done<|zc<|zc<|za<|zb zg0 Z Z ?_
 refine zbo Tryz.underlying25 zg0 Z Z Z<|AtL.done<|zB Z<|zj<|zc<|za ?_
 refine zb zg0 Z Z<|zG (cs:=[.int .u8 0]) Tryz.underlying34 zbf zQ Z Z zg0 Z Z Z ?_
 intro b3
 refine zaD tyB (l:=([0]:List UInt8)) Z Z (by first | decide | simp) ?_
 intro s4 o5
 refine AtL.pick (H':=O0 c 2 10 600 2 mb::[(mb,mapG kyI Lk.v K1 (0 + 1 + 1))]::zv K1::s4::H) [1,2,3,0] 4 Z Z ?_
 refine zk zdG zg0 Z Z (bpush0 (e:=0) (cl:=false) (x:=(⟨⟨false,[],false,false,false,false,false⟩,false,7,0,600,[],false,[],false⟩:StrV)) (x':=(⟨⟨false,[],false,false,false,false,false⟩,false,7,5,600,[],false,[0],false⟩:StrV)) (P2:=([(1,(.str (⟨⟨false,[],false,false,false,false,false⟩,false,7,5,600,[],false,[0],false⟩:StrV) (0 + [0].length))),(2,(.req ⟨⟨true,[],false,false,false,false,false⟩,true,8,0,600,[],false,[],false,1,1,[],0,0⟩))]:List (Int×LkV))) (l:=[0]) (P:=([(1,(.str (⟨⟨false,[],false,false,false,false,false⟩,false,7,0,600,[],false,[],false⟩:StrV) 0)),(2,(.req ⟨⟨true,[],false,false,false,false,false⟩,true,8,0,600,[],false,[],false,1,1,[],0,0⟩))]:List (Int×LkV))) (by omega) hcs2 Z (o5.rd (i:=0) Z) (show inT 5 from (by unfold inT; omega)) (by first | decide | (simp; done) | omega) Z (by first | decide | (simp; done) | omega) kn_push1 Z) ?_
 rintro _ _ ⟨⟨A10,C11,l12,s13,o14⟩,K6,ho9,hcs7,rfl,rfl⟩
 obtain rfl:[]=l12:=ho9.symm
 refine AtL.done<|zc<|za<|zb zg0 Z Z<|zG (cs:=[.int .u8 5]) Tryz.underlying34 zbf zQ Z Z zg0 Z Z Z ?_
 intro b15
 refine zaD tyB (l:=([5]:List UInt8)) Z Z (by first | decide | simp) ?_
 intro s16 o17
 refine AtL.pick (H':=O0 c 2 10 600 2 mb::[(mb,mapG kyI Lk.v K6 (0 + 1 + 1))]::zv K6::s16::s13::s4::H) [2,3,4,0,1,5] 6 Z Z ?_
 refine zk zdG zg0 Z Z (bpush0 (e:=4) (cl:=true) (x:=(⟨⟨false,[],false,false,false,false,false⟩,false,7,5,600,[],false,[0],false⟩:StrV)) (x':=(⟨⟨false,[],false,false,false,false,false⟩,false,7,7,600,[],false,[],true⟩:StrV)) (P2:=([(2,(.req ⟨⟨true,[],false,false,false,false,false⟩,true,8,0,600,[],false,[],false,1,1,[],0,0⟩))]:List (Int×LkV))) (l:=[5]) (P:=([(1,(.str (⟨⟨false,[],false,false,false,false,false⟩,false,7,5,600,[],false,[0],false⟩:StrV) (0 + [0].length))),(2,(.req ⟨⟨true,[],false,false,false,false,false⟩,true,8,0,600,[],false,[],false,1,1,[],0,0⟩))]:List (Int×LkV))) (by omega) hcs7 Z (o17.rd (i:=0) Z) (show inT 7 from (by unfold inT; omega)) (by first | decide | (simp; done) | omega) Z (by first | decide | (simp; done) | omega) kn_push2 Z) ?_
 rintro _ _ ⟨⟨A22,C23,l24,s25,o26⟩,K18,ho21,hcs19,rfl,rfl⟩
 obtain rfl:[]=l24:=ho21.symm
 refine zb zg0 Z Z<|AtL.extract zg0 Z Z Z<|AtL.extract zg0 Z Z Z<|AtL.assign zg0 Z Z<|AtL.assign zg0 Z Z<|AtL.done ?_
 refine zc<|za<|zb zg0 Z Z<|AtL.pick (H':=O0 c 2 10 600 2 mb::[(mb,mapG kyI Lk.v K18 (0 + 1 + 1))]::s25::zv K18::s16::s13::s4::H) [1,2,0,3,4,5,6] 7 Z Z ?_
 refine zk zd8 zg0 Z Z (zj8 (i:=1) (by omega) (all_none (P:=([(2,(.req ⟨⟨true,[],false,false,false,false,false⟩,true,8,0,600,[],false,[],false,1,1,[],0,0⟩))]:List (Int×LkV))) hcs19.all Z)) ?_
 rintro _ _ ⟨rfl,rfl⟩
 refine AtL.assign zg0 Z Z<|AtL.done<|zc<|za<|zb zg0 Z Z<|zG (cs:=[.int .u8 0]) Tryz.underlying34 zbf zQ Z Z zg0 Z Z Z ?_
 intro b27
 refine zaD tyB (l:=([0]:List UInt8)) Z Z (by first | decide | simp) ?_
 intro s28 o29
 refine AtL.pick (H':=O0 c 2 10 600 2 mb::[(mb,mapG kyI Lk.v K18 (0 + 1 + 1))]::s28::s25::zv K18::s16::s13::s4::H) [1,2,0,3,4,5,6,7] 8 Z Z ?_
 refine zk zdG zg0 Z Z (zh2 (i:=1) (now:=8) (A:=(some ⟨b27,0,none⟩)) (C:=1) (l:=[0]) (by omega) (all_none (P:=([(2,(.req ⟨⟨true,[],false,false,false,false,false⟩,true,8,0,600,[],false,[],false,1,1,[],0,0⟩))]:List (Int×LkV))) hcs19.all Z)) ?_
 rintro _ _ ⟨rfl,rfl⟩
 refine zb zg0 Z Z<|AtL.extract zg0 Z Z Z<|AtL.extract zg0 Z Z Z<|AtL.assign zg0 Z Z<|AtL.assign zg0 Z Z<|AtL.done ?_
 refine zc<|za<|zb zg0 Z Z<|AtL.pick (H':=O0 c 2 10 600 2 mb::[(mb,mapG kyI Lk.v K18 (0 + 1 + 1))]::zv K18::s28::s25::s16::s13::s4::H) [0,1,4,2,3,5,6,7] 8 Z Z ?_
 refine zk zd9 zg0 Z Z (zid (n:=3) (P2:=([(2,(.req ⟨⟨true,[],false,false,false,false,false⟩,true,8,0,600,[],false,[],false,1,1,[],0,0⟩)),(3,(.str (⟨⟨false,[],false,false,false,false,false⟩,false,9,8,600,[],false,[],false⟩:StrV) 0))]:List (Int×LkV))) (P:=([(2,(.req ⟨⟨true,[],false,false,false,false,false⟩,true,8,0,600,[],false,[],false,1,1,[],0,0⟩))]:List (Int×LkV))) (by omega) hcs19 (by simp) (by omega) (show inT 8 from (by unfold inT; omega)) (by omega) (by omega) Z) ?_
 rintro _ _ ⟨K30,hcs31,rfl,rfl⟩
 refine zb zg0 Z Z<|AtL.extract zg0 Z Z Z<|AtL.extract zg0 Z Z Z<|AtL.assign zg0 Z Z<|AtL.assign zg0 Z Z<|AtL.done ?_
 refine zc<|za<|zb zg0 Z Z ?_
 refine zk zfe zg0 Z Z (btick2 (now:=10) (r:=([2]:List Int)) (P2:=([(3,(.str (⟨⟨false,[],false,false,false,false,false⟩,false,9,8,600,[],false,[],false⟩:StrV) 0))]:List (Int×LkV))) (P:=([(2,(.req ⟨⟨true,[],false,false,false,false,false⟩,true,8,0,600,[],false,[],false,1,1,[],0,0⟩)),(3,(.str (⟨⟨false,[],false,false,false,false,false⟩,false,9,8,600,[],false,[],false⟩:StrV) 0))]:List (Int×LkV))) (by omega) hcs31 (show inT 10 from (by unfold inT; omega)) (by omega) (by kernel_rfl) (by kernel_rfl)) ?_
 rintro _ _ ⟨⟨A35,C36,l37,s38,o39⟩,K32,ho34,hcs33,rfl,rfl⟩
 obtain rfl:([2]:List Int)=l37:=ho34.symm
 refine zb zg0 Z Z<|AtL.pick (H':=O0 c 2 10 600 3 mb::[(mb,mapG kyI Lk.v K32 ((0 + 1 + 1) + 1))]::zv K32::s38::s28::s25::s16::s13::s4::H) [1,2,3,0,4,5,6,7,8] 9 Z Z ?_
 refine zk zco zg0 Z Z (ball2 (r:=([3]:List Int)) (P:=([(3,(.str (⟨⟨false,[],false,false,false,false,false⟩,false,9,8,600,[],false,[],false⟩:StrV) 0))]:List (Int×LkV))) (by omega) hcs33 Z) ?_
 rintro _ _ ⟨⟨A41,C42,l43,s44,o45⟩,ho40,rfl,rfl⟩
 obtain rfl:([3]:List Int)=l43:=ho40.symm
 refine AtL.assign zg0 Z Z<|AtL.assign zg0 Z Z<|AtL.done<|zc<|za<|zb zg0 Z Z ?_
 refine AtL.pick (H':=O0 c 2 10 600 3 mb::[(mb,mapG kyI Lk.v K32 ((0 + 1 + 1) + 1))]::zv K32::s44::s38::s28::s25::s16::s13::s4::H) [1,2,3,0,4,5,6,7,8,9] 10 Z Z ?_
 refine zk zfe zg0 Z Z (btick2 (now:=18) (r:=([3]:List Int)) (P2:=([]:List (Int×LkV))) (P:=([(3,(.str (⟨⟨false,[],false,false,false,false,false⟩,false,9,8,600,[],false,[],false⟩:StrV) 0))]:List (Int×LkV))) (by omega) hcs33 (show inT 18 from (by unfold inT; omega)) (by omega) (by kernel_rfl) (by kernel_rfl)) ?_
 rintro _ _ ⟨⟨A49,C50,l51,s52,o53⟩,K46,ho48,hcs47,rfl,rfl⟩
 obtain rfl:([3]:List Int)=l51:=ho48.symm
 refine AtL.assign zg0 Z Z<|AtL.done<|zc<|za<|zk tf_body8 zg0 Z Z awake28_ok ?_
 rintro _ _ ⟨rfl,rfl⟩
 refine zb zg0 Z Z<|zb (.inr ⟨_,_,_,Z,Z,Z,Z⟩) Z Z<|zW (.inr ⟨_,_,_,Z,Z,Z,Z⟩) Z Z Z<|zn zg0 Z Z Z<|zb zg0 Z Z<|zb (.inr ⟨_,_,_,Z,Z,Z,Z⟩) Z Z ?_
 refine zW (.inr ⟨_,_,_,Z,Z,Z,Z⟩) Z Z Z<|zn zg0 Z Z Z<|zb zg0 Z Z<|zb (.inr ⟨_,_,_,Z,Z,Z,Z⟩) Z Z<|zW (.inr ⟨_,_,_,Z,Z,Z,Z⟩) Z Z Z<|zn zg0 Z Z Z ?_
 refine zb zg0 Z Z<|zb (.inr ⟨_,_,_,Z,Z,Z,Z⟩) Z Z<|zW (.inr ⟨_,_,_,Z,Z,Z,Z⟩) Z Z Z<|zn zg0 Z Z Z<|zb zg0 Z Z<|zb (.inr ⟨_,_,_,Z,Z,Z,Z⟩) Z Z ?_
 refine zW (.inr ⟨_,_,_,Z,Z,Z,Z⟩) Z Z Z<|zn zg0 Z Z Z<|zb zg0 Z Z<|zb (.inr ⟨_,_,_,Z,Z,Z,Z⟩) Z Z<|zG (cs:=[V 2]) Tryz.underlying23 zeA zaB Z Z (.inr ⟨_,_,_,Z,Z,Z,Z⟩) Z Z Z ?_
 intro b54
 refine zaD tyI (l:=([2]:List Int)) Z Z (by first | decide | simp) ?_
 intro s55 o56
 refine zk zgI (.inr ⟨_,_,_,Z,Z,Z,Z⟩) Z Z (zeY (a:=([2]:List Int)) (b:=[2]) (o39.rd (i:=6) Z) (o56.rd (i:=0) Z)) ?_
 rintro _ _ ⟨rfl,rfl⟩
 refine zn zg0 Z Z Z<|zb zg0 Z Z<|zy 4 (E':=[(73,.bool (decide (([3]:List Int)=[3]))),(1,B c),(11,.slice A49 ([3]:List Int).length C50)]) (fun J => ?_) ?_
 ·refine zD (t:=69) Z ?_ ?_
  ·intro hs69
   refine zb (.inr ⟨_,_,_,Z,Z,Z,Z⟩) Z Z<|zG (cs:=[V 3]) Tryz.underlying23 zeA zaB Z Z (.inr ⟨_,_,_,Z,Z,Z,Z⟩) Z Z Z ?_
   intro b57
   refine zaD tyI (l:=([3]:List Int)) Z Z (by first | decide | simp) ?_
   intro s58 o59
   refine zk zgI (.inr ⟨_,_,_,Z,Z,Z,Z⟩) Z Z (zeY (a:=([3]:List Int)) (b:=[3]) (o45.rd (i:=6) Z) (o59.rd (i:=0) Z)) ?_
   rintro _ _ ⟨rfl,rfl⟩
   refine zn zg0 Z Z Z<|AtL.pick (H':=s55::s52::O0 c 2 10 600 3 mb::[(mb,mapG kyI Lk.v K46 ((0 + 1 + 1) + 1))]::zv K46::s44::s38::s28::s25::s16::s13::s4::H) [1,2,3,4,5,6,7,8,9,10,11,12] 13 Z Z ?_
   exact J _ (by exact ⟨(zw (by clear J; first | (simp [hs69]; done) | (simp_all; done) | grind)),Z,Z,trivial⟩)
  ·intro hs69
   exfalso; revert hs69; first | decide | (simp; done) | (intro h9; exact absurd (by first | omega | (simp only [*]; rfl) | (simp only [*]; decide)) h9) | (intro h9; simp [*] at h9; done)
 ·refine zb zg0 Z Z<|zy 4 (E':=[(78,.bool (decide (([3]:List Int)=[3]))),(1,B c)]) (fun J => ?_) ?_
  ·refine zD (t:=74) Z ?_ ?_
   ·intro hs74
    refine zb (.inr ⟨_,_,_,Z,Z,Z,Z⟩) Z Z<|zG (cs:=[V 3]) Tryz.underlying23 zeA zaB Z Z (.inr ⟨_,_,_,Z,Z,Z,Z⟩) Z Z Z ?_
    intro b60
    refine zaD tyI (l:=([3]:List Int)) Z Z (by first | decide | simp) ?_
    intro s61 o62
    refine zk zgI (.inr ⟨_,_,_,Z,Z,Z,Z⟩) Z Z (zeY (a:=([3]:List Int)) (b:=[3]) (o53.rd (i:=2) Z) (o62.rd (i:=0) Z)) ?_
    rintro _ _ ⟨rfl,rfl⟩
    refine zn zg0 Z Z Z<|AtL.pick (H':=s55::s52::O0 c 2 10 600 3 mb::[(mb,mapG kyI Lk.v K46 ((0 + 1 + 1) + 1))]::zv K46::s44::s38::s28::s25::s16::s13::s4::H) [1,2,3,4,5,6,7,8,9,10,11,12] 13 Z Z ?_
    exact J _ (by exact ⟨(zw (by clear J; first | (simp [hs74]; done) | (simp_all; done) | grind)),Z,trivial⟩)
   ·intro hs74
    exfalso; revert hs74; first | decide | (simp; done) | (intro h9; exact absurd (by first | omega | (simp only [*]; rfl) | (simp only [*]; decide)) h9) | (intro h9; simp [*] at h9; done)
  ·refine zb zg0 Z Z<|zy 5 (E':=[(84,.bool (decide ((([]:List Int).length:Int)=0)))]) (fun J => ?_) ?_
   ·refine zD (t:=79) Z ?_ ?_
    ·intro hs79
     refine zb (.inr ⟨_,_,_,Z,Z,Z,Z⟩) Z Z<|AtL.pick (H':=O0 c 2 10 600 3 mb::[(mb,mapG kyI Lk.v K46 ((0 + 1 + 1) + 1))]::zv K46::s55::s52::s44::s38::s28::s25::s16::s13::s4::H) [2,3,4,0,1,5,6,7,8,9,10,11] 12 Z Z ?_
     refine zk zco (.inr ⟨_,_,_,Z,Z,Z,Z⟩) Z Z (ball2 (r:=([]:List Int)) (P:=([]:List (Int×LkV))) (by omega) hcs47 Z) ?_
     rintro _ _ ⟨⟨A64,C65,l66,s67,o68⟩,ho63,rfl,rfl⟩
     obtain rfl:([]:List Int)=l66:=ho63.symm
     refine zC Tryz.underlying23 (.inr ⟨_,_,_,Z,Z,Z,Z⟩) Z Z<|zW (.inr ⟨_,_,_,Z,Z,Z,Z⟩) Z Z Z<|zn zg0 Z Z Z<|AtL.pick (H':=s55::s52::O0 c 2 10 600 3 mb::[(mb,mapG kyI Lk.v K46 ((0 + 1 + 1) + 1))]::zv K46::s44::s38::s28::s25::s16::s13::s4::H) [4,5,1,2,3,6,7,8,9,10,11,12] 13 Z Z ?_
     exact J _ (by exact ⟨(zw (by clear J; first | (simp [hs79]; done) | (simp_all; done) | grind)),trivial⟩)
    ·intro hs79
     exfalso; revert hs79; first | decide | (simp; done) | (intro h9; exact absurd (by first | omega | (simp only [*]; rfl) | (simp only [*]; decide)) h9) | (intro h9; simp [*] at h9; done)
   ·refine AtL.assign zg0 Z Z<|AtL.done<|At.pick [] 12 Z Z ?_
    exact zt Tryz.func5 Z Z (⟨by first | rfl | (simp; done) | (simp; rfl),Z⟩)
set_option maxRecDepth 100000
theorem ze3 {w0:World}{base:Nat}{H:List Seg}{wb mb2:Nat}{fi nx:Int} :
  SCalls Tryz.prog 246 [B wb] w0 base (O3 wb 16 fi nx mb2::H) (fun v H' => v = .bool false∧H' = (O3 wb 16 fi nx mb2)::H):=by
 refine SCalls.of_walk (n:=12) Tryz.func246 Z Z Z fun cs => ?_
 refine zc<|za<|AtL.assign zg0 Z Z<|AtL.done<|zc<|za ?_
 refine zb zg0 Z Z<|zbo Tryz.underlying109 zg0 Z Z Z<|zb zg0 Z Z<|zb (.inr ⟨_,_,_,Z,Z,Z,Z⟩) Z Z<|zf (.inr ⟨_,_,_,Z,Z,Z,Z⟩) Z Z<|zd zfP (.inr ⟨_,_,_,Z,Z,Z,Z⟩) Z Z Z ?_
 refine zh zo (.inr ⟨_,_,_,Z,Z,Z,Z⟩) Z Z (Cell.own 0 0 Z Z Z)<|zW (.inr ⟨_,_,_,Z,Z,Z,Z⟩) Z Z Z<|zm zg0 Z Z Z<|AtL.assign zg0 Z Z<|AtL.done ?_
 exact zt Tryz.func246 Z Z (⟨Z,Z⟩)
theorem zeV {w0:World}{base:Nat}{H:List Seg}{wb mb2:Nat}{fi nx:Int}(hw:1≤fi∧fi≤nx∧nx≤fi + 16∧fi≤1000000) :
  SCalls Tryz.prog 244 [B wb] w0 base (O3 wb 16 fi nx mb2::H) (fun v H' => v=int (nx - fi)∧H' = (O3 wb 16 fi nx mb2)::H):=by
 refine SCalls.of_walk (n:=14) Tryz.func244 Z Z Z fun cs => ?_
 refine zc<|za<|AtL.assign zg0 Z Z<|AtL.done<|zc<|zc ?_
 refine za<|zb zg0 Z Z<|zk zdD zg0 Z Z ze3 ?_
 rintro _ _ ⟨rfl,rfl⟩
 refine AtL.done<|zB Z<|zj<|zc ?_
 refine zac (es:=[]) (pv:=[(0,B wb),(1,B wb),(2,.pointer (some ⟨wb,2,none⟩)),(3,V nx),(4,B wb),(5,B wb),(6,.pointer (some ⟨wb,1,none⟩)),(7,V fi),(8,V (nx - fi)),(9,V (nx - fi))]) zV (by kernel_rfl) (by kernel_rfl) (by kernel_rfl) ?_
 refine ⟨⟨zpr Z Z Z (zi Z),zpr Z Z Z (zl Z),zpr Z Z Z (zg zdy Z Z),zpr Z Z Z (zu zo Z (Cell.own 0 0 Z Z Z)),zpr Z Z Z (zi Z),zpr Z Z Z (zl Z),zpr Z Z Z (zg zb9 Z Z),zpr Z Z Z (zu zo Z (Cell.own 0 0 Z Z Z)),zpr Z Z Z (Do.sub (z:=nx - fi) Z Z (w64 (by omega) (by omega))),zpr Z Z Z (Do.assign Z),trivial⟩,by kernel_rfl,?_⟩
 refine At.mono (E':=[(2,V (nx - fi))]) ⟨Z,trivial⟩ ?_
 exact zt Tryz.func244 Z Z (⟨Z,Z⟩)
theorem wfirst_ok {w0:World}{base:Nat}{H:List Seg}{wb mb2:Nat}{fi nx:Int}(hw:1≤fi∧fi≤nx∧nx≤fi + 16∧fi≤1000000) :
  SCalls Tryz.prog 237 [B wb] w0 base (O3 wb 16 fi nx mb2::H) (fun v H' => (∃ z:Int,v=int z)∧H' = (O3 wb 16 fi nx mb2)::H):=by
 refine SCalls.of_walk (n:=14) Tryz.func237 Z Z Z fun cs => ?_
 refine zc<|za<|AtL.assign zg0 Z Z<|AtL.done<|zc<|zc ?_
 refine za<|zb zg0 Z Z<|zk zdD zg0 Z Z ze3 ?_
 rintro _ _ ⟨rfl,rfl⟩
 refine zb zg0 Z Z<|zb (.inr ⟨_,_,_,Z,Z,Z,Z⟩) Z Z<|zk zcD (.inr ⟨_,_,_,Z,Z,Z,Z⟩) Z Z (zeV hw) ?_
 rintro _ _ ⟨rfl,rfl⟩
 refine zW (.inr ⟨_,_,_,Z,Z,Z,Z⟩) Z Z Z<|zm zg0 Z Z Z<|AtL.done<|zq Z ?_ ?_
 ·intro hc1
  refine zc<|za<|AtL.assign zg0 Z Z<|AtL.done ?_
  exact zt Tryz.func237 Z Z (⟨⟨_,Z⟩,Z⟩)
 ·intro hc1
  refine zj<|zc<|za<|zb zg0 Z Z<|zf zg0 Z Z<|zd zb9 zg0 Z Z Z ?_
  refine zh zo zg0 Z Z (Cell.own 0 0 Z Z Z)<|AtL.assign zg0 Z Z<|AtL.done ?_
  exact zt Tryz.func237 Z Z (⟨⟨_,Z⟩,Z⟩)
theorem wopen_ok {w0:World}{base:Nat}{H:List Seg}{wb mb2:Nat}{fi nx:Int}(hw:1≤fi∧fi≤nx∧nx≤fi + 16∧fi≤1000000) (hl:nx - fi < 16) :
  SCalls Tryz.prog 248 [B wb] w0 base (O3 wb 16 fi nx mb2::H) (fun v H' => v = .tuple #[int nx,int 0]∧H' = (O3 wb 16 fi (nx + 1) mb2)::H):=by
 refine SCalls.of_walk (n:=27) Tryz.func248 Z Z Z fun cs => ?_
 refine zc<|za<|AtL.assign zg0 Z Z<|AtL.assign zg0 Z Z<|AtL.done<|zc ?_
 refine At.block<|zc<|za<|zb zg0 Z Z<|zk zdD zg0 Z Z ze3 ?_
 rintro _ _ ⟨rfl,rfl⟩
 refine AtL.assign zg0 Z Z<|AtL.done<|zB Z<|zc ?_
 refine zac (es:=[]) (pv:=[(0,B wb),(1,V (nx - fi)),(2,B wb),(3,B wb),(4,B wb),(5,V 16),(6,.bool false),(7,.bool false)]) zV (by kernel_rfl) (by kernel_rfl) (by kernel_rfl) ?_
 refine ⟨⟨zpr Z Z Z (zi Z),zpr Z Z Z (zaz zcD Z (zeV hw)),zpr Z Z Z (zi Z),zpr Z Z Z (zl Z),zpr Z Z Z (zg zfP Z Z),zpr Z Z Z (zu zo Z (Cell.own 0 0 Z Z Z)),zpr Z Z Z (zM (zgd Z Z) (decide_eq_false (by omega))),zpr Z Z Z (Do.assign Z),trivial⟩,by kernel_rfl,?_⟩
 refine At.mono (E':=[(0,B wb),(7,.bool false)]) ⟨Z,Z,trivial⟩<|zB Z<|zj<|zp<|zc<|za ?_
 refine zb zg0 Z Z<|zf zg0 Z Z<|zd zdy zg0 Z Z Z<|zh zo zg0 Z Z (Cell.own 0 0 Z Z Z) ?_
 refine AtL.add (z:=nx + 1) zg0 Z Z Z (w64 (by omega) (by omega))<|zf zg0 Z Z<|zd zdy zg0 Z Z Z<|zr (H':=O3 wb 16 fi (nx + 1) mb2::H) 0 0 zaB zg0 Z Z Z Z Z Z Z Z Z<|AtL.done<|zc ?_
 refine za<|zb zg0 Z Z<|zf zg0 Z Z<|zd zdy zg0 Z Z Z<|zh zo zg0 Z Z (Cell.own 0 0 Z Z Z) ?_
 refine AtL.sub (z:=(nx + 1) - 1) zg0 Z Z Z (w64 (by omega) (by omega))<|AtL.assign zg0 Z Z<|AtL.assign zg0 Z Z<|AtL.done ?_
 exact zt Tryz.func248 Z Z (⟨by show Value.tuple #[int (nx + 1 - 1),int 0]=_; rw [show nx + 1 - 1=nx by omega],Z⟩)
theorem wopen_full {w0:World}{base:Nat}{H:List Seg}{wb mb2:Nat}{fi nx:Int}(hw:1≤fi∧fi≤nx∧nx≤fi + 16∧fi≤1000000) (hl:¬ nx - fi < 16) :
  SCalls Tryz.prog 248 [B wb] w0 base (O3 wb 16 fi nx mb2::H) (fun v H' => v = .tuple #[int 0,int 8]∧H' = (O3 wb 16 fi nx mb2)::H):=by
 refine SCalls.of_walk (n:=27) Tryz.func248 Z Z Z fun cs => ?_
 refine zc<|za<|AtL.assign zg0 Z Z<|AtL.assign zg0 Z Z<|AtL.done<|zc ?_
 refine At.block<|zc<|za<|zb zg0 Z Z<|zk zdD zg0 Z Z ze3 ?_
 rintro _ _ ⟨rfl,rfl⟩
 refine AtL.assign zg0 Z Z<|AtL.done<|zB Z<|zc ?_
 refine zac (es:=[]) (pv:=[(0,B wb),(1,V (nx - fi)),(2,B wb),(3,B wb),(4,B wb),(5,V 16),(6,.bool true),(7,.bool true)]) zV (by kernel_rfl) (by kernel_rfl) (by kernel_rfl) ?_
 refine ⟨⟨zpr Z Z Z (zi Z),zpr Z Z Z (zaz zcD Z (zeV hw)),zpr Z Z Z (zi Z),zpr Z Z Z (zl Z),zpr Z Z Z (zg zfP Z Z),zpr Z Z Z (zu zo Z (Cell.own 0 0 Z Z Z)),zpr Z Z Z (zM (zgd Z Z) (decide_eq_true (by omega))),zpr Z Z Z (Do.assign Z),trivial⟩,by kernel_rfl,?_⟩
 refine At.mono (E':=[(0,B wb),(7,.bool true)]) ⟨Z,Z,trivial⟩<|zX Z<|zc<|za<|AtL.assign zg0 Z Z<|AtL.assign zg0 Z Z ?_
 refine AtL.done ?_
 exact zt Tryz.func248 Z Z (⟨Z,Z⟩)
theorem qkind_ok {w0:World}{base:Nat}{H:List Seg}{b hr:Nat}{a0 a1 a2 a3 a4 a5 a6 a7:Value}{la bh:Int}{wb mb2:Nat}{fi nx:Int}(hw:1≤fi∧fi≤nx∧nx≤fi + 16∧fi≤1000000) :
  SCalls Tryz.prog 242 [B b] w0 base (O12 b a0 a1 a2 a3 a4 a5 a6 a7 hr wb la bh::O3 wb 16 fi nx mb2::H) (fun v H' => v = .tuple #[int 2,int (nx - fi)]∧H' = (O12 b a0 a1 a2 a3 a4 a5 a6 a7 hr wb la bh)::O3 wb 16 fi nx mb2::H):=by
 refine SCalls.of_walk (n:=9) Tryz.func242 Z Z Z fun cs => ?_
 refine zc<|za<|AtL.assign zg0 Z Z<|AtL.assign zg0 Z Z<|AtL.done<|zc ?_
 refine za<|zb zg0 Z Z<|zf zg0 Z Z<|zd zca zg0 Z Z Z<|zh zcc zg0 Z Z (Cell.own 0 0 Z Z Z)<|AtL.pick (H':=O3 wb 16 fi nx mb2::O12 b a0 a1 a2 a3 a4 a5 a6 a7 hr wb la bh::H) [1,0] 2 Z Z ?_
 refine zk zcD zg0 Z Z (zeV hw) ?_
 rintro _ _ ⟨rfl,rfl⟩
 refine AtL.assign zg0 Z Z<|AtL.assign zg0 Z Z<|AtL.done<|At.pick [1,0] 2 Z Z ?_
 exact zt Tryz.func242 Z Z (⟨Z,Z⟩)
theorem zfk {w0:World}{base:Nat}{H:List Seg}{b hr:Nat}{a0 a1 a2 a3 a4 a5 a6 a7:Value}{la bh:Int}{wb:Nat} :
  SCalls Tryz.prog 238 [B b] w0 base (O12 b a0 a1 a2 a3 a4 a5 a6 a7 hr wb la bh::H) (fun v H' => v = .bool (decide (0 < bh))∧H' = (O12 b a0 a1 a2 a3 a4 a5 a6 a7 hr wb la bh)::H):=by
 refine SCalls.of_walk (n:=8) Tryz.func238 Z Z Z fun cs => ?_
 refine zc<|za<|AtL.assign zg0 Z Z<|AtL.done<|zc<|za ?_
 refine zb zg0 Z Z<|zf zg0 Z Z<|zd zdA zg0 Z Z Z<|zh zo zg0 Z Z (Cell.own 0 0 Z Z Z)<|zai zg0 Z Z Z<|AtL.assign zg0 Z Z ?_
 refine AtL.done ?_
 exact zt Tryz.func238 Z Z (⟨Z,Z⟩)
theorem qgone_ok {w0:World}{base:Nat}{H:List Seg}{b hr:Nat}{a0 a1 a2 a3 a4 a5 a6 a7:Value}{la bh:Int}{wb mb2:Nat}{fi nx:Int}(hw:1≤fi∧fi≤nx∧nx≤fi + 16∧fi≤1000000) :
  SCalls Tryz.prog 241 [B b] w0 base (O12 b a0 a1 a2 a3 a4 a5 a6 a7 hr wb la bh::O3 wb 16 fi nx mb2::H) (fun v H' => (∃ z:Bool,v = .bool z)∧H' = (O12 b a0 a1 a2 a3 a4 a5 a6 a7 hr wb la bh)::O3 wb 16 fi nx mb2::H):=by
 refine SCalls.of_walk (n:=21) Tryz.func241 Z Z Z fun cs => ?_
 refine zc<|za<|AtL.assign zg0 Z Z<|AtL.done<|zc<|At.pick (H':=O3 wb 16 fi nx mb2::O12 b a0 a1 a2 a3 a4 a5 a6 a7 hr wb la bh::H) [1,0] 2 Z Z ?_
 rcases Decidable.em (nx - fi=0) with hz9 | hz9
 ·refine zac (es:=[]) (pv:=[(0,B b),(1,B b),(2,.pointer (some ⟨b,9,none⟩)),(3,B wb),(4,V (nx - fi)),(5,.bool true),(6,.bool true),(7,undef),(8,undef),(9,undef),(10,undef),(11,undef),(12,undef),(13,undef),(14,undef),(15,undef),(16,undef),(17,.bool true),(18,.bool true)]) zV (by kernel_rfl) (by kernel_rfl) (by kernel_rfl) ?_
  refine ⟨⟨zpr Z Z Z (zi Z),zpr Z Z Z (zl Z),zpr Z Z Z (zg zca Z Z),zpr Z Z Z (zu zcc Z (Cell.own 1 0 Z Z Z)),zpr Z Z Z (zaz zcD Z (zeV hw)),zpr Z Z Z (zM (zdg Z Z) (decide_eq_true hz9)),zpr Z Z Z (zi Z),.inr ⟨_,Z,Z,.inr ⟨⟨_,_,_,Z,Z,Z,Z⟩,Z⟩⟩,.inr ⟨_,Z,Z,.inr ⟨⟨_,_,_,Z,Z,Z,Z⟩,Z⟩⟩,.inr ⟨_,Z,Z,.inr ⟨⟨_,_,_,Z,Z,Z,Z⟩,Z⟩⟩,.inr ⟨_,Z,Z,.inr ⟨⟨_,_,_,Z,Z,Z,Z⟩,Z⟩⟩,.inr ⟨_,Z,Z,.inr ⟨⟨_,_,_,Z,Z,Z,Z⟩,Z⟩⟩,.inr ⟨_,Z,Z,.inr ⟨⟨_,_,_,Z,Z,Z,Z⟩,Z⟩⟩,.inr ⟨_,Z,Z,.inr ⟨⟨_,_,_,Z,Z,Z,Z⟩,Z⟩⟩,.inr ⟨_,Z,Z,.inr ⟨⟨_,_,_,Z,Z,Z,Z⟩,Z⟩⟩,.inr ⟨_,Z,Z,.inr ⟨⟨_,_,_,Z,Z,Z,Z⟩,Z⟩⟩,.inr ⟨_,Z,Z,.inr ⟨⟨_,_,_,Z,Z,Z,Z⟩,Z⟩⟩,zpr Z Z Z (za4 Z Z),zpr Z Z Z (Do.assign Z),trivial⟩,by kernel_rfl,?_⟩
  refine At.mono (E':=[(2,.bool true)]) ⟨Z,trivial⟩<|At.pick [1,0] 2 Z Z ?_
  exact zt Tryz.func241 Z Z (⟨⟨_,Z⟩,Z⟩)
 ·refine zac (es:=[11]) (pv:=[(0,B b),(1,B b),(2,.pointer (some ⟨b,9,none⟩)),(3,B wb),(4,V (nx - fi)),(5,.bool false),(6,.bool false),(7,B b),(8,B b),(9,.pointer (some ⟨b,9,none⟩)),(10,B wb),(12,B b),(13,B b),(14,.pointer (some ⟨b,11,none⟩)),(15,V bh)]) zV (by kernel_rfl) (by kernel_rfl) (by kernel_rfl) ?_
  refine ⟨⟨zpr Z Z Z (zi Z),zpr Z Z Z (zl Z),zpr Z Z Z (zg zca Z Z),zpr Z Z Z (zu zcc Z (Cell.own 1 0 Z Z Z)),zpr Z Z Z (zaz zcD Z (zeV hw)),zpr Z Z Z (zM (zdg Z Z) (decide_eq_false hz9)),zpr Z Z Z (zi Z),zpr Z Z ⟨_,_,_,Z,Z,Z,Z⟩ (zi Z),zpr Z Z ⟨_,_,_,Z,Z,Z,Z⟩ (zl Z),zpr Z Z ⟨_,_,_,Z,Z,Z,Z⟩ (zg zca Z Z),zpr Z Z ⟨_,_,_,Z,Z,Z,Z⟩ (zu zcc Z (Cell.own 1 0 Z Z Z)),zpr Z Z ⟨_,_,_,Z,Z,Z,Z⟩ (zi Z),zpr Z Z ⟨_,_,_,Z,Z,Z,Z⟩ (zl Z),zpr Z Z ⟨_,_,_,Z,Z,Z,Z⟩ (zg zdA Z Z),zpr Z Z ⟨_,_,_,Z,Z,Z,Z⟩ (zu zo Z (Cell.own 1 0 Z Z Z)),trivial⟩,Z,Z,by kernel_rfl,_,Z,Z,⟨_,_,_,Z,Z,Z,Z⟩,_,zaz tf_body237 Z (wfirst_ok hw),?_⟩
  rintro _ _ ⟨⟨z1,rfl⟩,rfl⟩
  refine ⟨[(16,.bool (decide (bh < (z1:Int)))),(17,.bool (decide (bh < (z1:Int)))),(18,.bool (decide (bh < (z1:Int))))],Z,?_⟩
  refine ⟨⟨zpr Z Z ⟨_,_,_,Z,Z,Z,Z⟩ (zbV Z Z),zpr Z Z Z (zak Z Z),zpr Z Z Z (Do.assign Z),.inl (by kernel_rfl),.inl (by kernel_rfl),.inl (by kernel_rfl),.inl (by kernel_rfl),.inl (by kernel_rfl),.inl (by kernel_rfl),.inl (by kernel_rfl),.inl (by kernel_rfl),.inl (by kernel_rfl),.inl (by kernel_rfl),.inl (by kernel_rfl),zpr Z Z ⟨_,_,_,Z,Z,Z,Z⟩ (zi Z),zpr Z Z ⟨_,_,_,Z,Z,Z,Z⟩ (zl Z),zpr Z Z ⟨_,_,_,Z,Z,Z,Z⟩ (zg zdA Z Z),zpr Z Z ⟨_,_,_,Z,Z,Z,Z⟩ (zu zo Z (Cell.own 1 0 Z Z Z)),trivial⟩,by kernel_rfl,?_⟩
  refine At.mono (E':=[(2,.bool (decide (bh < (z1:Int))))]) ⟨Z,trivial⟩<|At.pick [1,0] 2 Z Z ?_
  exact zt Tryz.func241 Z Z (⟨⟨_,Z⟩,Z⟩)
theorem qfinish_ok {w0:World}{base:Nat}{H:List Seg}{b hr:Nat}{a0 a1 a2 a3 a4 a5 a6 a7:Value}{la bh:Int}{wb mb2:Nat}{fi nx:Int}(hw:1≤fi∧fi≤nx∧nx≤fi + 16∧fi≤1000000) :
  SCalls Tryz.prog 239 [B b] w0 base (O12 b a0 a1 a2 a3 a4 a5 a6 a7 hr wb la bh::O3 wb 16 fi nx mb2::H) (fun v H' => ∃ (z:Bool) (bh' : Int),v = .bool z∧H' = (O12 b a0 a1 a2 a3 a4 a5 a6 a7 hr wb la bh')::O3 wb 16 fi nx mb2::H):=by
 refine SCalls.of_walk (n:=16) Tryz.func239 Z Z Z fun cs => ?_
 refine zc<|za<|AtL.assign zg0 Z Z<|AtL.done<|zc<|zc ?_
 refine za<|zb zg0 Z Z<|zf zg0 Z Z<|zd zca zg0 Z Z Z<|zh zcc zg0 Z Z (Cell.own 0 0 Z Z Z)<|AtL.pick (H':=O3 wb 16 fi nx mb2::O12 b a0 a1 a2 a3 a4 a5 a6 a7 hr wb la bh::H) [1,0] 2 Z Z ?_
 refine zk zcD zg0 Z Z (zeV hw) ?_
 rintro _ _ ⟨rfl,rfl⟩
 refine zW zg0 Z Z Z<|AtL.done<|zq Z ?_ ?_
 ·intro hc1
  refine zc<|za<|AtL.assign zg0 Z Z<|AtL.done<|At.pick [1,0] 2 Z Z ?_
  exact zt Tryz.func239 Z Z (⟨_,_,Z,Z⟩)
 ·intro hc1
  refine zj<|zc<|za<|zb zg0 Z Z<|zb zg0 Z Z<|zf zg0 Z Z ?_
  refine zd zfQ zg0 Z Z Z<|zh zo zg0 Z Z (Cell.own 1 0 Z Z Z)<|zf zg0 Z Z<|zd zdA zg0 Z Z Z<|zr (H':=O3 wb 16 fi nx mb2::O12 b a0 a1 a2 a3 a4 a5 a6 a7 hr wb la la::H) 1 0 zaB zg0 Z Z Z Z Z Z Z Z Z<|AtL.done ?_
  refine zc<|za<|AtL.assign zg0 Z Z<|AtL.done<|At.pick [1,0] 2 Z Z ?_
  exact zt Tryz.func239 Z Z (⟨_,_,Z,Z⟩)
set_option maxRecDepth 100000
theorem run_le (b:List UInt8):(runF b).2.1.length≤b.length:=by
 induction b using (measure List.length).wf.induction with
 | _ b ih =>
  cases hh:zaP b with
  | wait => rw [run_wait hh]; exact Nat.le_refl _
  | ends s => rw [run_ends hh]; exact Nat.zero_le _
  | ready hd long body k =>
   by_cases hl:b.length < long + body
   ·rw [zjI hh hl]; exact Nat.le_refl _
   ·cases k with
    | false => rw [run_last hh hl]; exact Nat.zero_le _
    | true =>
     rw [run_more hh hl]
     have h9:=zeg hh
     have:=ih (b.drop (long + body)) (show (b.drop (long + body)).length < b.length by rw [List.length_drop]; omega)
     rw [List.length_drop] at this
     exact Nat.le_trans this (Nat.sub_le _ _)
theorem rpushW {w0:World}{base:Nat}{H:List Seg}{r:Nat}{x:Sl tyB 5}{ph:Rph}{g:Nat→Value}{b:List UInt8}{o:Bool}{A:Option Addr}{C:Nat}{l:List UInt8}(hr:RdOk ph x b o) (h:Rd tyB w0 base H A C l) (hsz:b.length + l.length≤999990) (T:Tabs w0 base) :
  SCalls Tryz.prog 247 [B r,.slice A l.length C] w0 base (ph.s::x.s::rdC r ph x (.slice none 0 0) g::H) (fun v H' => ∃ (its:List It) (q:Sl zcJ 130) (e:Int) (ph' : Rph) (x' : Sl tyB 5) (g' : Nat→Value) (b' : List UInt8) (o' : Bool),q.l=its.map It.v∧RdOk ph' x' b' o'∧b'.length≤b.length + l.length∧v = .tuple #[.slice q.A q.l.length q.C,int e]∧H' = itS its::q.s::ph'.s::x'.s::rdC r ph' x' (.slice none 0 0) g'::H):=by
 cases o with
 | true =>
  refine (pushE hr).flatR ?_
  rintro v H1 ⟨rfl,rfl⟩
  exact ⟨itS []::(Sl.nil:Sl zcJ 130).s::ph.s::x.s::rdC r ph x (.slice none 0 0) g::H,List.Perm.refl _,[],Sl.nil,9,ph,x,g,b,true,Z,hr,Nat.le_add_right _ _,Z,Z⟩
 | false =>
  have hx:=hr.kept rfl
  refine (rdpush_ok h hr.over hr.ok (by rw [hx]; exact hsz) T).mono ?_
  rintro v H1 ⟨its,q,ph',x',g',h1,h2,h3,h4,h5,rfl,rfl⟩
  rw [hx] at h4 h5
  refine ⟨its,q,0,ph',x',g',(runF (b++l)).2.1,ph'.isOver,h1,⟨h3,Z,h5⟩,?_,Z,Z⟩
  have:=run_le (b++l)
  rwa [List.length_append] at this
theorem roverW {w0:World}{base:Nat}{H:List Seg}{r:Nat}{x:Sl tyB 5}{ph:Rph}{g:Nat→Value}{b:List UInt8}{o:Bool}(hr:RdOk ph x b o) :
  SCalls Tryz.prog 249 [B r] w0 base (ph.s::x.s::rdC r ph x (.slice none 0 0) g::H) (fun v H' => v = .bool o∧H' = ph.s::x.s::rdC r ph x (.slice none 0 0) g::H):=over2 hr
set_option maxHeartbeats 1000000 in
theorem qreads_ok {w0:World}{base:Nat}{H:List Seg}{b hr:Nat}{a0 a1 a2 a3 a4 a5 a6 a7:Value}{la bh:Int}{wb mb2:Nat}{fi nx:Int}{ph:Rph}{y:Sl tyB 5}{g:Nat→Value}{kb:List UInt8}{ov:Bool}{A:Option Addr}{C:Nat}{l:List UInt8}(hw:1≤fi∧fi≤nx∧nx≤fi + 16∧fi≤1000000) (hrd:RdOk ph y kb ov) (h:Rd tyB w0 base H A C l) (hsz:kb.length + l.length≤999990) (T:Tabs w0 base) :
  SCalls Tryz.prog 243 [B b,.slice A l.length C] w0 base (O12 b a0 a1 a2 a3 a4 a5 a6 a7 hr wb la bh::O3 wb 16 fi nx mb2::ph.s::y.s::rdC hr ph y (.slice none 0 0) g::H) (fun v H' => ∃ (A9:Option Addr) (n9 C9:Nat) (e9:Int) (s9:Seg) (la' bh' nx' : Int) (ph' : Rph) (y' : Sl tyB 5) (g' : Nat→Value) (kb' : List UInt8) (ov' : Bool),RdOk ph' y' kb' ov'∧kb'.length≤kb.length + l.length∧(nx≤nx'∧nx'≤fi + 16)∧v = .tuple #[.slice A9 n9 C9,int e9]∧H' = s9::O12 b a0 a1 a2 a3 a4 a5 a6 a7 hr wb la' bh'::O3 wb 16 fi nx' mb2::ph'.s::y'.s::rdC hr ph' y' (.slice none 0 0) g'::H):=by
 have hle0:=h.le
 have hcap0:=h.cap
 refine SCalls.of_walk (n:=68) Tryz.func243 Z Z Z fun cs => ?_
 refine zc<|za<|AtL.assign zg0 Z Z<|AtL.assign zg0 Z Z<|AtL.done<|zc ?_
 refine za<|zb zg0 Z Z<|zf zg0 Z Z<|zd zhI zg0 Z Z Z<|zh zhJ zg0 Z Z (Cell.own 0 0 Z Z Z)<|zb zg0 Z Z ?_
 refine AtL.pick (H':=ph.s::y.s::rdC hr ph y (.slice none 0 0) g::O12 b a0 a1 a2 a3 a4 a5 a6 a7 hr wb la bh::O3 wb 16 fi nx mb2::H) [2,3,4,0,1] 5 Z Z ?_
 refine zk tf_body247 zg0 Z Z (rpushW hrd (Rd.skip 2 h) (by omega) T) ?_
 rintro _ _ ⟨its1,q2,e3,ph4,y5,g6,kb7,ov8,hits9,hrd10,hkb11,rfl,rfl⟩
 refine zb zg0 Z Z<|AtL.extract zg0 Z Z Z<|AtL.extract zg0 Z Z Z<|AtL.assign zg0 Z Z<|AtL.assign zg0 Z Z<|AtL.done ?_
 refine zc<|za<|AtL.assign zg0 Z Z<|AtL.done<|zc<|zc ?_
 refine za<|zb zg0 Z Z<|zC Tryz.underlying131 zg0 Z Z<|zb zg0 Z Z<|AtL.done<|At.block ?_
 refine At.nil ?_
 have hqc:=z7 q2.own
 have hqn:=zab q2.own
 refine At.pick (H':=[]::O12 b a0 a1 a2 a3 a4 a5 a6 a7 hr wb la bh::O3 wb 16 fi nx mb2::itS its1::q2.s::ph4.s::y5.s::rdC hr ph4 y5 (.slice none 0 0) g6::H) [0,6,7,1,2,3,4,5] 8 Z Z<|zfJ (fun (i:Nat) (o2:Sl tyGot 44) (la2:Int) (nx2:Int) => [(0,B b),(8,.slice o2.A o2.l.length o2.C),(22,.slice q2.A q2.l.length q2.C),(23,V (q2.l.length:Int)),(24,V (i:Int))]) (fun (i:Nat) (o2:Sl tyGot 44) (la2:Int) (nx2:Int) => o2.s::O12 b a0 a1 a2 a3 a4 a5 a6 a7 hr wb la2 bh::O3 wb 16 fi nx2 mb2::itS its1::q2.s::ph4.s::y5.s::rdC hr ph4 y5 (.slice none 0 0) g6::H) (fun (i:Nat) (o2:Sl tyGot 44) (la2:Int) (nx2:Int) => i≤q2.l.length∧(nx≤nx2∧nx2≤fi + 16)∧(o2.l.length:Int)≤nx2 - fi) (fun (i:Nat) (o2:Sl tyGot 44) (la2:Int) (nx2:Int) => q2.l.length - i) 0 Sl.nil la nx (⟨Nat.zero_le _,⟨by omega,by omega⟩,by show (0:Int)≤_; omega⟩) ⟨Z,Z,Z,Z,Z,trivial⟩ Z ?_
 rintro i o2 la2 nx2 ⟨hi,hw2,ho2⟩ ihL1
 have ho2c:=z7 o2.own
 have hw3:1≤fi∧fi≤nx2∧nx2≤fi + 16∧fi≤1000000:=⟨by omega,by omega,by omega,by omega⟩
 refine zc<|za<|zA zg0 Z Z Z<|AtL.done<|zc<|zq Z ?_ ?_
 ·intro hc1
  refine zj<|zc<|At.block<|zc<|za ?_
  refine zF i (q2.own.rd (i:=4) Z) Tryz.underlying131 ze6 zg0 Z Z Z Z (by omega) ?_
  refine zhk (n:=0) (q2.own.rd (i:=4) Z) (zz ((0,[],[],0,⟨none,0,[]⟩,⟨none,0,[]⟩,false):Int×List UInt8×List UInt8×Int×Vs (List UInt8×List UInt8)×Vs UInt8×Bool) (by omega)) Z zjB zg0 Z Z<|AtL.alloc zfN (cs:=#[V 0,str [],str [],V 0,.slice none 0 0,.slice none 0 0,.bool false]) Z zg0 Z ?_
  intro b12
  refine zr (H':=[(b12,.cells #[V ((q2.l.getD i ((0,[],[],0,⟨none,0,[]⟩,⟨none,0,[]⟩,false):Int×List UInt8×List UInt8×Int×Vs (List UInt8×List UInt8)×Vs UInt8×Bool)).1),str ((q2.l.getD i ((0,[],[],0,⟨none,0,[]⟩,⟨none,0,[]⟩,false):Int×List UInt8×List UInt8×Int×Vs (List UInt8×List UInt8)×Vs UInt8×Bool)).2.1),str ((q2.l.getD i ((0,[],[],0,⟨none,0,[]⟩,⟨none,0,[]⟩,false):Int×List UInt8×List UInt8×Int×Vs (List UInt8×List UInt8)×Vs UInt8×Bool)).2.2.1),V ((q2.l.getD i ((0,[],[],0,⟨none,0,[]⟩,⟨none,0,[]⟩,false):Int×List UInt8×List UInt8×Int×Vs (List UInt8×List UInt8)×Vs UInt8×Bool)).2.2.2.1),.slice ((q2.l.getD i ((0,[],[],0,⟨none,0,[]⟩,⟨none,0,[]⟩,false):Int×List UInt8×List UInt8×Int×Vs (List UInt8×List UInt8)×Vs UInt8×Bool)).2.2.2.2.1.A) ((q2.l.getD i ((0,[],[],0,⟨none,0,[]⟩,⟨none,0,[]⟩,false):Int×List UInt8×List UInt8×Int×Vs (List UInt8×List UInt8)×Vs UInt8×Bool)).2.2.2.2.1.l).length ((q2.l.getD i ((0,[],[],0,⟨none,0,[]⟩,⟨none,0,[]⟩,false):Int×List UInt8×List UInt8×Int×Vs (List UInt8×List UInt8)×Vs UInt8×Bool)).2.2.2.2.1.C),.slice ((q2.l.getD i ((0,[],[],0,⟨none,0,[]⟩,⟨none,0,[]⟩,false):Int×List UInt8×List UInt8×Int×Vs (List UInt8×List UInt8)×Vs UInt8×Bool)).2.2.2.2.2.1.A) ((q2.l.getD i ((0,[],[],0,⟨none,0,[]⟩,⟨none,0,[]⟩,false):Int×List UInt8×List UInt8×Int×Vs (List UInt8×List UInt8)×Vs UInt8×Bool)).2.2.2.2.2.1.l).length ((q2.l.getD i ((0,[],[],0,⟨none,0,[]⟩,⟨none,0,[]⟩,false):Int×List UInt8×List UInt8×Int×Vs (List UInt8×List UInt8)×Vs UInt8×Bool)).2.2.2.2.2.1.C),.bool ((q2.l.getD i ((0,[],[],0,⟨none,0,[]⟩,⟨none,0,[]⟩,false):Int×List UInt8×List UInt8×Int×Vs (List UInt8×List UInt8)×Vs UInt8×Bool)).2.2.2.2.2.2)] 130 (0,0))]::o2.s::O12 b a0 a1 a2 a3 a4 a5 a6 a7 hr wb la2 bh::O3 wb 16 fi nx2 mb2::itS its1::q2.s::ph4.s::y5.s::rdC hr ph4 y5 (.slice none 0 0) g6::H) 0 0 ze6 zg0 Z Z Z Z Z Z Z Z Z<|AtL.done<|zc ?_
  rcases Decidable.em (nx2 - fi < 16) with hl9 | hl9
  ·refine za<|zb zg0 Z Z<|zf zg0 Z Z<|zd zca zg0 Z Z Z<|zh zcc zg0 Z Z (Cell.own 2 0 Z Z Z)<|AtL.pick (H':=O3 wb 16 fi nx2 mb2::[(b12,.cells #[V ((q2.l.getD i ((0,[],[],0,⟨none,0,[]⟩,⟨none,0,[]⟩,false):Int×List UInt8×List UInt8×Int×Vs (List UInt8×List UInt8)×Vs UInt8×Bool)).1),str ((q2.l.getD i ((0,[],[],0,⟨none,0,[]⟩,⟨none,0,[]⟩,false):Int×List UInt8×List UInt8×Int×Vs (List UInt8×List UInt8)×Vs UInt8×Bool)).2.1),str ((q2.l.getD i ((0,[],[],0,⟨none,0,[]⟩,⟨none,0,[]⟩,false):Int×List UInt8×List UInt8×Int×Vs (List UInt8×List UInt8)×Vs UInt8×Bool)).2.2.1),V ((q2.l.getD i ((0,[],[],0,⟨none,0,[]⟩,⟨none,0,[]⟩,false):Int×List UInt8×List UInt8×Int×Vs (List UInt8×List UInt8)×Vs UInt8×Bool)).2.2.2.1),.slice ((q2.l.getD i ((0,[],[],0,⟨none,0,[]⟩,⟨none,0,[]⟩,false):Int×List UInt8×List UInt8×Int×Vs (List UInt8×List UInt8)×Vs UInt8×Bool)).2.2.2.2.1.A) ((q2.l.getD i ((0,[],[],0,⟨none,0,[]⟩,⟨none,0,[]⟩,false):Int×List UInt8×List UInt8×Int×Vs (List UInt8×List UInt8)×Vs UInt8×Bool)).2.2.2.2.1.l).length ((q2.l.getD i ((0,[],[],0,⟨none,0,[]⟩,⟨none,0,[]⟩,false):Int×List UInt8×List UInt8×Int×Vs (List UInt8×List UInt8)×Vs UInt8×Bool)).2.2.2.2.1.C),.slice ((q2.l.getD i ((0,[],[],0,⟨none,0,[]⟩,⟨none,0,[]⟩,false):Int×List UInt8×List UInt8×Int×Vs (List UInt8×List UInt8)×Vs UInt8×Bool)).2.2.2.2.2.1.A) ((q2.l.getD i ((0,[],[],0,⟨none,0,[]⟩,⟨none,0,[]⟩,false):Int×List UInt8×List UInt8×Int×Vs (List UInt8×List UInt8)×Vs UInt8×Bool)).2.2.2.2.2.1.l).length ((q2.l.getD i ((0,[],[],0,⟨none,0,[]⟩,⟨none,0,[]⟩,false):Int×List UInt8×List UInt8×Int×Vs (List UInt8×List UInt8)×Vs UInt8×Bool)).2.2.2.2.2.1.C),.bool ((q2.l.getD i ((0,[],[],0,⟨none,0,[]⟩,⟨none,0,[]⟩,false):Int×List UInt8×List UInt8×Int×Vs (List UInt8×List UInt8)×Vs UInt8×Bool)).2.2.2.2.2.2)] 130 (0,0))]::o2.s::O12 b a0 a1 a2 a3 a4 a5 a6 a7 hr wb la2 bh::itS its1::q2.s::ph4.s::y5.s::rdC hr ph4 y5 (.slice none 0 0) g6::H) [3,0,1,2,4,5,6,7,8] 9 Z Z ?_
   refine zk zhK zg0 Z Z (wopen_ok hw3 hl9) ?_
   rintro _ _ ⟨rfl,rfl⟩
   refine zb zg0 Z Z<|AtL.extract zg0 Z Z Z<|AtL.extract zg0 Z Z Z<|AtL.assign zg0 Z Z<|AtL.assign zg0 Z Z<|AtL.done ?_
   refine zc<|zc<|za<|zb zg0 Z Z<|zT zg0 Z Z Z<|AtL.done ?_
   refine zB Z<|zj<|zc<|za<|zb zg0 Z Z<|zb zg0 Z Z ?_
   refine zf zg0 Z Z<|zd zfQ zg0 Z Z Z<|zr (H':=O3 wb 16 fi (nx2 + 1) mb2::[(b12,.cells #[V ((q2.l.getD i ((0,[],[],0,⟨none,0,[]⟩,⟨none,0,[]⟩,false):Int×List UInt8×List UInt8×Int×Vs (List UInt8×List UInt8)×Vs UInt8×Bool)).1),str ((q2.l.getD i ((0,[],[],0,⟨none,0,[]⟩,⟨none,0,[]⟩,false):Int×List UInt8×List UInt8×Int×Vs (List UInt8×List UInt8)×Vs UInt8×Bool)).2.1),str ((q2.l.getD i ((0,[],[],0,⟨none,0,[]⟩,⟨none,0,[]⟩,false):Int×List UInt8×List UInt8×Int×Vs (List UInt8×List UInt8)×Vs UInt8×Bool)).2.2.1),V ((q2.l.getD i ((0,[],[],0,⟨none,0,[]⟩,⟨none,0,[]⟩,false):Int×List UInt8×List UInt8×Int×Vs (List UInt8×List UInt8)×Vs UInt8×Bool)).2.2.2.1),.slice ((q2.l.getD i ((0,[],[],0,⟨none,0,[]⟩,⟨none,0,[]⟩,false):Int×List UInt8×List UInt8×Int×Vs (List UInt8×List UInt8)×Vs UInt8×Bool)).2.2.2.2.1.A) ((q2.l.getD i ((0,[],[],0,⟨none,0,[]⟩,⟨none,0,[]⟩,false):Int×List UInt8×List UInt8×Int×Vs (List UInt8×List UInt8)×Vs UInt8×Bool)).2.2.2.2.1.l).length ((q2.l.getD i ((0,[],[],0,⟨none,0,[]⟩,⟨none,0,[]⟩,false):Int×List UInt8×List UInt8×Int×Vs (List UInt8×List UInt8)×Vs UInt8×Bool)).2.2.2.2.1.C),.slice ((q2.l.getD i ((0,[],[],0,⟨none,0,[]⟩,⟨none,0,[]⟩,false):Int×List UInt8×List UInt8×Int×Vs (List UInt8×List UInt8)×Vs UInt8×Bool)).2.2.2.2.2.1.A) ((q2.l.getD i ((0,[],[],0,⟨none,0,[]⟩,⟨none,0,[]⟩,false):Int×List UInt8×List UInt8×Int×Vs (List UInt8×List UInt8)×Vs UInt8×Bool)).2.2.2.2.2.1.l).length ((q2.l.getD i ((0,[],[],0,⟨none,0,[]⟩,⟨none,0,[]⟩,false):Int×List UInt8×List UInt8×Int×Vs (List UInt8×List UInt8)×Vs UInt8×Bool)).2.2.2.2.2.1.C),.bool ((q2.l.getD i ((0,[],[],0,⟨none,0,[]⟩,⟨none,0,[]⟩,false):Int×List UInt8×List UInt8×Int×Vs (List UInt8×List UInt8)×Vs UInt8×Bool)).2.2.2.2.2.2)] 130 (0,0))]::o2.s::O12 b a0 a1 a2 a3 a4 a5 a6 a7 hr wb nx2 bh::itS its1::q2.s::ph4.s::y5.s::rdC hr ph4 y5 (.slice none 0 0) g6::H) 3 0 zaB zg0 Z Z Z Z Z Z Z Z Z<|AtL.done<|za<|zb zg0 Z Z ?_
   refine zb zg0 Z Z<|zd tf_fo130_0 zg0 Z Z Z<|zh zo zg0 Z Z (Cell.own 1 0 Z Z Z)<|zd tf_fo130_1 zg0 Z Z Z<|zay (cs:=[str ((q2.l.getD i ((0,[],[],0,⟨none,0,[]⟩,⟨none,0,[]⟩,false):Int×List UInt8×List UInt8×Int×Vs (List UInt8×List UInt8)×Vs UInt8×Bool)).2.1),str ((q2.l.getD i ((0,[],[],0,⟨none,0,[]⟩,⟨none,0,[]⟩,false):Int×List UInt8×List UInt8×Int×Vs (List UInt8×List UInt8)×Vs UInt8×Bool)).2.2.1),V ((q2.l.getD i ((0,[],[],0,⟨none,0,[]⟩,⟨none,0,[]⟩,false):Int×List UInt8×List UInt8×Int×Vs (List UInt8×List UInt8)×Vs UInt8×Bool)).2.2.2.1),.slice ((q2.l.getD i ((0,[],[],0,⟨none,0,[]⟩,⟨none,0,[]⟩,false):Int×List UInt8×List UInt8×Int×Vs (List UInt8×List UInt8)×Vs UInt8×Bool)).2.2.2.2.1.A) ((q2.l.getD i ((0,[],[],0,⟨none,0,[]⟩,⟨none,0,[]⟩,false):Int×List UInt8×List UInt8×Int×Vs (List UInt8×List UInt8)×Vs UInt8×Bool)).2.2.2.2.1.l).length ((q2.l.getD i ((0,[],[],0,⟨none,0,[]⟩,⟨none,0,[]⟩,false):Int×List UInt8×List UInt8×Int×Vs (List UInt8×List UInt8)×Vs UInt8×Bool)).2.2.2.2.1.C)]) zaU zg0 Z Z Z (zad 1 0 1 Z Z Z)<|zd zhF zg0 Z Z Z ?_
   refine zh zE zg0 Z Z (Cell.own 1 0 Z Z Z)<|zaE (cs:=[V nx2,V ((q2.l.getD i ((0,[],[],0,⟨none,0,[]⟩,⟨none,0,[]⟩,false):Int×List UInt8×List UInt8×Int×Vs (List UInt8×List UInt8)×Vs UInt8×Bool)).1),str ((q2.l.getD i ((0,[],[],0,⟨none,0,[]⟩,⟨none,0,[]⟩,false):Int×List UInt8×List UInt8×Int×Vs (List UInt8×List UInt8)×Vs UInt8×Bool)).2.1),str ((q2.l.getD i ((0,[],[],0,⟨none,0,[]⟩,⟨none,0,[]⟩,false):Int×List UInt8×List UInt8×Int×Vs (List UInt8×List UInt8)×Vs UInt8×Bool)).2.2.1),V ((q2.l.getD i ((0,[],[],0,⟨none,0,[]⟩,⟨none,0,[]⟩,false):Int×List UInt8×List UInt8×Int×Vs (List UInt8×List UInt8)×Vs UInt8×Bool)).2.2.2.1),.slice ((q2.l.getD i ((0,[],[],0,⟨none,0,[]⟩,⟨none,0,[]⟩,false):Int×List UInt8×List UInt8×Int×Vs (List UInt8×List UInt8)×Vs UInt8×Bool)).2.2.2.2.1.A) ((q2.l.getD i ((0,[],[],0,⟨none,0,[]⟩,⟨none,0,[]⟩,false):Int×List UInt8×List UInt8×Int×Vs (List UInt8×List UInt8)×Vs UInt8×Bool)).2.2.2.2.1.l).length ((q2.l.getD i ((0,[],[],0,⟨none,0,[]⟩,⟨none,0,[]⟩,false):Int×List UInt8×List UInt8×Int×Vs (List UInt8×List UInt8)×Vs UInt8×Bool)).2.2.2.2.1.C),.slice ((q2.l.getD i ((0,[],[],0,⟨none,0,[]⟩,⟨none,0,[]⟩,false):Int×List UInt8×List UInt8×Int×Vs (List UInt8×List UInt8)×Vs UInt8×Bool)).2.2.2.2.2.1.A) ((q2.l.getD i ((0,[],[],0,⟨none,0,[]⟩,⟨none,0,[]⟩,false):Int×List UInt8×List UInt8×Int×Vs (List UInt8×List UInt8)×Vs UInt8×Bool)).2.2.2.2.2.1.l).length ((q2.l.getD i ((0,[],[],0,⟨none,0,[]⟩,⟨none,0,[]⟩,false):Int×List UInt8×List UInt8×Int×Vs (List UInt8×List UInt8)×Vs UInt8×Bool)).2.2.2.2.2.1.C)]) tf_lay44 zg0 Z Z Z<|zG (cs:=[V nx2,V ((q2.l.getD i ((0,[],[],0,⟨none,0,[]⟩,⟨none,0,[]⟩,false):Int×List UInt8×List UInt8×Int×Vs (List UInt8×List UInt8)×Vs UInt8×Bool)).1),str ((q2.l.getD i ((0,[],[],0,⟨none,0,[]⟩,⟨none,0,[]⟩,false):Int×List UInt8×List UInt8×Int×Vs (List UInt8×List UInt8)×Vs UInt8×Bool)).2.1),str ((q2.l.getD i ((0,[],[],0,⟨none,0,[]⟩,⟨none,0,[]⟩,false):Int×List UInt8×List UInt8×Int×Vs (List UInt8×List UInt8)×Vs UInt8×Bool)).2.2.1),V ((q2.l.getD i ((0,[],[],0,⟨none,0,[]⟩,⟨none,0,[]⟩,false):Int×List UInt8×List UInt8×Int×Vs (List UInt8×List UInt8)×Vs UInt8×Bool)).2.2.2.1),.slice ((q2.l.getD i ((0,[],[],0,⟨none,0,[]⟩,⟨none,0,[]⟩,false):Int×List UInt8×List UInt8×Int×Vs (List UInt8×List UInt8)×Vs UInt8×Bool)).2.2.2.2.1.A) ((q2.l.getD i ((0,[],[],0,⟨none,0,[]⟩,⟨none,0,[]⟩,false):Int×List UInt8×List UInt8×Int×Vs (List UInt8×List UInt8)×Vs UInt8×Bool)).2.2.2.2.1.l).length ((q2.l.getD i ((0,[],[],0,⟨none,0,[]⟩,⟨none,0,[]⟩,false):Int×List UInt8×List UInt8×Int×Vs (List UInt8×List UInt8)×Vs UInt8×Bool)).2.2.2.2.1.C),.slice ((q2.l.getD i ((0,[],[],0,⟨none,0,[]⟩,⟨none,0,[]⟩,false):Int×List UInt8×List UInt8×Int×Vs (List UInt8×List UInt8)×Vs UInt8×Bool)).2.2.2.2.2.1.A) ((q2.l.getD i ((0,[],[],0,⟨none,0,[]⟩,⟨none,0,[]⟩,false):Int×List UInt8×List UInt8×Int×Vs (List UInt8×List UInt8)×Vs UInt8×Bool)).2.2.2.2.2.1.l).length ((q2.l.getD i ((0,[],[],0,⟨none,0,[]⟩,⟨none,0,[]⟩,false):Int×List UInt8×List UInt8×Int×Vs (List UInt8×List UInt8)×Vs UInt8×Bool)).2.2.2.2.2.1.C)]) Tryz.underlying37 zi6 zfO Z Z zg0 Z Z Z ?_
   intro b13
   refine zaD tyGot (l:=([((nx2:Int),((q2.l.getD i ((0,[],[],0,⟨none,0,[]⟩,⟨none,0,[]⟩,false):Int×List UInt8×List UInt8×Int×Vs (List UInt8×List UInt8)×Vs UInt8×Bool)).1:Int),((q2.l.getD i ((0,[],[],0,⟨none,0,[]⟩,⟨none,0,[]⟩,false):Int×List UInt8×List UInt8×Int×Vs (List UInt8×List UInt8)×Vs UInt8×Bool)).2.1:List UInt8),((q2.l.getD i ((0,[],[],0,⟨none,0,[]⟩,⟨none,0,[]⟩,false):Int×List UInt8×List UInt8×Int×Vs (List UInt8×List UInt8)×Vs UInt8×Bool)).2.2.1:List UInt8),((q2.l.getD i ((0,[],[],0,⟨none,0,[]⟩,⟨none,0,[]⟩,false):Int×List UInt8×List UInt8×Int×Vs (List UInt8×List UInt8)×Vs UInt8×Bool)).2.2.2.1:Int),(⟨(q2.l.getD i ((0,[],[],0,⟨none,0,[]⟩,⟨none,0,[]⟩,false):Int×List UInt8×List UInt8×Int×Vs (List UInt8×List UInt8)×Vs UInt8×Bool)).2.2.2.2.1.A,(q2.l.getD i ((0,[],[],0,⟨none,0,[]⟩,⟨none,0,[]⟩,false):Int×List UInt8×List UInt8×Int×Vs (List UInt8×List UInt8)×Vs UInt8×Bool)).2.2.2.2.1.C,(q2.l.getD i ((0,[],[],0,⟨none,0,[]⟩,⟨none,0,[]⟩,false):Int×List UInt8×List UInt8×Int×Vs (List UInt8×List UInt8)×Vs UInt8×Bool)).2.2.2.2.1.l⟩:Vs (List UInt8×List UInt8)),(⟨(q2.l.getD i ((0,[],[],0,⟨none,0,[]⟩,⟨none,0,[]⟩,false):Int×List UInt8×List UInt8×Int×Vs (List UInt8×List UInt8)×Vs UInt8×Bool)).2.2.2.2.2.1.A,(q2.l.getD i ((0,[],[],0,⟨none,0,[]⟩,⟨none,0,[]⟩,false):Int×List UInt8×List UInt8×Int×Vs (List UInt8×List UInt8)×Vs UInt8×Bool)).2.2.2.2.2.1.C,(q2.l.getD i ((0,[],[],0,⟨none,0,[]⟩,⟨none,0,[]⟩,false):Int×List UInt8×List UInt8×Int×Vs (List UInt8×List UInt8)×Vs UInt8×Bool)).2.2.2.2.2.1.l⟩:Vs UInt8))]:List (Int×Int×List UInt8×List UInt8×Int×Vs (List UInt8×List UInt8)×Vs UInt8))) Z Z (by first | decide | simp) ?_
   intro s14 o15
   refine zam (l:=o2.l) (news:=[((nx2:Int),((q2.l.getD i ((0,[],[],0,⟨none,0,[]⟩,⟨none,0,[]⟩,false):Int×List UInt8×List UInt8×Int×Vs (List UInt8×List UInt8)×Vs UInt8×Bool)).1:Int),((q2.l.getD i ((0,[],[],0,⟨none,0,[]⟩,⟨none,0,[]⟩,false):Int×List UInt8×List UInt8×Int×Vs (List UInt8×List UInt8)×Vs UInt8×Bool)).2.1:List UInt8),((q2.l.getD i ((0,[],[],0,⟨none,0,[]⟩,⟨none,0,[]⟩,false):Int×List UInt8×List UInt8×Int×Vs (List UInt8×List UInt8)×Vs UInt8×Bool)).2.2.1:List UInt8),((q2.l.getD i ((0,[],[],0,⟨none,0,[]⟩,⟨none,0,[]⟩,false):Int×List UInt8×List UInt8×Int×Vs (List UInt8×List UInt8)×Vs UInt8×Bool)).2.2.2.1:Int),(⟨(q2.l.getD i ((0,[],[],0,⟨none,0,[]⟩,⟨none,0,[]⟩,false):Int×List UInt8×List UInt8×Int×Vs (List UInt8×List UInt8)×Vs UInt8×Bool)).2.2.2.2.1.A,(q2.l.getD i ((0,[],[],0,⟨none,0,[]⟩,⟨none,0,[]⟩,false):Int×List UInt8×List UInt8×Int×Vs (List UInt8×List UInt8)×Vs UInt8×Bool)).2.2.2.2.1.C,(q2.l.getD i ((0,[],[],0,⟨none,0,[]⟩,⟨none,0,[]⟩,false):Int×List UInt8×List UInt8×Int×Vs (List UInt8×List UInt8)×Vs UInt8×Bool)).2.2.2.2.1.l⟩:Vs (List UInt8×List UInt8)),(⟨(q2.l.getD i ((0,[],[],0,⟨none,0,[]⟩,⟨none,0,[]⟩,false):Int×List UInt8×List UInt8×Int×Vs (List UInt8×List UInt8)×Vs UInt8×Bool)).2.2.2.2.2.1.A,(q2.l.getD i ((0,[],[],0,⟨none,0,[]⟩,⟨none,0,[]⟩,false):Int×List UInt8×List UInt8×Int×Vs (List UInt8×List UInt8)×Vs UInt8×Bool)).2.2.2.2.2.1.C,(q2.l.getD i ((0,[],[],0,⟨none,0,[]⟩,⟨none,0,[]⟩,false):Int×List UInt8×List UInt8×Int×Vs (List UInt8×List UInt8)×Vs UInt8×Bool)).2.2.2.2.2.1.l⟩:Vs UInt8))]) 3 tf_el37 Z o2.own (o15.rd (i:=0) Z) (by first | omega | (simp only [List.length_append,List.length_cons,List.length_nil]; omega) | (simp; done) | (simp; omega)) zg0 Z Z Z ?_
   intro A16 C17 s18 o19
   refine AtL.assign zg0 Z Z<|AtL.done<|zp<|za ?_
   refine AtL.add (z:=(i:Int) + 1) zg0 Z Z Z (w64 (by omega) (by omega))<|zb zg0 Z Z<|AtL.done<|At.pick (H':=s18::O12 b a0 a1 a2 a3 a4 a5 a6 a7 hr wb nx2 bh::O3 wb 16 fi (nx2 + 1) mb2::itS its1::q2.s::ph4.s::y5.s::rdC hr ph4 y5 (.slice none 0 0) g6::H) [3,4,1,5,6,7,8,9] 10 Z Z ?_
   refine ihL1 (i + 1) (⟨A16,C17,o2.l++([((nx2:Int),((q2.l.getD i ((0,[],[],0,⟨none,0,[]⟩,⟨none,0,[]⟩,false):Int×List UInt8×List UInt8×Int×Vs (List UInt8×List UInt8)×Vs UInt8×Bool)).1:Int),((q2.l.getD i ((0,[],[],0,⟨none,0,[]⟩,⟨none,0,[]⟩,false):Int×List UInt8×List UInt8×Int×Vs (List UInt8×List UInt8)×Vs UInt8×Bool)).2.1:List UInt8),((q2.l.getD i ((0,[],[],0,⟨none,0,[]⟩,⟨none,0,[]⟩,false):Int×List UInt8×List UInt8×Int×Vs (List UInt8×List UInt8)×Vs UInt8×Bool)).2.2.1:List UInt8),((q2.l.getD i ((0,[],[],0,⟨none,0,[]⟩,⟨none,0,[]⟩,false):Int×List UInt8×List UInt8×Int×Vs (List UInt8×List UInt8)×Vs UInt8×Bool)).2.2.2.1:Int),(⟨(q2.l.getD i ((0,[],[],0,⟨none,0,[]⟩,⟨none,0,[]⟩,false):Int×List UInt8×List UInt8×Int×Vs (List UInt8×List UInt8)×Vs UInt8×Bool)).2.2.2.2.1.A,(q2.l.getD i ((0,[],[],0,⟨none,0,[]⟩,⟨none,0,[]⟩,false):Int×List UInt8×List UInt8×Int×Vs (List UInt8×List UInt8)×Vs UInt8×Bool)).2.2.2.2.1.C,(q2.l.getD i ((0,[],[],0,⟨none,0,[]⟩,⟨none,0,[]⟩,false):Int×List UInt8×List UInt8×Int×Vs (List UInt8×List UInt8)×Vs UInt8×Bool)).2.2.2.2.1.l⟩:Vs (List UInt8×List UInt8)),(⟨(q2.l.getD i ((0,[],[],0,⟨none,0,[]⟩,⟨none,0,[]⟩,false):Int×List UInt8×List UInt8×Int×Vs (List UInt8×List UInt8)×Vs UInt8×Bool)).2.2.2.2.2.1.A,(q2.l.getD i ((0,[],[],0,⟨none,0,[]⟩,⟨none,0,[]⟩,false):Int×List UInt8×List UInt8×Int×Vs (List UInt8×List UInt8)×Vs UInt8×Bool)).2.2.2.2.2.1.C,(q2.l.getD i ((0,[],[],0,⟨none,0,[]⟩,⟨none,0,[]⟩,false):Int×List UInt8×List UInt8×Int×Vs (List UInt8×List UInt8)×Vs UInt8×Bool)).2.2.2.2.2.1.l⟩:Vs UInt8))]),s18,o19⟩) nx2 (nx2 + 1) (⟨by omega,⟨by omega,by omega⟩,by simp only [List.length_append,List.length_cons,List.length_nil]; omega⟩) (by omega) _ ?_
   exact ⟨Z,(by first | rfl | exact zaf (by simp []) | exact zah (by omega) | exact zah (by simp []) | exact zaf (by simp []; omega)),Z,Z,(by first | rfl | exact zaf (by simp []) | exact zah (by omega) | exact zah (by simp []) | exact zaf (by simp []; omega)),trivial⟩
  ·refine za<|zb zg0 Z Z<|zf zg0 Z Z<|zd zca zg0 Z Z Z<|zh zcc zg0 Z Z (Cell.own 2 0 Z Z Z)<|AtL.pick (H':=O3 wb 16 fi nx2 mb2::[(b12,.cells #[V ((q2.l.getD i ((0,[],[],0,⟨none,0,[]⟩,⟨none,0,[]⟩,false):Int×List UInt8×List UInt8×Int×Vs (List UInt8×List UInt8)×Vs UInt8×Bool)).1),str ((q2.l.getD i ((0,[],[],0,⟨none,0,[]⟩,⟨none,0,[]⟩,false):Int×List UInt8×List UInt8×Int×Vs (List UInt8×List UInt8)×Vs UInt8×Bool)).2.1),str ((q2.l.getD i ((0,[],[],0,⟨none,0,[]⟩,⟨none,0,[]⟩,false):Int×List UInt8×List UInt8×Int×Vs (List UInt8×List UInt8)×Vs UInt8×Bool)).2.2.1),V ((q2.l.getD i ((0,[],[],0,⟨none,0,[]⟩,⟨none,0,[]⟩,false):Int×List UInt8×List UInt8×Int×Vs (List UInt8×List UInt8)×Vs UInt8×Bool)).2.2.2.1),.slice ((q2.l.getD i ((0,[],[],0,⟨none,0,[]⟩,⟨none,0,[]⟩,false):Int×List UInt8×List UInt8×Int×Vs (List UInt8×List UInt8)×Vs UInt8×Bool)).2.2.2.2.1.A) ((q2.l.getD i ((0,[],[],0,⟨none,0,[]⟩,⟨none,0,[]⟩,false):Int×List UInt8×List UInt8×Int×Vs (List UInt8×List UInt8)×Vs UInt8×Bool)).2.2.2.2.1.l).length ((q2.l.getD i ((0,[],[],0,⟨none,0,[]⟩,⟨none,0,[]⟩,false):Int×List UInt8×List UInt8×Int×Vs (List UInt8×List UInt8)×Vs UInt8×Bool)).2.2.2.2.1.C),.slice ((q2.l.getD i ((0,[],[],0,⟨none,0,[]⟩,⟨none,0,[]⟩,false):Int×List UInt8×List UInt8×Int×Vs (List UInt8×List UInt8)×Vs UInt8×Bool)).2.2.2.2.2.1.A) ((q2.l.getD i ((0,[],[],0,⟨none,0,[]⟩,⟨none,0,[]⟩,false):Int×List UInt8×List UInt8×Int×Vs (List UInt8×List UInt8)×Vs UInt8×Bool)).2.2.2.2.2.1.l).length ((q2.l.getD i ((0,[],[],0,⟨none,0,[]⟩,⟨none,0,[]⟩,false):Int×List UInt8×List UInt8×Int×Vs (List UInt8×List UInt8)×Vs UInt8×Bool)).2.2.2.2.2.1.C),.bool ((q2.l.getD i ((0,[],[],0,⟨none,0,[]⟩,⟨none,0,[]⟩,false):Int×List UInt8×List UInt8×Int×Vs (List UInt8×List UInt8)×Vs UInt8×Bool)).2.2.2.2.2.2)] 130 (0,0))]::o2.s::O12 b a0 a1 a2 a3 a4 a5 a6 a7 hr wb la2 bh::itS its1::q2.s::ph4.s::y5.s::rdC hr ph4 y5 (.slice none 0 0) g6::H) [3,0,1,2,4,5,6,7,8] 9 Z Z ?_
   refine zk zhK zg0 Z Z (wopen_full hw3 hl9) ?_
   rintro _ _ ⟨rfl,rfl⟩
   refine zb zg0 Z Z<|AtL.extract zg0 Z Z Z<|AtL.extract zg0 Z Z Z<|AtL.assign zg0 Z Z<|AtL.assign zg0 Z Z<|AtL.done ?_
   refine zc<|zc<|za<|zb zg0 Z Z<|zT zg0 Z Z Z<|AtL.done ?_
   refine zX Z<|zc<|za<|zb zg0 Z Z<|AtL.assign zg0 Z Z<|AtL.assign zg0 Z Z ?_
   refine AtL.done<|At.pick [2,3,0,6,7,8] 9 Z Z ?_
   exact zt Tryz.func243 Z Z (⟨o2.A,o2.l.length,o2.C,8,o2.s,la2,bh,nx2,ph4,y5,g6,kb7,ov8,hrd10,hkb11,⟨by omega,by omega⟩,Z,Z⟩)
 ·intro hc1
  refine zau Z<|zc<|zc<|za<|zb zg0 Z Z<|zf zg0 Z Z ?_
  refine zd zhI zg0 Z Z Z<|zh zhJ zg0 Z Z (Cell.own 1 0 Z Z Z)<|AtL.pick (H':=ph4.s::y5.s::rdC hr ph4 y5 (.slice none 0 0) g6::o2.s::O12 b a0 a1 a2 a3 a4 a5 a6 a7 hr wb la2 bh::O3 wb 16 fi nx2 mb2::itS its1::q2.s::H) [5,6,7,0,1,2,3,4] 8 Z Z<|zk tf_body249 zg0 Z Z (roverW hrd10) ?_
  rintro _ _ ⟨rfl,rfl⟩
  refine AtL.done<|zae Z ?_ ?_
  ·intro hc3
   have hc3:ov8=true:=hc3
   refine za<|zb zg0 Z Z<|zb zg0 Z Z<|zf zg0 Z Z<|zd zfQ zg0 Z Z Z<|zh zo zg0 Z Z (Cell.own 4 0 Z Z Z) ?_
   refine zf zg0 Z Z<|zd zdA zg0 Z Z Z<|zr (H':=ph4.s::y5.s::rdC hr ph4 y5 (.slice none 0 0) g6::o2.s::O12 b a0 a1 a2 a3 a4 a5 a6 a7 hr wb la2 la2::O3 wb 16 fi nx2 mb2::itS its1::q2.s::H) 4 0 zaB zg0 Z Z Z Z Z Z Z Z Z<|AtL.done<|zc<|za ?_
   refine zb zg0 Z Z<|AtL.assign zg0 Z Z<|AtL.assign zg0 Z Z<|AtL.done<|At.pick [3,4,5,0,1,2] 8 Z Z ?_
   exact zt Tryz.func243 Z Z (⟨o2.A,o2.l.length,o2.C,0,o2.s,la2,la2,nx2,ph4,y5,g6,kb7,ov8,hrd10,hkb11,⟨by omega,by omega⟩,Z,Z⟩)
  ·intro hc3
   have hc3:ov8=false:=hc3
   refine zj<|zc<|za<|zb zg0 Z Z<|AtL.assign zg0 Z Z<|AtL.assign zg0 Z Z ?_
   refine AtL.done<|At.pick [3,4,5,0,1,2] 8 Z Z ?_
   exact zt Tryz.func243 Z Z (⟨o2.A,o2.l.length,o2.C,0,o2.s,la2,bh,nx2,ph4,y5,g6,kb7,ov8,hrd10,hkb11,⟨by omega,by omega⟩,Z,Z⟩)
set_option maxRecDepth 100000
def dnS (L:List (Int×Sl tyB 5×Nat)):Seg:=L.flatMap fun e => e.2.1.s
def optV:Option (Sl tyB 5)→Value
 | some y => .slice y.A y.l.length y.C
 | none => .slice none 0 0
structure DnOk (fi nx:Int) (N:Nat) (L:List (Int×Sl tyB 5×Nat)) (n:Nat):Prop where
  all:∀ e ∈ L,fi≤e.1∧e.1 < nx∧e.2.1.l.length≤N∧e.2.2 < n
  keys:(L.map fun e => e.1).Nodup
  stamps:(L.map fun e => e.2.2).Nodup
theorem dn_sub (i:Int) (L:List (Int×Sl tyB 5×Nat)):(delG i L).Sublist L:=by
 induction L with
 | nil => exact .slnil
 | cons p r ih =>
  rw [delG]
  split
  ·exact List.sublist_cons_self p r
  ·exact ih.cons_cons p
theorem dn_mem {i:Int}{L:List (Int×Sl tyB 5×Nat)}{y:Sl tyB 5}(h:atG i L=some y):∃ n,(i,y,n) ∈ L:=by
 induction L with
 | nil => cases h
 | cons p r ih =>
  rw [atG] at h
  split at h
  ·rename_i q; cases h; exact ⟨p.2.2,by subst q; exact List.mem_cons_self ..⟩
  ·obtain ⟨n,hn⟩:=ih h; exact ⟨n,List.mem_cons_of_mem _ hn⟩
theorem dn_del {i:Int}{L:List (Int×Sl tyB 5×Nat)}(hk:(L.map fun e => e.1).Nodup):∀ e ∈ delG i L,e.1≠i:=by
 induction L with
 | nil => intro e he; cases he
 | cons p r ih =>
  rw [List.map_cons,List.nodup_cons] at hk
  intro e he
  rw [delG] at he
  split at he
  ·rename_i q
   intro q2
   exact hk.1 (List.mem_map.2 ⟨e,he,by rw [q2,q]⟩)
  ·rename_i q
   rcases List.mem_cons.1 he with rfl | he
   ·exact fun q2 => q q2.symm
   ·exact ih hk.2 e he
theorem DnOk.del {fi nx:Int}{N n:Nat}{L:List (Int×Sl tyB 5×Nat)}(h:DnOk fi nx N L n):DnOk (fi + 1) nx N (delG fi L) n:=by
 refine ⟨fun e he => ?_,List.Sublist.nodup ((dn_sub fi L).map _) h.keys,List.Sublist.nodup ((dn_sub fi L).map _) h.stamps⟩
 have h1:=h.all e ((dn_sub fi L).subset he)
 have h2:=dn_del h.keys e he
 exact ⟨by omega,h1.2.1,h1.2.2⟩
theorem DnOk.put {fi nx m:Int}{N n:Nat}{L:List (Int×Sl tyB 5×Nat)}(h:DnOk fi nx N L n) {y:Sl tyB 5}(hm:fi≤m∧m < nx) (hy:y.l.length≤N) (hn:atG m L=none):DnOk fi nx N (L++[(m,y,n)]) (n + 1):=by
 have hk:∀ e ∈ L,e.1≠m:=by
  clear h
  induction L with
  | nil => intro e he; cases he
  | cons p r ih =>
   rw [atG] at hn
   split at hn
   ·cases hn
   ·rename_i q
    intro e he
    rcases List.mem_cons.1 he with rfl | he
    ·exact fun q2 => q q2.symm
    ·exact ih hn e he
 refine ⟨fun e he => ?_,?_,?_⟩
 ·rcases List.mem_append.1 he with he | he
  ·have:=h.all e he; exact ⟨this.1,this.2.1,this.2.2.1,by omega⟩
  ·rw [List.mem_singleton.1 he]; exact ⟨hm.1,hm.2,hy,Nat.lt_succ_self _⟩
 ·rw [List.map_append,List.nodup_append]
  refine ⟨h.keys,by simp,fun a ha b hb q => ?_⟩
  simp only [List.map_cons,List.map_nil,List.mem_singleton] at hb
  obtain ⟨e,he,rfl⟩:=List.mem_map.1 ha
  exact hk e he (q.trans hb)
 ·rw [List.map_append,List.nodup_append]
  refine ⟨h.stamps,by simp,fun a ha b hb q => ?_⟩
  simp only [List.map_cons,List.map_nil,List.mem_singleton] at hb
  obtain ⟨e,he,rfl⟩:=List.mem_map.1 ha
  have:=(h.all e he).2.2.2
  omega
theorem dnS_del {L:List (Int×Sl tyB 5×Nat)}{i:Int}{y:Sl tyB 5}(h:atG i L=some y):(dnS L).Perm (y.s++dnS (delG i L)):=by
 induction L with
 | nil => cases h
 | cons p r ih =>
  rw [atG] at h
  rw [delG,dnS,List.flatMap_cons]
  split at h
  ·rename_i q; cases h; rw [if_pos q]; exact List.Perm.refl _
  ·rename_i q
   rw [if_neg q]
   refine ((ih h).append_left _).trans ?_
   rw [dnS,dnS,List.flatMap_cons,← List.append_assoc,← List.append_assoc]
   exact List.perm_append_comm.append_right _
theorem dnS_snoc (L:List (Int×Sl tyB 5×Nat)) (e:Int×Sl tyB 5×Nat):dnS (L++[e])=dnS L++e.2.1.s:=by simp [dnS]
theorem flat_move {a:Seg}{Y:List (Sl tyB 5)}{L:List (Int×Sl tyB 5×Nat)}{i:Int}{y:Sl tyB 5}{R:List Seg}(h:atG i L=some y):(a::zas Y::dnS L::R).flatten.Perm (a::zas (Y++[y])::dnS (delG i L)::R).flatten:=by
 simp only [List.flatten_cons,segs_app,List.append_assoc]
 refine List.Perm.append_left _ (List.Perm.append_left _ ?_)
 rw [← List.append_assoc,show zas [y]=y.s from (by simp [zas])]
 exact (dnS_del h).append_right _
theorem del_len {L:List (Int×Sl tyB 5×Nat)}{i:Int}{y:Sl tyB 5}(h:atG i L=some y):(delG i L).length < L.length:=by
 induction L with
 | nil => cases h
 | cons p r ih =>
  rw [atG] at h
  rw [delG]
  split at h
  ·rename_i q; rw [if_pos q]; exact Nat.lt_succ_self _
  ·rename_i q; rw [if_neg q]; exact Nat.succ_lt_succ (ih h)
set_option maxHeartbeats 1000000 in
theorem wdone_ok {w0:World}{base:Nat}{H:List Seg}{wb mb2:Nat}{fi nx:Int}{sl9:Int}{dn:List (Int×Sl tyB 5×Nat)}{dnn N:Nat}{A:Option Addr}{C:Nat}{l:List UInt8}(hw:1≤fi∧fi≤nx∧nx≤fi + 16∧fi≤1000000) (hdn:DnOk fi nx N dn dnn) (hN:N≤1000000) (h:Rd tyB w0 base H A C l) (hl:l.length≤N) :
  SCalls Tryz.prog 245 [B wb,V sl9,.slice A l.length C] w0 base (dnS dn::O3 wb 16 fi nx mb2::[(mb2,mapG kyI tvB dn dnn)]::H) (fun v H' => ∃ (o:Sl tyL 34) (Y:List (Sl tyB 5)) (e9 fi' : Int) (dn' : List (Int×Sl tyB 5×Nat)) (dnn' : Nat),o.l=Y.map Sl.v∧(∀ y ∈ Y,y.l.length≤N)∧DnOk fi' nx N dn' dnn'∧fi≤fi'∧fi'≤nx∧o.l.length≤16∧v = .tuple #[.slice o.A o.l.length o.C,int e9]∧H' = o.s::zas Y::dnS dn'::O3 wb 16 fi' nx mb2::[(mb2,mapG kyI tvB dn' dnn')]::H):=by
 have hle0:=h.le
 have hcap0:=h.cap
 refine SCalls.of_walk (n:=93) Tryz.func245 Z Z Z fun cs => ?_
 refine zc<|za<|AtL.assign zg0 Z Z<|AtL.assign zg0 Z Z<|AtL.done<|zc ?_
 refine At.block<|zc<|za<|zb zg0 Z Z<|AtL.pick (H':=O3 wb 16 fi nx mb2::dnS dn::[(mb2,mapG kyI tvB dn dnn)]::H) [1,0,2] 3 Z Z<|zk zdD zg0 Z Z ze3 ?_
 rintro _ _ ⟨rfl,rfl⟩
 refine AtL.assign zg0 Z Z<|AtL.done<|zB Z<|zc<|za<|zb zg0 Z Z ?_
 refine zb zg0 Z Z<|zf zg0 Z Z<|zd zb9 zg0 Z Z Z<|zh zo zg0 Z Z (Cell.own 0 0 Z Z Z)<|zA zg0 Z Z Z<|zb zg0 Z Z ?_
 refine zy 7 (E':=[(30,.bool (decide (((sl9:Int) < fi)∨(nx≤(sl9:Int))))),(0,B wb),(1,V sl9),(2,.slice A l.length C)]) (fun J => ?_) ?_
 ·refine zD (t:=23) Z ?_ ?_
  ·intro hs23
   refine ze Z Z Z Z Z Z<|ze Z Z Z Z Z Z<|ze Z Z Z Z Z Z<|ze Z Z Z Z Z Z<|ze Z Z Z Z Z Z<|ze Z Z Z Z Z Z ?_
   refine zn zg0 Z Z Z ?_
   exact J _ (by exact ⟨(zw (by clear J; first | (simp [hs23]; done) | (simp_all; done) | grind)),Z,Z,Z,trivial⟩)
  ·intro hs23
   refine zb (.inr ⟨_,_,_,Z,Z,Z,Z⟩) Z Z<|zb (.inr ⟨_,_,_,Z,Z,Z,Z⟩) Z Z<|zf (.inr ⟨_,_,_,Z,Z,Z,Z⟩) Z Z<|zd zdy (.inr ⟨_,_,_,Z,Z,Z,Z⟩) Z Z Z<|zh zo (.inr ⟨_,_,_,Z,Z,Z,Z⟩) Z Z (Cell.own 0 0 Z Z Z)<|zbu (.inr ⟨_,_,_,Z,Z,Z,Z⟩) Z Z Z ?_
   refine zm zg0 Z Z Z ?_
   exact J _ (by exact ⟨(zw (by clear J; first | (simp [hs23]; done) | (simp_all; done) | grind)),Z,Z,Z,trivial⟩)
 ·refine AtL.assign zg0 Z Z<|AtL.done<|zq Z ?_ ?_
  ·intro hc2
   refine zc<|za<|AtL.assign zg0 Z Z<|AtL.assign zg0 Z Z<|AtL.done<|At.nil ?_
   refine At.nil<|At.pick [0,1,3,2,4] 5 Z Z ?_
   exact zt Tryz.func245 Z Z (⟨Sl.nil,[],6,fi,dn,dnn,Z,(fun y h => by cases h),hdn,Int.le_refl _,hw.2.1,by decide,Z,Z⟩)
  ·intro hc2
   refine zj<|zp<|zc<|zc ?_
   rcases hat:atG sl9 dn with _ | y0
   ·refine za<|zb zg0 Z Z<|zf zg0 Z Z<|zd zcB zg0 Z Z Z<|zh zcC zg0 Z Z (Cell.own 0 0 Z Z Z)<|zb zg0 Z Z ?_
    refine zbW (Q:=kyI) (tv:=tvB) (a:=sl9) (v:=.tuple #[optV none,.bool false]) 2 0 Tryz.underlying126 Tryz.underlying3 Z zbn zg0 Z Z Z Z Z (by rw [hat]; rfl)<|zb zg0 Z Z<|AtL.extract zg0 Z Z Z<|AtL.extract zg0 Z Z Z<|AtL.assign zg0 Z Z<|AtL.assign zg0 Z Z ?_
    refine AtL.done<|zc<|za<|zb zg0 Z Z<|AtL.done<|zB Z ?_
    refine zj<|zc ?_
    refine zac (es:=[6,7]) (pv:=[(0,B wb),(1,B wb),(2,.pointer (some ⟨wb,3,none⟩)),(3,.map (some mb2)),(4,V sl9),(5,.slice A l.length C)]) zV (by kernel_rfl) (by kernel_rfl) (by kernel_rfl) ?_
    refine ⟨⟨zpr Z Z Z (zi Z),zpr Z Z Z (zl Z),zpr Z Z Z (zg zcB Z Z),zpr Z Z Z (zu zcC Z (Cell.own 0 0 Z Z Z)),zpr Z Z Z (zi Z),zpr Z Z Z (zi Z),trivial⟩,Z,Z,by kernel_rfl,_,Z,Z,Z,_,zaz zd7 Z (zfu (l:=l) (Rd.skip 3 h) (by first | omega | (simp only [List.length_append,List.length_cons,List.length_nil]; omega) | (simp; done) | (simp; omega))),?_⟩
    rintro _ _ ⟨⟨A1,C2,l3,s4,o5⟩,hx6,rfl,rfl⟩
    obtain rfl:l=l3:=hx6.symm
    refine ⟨[],Z,?_⟩
    refine ⟨⟨zpr Z Z Z (zi Z),zpr Z Z Z (zl Z),zpr Z Z Z (zg zcB Z Z),zpr Z Z Z (zu zcC Z (Cell.own 1 0 Z Z Z)),zpr Z Z Z (zi Z),.inl (by kernel_rfl),trivial⟩,Z,Z,by kernel_rfl,_,Z,Z,Z,_,zi0 (Q:=kyI) (tv:=tvB) (a:=sl9) (v:=⟨A1,C2,l,s4,o5⟩) (H':=s4::O3 wb 16 fi nx mb2::dnS dn::[(mb2,mapG kyI tvB (dn++[(sl9,⟨A1,C2,l,s4,o5⟩,dnn)]) (dnn + 1))]::H) 3 0 Tryz.underlying126 Tryz.underlying3 Z bitsI Z Z Z Z Z (by rw [zix hat,ziw hat]; rfl),?_⟩
    rintro _ _ ⟨rfl,rfl⟩
    refine ⟨[],Z,?_⟩
    refine ⟨⟨.inl (by kernel_rfl),.inl (by kernel_rfl),.inl (by kernel_rfl),.inl (by kernel_rfl),.inl (by kernel_rfl),.inl (by kernel_rfl),trivial⟩,by kernel_rfl,?_⟩
    refine At.mono (E':=[(0,B wb)]) ⟨Z,trivial⟩<|zc<|za<|AtL.assign zg0 Z Z<|AtL.done<|zc ?_
    refine zc ?_
    refine zac (es:=[]) (pv:=[(0,B wb),(1,B wb),(2,.pointer (some ⟨wb,3,none⟩)),(3,.map (some mb2)),(4,B wb),(5,B wb),(6,.pointer (some ⟨wb,1,none⟩)),(7,V fi),(8,.tuple #[optV (atG fi (dn++[(sl9,⟨A1,C2,l,s4,o5⟩,dnn)])),.bool ((atG fi (dn++[(sl9,⟨A1,C2,l,s4,o5⟩,dnn)])).isSome)]),(9,.tuple #[optV (atG fi (dn++[(sl9,⟨A1,C2,l,s4,o5⟩,dnn)])),.bool ((atG fi (dn++[(sl9,⟨A1,C2,l,s4,o5⟩,dnn)])).isSome)]),(10,optV (atG fi (dn++[(sl9,⟨A1,C2,l,s4,o5⟩,dnn)]))),(11,.bool ((atG fi (dn++[(sl9,⟨A1,C2,l,s4,o5⟩,dnn)])).isSome)),(12,optV (atG fi (dn++[(sl9,⟨A1,C2,l,s4,o5⟩,dnn)]))),(13,.bool ((atG fi (dn++[(sl9,⟨A1,C2,l,s4,o5⟩,dnn)])).isSome))]) zV (by kernel_rfl) (by kernel_rfl) (by kernel_rfl) ?_
    refine ⟨⟨zpr Z Z Z (zi Z),zpr Z Z Z (zl Z),zpr Z Z Z (zg zcB Z Z),zpr Z Z Z (zu zcC Z (Cell.own 1 0 Z Z Z)),zpr Z Z Z (zi Z),zpr Z Z Z (zl Z),zpr Z Z Z (zg zb9 Z Z),zpr Z Z Z (zu zo Z (Cell.own 1 0 Z Z Z)),zpr Z Z Z (zdL (Q:=kyI) (tv:=tvB) (a:=fi) (v:=.tuple #[optV (atG fi (dn++[(sl9,⟨A1,C2,l,s4,o5⟩,dnn)])),.bool ((atG fi (dn++[(sl9,⟨A1,C2,l,s4,o5⟩,dnn)])).isSome)]) 3 0 Tryz.underlying126 Tryz.underlying3 Z zbn Z Z Z Z (by cases atG fi (dn++[(sl9,⟨A1,C2,l,s4,o5⟩,dnn)]) <;> rfl)),zpr Z Z Z (zi Z),zpr Z Z Z (Do.extract Z Z),zpr Z Z Z (Do.extract Z Z),zpr Z Z Z (Do.assign Z),zpr Z Z Z (Do.assign Z),trivial⟩,by kernel_rfl,?_⟩
    refine At.mono (E':=[(0,B wb),(10,.slice none 0 0),(11,optV (atG fi (dn++[(sl9,⟨A1,C2,l,s4,o5⟩,dnn)]))),(12,.bool ((atG fi (dn++[(sl9,⟨A1,C2,l,s4,o5⟩,dnn)])).isSome))]) ⟨Z,Z,Z,Z,trivial⟩<|At.block ?_
    obtain ⟨L0,hL0⟩:∃ L0:List (Int×Sl tyB 5×Nat),L0=dn++[(sl9,⟨A1,C2,l,s4,o5⟩,dnn)]:=⟨_,rfl⟩
    have hDn0:DnOk fi nx N L0 (dnn + 1):=by rw [hL0]; exact hdn.put ⟨by omega,by omega⟩ (by dsimp only; omega) hat
    rw [← hL0]
    refine At.pick (H':=s4::dnS dn::O3 wb 16 fi nx mb2::[(mb2,mapG kyI tvB L0 (dnn + 1))]::H) [0,2,1,3] 4 Z Z ?_
    refine At.flat (H':=dnS L0::O3 wb 16 fi nx mb2::[(mb2,mapG kyI tvB L0 (dnn + 1))]::H) (by rw [hL0]; simp only [dnS_snoc,List.flatten_cons]; rw [← List.append_assoc]; exact List.Perm.append_right _ List.perm_append_comm)<|At.nil<|At.nil ?_
    have hn0:N≤1000000:=hN
    refine zfJ (fun (f:Int) (L:List (Int×Sl tyB 5×Nat)) (o2:Sl tyL 34) (Y:List (Sl tyB 5)) => [(0,B wb),(10,.slice o2.A o2.l.length o2.C),(11,optV (atG f L)),(12,.bool ((atG f L).isSome))]) (fun (f:Int) (L:List (Int×Sl tyB 5×Nat)) (o2:Sl tyL 34) (Y:List (Sl tyB 5)) => o2.s::zas Y::dnS L::O3 wb 16 f nx mb2::[(mb2,mapG kyI tvB L (dnn + 1))]::H) (fun (f:Int) (L:List (Int×Sl tyB 5×Nat)) (o2:Sl tyL 34) (Y:List (Sl tyB 5)) => DnOk f nx N L (dnn + 1)∧o2.l=Y.map Sl.v∧(∀ y ∈ Y,y.l.length≤N)∧fi≤f∧f≤nx∧(Y.length:Int) + fi=f) (fun (f:Int) (L:List (Int×Sl tyB 5×Nat)) (o2:Sl tyL 34) (Y:List (Sl tyB 5)) => L.length) fi L0 Sl.nil [] (⟨hDn0,Z,(fun y h => by cases h),Int.le_refl _,hw.2.1,by simp⟩) ⟨Z,Z,Z,Z,trivial⟩ Z ?_
    rintro f L o2 Y ⟨hD,ho2,hYl,hf1,hf2,hYn⟩ ihL1
    have ho2c:=z7 o2.own
    have ho2l:o2.l.length=Y.length:=by rw [ho2,List.length_map]
    refine zc<|zc<|za<|zb zg0 Z Z<|AtL.done<|zae Z ?_ ?_
    ·intro hc4
     have hc4:((atG f L).isSome)=true:=hc4
     obtain ⟨y,hy⟩:=Option.isSome_iff_exists.1 hc4
     rw [hy]
     obtain ⟨n9,hn9⟩:=dn_mem hy
     have hy9:=hD.all _ hn9
     refine zj<|zc<|At.block<|zc<|za<|zb zg0 Z Z ?_
     refine zb zg0 Z Z<|zG (cs:=[.slice y.A y.l.length y.C]) Tryz.underlying22 zbn zaA Z Z zg0 Z Z Z ?_
     intro b13
     refine zaD tyL (l:=([(⟨y.A,y.C,y.l⟩:Bs)]:List Bs)) Z Z (by first | decide | simp) ?_
     intro s14 o15
     refine zam (l:=o2.l) (news:=[(⟨y.A,y.C,y.l⟩:Bs)]) 1 tf_el22 Z o2.own (o15.rd (i:=0) Z) (by first | omega | (simp only [List.length_append,List.length_cons,List.length_nil]; omega) | (simp; done) | (simp; omega)) zg0 Z Z Z ?_
     intro A16 C17 s18 o19
     refine AtL.assign zg0 Z Z<|AtL.done<|zc ?_
     refine zac (es:=[8]) (pv:=[(0,B wb),(1,B wb),(2,.pointer (some ⟨wb,3,none⟩)),(3,.map (some mb2)),(4,B wb),(5,B wb),(6,.pointer (some ⟨wb,1,none⟩)),(7,V f)]) zV (by kernel_rfl) (by kernel_rfl) (by kernel_rfl) ?_
     refine ⟨⟨zpr Z Z Z (zi Z),zpr Z Z Z (zl Z),zpr Z Z Z (zg zcB Z Z),zpr Z Z Z (zu zcC Z (Cell.own 4 0 Z Z Z)),zpr Z Z Z (zi Z),zpr Z Z Z (zl Z),zpr Z Z Z (zg zb9 Z Z),zpr Z Z Z (zu zo Z (Cell.own 4 0 Z Z Z)),trivial⟩,Z,Z,by kernel_rfl,_,Z,Z,Z,_,zih (Q:=kyI) (tv:=tvB) (a:=f) (H':=s14::s18::zas Y::dnS L::O3 wb 16 f nx mb2::[(mb2,mapG kyI tvB (delG f L) (dnn + 1))]::H) 5 0 Tryz.underlying126 Tryz.underlying3 Z Z Z Z Z Z,?_⟩
     rintro _ _ ⟨rfl,rfl⟩
     refine ⟨[],Z,?_⟩
     refine ⟨⟨.inl (by kernel_rfl),.inl (by kernel_rfl),.inl (by kernel_rfl),.inl (by kernel_rfl),.inl (by kernel_rfl),.inl (by kernel_rfl),.inl (by kernel_rfl),.inl (by kernel_rfl),trivial⟩,by kernel_rfl,?_⟩
     refine At.mono (E':=[(0,B wb),(10,.slice A16 (o2.l++[(⟨y.A,y.C,y.l⟩:Bs)]).length C17)]) ⟨Z,Z,trivial⟩<|za<|zb zg0 Z Z<|zf zg0 Z Z<|zd zb9 zg0 Z Z Z<|zh zo zg0 Z Z (Cell.own 4 0 Z Z Z) ?_
     refine AtL.add (z:=f + 1) zg0 Z Z Z (w64 (by omega) (by omega))<|zf zg0 Z Z<|zd zb9 zg0 Z Z Z<|zr (H':=s14::s18::zas Y::dnS L::O3 wb 16 (f + 1) nx mb2::[(mb2,mapG kyI tvB (delG f L) (dnn + 1))]::H) 4 0 zaB zg0 Z Z Z Z Z Z Z Z Z<|AtL.done<|zp ?_
     refine zac (es:=[]) (pv:=[(0,B wb),(1,B wb),(2,.pointer (some ⟨wb,3,none⟩)),(3,.map (some mb2)),(4,B wb),(5,B wb),(6,.pointer (some ⟨wb,1,none⟩)),(7,V (f + 1)),(8,.tuple #[optV (atG (f + 1) (delG f L)),.bool ((atG (f + 1) (delG f L)).isSome)]),(9,.tuple #[optV (atG (f + 1) (delG f L)),.bool ((atG (f + 1) (delG f L)).isSome)]),(10,optV (atG (f + 1) (delG f L))),(11,.bool ((atG (f + 1) (delG f L)).isSome)),(12,optV (atG (f + 1) (delG f L))),(13,.bool ((atG (f + 1) (delG f L)).isSome))]) zV (by kernel_rfl) (by kernel_rfl) (by kernel_rfl) ?_
     refine ⟨⟨zpr Z Z Z (zi Z),zpr Z Z Z (zl Z),zpr Z Z Z (zg zcB Z Z),zpr Z Z Z (zu zcC Z (Cell.own 4 0 Z Z Z)),zpr Z Z Z (zi Z),zpr Z Z Z (zl Z),zpr Z Z Z (zg zb9 Z Z),zpr Z Z Z (zu zo Z (Cell.own 4 0 Z Z Z)),zpr Z Z Z (zdL (Q:=kyI) (tv:=tvB) (a:=f + 1) (v:=.tuple #[optV (atG (f + 1) (delG f L)),.bool ((atG (f + 1) (delG f L)).isSome)]) 5 0 Tryz.underlying126 Tryz.underlying3 Z zbn Z Z Z Z (by cases atG (f + 1) (delG f L) <;> rfl)),zpr Z Z Z (zi Z),zpr Z Z Z (Do.extract Z Z),zpr Z Z Z (Do.extract Z Z),zpr Z Z Z (Do.assign Z),zpr Z Z Z (Do.assign Z),trivial⟩,by kernel_rfl,?_⟩
     refine At.mono (E':=[(0,B wb),(10,.slice A16 (o2.l++[(⟨y.A,y.C,y.l⟩:Bs)]).length C17),(11,optV (atG (f + 1) (delG f L))),(12,.bool ((atG (f + 1) (delG f L)).isSome))]) ⟨Z,Z,Z,Z,trivial⟩<|At.pick (H':=s18::zas Y::dnS L::O3 wb 16 (f + 1) nx mb2::[(mb2,mapG kyI tvB (delG f L) (dnn + 1))]::H) [1,2,3,4,5] 6 Z Z<|At.flat (H':=s18::zas (Y++[y])::dnS (delG f L)::O3 wb 16 (f + 1) nx mb2::[(mb2,mapG kyI tvB (delG f L) (dnn + 1))]::H) (flat_move hy)<|ihL1 (f + 1) (delG f L) (⟨A16,C17,o2.l++[(⟨y.A,y.C,y.l⟩:Bs)],s18,o19⟩) (Y++[y]) (⟨hD.del,by dsimp only; rw [ho2,List.map_append]; rfl,(fun z hz => (List.mem_append.1 hz).elim (hYl z) (fun h9 => by rw [List.mem_singleton.1 h9]; exact hy9.2.2.1)),by omega,by omega,by rw [List.length_append,List.length_singleton]; omega⟩) (del_len hy) _ ?_
     exact ⟨Z,(by first | rfl | exact zaf (by simp []) | exact zah (by omega) | exact zah (by simp []) | exact zaf (by simp []; omega)),(by first | rfl | exact zaf (by simp []) | exact zah (by omega) | exact zah (by simp []) | exact zaf (by simp []; omega)),(by first | rfl | exact zaf (by simp []) | exact zah (by omega) | exact zah (by simp []) | exact zaf (by simp []; omega)),trivial⟩
    ·intro hc4
     have hc4:((atG f L).isSome)=false:=hc4
     refine zau Z<|zc<|za<|zb zg0 Z Z<|AtL.assign zg0 Z Z<|AtL.assign zg0 Z Z ?_
     refine AtL.done ?_
     exact zt Tryz.func245 Z Z (⟨o2,Y,0,f,L,dnn + 1,ho2,hYl,hD,hf1,hf2,by omega,Z,Z⟩)
   ·refine za<|zb zg0 Z Z<|zf zg0 Z Z<|zd zcB zg0 Z Z Z<|zh zcC zg0 Z Z (Cell.own 0 0 Z Z Z)<|zb zg0 Z Z ?_
    refine zbW (Q:=kyI) (tv:=tvB) (a:=sl9) (v:=.tuple #[optV (some y0),.bool true]) 2 0 Tryz.underlying126 Tryz.underlying3 Z zbn zg0 Z Z Z Z Z (by rw [hat]; rfl)<|zb zg0 Z Z<|AtL.extract zg0 Z Z Z<|AtL.extract zg0 Z Z Z<|AtL.assign zg0 Z Z<|AtL.assign zg0 Z Z ?_
    refine AtL.done<|zc<|za<|zb zg0 Z Z<|AtL.done<|zX Z ?_
    refine zc<|za<|AtL.assign zg0 Z Z<|AtL.assign zg0 Z Z<|AtL.done<|At.nil ?_
    refine At.nil<|At.pick [0,1,3,2,4] 5 Z Z ?_
    exact zt Tryz.func245 Z Z (⟨Sl.nil,[],7,fi,dn,dnn,Z,(fun y h => by cases h),hdn,Int.le_refl _,hw.2.1,by decide,Z,Z⟩)
set_option maxRecDepth 100000
set_option maxHeartbeats 2000000 in
theorem push_req {w0:World}{base:Nat}{H:List Seg}{c mb:Nat}{most idle buffer last:Int}{kvs:List (Int×Lk×Nat)}{mn:Nat}{x:Req}{i:Int}(hm:¬ most=0) (hat:atG i kvs=some (.req x)) {now:Int}{ph:Rph}{y:Sl tyB 5}{g:Nat→Value}{kb:List UInt8}{ov:Bool}{A:Option Addr}{C:Nat}{l:List UInt8}(hw:1≤x.first∧x.first≤x.next∧x.next≤x.first + 16∧x.first≤1000000) (hrd:RdOk ph y kb ov) (h:Rd tyB w0 base H A C l) (hT:inT now) (hl7:l.length≤70000) (hcl:x.closing=false) (hbh:¬ 0 < x.behind) (hsz:kb.length + x.ch.y.l.length + l.length≤100000) (T:Tabs w0 base) :
  SCalls Tryz.prog 14 [B c,V i,.slice A l.length C,V now] w0 base (O0 c most idle buffer last mb::[(mb,mapG kyI Lk.v kvs mn)]::O2 x.b x.ch.v x.sd x.client x.wh x.buffer x.wait.A x.wait.l.length x.wait.C false false x.hr x.wb x.last x.behind::O3 x.wb 16 x.first x.next x.mb::x.ch.s::ph.s::y.s::rdC x.hr ph y (.slice none 0 0) g::H) (fun v H' => ∃ (A9:Option Addr) (n9 C9:Nat) (e9:Int) (s9:Seg) (x' : Req) (cl:Bool) (ph' : Rph) (y' : Sl tyB 5) (g' : Nat→Value) (kb' : List UInt8) (ov' : Bool),RdOk ph' y' kb' ov'∧kb'.length + x'.ch.y.l.length≤kb.length + x.ch.y.l.length + l.length∧x'.wh=max x.wh now∧(∃ (ch9:Chn) (wh9 nx9 la9 bh9:Int),x' = (⟨x.b,ch9,x.sd,x.client,wh9,x.buffer,x.wait,false,x.hr,(ph'.s++(y'.s++rdC x.hr ph' y' (.slice none 0 0) g')),x.wb,x.mb,x.first,nx9,x.dn,x.n,la9,bh9⟩:Req))∧(x.next≤x'.next∧x'.next≤x.first + 16)∧v = .tuple #[.slice A9 n9 C9,int e9]∧H' = s9::O0 c most idle buffer last mb::[(mb,mapG kyI Lk.v (if cl=true then delG i kvs else kvs) mn)]::O2 x'.b x'.ch.v x'.sd x'.client x'.wh x'.buffer x'.wait.A x'.wait.l.length x'.wait.C x'.closing cl x'.hr x'.wb x'.last x'.behind::O3 x'.wb 16 x'.first x'.next x'.mb::x'.ch.s::ph'.s::y'.s::rdC x'.hr ph' y' (.slice none 0 0) g'::H):=by
 have hle0:=h.le
 have hcap0:=h.cap
 have hpl:=zbM x.ch.p l
 have hpk:x.ch.p.k=x.ch.y.l:=rfl
 rw [hpk] at hpl
 refine SCalls.of_walk (n:=91) Tryz.func14 Z Z Z fun cs => ?_
 refine zc<|za<|AtL.assign zg0 Z Z<|AtL.assign zg0 Z Z<|AtL.done<|zc ?_
 refine za<|zb zg0 Z Z<|zb zg0 Z Z<|zk zaM zg0 Z Z (zbi (lk:=Lk.req x) i hm hat) ?_
 rintro _ _ ⟨rfl,rfl⟩
 refine zb zg0 Z Z<|AtL.extract zg0 Z Z Z<|AtL.extract zg0 Z Z Z<|AtL.assign zg0 Z Z<|AtL.assign zg0 Z Z<|AtL.done ?_
 refine zc<|zc<|za<|zb zg0 Z Z<|zT zg0 Z Z Z<|AtL.done ?_
 refine zB Z<|zj<|zc<|za<|zb zg0 Z Z<|zZ zaF zg0 Z Z Z (fun w => by kernel_rfl) (zdi (b:=x.b)) ?_
 rintro _ _ ⟨rfl,rfl⟩
 refine AtL.assign zg0 Z Z<|AtL.done<|zc<|At.block<|zc<|za ?_
 refine zb zg0 Z Z<|zk za7 zg0 Z Z (zbL hT) ?_
 rintro _ _ ⟨rfl,rfl⟩
 refine zag zg0 Z Z<|zb zg0 Z Z<|zb (.inr ⟨_,_,_,Z,Z,Z,Z⟩) Z Z<|zC Tryz.underlying34 (.inr ⟨_,_,_,Z,Z,Z,Z⟩) Z Z<|zai (.inr ⟨_,_,_,Z,Z,Z,Z⟩) Z Z Z<|zm zg0 Z Z Z ?_
 refine AtL.assign zg0 Z Z<|AtL.done ?_
 refine zU false Z (decide_eq_false (by omega))<|zc<|za<|zb zg0 Z Z<|zf zg0 Z Z<|zd zaS zg0 Z Z Z ?_
 refine zh zR zg0 Z Z (Cell.own 2 0 Z Z Z)<|zb zg0 Z Z<|zb (.inr ⟨_,_,_,Z,Z,Z,Z⟩) Z Z<|AtL.pick (H':=O2 x.b x.ch.v x.sd x.client x.wh x.buffer x.wait.A x.wait.l.length x.wait.C false false x.hr x.wb x.last x.behind::O0 c most idle buffer last mb::[(mb,mapG kyI Lk.v kvs mn)]::O3 x.wb 16 x.first x.next x.mb::x.ch.s::ph.s::y.s::rdC x.hr ph y (.slice none 0 0) g::H) [2,0,1,3,4,5,6,7] 8 Z Z<|zZ zdE (.inr ⟨_,_,_,Z,Z,Z,Z⟩) Z Z Z (fun w => by kernel_rfl) zfk ?_
 rintro _ _ ⟨rfl,rfl⟩
 refine zm zg0 Z Z Z<|AtL.assign zg0 Z Z<|AtL.done<|zq Z ?_ ?_
 ·intro hc3
  exfalso; omega
 ·intro hc3
  refine zj<|zp<|zc<|za<|zb zg0 Z Z<|zb zg0 Z Z ?_
  refine zb4 Z zg0 Z Z Z<|AtL.done<|zc<|za<|zb zg0 Z Z<|zb zg0 Z Z ?_
  refine zf zg0 Z Z<|zd zb0 zg0 Z Z Z<|zh zo zg0 Z Z (Cell.own 0 0 Z Z Z)<|zb zg0 Z Z ?_
  refine zcZ (z:=max x.wh now) zg0 Z Z Z (by omega)<|zf zg0 Z Z<|zd zb0 zg0 Z Z Z<|zr (H':=O2 x.b x.ch.v x.sd x.client (max x.wh now) x.buffer x.wait.A x.wait.l.length x.wait.C false false x.hr x.wb x.last x.behind::O0 c most idle buffer last mb::[(mb,mapG kyI Lk.v kvs mn)]::O3 x.wb 16 x.first x.next x.mb::x.ch.s::ph.s::y.s::rdC x.hr ph y (.slice none 0 0) g::H) 0 0 zaB zg0 Z Z Z Z Z Z Z Z Z<|AtL.done<|zc ?_
  refine za<|zb zg0 Z Z<|zf zg0 Z Z<|zd zbI zg0 Z Z Z<|zh zcN zg0 Z Z (Cell.own 0 0 Z Z Z)<|zb zg0 Z Z ?_
  refine AtL.pick (H':=x.ch.s::O2 x.b x.ch.v x.sd x.client (max x.wh now) x.buffer x.wait.A x.wait.l.length x.wait.C false false x.hr x.wb x.last x.behind::O0 c most idle buffer last mb::[(mb,mapG kyI Lk.v kvs mn)]::O3 x.wb 16 x.first x.next x.mb::ph.s::y.s::rdC x.hr ph y (.slice none 0 0) g::H) [4,0,1,2,3,5,6,7] 8 Z Z ?_
  refine zZ (zic x.ch) zg0 Z Z Z (zia x.ch) (chn_Push x.ch (l:=l) (Rd.skip 7 h) (by omega)) ?_
  rintro _ _ ⟨t1,ch2,ht3,hp4,hc5,rfl,rfl⟩
  have t1n:t1.l.length≤x.ch.y.l.length + l.length:=by have h9:=zbM x.ch.p l; rw [ht3]; have h8:x.ch.p.k=x.ch.y.l:=rfl; rw [h8] at h9; omega
  try rw [zh8 hp4 hc5]
  refine zb zg0 Z Z<|AtL.extract zg0 Z Z Z<|AtL.extract zg0 Z Z Z<|AtL.assign zg0 Z Z<|AtL.assign zg0 Z Z<|AtL.done ?_
  refine zc<|za<|zb zg0 Z Z<|zb zg0 Z Z<|AtL.pick (H':=O2 x.b ch2.v x.sd x.client (max x.wh now) x.buffer x.wait.A x.wait.l.length x.wait.C false false x.hr x.wb x.last x.behind::O3 x.wb 16 x.first x.next x.mb::ph.s::y.s::rdC x.hr ph y (.slice none 0 0) g::t1.s::ch2.s::O0 c most idle buffer last mb::[(mb,mapG kyI Lk.v kvs mn)]::H) [2,5,6,7,8,0,1,3,4] 9 Z Z ?_
  refine zZ tf_body243 zg0 Z Z Z (fun w => by kernel_rfl) (qreads_ok (l:=t1.l) hw hrd (t1.own.rd (i:=0) Z) (by omega) T) ?_
  rintro _ _ ⟨A6,n7,C8,e9,s10,la11,bh12,nx13,ph14,y15,g16,kb17,ov18,hrd19,hkb20,hnx21,rfl,rfl⟩
  refine zb zg0 Z Z<|AtL.extract zg0 Z Z Z<|AtL.extract zg0 Z Z Z<|AtL.assign zg0 Z Z<|AtL.assign zg0 Z Z<|AtL.done ?_
  refine zc<|zc<|za<|zb zg0 Z Z<|zT zg0 Z Z Z<|zb zg0 Z Z ?_
  refine zy 3 (E':=[(76,.bool (decide ((¬ (((x.ch.p.push l).2.1:Int)=0))∧((e9:Int)=0)))),(12,B x.b),(14,.slice A6 n7 C8),(15,V e9)]) (fun J => ?_) ?_
  ·refine zY (t:=73) Z ?_ ?_
   ·intro hs73
    have hs73:¬ (((x.ch.p.push l).2.1:Int)=0):=of_decide_eq_false (zO hs73)
    refine zb (.inr ⟨_,_,_,Z,Z,Z,Z⟩) Z Z<|zW (.inr ⟨_,_,_,Z,Z,Z,Z⟩) Z Z Z<|zn zg0 Z Z Z ?_
    exact J _ (by exact ⟨(zw (by clear J; first | (simp [hs73]; done) | (simp_all; done) | grind)),Z,Z,Z,trivial⟩)
   ·intro hs73
    have hs73:((x.ch.p.push l).2.1:Int)=0:=of_decide_eq_true (zJ hs73)
    refine ze Z Z Z Z Z Z<|ze Z Z Z Z Z Z<|zm zg0 Z Z Z ?_
    exact J _ (by exact ⟨(zw (by clear J; first | (simp [hs73]; done) | (simp_all; done) | grind)),Z,Z,Z,trivial⟩)
  ·refine AtL.done<|zq Z ?_ ?_
   ·intro hc4
    refine za<|AtL.assign zg0 Z Z<|AtL.done<|zc<|zc<|za ?_
    refine zb zg0 Z Z<|zT zg0 Z Z Z<|zb zg0 Z Z<|ze Z Z Z Z Z Z<|ze Z Z Z Z Z Z<|ze Z Z Z Z Z Z ?_
    refine ze Z Z Z Z Z Z<|ze Z Z Z Z Z Z<|zn zg0 Z Z Z<|AtL.done<|zX Z<|za ?_
    refine zb zg0 Z Z<|zf zg0 Z Z<|zd zaw zg0 Z Z Z<|zr (H':=s10::O2 x.b ch2.v x.sd x.client (max x.wh now) x.buffer x.wait.A x.wait.l.length x.wait.C false true x.hr x.wb la11 bh12::O3 x.wb 16 x.first nx13 x.mb::ph14.s::y15.s::rdC x.hr ph14 y15 (.slice none 0 0) g16::t1.s::ch2.s::O0 c most idle buffer last mb::[(mb,mapG kyI Lk.v kvs mn)]::H) 1 0 za0 zg0 Z Z Z Z Z Z Z Z Z<|AtL.done<|zc ?_
    refine za<|zb zg0 Z Z<|zb zg0 Z Z<|AtL.assign zg0 Z Z<|AtL.assign zg0 Z Z<|AtL.done ?_
    refine zaJ Z<|Un.pick (H':=O0 c most idle buffer last mb::[(mb,mapG kyI Lk.v kvs mn)]::O2 x.b ch2.v x.sd x.client (max x.wh now) x.buffer x.wait.A x.wait.l.length x.wait.C false true x.hr x.wb la11 bh12::s10::O3 x.wb 16 x.first nx13 x.mb::ph14.s::y15.s::rdC x.hr ph14 y15 (.slice none 0 0) g16::t1.s::ch2.s::H) [8,9,1,0,2,3,4,5,6,7] 10 Z Z<|zaH zav Z Z (zbc (cl:=true) (kvs:=kvs) i hat) ?_
    rintro _ _ ⟨rfl,rfl⟩
    exact zap (vs:=[.slice A6 n7 C8,V 4]) [3,0,1,2,4,9,5,6,7] 10 Z Z Tryz.func14 Z ⟨Z,Z,trivial⟩ (⟨A6,n7,C8,4,s10,(⟨x.b,ch2,x.sd,x.client,max x.wh now,x.buffer,x.wait,false,x.hr,(ph14.s++(y15.s++rdC x.hr ph14 y15 (.slice none 0 0) g16)),x.wb,x.mb,x.first,nx13,x.dn,x.n,la11,bh12⟩:Req),true,ph14,y15,g16,kb17,ov18,hrd19,by have h9:=zbM x.ch.p l; rw [← hp4,← ht3] at h9; have h8:x.ch.p.k=x.ch.y.l:=Z; have h7:ch2.p.k=ch2.y.l:=Z; rw [h8,h7] at h9; dsimp only; omega,Z,⟨ch2,max x.wh now,nx13,la11,bh12,Z⟩,hnx21,Z,Z⟩)
   ·intro hc4
    refine zj<|zc<|zc<|za<|zb zg0 Z Z<|zT zg0 Z Z Z ?_
    refine zb zg0 Z Z<|zy 6 (E':=[(85,.bool (decide ((¬ ((e9:Int)=0))∨(ch2.p.ended=true)))),(12,B x.b),(14,.slice A6 n7 C8),(15,V e9)]) (fun J => ?_) ?_
    ·refine zY (t:=79) Z ?_ ?_
     ·intro hs79
      have hs79:¬ ((e9:Int)=0):=of_decide_eq_false (zO hs79)
      refine ze Z Z Z Z Z Z<|ze Z Z Z Z Z Z<|ze Z Z Z Z Z Z<|ze Z Z Z Z Z Z<|ze Z Z Z Z Z Z<|zn zg0 Z Z Z ?_
      exact J _ (by exact ⟨(zw (by clear J; first | (simp [hs79]; done) | (simp_all; done) | grind)),Z,Z,Z,trivial⟩)
     ·intro hs79
      have hs79:(e9:Int)=0:=of_decide_eq_true (zJ hs79)
      refine zb (.inr ⟨_,_,_,Z,Z,Z,Z⟩) Z Z<|zf (.inr ⟨_,_,_,Z,Z,Z,Z⟩) Z Z<|zd zbI (.inr ⟨_,_,_,Z,Z,Z,Z⟩) Z Z Z<|zh zcN (.inr ⟨_,_,_,Z,Z,Z,Z⟩) Z Z (Cell.own 1 0 Z Z Z)<|AtL.pick (H':=ch2.s::s10::O2 x.b ch2.v x.sd x.client (max x.wh now) x.buffer x.wait.A x.wait.l.length x.wait.C false false x.hr x.wb la11 bh12::O3 x.wb 16 x.first nx13 x.mb::ph14.s::y15.s::rdC x.hr ph14 y15 (.slice none 0 0) g16::t1.s::O0 c most idle buffer last mb::[(mb,mapG kyI Lk.v kvs mn)]::H) [7,0,1,2,3,4,5,6,8,9] 10 Z Z<|zZ (zg8 ch2) (.inr ⟨_,_,_,Z,Z,Z,Z⟩) Z Z Z (zg5 ch2) (zj5 ch2) ?_
      rintro _ _ ⟨rfl,rfl⟩
      refine zm zg0 Z Z Z<|AtL.pick (H':=s10::O2 x.b ch2.v x.sd x.client (max x.wh now) x.buffer x.wait.A x.wait.l.length x.wait.C false false x.hr x.wb la11 bh12::O3 x.wb 16 x.first nx13 x.mb::ph14.s::y15.s::rdC x.hr ph14 y15 (.slice none 0 0) g16::t1.s::ch2.s::O0 c most idle buffer last mb::[(mb,mapG kyI Lk.v kvs mn)]::H) [1,2,3,4,5,6,7,0,8,9] 10 Z Z ?_
      exact J _ (by exact ⟨(zw (by clear J; first | (simp [hs79]; done) | (simp_all; done) | grind)),Z,Z,Z,trivial⟩)
    ·refine AtL.done<|zq Z ?_ ?_
     ·intro hc5
      refine za<|zb zg0 Z Z<|zf zg0 Z Z<|zd zaw zg0 Z Z Z<|zr (H':=s10::O2 x.b ch2.v x.sd x.client (max x.wh now) x.buffer x.wait.A x.wait.l.length x.wait.C false true x.hr x.wb la11 bh12::O3 x.wb 16 x.first nx13 x.mb::ph14.s::y15.s::rdC x.hr ph14 y15 (.slice none 0 0) g16::t1.s::ch2.s::O0 c most idle buffer last mb::[(mb,mapG kyI Lk.v kvs mn)]::H) 1 0 za0 zg0 Z Z Z Z Z Z Z Z Z<|AtL.done ?_
      refine zc<|za<|zb zg0 Z Z<|zb zg0 Z Z<|AtL.assign zg0 Z Z<|AtL.assign zg0 Z Z ?_
      refine AtL.done<|zaJ Z<|Un.pick (H':=O0 c most idle buffer last mb::[(mb,mapG kyI Lk.v kvs mn)]::O2 x.b ch2.v x.sd x.client (max x.wh now) x.buffer x.wait.A x.wait.l.length x.wait.C false true x.hr x.wb la11 bh12::s10::O3 x.wb 16 x.first nx13 x.mb::ph14.s::y15.s::rdC x.hr ph14 y15 (.slice none 0 0) g16::t1.s::ch2.s::H) [8,9,1,0,2,3,4,5,6,7] 10 Z Z<|zaH zav Z Z (zbc (cl:=true) (kvs:=kvs) i hat) ?_
      rintro _ _ ⟨rfl,rfl⟩
      exact zap (vs:=[.slice A6 n7 C8,V e9]) [3,0,1,2,4,9,5,6,7] 10 Z Z Tryz.func14 Z ⟨Z,Z,trivial⟩ (⟨A6,n7,C8,e9,s10,(⟨x.b,ch2,x.sd,x.client,max x.wh now,x.buffer,x.wait,false,x.hr,(ph14.s++(y15.s++rdC x.hr ph14 y15 (.slice none 0 0) g16)),x.wb,x.mb,x.first,nx13,x.dn,x.n,la11,bh12⟩:Req),true,ph14,y15,g16,kb17,ov18,hrd19,by have h9:=zbM x.ch.p l; rw [← hp4,← ht3] at h9; have h8:x.ch.p.k=x.ch.y.l:=Z; have h7:ch2.p.k=ch2.y.l:=Z; rw [h8,h7] at h9; dsimp only; omega,Z,⟨ch2,max x.wh now,nx13,la11,bh12,Z⟩,hnx21,Z,Z⟩)
     ·intro hc5
      refine zj<|zc<|za<|zb zg0 Z Z<|zb zg0 Z Z<|AtL.assign zg0 Z Z ?_
      refine AtL.assign zg0 Z Z<|AtL.done<|zaJ Z<|Un.pick (H':=O0 c most idle buffer last mb::[(mb,mapG kyI Lk.v kvs mn)]::O2 x.b ch2.v x.sd x.client (max x.wh now) x.buffer x.wait.A x.wait.l.length x.wait.C false false x.hr x.wb la11 bh12::s10::O3 x.wb 16 x.first nx13 x.mb::ph14.s::y15.s::rdC x.hr ph14 y15 (.slice none 0 0) g16::t1.s::ch2.s::H) [8,9,1,0,2,3,4,5,6,7] 10 Z Z<|zaH zav Z Z (zbc (cl:=false) (kvs:=kvs) i hat) ?_
      rintro _ _ ⟨rfl,rfl⟩
      exact zap (vs:=[.slice A6 n7 C8,V e9]) [3,0,1,2,4,9,5,6,7] 10 Z Z Tryz.func14 Z ⟨Z,Z,trivial⟩ (⟨A6,n7,C8,e9,s10,(⟨x.b,ch2,x.sd,x.client,max x.wh now,x.buffer,x.wait,false,x.hr,(ph14.s++(y15.s++rdC x.hr ph14 y15 (.slice none 0 0) g16)),x.wb,x.mb,x.first,nx13,x.dn,x.n,la11,bh12⟩:Req),false,ph14,y15,g16,kb17,ov18,hrd19,by have h9:=zbM x.ch.p l; rw [← hp4,← ht3] at h9; have h8:x.ch.p.k=x.ch.y.l:=Z; have h7:ch2.p.k=ch2.y.l:=Z; rw [h8,h7] at h9; dsimp only; omega,Z,⟨ch2,max x.wh now,nx13,la11,bh12,Z⟩,hnx21,Z,Z⟩)
set_option maxRecDepth 100000
set_option maxHeartbeats 1000000 in
theorem take_req {w0:World}{base:Nat}{H:List Seg}{c mb:Nat}{most idle buffer last:Int}{kvs:List (Int×Lk×Nat)}{mn:Nat}{x:Req}{i:Int}(hm:¬ most=0) (hat:atG i kvs=some (.req x)) {now:Int}(m:Nat) (hT:inT now) (hw:x.wait.l.length≤1073741824) :
  SCalls Tryz.prog 16 [B c,V i,V (m:Int),V now] w0 base (O0 c most idle buffer last mb::[(mb,mapG kyI Lk.v kvs mn)]::O2 x.b x.ch.v x.sd x.client x.wh x.buffer x.wait.A x.wait.l.length x.wait.C x.closing false x.hr x.wb x.last x.behind::x.wait.s::H) (fun v H' => ∃ (o wt:Sl tyB 5) (wh9:Int) (cl:Bool),o.l=x.wait.l.take m∧wt.l.length≤x.wait.l.length∧(wh9=x.wh∨wh9=max x.wh now)∧v = .tuple #[.slice o.A o.l.length o.C,int 0]∧H' = o.s::O0 c most idle buffer last mb::[(mb,mapG kyI Lk.v (if cl=true then delG i kvs else kvs) mn)]::[((⟨x.b,x.ch,x.sd,x.client,wh9,x.buffer,wt,x.closing,x.hr,x.hs,x.wb,x.mb,x.first,x.next,x.dn,x.n,x.last,x.behind⟩:Req).b,.cells #[((⟨x.b,x.ch,x.sd,x.client,wh9,x.buffer,wt,x.closing,x.hr,x.hs,x.wb,x.mb,x.first,x.next,x.dn,x.n,x.last,x.behind⟩:Req).ch).v,.bool ((⟨x.b,x.ch,x.sd,x.client,wh9,x.buffer,wt,x.closing,x.hr,x.hs,x.wb,x.mb,x.first,x.next,x.dn,x.n,x.last,x.behind⟩:Req).sd),V ((⟨x.b,x.ch,x.sd,x.client,wh9,x.buffer,wt,x.closing,x.hr,x.hs,x.wb,x.mb,x.first,x.next,x.dn,x.n,x.last,x.behind⟩:Req).client),V ((⟨x.b,x.ch,x.sd,x.client,wh9,x.buffer,wt,x.closing,x.hr,x.hs,x.wb,x.mb,x.first,x.next,x.dn,x.n,x.last,x.behind⟩:Req).wh),V ((⟨x.b,x.ch,x.sd,x.client,wh9,x.buffer,wt,x.closing,x.hr,x.hs,x.wb,x.mb,x.first,x.next,x.dn,x.n,x.last,x.behind⟩:Req).buffer),.slice ((⟨x.b,x.ch,x.sd,x.client,wh9,x.buffer,wt,x.closing,x.hr,x.hs,x.wb,x.mb,x.first,x.next,x.dn,x.n,x.last,x.behind⟩:Req).wait.A) ((⟨x.b,x.ch,x.sd,x.client,wh9,x.buffer,wt,x.closing,x.hr,x.hs,x.wb,x.mb,x.first,x.next,x.dn,x.n,x.last,x.behind⟩:Req).wait.l).length ((⟨x.b,x.ch,x.sd,x.client,wh9,x.buffer,wt,x.closing,x.hr,x.hs,x.wb,x.mb,x.first,x.next,x.dn,x.n,x.last,x.behind⟩:Req).wait.C),.bool ((⟨x.b,x.ch,x.sd,x.client,wh9,x.buffer,wt,x.closing,x.hr,x.hs,x.wb,x.mb,x.first,x.next,x.dn,x.n,x.last,x.behind⟩:Req).closing),.bool cl,.pointer (some ⟨(⟨x.b,x.ch,x.sd,x.client,wh9,x.buffer,wt,x.closing,x.hr,x.hs,x.wb,x.mb,x.first,x.next,x.dn,x.n,x.last,x.behind⟩:Req).hr,0,none⟩),.pointer (some ⟨(⟨x.b,x.ch,x.sd,x.client,wh9,x.buffer,wt,x.closing,x.hr,x.hs,x.wb,x.mb,x.first,x.next,x.dn,x.n,x.last,x.behind⟩:Req).wb,0,none⟩),V ((⟨x.b,x.ch,x.sd,x.client,wh9,x.buffer,wt,x.closing,x.hr,x.hs,x.wb,x.mb,x.first,x.next,x.dn,x.n,x.last,x.behind⟩:Req).last),V ((⟨x.b,x.ch,x.sd,x.client,wh9,x.buffer,wt,x.closing,x.hr,x.hs,x.wb,x.mb,x.first,x.next,x.dn,x.n,x.last,x.behind⟩:Req).behind)] 116 (0,0))]::wt.s::H):=by
 have hcw:=z7 x.wait.own
 refine SCalls.of_walk (n:=87) Tryz.func16 Z Z Z fun cs => ?_
 refine zc<|za<|AtL.assign zg0 Z Z<|AtL.assign zg0 Z Z<|AtL.done<|zc ?_
 refine za<|zb zg0 Z Z<|zb zg0 Z Z<|zk zaM zg0 Z Z (zbi (lk:=Lk.req x) i hm hat) ?_
 rintro _ _ ⟨rfl,rfl⟩
 refine zb zg0 Z Z<|AtL.extract zg0 Z Z Z<|AtL.extract zg0 Z Z Z<|AtL.assign zg0 Z Z<|AtL.assign zg0 Z Z<|AtL.done ?_
 refine zc<|At.block<|zc<|za<|zb zg0 Z Z<|zT zg0 Z Z Z ?_
 refine AtL.assign zg0 Z Z<|AtL.done<|zB Z<|zc<|za<|zb zg0 Z Z ?_
 refine zA zg0 Z Z Z<|zb zg0 Z Z<|zy 4 (E':=[(32,.bool (decide ((m:Int) < 0))),(0,B c),(1,V i),(2,V (m:Int)),(3,V now),(10,.iface 112 (B x.b))]) (fun J => ?_) ?_
 ·refine zD (t:=28) Z ?_ ?_
  ·intro hs28
   refine ze Z Z Z Z Z Z<|ze Z Z Z Z Z Z<|ze Z Z Z Z Z Z<|zn zg0 Z Z Z ?_
   exact J _ (by exact ⟨(zw (by clear J; first | (simp [hs28]; done) | (simp_all; done) | grind)),Z,Z,Z,Z,Z,trivial⟩)
  ·intro hs28
   refine zb (.inr ⟨_,_,_,Z,Z,Z,Z⟩) Z Z<|zk za7 (.inr ⟨_,_,_,Z,Z,Z,Z⟩) Z Z (zbL hT) ?_
   rintro _ _ ⟨rfl,rfl⟩
   refine zag (.inr ⟨_,_,_,Z,Z,Z,Z⟩) Z Z<|zm zg0 Z Z Z ?_
   exact J _ (by exact ⟨(zw (by clear J; first | (simp [hs28]; done) | (simp_all; done) | grind)),Z,Z,Z,Z,Z,trivial⟩)
 ·refine AtL.assign zg0 Z Z<|AtL.done<|zq Z ?_ ?_
  ·intro hc2
   exfalso; omega
  ·intro hc2
   refine zj<|zp<|zc<|za<|zb zg0 Z Z<|zb zg0 Z Z ?_
   refine zb4 Z zg0 Z Z Z<|AtL.done<|zc<|za<|zb zg0 Z Z<|zZ zaF zg0 Z Z Z (fun w => by kernel_rfl) (zdi (b:=x.b)) ?_
   rintro _ _ ⟨rfl,rfl⟩
   refine AtL.assign zg0 Z Z<|AtL.done<|zc<|za<|zb zg0 Z Z<|zb zg0 Z Z ?_
   refine zf zg0 Z Z<|zd zaq zg0 Z Z Z<|zh zE zg0 Z Z (Cell.own 2 0 Z Z Z)<|zC Tryz.underlying34 zg0 Z Z ?_
   refine AtL.minZ (z:=((min m x.wait.l.length:Nat):Int)) zg0 Z Z Z (by omega)<|AtL.assign zg0 Z Z<|AtL.done<|zc<|za<|zb zg0 Z Z ?_
   refine zf zg0 Z Z<|zd zaq zg0 Z Z Z<|zh zE zg0 Z Z (Cell.own 2 0 Z Z Z)<|zb zg0 Z Z ?_
   have hleo3:=zab x.wait.own
   refine zbN 0 (min m x.wait.l.length:Nat) x.wait.C x.wait.own Z (zI Z Z) Z (by intro h; cases h) (by omega) (by omega) (by omega) (Nat.le_refl _) Tryz.underlying34 zQ zg0 Z Z ?_
   intro A1 C2 o3
   clear hleo3
   have hlo3:(subl x.wait.l 0 (min m x.wait.l.length:Nat)).length=(min m x.wait.l.length:Nat) - 0:=zP (by omega)
   refine zk zd7 zg0 Z Z (zfu (l:=subl x.wait.l 0 (min m x.wait.l.length:Nat)) (o3.rd (i:=3) Z) (by first | omega | (simp only [List.length_append,List.length_cons,List.length_nil]; omega) | (simp; done) | (simp; omega))) ?_
   rintro _ _ ⟨⟨A4,C5,l6,s7,o8⟩,hx9,rfl,rfl⟩
   obtain rfl:subl x.wait.l 0 (min m x.wait.l.length:Nat)=l6:=hx9.symm
   refine AtL.assign zg0 Z Z<|AtL.done<|zc<|za<|zb zg0 Z Z<|zb zg0 Z Z ?_
   refine zf zg0 Z Z<|zd zaq zg0 Z Z Z<|zh zE zg0 Z Z (Cell.own 3 0 Z Z Z)<|zb zg0 Z Z ?_
   have hleo12:=zab x.wait.own
   refine zbN (min m x.wait.l.length:Nat) x.wait.l.length x.wait.C x.wait.own (zI Z Z) Z Z (by intro h; cases h) (by omega) (by omega) (by omega) (Nat.le_refl _) Tryz.underlying34 zQ zg0 Z Z ?_
   intro A10 C11 o12
   clear hleo12
   have hlo12:(subl x.wait.l (min m x.wait.l.length:Nat) x.wait.l.length).length=x.wait.l.length - (min m x.wait.l.length:Nat):=zP (by omega)
   refine zf zg0 Z Z<|zd zaq zg0 Z Z Z<|zr (H':=s7::O0 c most idle buffer last mb::[(mb,mapG kyI Lk.v kvs mn)]::[(x.b,.cells #[x.ch.v,.bool x.sd,V x.client,V x.wh,V x.buffer,.slice A10 (subl x.wait.l (min m x.wait.l.length:Nat) x.wait.l.length).length C11,.bool x.closing,.bool false,B x.hr,B x.wb,V x.last,V x.behind] 116 (0,0))]::x.wait.s::H) 3 0 zaA zg0 Z Z Z Z Z Z Z Z Z<|AtL.done<|zc<|zc ?_
   refine za<|zb zg0 Z Z<|zai zg0 Z Z Z<|AtL.done<|zq Z ?_ ?_
   ·intro hc3
    refine za<|zb zg0 Z Z<|zb zg0 Z Z<|zf zg0 Z Z<|zd zb0 zg0 Z Z Z<|zh zo zg0 Z Z (Cell.own 3 0 Z Z Z) ?_
    refine zb zg0 Z Z ?_
    refine zcZ (z:=max x.wh now) zg0 Z Z Z (by omega)<|zf zg0 Z Z<|zd zb0 zg0 Z Z Z<|zr (H':=s7::O0 c most idle buffer last mb::[(mb,mapG kyI Lk.v kvs mn)]::[(x.b,.cells #[x.ch.v,.bool x.sd,V x.client,V (max x.wh now),V x.buffer,.slice A10 (subl x.wait.l (min m x.wait.l.length:Nat) x.wait.l.length).length C11,.bool x.closing,.bool false,B x.hr,B x.wb,V x.last,V x.behind] 116 (0,0))]::x.wait.s::H) 3 0 zaB zg0 Z Z Z Z Z Z Z Z Z<|AtL.done<|zc ?_
    refine zc<|za<|zb zg0 Z Z<|zf zg0 Z Z<|zd zaS zg0 Z Z Z<|zh zR zg0 Z Z (Cell.own 3 0 Z Z Z) ?_
    refine zb zg0 Z Z<|zy 7 (E':=[(82,.bool (decide ((x.closing=true)∧(((subl x.wait.l (min m x.wait.l.length:Nat) x.wait.l.length).length:Int)=0)))),(12,B x.b),(14,.slice A4 (subl x.wait.l 0 (min m x.wait.l.length:Nat)).length C5)]) (fun J => ?_) ?_
    ·refine zY (t:=75) Z ?_ ?_
     ·intro hs75
      have hs75:x.closing=true:=hs75
      refine zb (.inr ⟨_,_,_,Z,Z,Z,Z⟩) Z Z<|zf (.inr ⟨_,_,_,Z,Z,Z,Z⟩) Z Z<|zd zaq (.inr ⟨_,_,_,Z,Z,Z,Z⟩) Z Z Z<|zh zE (.inr ⟨_,_,_,Z,Z,Z,Z⟩) Z Z (Cell.own 3 0 Z Z Z)<|zC Tryz.underlying34 (.inr ⟨_,_,_,Z,Z,Z,Z⟩) Z Z<|zW (.inr ⟨_,_,_,Z,Z,Z,Z⟩) Z Z Z ?_
      refine zn zg0 Z Z Z ?_
      exact J _ (by exact ⟨(zw (by clear J; first | (simp [hs75]; done) | (simp_all; done) | grind)),Z,Z,trivial⟩)
     ·intro hs75
      have hs75:x.closing=false:=hs75
      refine ze Z Z Z Z Z Z<|ze Z Z Z Z Z Z<|ze Z Z Z Z Z Z<|ze Z Z Z Z Z Z<|ze Z Z Z Z Z Z<|ze Z Z Z Z Z Z ?_
      refine zm zg0 Z Z Z ?_
      exact J _ (by exact ⟨(zw (by clear J; first | (simp [hs75]; done) | (simp_all; done) | grind)),Z,Z,trivial⟩)
    ·refine AtL.done<|zq Z ?_ ?_
     ·intro hc4
      refine za<|zb zg0 Z Z<|zf zg0 Z Z<|zd zaw zg0 Z Z Z<|zr (H':=s7::O0 c most idle buffer last mb::[(mb,mapG kyI Lk.v kvs mn)]::[(x.b,.cells #[x.ch.v,.bool x.sd,V x.client,V (max x.wh now),V x.buffer,.slice A10 (subl x.wait.l (min m x.wait.l.length:Nat) x.wait.l.length).length C11,.bool x.closing,.bool true,B x.hr,B x.wb,V x.last,V x.behind] 116 (0,0))]::x.wait.s::H) 3 0 za0 zg0 Z Z Z Z Z Z Z Z Z<|AtL.done ?_
      refine zc<|za<|zb zg0 Z Z<|AtL.assign zg0 Z Z<|AtL.assign zg0 Z Z<|AtL.done ?_
      refine zaJ Z<|Un.pick (H':=O0 c most idle buffer last mb::[(mb,mapG kyI Lk.v kvs mn)]::[(x.b,.cells #[x.ch.v,.bool x.sd,V x.client,V (max x.wh now),V x.buffer,.slice A10 (subl x.wait.l (min m x.wait.l.length:Nat) x.wait.l.length).length C11,.bool x.closing,.bool true,B x.hr,B x.wb,V x.last,V x.behind] 116 (0,0))]::s7::x.wait.s::H) [1,2,3,0,4] 5 Z Z<|zaH zav Z Z (zbc (cl:=true) (kvs:=kvs) i hat) ?_
      rintro _ _ ⟨rfl,rfl⟩
      exact zap (vs:=[.slice A4 (subl x.wait.l 0 (min m x.wait.l.length:Nat)).length C5,V 0]) [3,0,1,2,4] 5 Z Z Tryz.func16 Z ⟨Z,Z,trivial⟩ (⟨⟨A4,C5,subl x.wait.l 0 (min m x.wait.l.length:Nat),s7,o8⟩,⟨A10,C11,subl x.wait.l (min m x.wait.l.length:Nat) x.wait.l.length,x.wait.s,o12⟩,max x.wh now,true,(by show subl x.wait.l 0 (min m x.wait.l.length)=x.wait.l.take m; rw [zcp,zdl]),(by show (subl x.wait.l (min m x.wait.l.length) x.wait.l.length).length≤_; rw [za1,List.length_drop]; omega),.inr Z,Z,Z⟩)
     ·intro hc4
      refine zj<|zc<|za<|zb zg0 Z Z<|AtL.assign zg0 Z Z<|AtL.assign zg0 Z Z ?_
      refine AtL.done<|zaJ Z<|Un.pick (H':=O0 c most idle buffer last mb::[(mb,mapG kyI Lk.v kvs mn)]::[(x.b,.cells #[x.ch.v,.bool x.sd,V x.client,V (max x.wh now),V x.buffer,.slice A10 (subl x.wait.l (min m x.wait.l.length:Nat) x.wait.l.length).length C11,.bool x.closing,.bool false,B x.hr,B x.wb,V x.last,V x.behind] 116 (0,0))]::s7::x.wait.s::H) [1,2,3,0,4] 5 Z Z<|zaH zav Z Z (zbc (cl:=false) (kvs:=kvs) i hat) ?_
      rintro _ _ ⟨rfl,rfl⟩
      exact zap (vs:=[.slice A4 (subl x.wait.l 0 (min m x.wait.l.length:Nat)).length C5,V 0]) [3,0,1,2,4] 5 Z Z Tryz.func16 Z ⟨Z,Z,trivial⟩ (⟨⟨A4,C5,subl x.wait.l 0 (min m x.wait.l.length:Nat),s7,o8⟩,⟨A10,C11,subl x.wait.l (min m x.wait.l.length:Nat) x.wait.l.length,x.wait.s,o12⟩,max x.wh now,false,(by show subl x.wait.l 0 (min m x.wait.l.length)=x.wait.l.take m; rw [zcp,zdl]),(by show (subl x.wait.l (min m x.wait.l.length) x.wait.l.length).length≤_; rw [za1,List.length_drop]; omega),.inr Z,Z,Z⟩)
   ·intro hc3
    refine zj<|zc<|zc<|za<|zb zg0 Z Z<|zf zg0 Z Z ?_
    refine zd zaS zg0 Z Z Z<|zh zR zg0 Z Z (Cell.own 3 0 Z Z Z)<|zb zg0 Z Z<|zy 7 (E':=[(82,.bool (decide ((x.closing=true)∧(((subl x.wait.l (min m x.wait.l.length:Nat) x.wait.l.length).length:Int)=0)))),(12,B x.b),(14,.slice A4 (subl x.wait.l 0 (min m x.wait.l.length:Nat)).length C5)]) (fun J => ?_) ?_
    ·refine zY (t:=75) Z ?_ ?_
     ·intro hs75
      have hs75:x.closing=true:=hs75
      refine zb (.inr ⟨_,_,_,Z,Z,Z,Z⟩) Z Z<|zf (.inr ⟨_,_,_,Z,Z,Z,Z⟩) Z Z<|zd zaq (.inr ⟨_,_,_,Z,Z,Z,Z⟩) Z Z Z<|zh zE (.inr ⟨_,_,_,Z,Z,Z,Z⟩) Z Z (Cell.own 3 0 Z Z Z)<|zC Tryz.underlying34 (.inr ⟨_,_,_,Z,Z,Z,Z⟩) Z Z<|zW (.inr ⟨_,_,_,Z,Z,Z,Z⟩) Z Z Z ?_
      refine zn zg0 Z Z Z ?_
      exact J _ (by exact ⟨(zw (by clear J; first | (simp [hs75]; done) | (simp_all; done) | grind)),Z,Z,trivial⟩)
     ·intro hs75
      have hs75:x.closing=false:=hs75
      refine ze Z Z Z Z Z Z<|ze Z Z Z Z Z Z<|ze Z Z Z Z Z Z<|ze Z Z Z Z Z Z<|ze Z Z Z Z Z Z<|ze Z Z Z Z Z Z ?_
      refine zm zg0 Z Z Z ?_
      exact J _ (by exact ⟨(zw (by clear J; first | (simp [hs75]; done) | (simp_all; done) | grind)),Z,Z,trivial⟩)
    ·refine AtL.done<|zq Z ?_ ?_
     ·intro hc4
      refine za<|zb zg0 Z Z<|zf zg0 Z Z<|zd zaw zg0 Z Z Z<|zr (H':=s7::O0 c most idle buffer last mb::[(mb,mapG kyI Lk.v kvs mn)]::[(x.b,.cells #[x.ch.v,.bool x.sd,V x.client,V x.wh,V x.buffer,.slice A10 (subl x.wait.l (min m x.wait.l.length:Nat) x.wait.l.length).length C11,.bool x.closing,.bool true,B x.hr,B x.wb,V x.last,V x.behind] 116 (0,0))]::x.wait.s::H) 3 0 za0 zg0 Z Z Z Z Z Z Z Z Z<|AtL.done ?_
      refine zc<|za<|zb zg0 Z Z<|AtL.assign zg0 Z Z<|AtL.assign zg0 Z Z<|AtL.done ?_
      refine zaJ Z<|Un.pick (H':=O0 c most idle buffer last mb::[(mb,mapG kyI Lk.v kvs mn)]::[(x.b,.cells #[x.ch.v,.bool x.sd,V x.client,V x.wh,V x.buffer,.slice A10 (subl x.wait.l (min m x.wait.l.length:Nat) x.wait.l.length).length C11,.bool x.closing,.bool true,B x.hr,B x.wb,V x.last,V x.behind] 116 (0,0))]::s7::x.wait.s::H) [1,2,3,0,4] 5 Z Z<|zaH zav Z Z (zbc (cl:=true) (kvs:=kvs) i hat) ?_
      rintro _ _ ⟨rfl,rfl⟩
      exact zap (vs:=[.slice A4 (subl x.wait.l 0 (min m x.wait.l.length:Nat)).length C5,V 0]) [3,0,1,2,4] 5 Z Z Tryz.func16 Z ⟨Z,Z,trivial⟩ (⟨⟨A4,C5,subl x.wait.l 0 (min m x.wait.l.length:Nat),s7,o8⟩,⟨A10,C11,subl x.wait.l (min m x.wait.l.length:Nat) x.wait.l.length,x.wait.s,o12⟩,x.wh,true,(by show subl x.wait.l 0 (min m x.wait.l.length)=x.wait.l.take m; rw [zcp,zdl]),(by show (subl x.wait.l (min m x.wait.l.length) x.wait.l.length).length≤_; rw [za1,List.length_drop]; omega),.inl Z,Z,Z⟩)
     ·intro hc4
      refine zj<|zc<|za<|zb zg0 Z Z<|AtL.assign zg0 Z Z<|AtL.assign zg0 Z Z ?_
      refine AtL.done<|zaJ Z<|Un.pick (H':=O0 c most idle buffer last mb::[(mb,mapG kyI Lk.v kvs mn)]::[(x.b,.cells #[x.ch.v,.bool x.sd,V x.client,V x.wh,V x.buffer,.slice A10 (subl x.wait.l (min m x.wait.l.length:Nat) x.wait.l.length).length C11,.bool x.closing,.bool false,B x.hr,B x.wb,V x.last,V x.behind] 116 (0,0))]::s7::x.wait.s::H) [1,2,3,0,4] 5 Z Z<|zaH zav Z Z (zbc (cl:=false) (kvs:=kvs) i hat) ?_
      rintro _ _ ⟨rfl,rfl⟩
      exact zap (vs:=[.slice A4 (subl x.wait.l 0 (min m x.wait.l.length:Nat)).length C5,V 0]) [3,0,1,2,4] 5 Z Z Tryz.func16 Z ⟨Z,Z,trivial⟩ (⟨⟨A4,C5,subl x.wait.l 0 (min m x.wait.l.length:Nat),s7,o8⟩,⟨A10,C11,subl x.wait.l (min m x.wait.l.length:Nat) x.wait.l.length,x.wait.s,o12⟩,x.wh,false,(by show subl x.wait.l 0 (min m x.wait.l.length)=x.wait.l.take m; rw [zcp,zdl]),(by show (subl x.wait.l (min m x.wait.l.length) x.wait.l.length).length≤_; rw [za1,List.length_drop]; omega),.inl Z,Z,Z⟩)
theorem qgoes_ok {w0:World}{base:Nat}{H:List Seg}{b hr:Nat}{a0 a1 a2 a3 a4 a5 a6 a7:Value}{la bh:Int}{mb2:Nat}{wb:Nat}{fi nx:Int}{sl9:Int}{dn:List (Int×Sl tyB 5×Nat)}{dnn N:Nat}{A:Option Addr}{C:Nat}{l:List UInt8}(hw:1≤fi∧fi≤nx∧nx≤fi + 16∧fi≤1000000) (hdn:DnOk fi nx N dn dnn) (hN:N≤1000000) (h:Rd tyB w0 base H A C l) (hl:l.length≤N) :
  SCalls Tryz.prog 240 [B b,V sl9,.slice A l.length C] w0 base (dnS dn::O12 b a0 a1 a2 a3 a4 a5 a6 a7 hr wb la bh::O3 wb 16 fi nx mb2::[(mb2,mapG kyI tvB dn dnn)]::H) (fun v H' => ∃ (o:Sl tyL 34) (Y:List (Sl tyB 5)) (e9 fi' : Int) (dn' : List (Int×Sl tyB 5×Nat)) (dnn' : Nat),o.l=Y.map Sl.v∧(∀ y ∈ Y,y.l.length≤N)∧DnOk fi' nx N dn' dnn'∧fi≤fi'∧fi'≤nx∧o.l.length≤16∧v = .tuple #[.slice o.A o.l.length o.C,int e9]∧H' = o.s::zas Y::dnS dn'::O12 b a0 a1 a2 a3 a4 a5 a6 a7 hr wb la bh::O3 wb 16 fi' nx mb2::[(mb2,mapG kyI tvB dn' dnn')]::H):=by
 refine SCalls.of_walk (n:=17) Tryz.func240 Z Z Z fun cs => ?_
 refine zc<|za<|AtL.assign zg0 Z Z<|AtL.assign zg0 Z Z<|AtL.done<|zc ?_
 refine za<|zb zg0 Z Z<|zf zg0 Z Z<|zd zca zg0 Z Z Z<|zh zcc zg0 Z Z (Cell.own 1 0 Z Z Z)<|zb zg0 Z Z ?_
 refine zb zg0 Z Z<|AtL.pick (H':=dnS dn::O3 wb 16 fi nx mb2::[(mb2,mapG kyI tvB dn dnn)]::O12 b a0 a1 a2 a3 a4 a5 a6 a7 hr wb la bh::H) [0,2,3,1] 4 Z Z<|zk tf_body245 zg0 Z Z (wdone_ok (l:=l) hw hdn hN (Rd.skip 1 h) hl) ?_
 rintro _ _ ⟨o1,Y2,e3,fi4,dn5,dnn6,ho7,hYl8,hD9,hf10,hf11,hol12,rfl,rfl⟩
 refine AtL.extract zg0 Z Z Z<|AtL.extract zg0 Z Z Z<|AtL.assign zg0 Z Z<|AtL.assign zg0 Z Z<|AtL.done<|At.pick [0,1,2,5,3,4] 6 Z Z ?_
 exact zt Tryz.func240 Z Z (⟨o1,Y2,e3,fi4,dn5,dnn6,ho7,hYl8,hD9,hf10,hf11,hol12,Z,Z⟩)
theorem At.joinK {X:Pt}{k' : List Item}{a b:Item}{E:Env}{ds:List Deferred}{H:List Seg}(Q:Env→List Seg→Prop) (h:(∀ E2 H2,Q E2 H2→At X k' E2 ds H2)→At X (a::b::k') E ds H) (K:∀ E2 H2,Q E2 H2→At X k' E2 ds H2):At X (a::b::k') E ds H:=h K
theorem el_len28 {o:List Bs}{Y:List (Sl tyB 5)}{N:Nat}(h1:o=Y.map Sl.v) (h2:∀ y ∈ Y,y.l.length≤N) {j:Nat}(hj:j < o.length):(o.getD j ⟨none,0,[]⟩).l.length≤N:=by
 subst h1
 have hj' : j < Y.length:=by simpa using hj
 have:=h2 _ (List.getElem_mem hj')
 simpa [List.getD,hj',Sl.v] using this
theorem chn_k {x y:Chn}{l:List UInt8}(h:y.p=(x.p.send l).2):y.y.l=x.y.l:=by
 have h1:=congrArg ChV.k h
 rw [send_k] at h1
 exact h1
theorem close_k (x:ChV):x.close.2.k=x.k:=by
 obtain ⟨sl,k,a,b,c,d,e⟩:=x
 cases sl <;> rfl
theorem chn_kc {x y:Chn}(h:y.p=x.p.close.2):y.y.l=x.y.l:=by
 have h1:=congrArg ChV.k h
 rw [close_k] at h1
 exact h1
set_option maxHeartbeats 2000000 in
theorem answer_req {w0:World}{base:Nat}{H:List Seg}{c mb:Nat}{most idle buffer last:Int}{kvs:List (Int×Lk×Nat)}{mn:Nat}{x:Req}{i:Int}(hm:¬ most=0) (hat:atG i kvs=some (.req x)) {sl9:Int}{N:Nat}{A:Option Addr}{C:Nat}{l:List UInt8}(hw:1≤x.first∧x.first≤x.next∧x.next≤x.first + 16∧x.first≤1000000) (hdn:DnOk x.first x.next N x.dn x.n) (hf9:x.first≤999000) (hN:N≤1000000) (hN2:N≤20000) (h:Rd tyB w0 base H A C l) (hl:l.length≤N) (hwb:(x.wait.l.length:Int)≤x.buffer) (hbf:x.buffer≤1048576) :
  SCalls Tryz.prog 15 [B c,V i,V sl9,.slice A l.length C] w0 base (O0 c most idle buffer last mb::[(mb,mapG kyI Lk.v kvs mn)]::O2 x.b x.ch.v x.sd x.client x.wh x.buffer x.wait.A x.wait.l.length x.wait.C x.closing false x.hr x.wb x.last x.behind::O3 x.wb 16 x.first x.next x.mb::[(x.mb,mapG kyI tvB x.dn x.n)]::x.ch.s::x.wait.s::dnS x.dn::H) (fun v H' => ∃ (e9:Int) (ch9:Chn) (wt:Sl tyB 5) (clo cl:Bool) (fi' : Int) (dn' : List (Int×Sl tyB 5×Nat)) (dnn' : Nat),ch9.y.l=x.ch.y.l∧wt.l.length≤1300000∧(cl=false→(wt.l.length:Int)≤x.buffer)∧DnOk fi' x.next N dn' dnn'∧x.first≤fi'∧fi'≤x.next∧v=int e9∧H' = (O0 c most idle buffer last mb)::[(mb,mapG kyI Lk.v (if cl=true then delG i kvs else kvs) mn)]::[((⟨x.b,ch9,x.sd,x.client,x.wh,x.buffer,wt,clo,x.hr,x.hs,x.wb,x.mb,fi',x.next,dn',dnn',x.last,x.behind⟩:Req).b,.cells #[((⟨x.b,ch9,x.sd,x.client,x.wh,x.buffer,wt,clo,x.hr,x.hs,x.wb,x.mb,fi',x.next,dn',dnn',x.last,x.behind⟩:Req).ch).v,.bool ((⟨x.b,ch9,x.sd,x.client,x.wh,x.buffer,wt,clo,x.hr,x.hs,x.wb,x.mb,fi',x.next,dn',dnn',x.last,x.behind⟩:Req).sd),V ((⟨x.b,ch9,x.sd,x.client,x.wh,x.buffer,wt,clo,x.hr,x.hs,x.wb,x.mb,fi',x.next,dn',dnn',x.last,x.behind⟩:Req).client),V ((⟨x.b,ch9,x.sd,x.client,x.wh,x.buffer,wt,clo,x.hr,x.hs,x.wb,x.mb,fi',x.next,dn',dnn',x.last,x.behind⟩:Req).wh),V ((⟨x.b,ch9,x.sd,x.client,x.wh,x.buffer,wt,clo,x.hr,x.hs,x.wb,x.mb,fi',x.next,dn',dnn',x.last,x.behind⟩:Req).buffer),.slice ((⟨x.b,ch9,x.sd,x.client,x.wh,x.buffer,wt,clo,x.hr,x.hs,x.wb,x.mb,fi',x.next,dn',dnn',x.last,x.behind⟩:Req).wait.A) ((⟨x.b,ch9,x.sd,x.client,x.wh,x.buffer,wt,clo,x.hr,x.hs,x.wb,x.mb,fi',x.next,dn',dnn',x.last,x.behind⟩:Req).wait.l).length ((⟨x.b,ch9,x.sd,x.client,x.wh,x.buffer,wt,clo,x.hr,x.hs,x.wb,x.mb,fi',x.next,dn',dnn',x.last,x.behind⟩:Req).wait.C),.bool ((⟨x.b,ch9,x.sd,x.client,x.wh,x.buffer,wt,clo,x.hr,x.hs,x.wb,x.mb,fi',x.next,dn',dnn',x.last,x.behind⟩:Req).closing),.bool cl,.pointer (some ⟨(⟨x.b,ch9,x.sd,x.client,x.wh,x.buffer,wt,clo,x.hr,x.hs,x.wb,x.mb,fi',x.next,dn',dnn',x.last,x.behind⟩:Req).hr,0,none⟩),.pointer (some ⟨(⟨x.b,ch9,x.sd,x.client,x.wh,x.buffer,wt,clo,x.hr,x.hs,x.wb,x.mb,fi',x.next,dn',dnn',x.last,x.behind⟩:Req).wb,0,none⟩),V ((⟨x.b,ch9,x.sd,x.client,x.wh,x.buffer,wt,clo,x.hr,x.hs,x.wb,x.mb,fi',x.next,dn',dnn',x.last,x.behind⟩:Req).last),V ((⟨x.b,ch9,x.sd,x.client,x.wh,x.buffer,wt,clo,x.hr,x.hs,x.wb,x.mb,fi',x.next,dn',dnn',x.last,x.behind⟩:Req).behind)] 116 (0,0))]::[((⟨x.b,ch9,x.sd,x.client,x.wh,x.buffer,wt,clo,x.hr,x.hs,x.wb,x.mb,fi',x.next,dn',dnn',x.last,x.behind⟩:Req).wb,.cells #[V 16,V ((⟨x.b,ch9,x.sd,x.client,x.wh,x.buffer,wt,clo,x.hr,x.hs,x.wb,x.mb,fi',x.next,dn',dnn',x.last,x.behind⟩:Req).first),V ((⟨x.b,ch9,x.sd,x.client,x.wh,x.buffer,wt,clo,x.hr,x.hs,x.wb,x.mb,fi',x.next,dn',dnn',x.last,x.behind⟩:Req).next),.map (some (⟨x.b,ch9,x.sd,x.client,x.wh,x.buffer,wt,clo,x.hr,x.hs,x.wb,x.mb,fi',x.next,dn',dnn',x.last,x.behind⟩:Req).mb)] 128 (0,0))]::[(x.mb,mapG kyI tvB dn' dnn')]::ch9.s::wt.s::dnS dn'::H):=by
 have hle0:=h.le
 have hcap0:=h.cap
 have hcw:=z7 x.wait.own
 refine SCalls.of_walk (n:=89) Tryz.func15 Z Z Z fun cs => ?_
 refine zc<|za<|AtL.assign zg0 Z Z<|AtL.done<|zc<|za ?_
 refine zb zg0 Z Z<|zb zg0 Z Z<|zk zaM zg0 Z Z (zbi (lk:=Lk.req x) i hm hat) ?_
 rintro _ _ ⟨rfl,rfl⟩
 refine zb zg0 Z Z<|AtL.extract zg0 Z Z Z<|AtL.extract zg0 Z Z Z<|AtL.assign zg0 Z Z<|AtL.assign zg0 Z Z<|AtL.done ?_
 refine zc<|zc<|za<|zb zg0 Z Z<|zT zg0 Z Z Z<|AtL.done ?_
 refine zB Z<|zj<|zc<|za<|zb zg0 Z Z<|zb zg0 Z Z ?_
 refine zb4 Z zg0 Z Z Z<|AtL.done<|zc<|za<|zb zg0 Z Z<|zb zg0 Z Z ?_
 refine zb zg0 Z Z<|AtL.pick (H':=dnS x.dn::O2 x.b x.ch.v x.sd x.client x.wh x.buffer x.wait.A x.wait.l.length x.wait.C x.closing false x.hr x.wb x.last x.behind::O3 x.wb 16 x.first x.next x.mb::[(x.mb,mapG kyI tvB x.dn x.n)]::O0 c most idle buffer last mb::[(mb,mapG kyI Lk.v kvs mn)]::x.ch.s::x.wait.s::H) [7,2,3,4,0,1,5,6] 8 Z Z<|zZ tf_body240 zg0 Z Z Z (fun w => by kernel_rfl) (qgoes_ok (l:=l) hw hdn hN (Rd.skip 4 h) hl) ?_
 rintro _ _ ⟨o1,Y2,e3,fi4,dn5,dnn6,ho7,hYl8,hD9,hf10,hf11,hol12,rfl,rfl⟩
 have hel13:∀ q ∈ o1.l,Rd tyB w0 base (zas Y2::H) q.A q.C q.l:=Sl.rdV (i:=0) ho7 rfl
 have hw9:1≤fi4∧fi4≤x.next∧x.next≤fi4 + 16∧fi4≤1000000:=⟨by omega,by omega,by omega,by omega⟩
 refine zb zg0 Z Z<|AtL.extract zg0 Z Z Z<|AtL.extract zg0 Z Z Z<|AtL.assign zg0 Z Z<|AtL.assign zg0 Z Z<|AtL.done ?_
 refine zc<|zc<|za<|zb zg0 Z Z<|zT zg0 Z Z Z<|AtL.done ?_
 refine zae Z ?_ ?_
 ·intro hc2
  have hc2:¬ ((e3:Int)=0):=of_decide_eq_false (zO hc2)
  refine zc<|za<|zb zg0 Z Z<|AtL.assign zg0 Z Z<|AtL.done<|zaJ Z ?_
  refine Un.pick (H':=O0 c most idle buffer last mb::[(mb,mapG kyI Lk.v kvs mn)]::O2 x.b x.ch.v x.sd x.client x.wh x.buffer x.wait.A x.wait.l.length x.wait.C x.closing false x.hr x.wb x.last x.behind::o1.s::zas Y2::dnS dn5::O3 x.wb 16 fi4 x.next x.mb::[(x.mb,mapG kyI tvB dn5 dnn6)]::x.ch.s::x.wait.s::H) [6,7,3,0,1,2,4,5,8,9] 10 Z Z<|zaH zav Z Z (zbc (cl:=false) (kvs:=kvs) i hat) ?_
  rintro _ _ ⟨rfl,rfl⟩
  exact zap (vs:=[V e3]) [0,1,2,6,7,8,9,5] 10 Z Z Tryz.func15 Z ⟨Z,trivial⟩ (⟨e3,x.ch,x.wait,x.closing,false,fi4,dn5,dnn6,Z,(by omega),fun _ => hwb,hD9,hf10,hf11,Z,Z⟩)
 ·intro hc2
  have hc2:(e3:Int)=0:=of_decide_eq_true (zJ hc2)
  refine zj<|zc<|za<|zb zg0 Z Z<|zZ zaF zg0 Z Z Z (fun w => by kernel_rfl) (zdi (b:=x.b)) ?_
  rintro _ _ ⟨rfl,rfl⟩
  refine AtL.assign zg0 Z Z<|AtL.done<|zc<|zc<|za<|zb zg0 Z Z ?_
  refine zC Tryz.underlying22 zg0 Z Z<|zb zg0 Z Z<|AtL.done<|At.block<|zfJ (fun (j:Nat) (ch9:Chn) (wt:Sl tyB 5) (cl:Bool) => [(9,.iface 112 (B x.b)),(12,B x.b),(38,.slice o1.A o1.l.length o1.C),(39,V (o1.l.length:Int)),(40,V (j:Int))]) (fun (j:Nat) (ch9:Chn) (wt:Sl tyB 5) (cl:Bool) => o1.s::zas Y2::dnS dn5::O2 x.b ch9.v x.sd x.client x.wh x.buffer wt.A wt.l.length wt.C x.closing cl x.hr x.wb x.last x.behind::O3 x.wb 16 fi4 x.next x.mb::[(x.mb,mapG kyI tvB dn5 dnn6)]::O0 c most idle buffer last mb::[(mb,mapG kyI Lk.v kvs mn)]::ch9.s::wt.s::H) (fun (j:Nat) (ch9:Chn) (wt:Sl tyB 5) (cl:Bool) => j≤o1.l.length∧ch9.y.l=x.ch.y.l∧ch9.c=x.ch.c∧wt.l.length≤1200000∧(cl=false→(wt.l.length:Int)≤x.buffer)) (fun (j:Nat) (ch9:Chn) (wt:Sl tyB 5) (cl:Bool) => o1.l.length - j) 0 x.ch x.wait false (⟨Nat.zero_le _,Z,Z,by omega,fun _ => hwb⟩) ⟨Z,Z,Z,Z,Z,trivial⟩ Z ?_
  rintro j ch9 wt cl ⟨hj,hck,hcc,hwl,hwc⟩ ihL1
  have hwtc:=z7 wt.own
  refine zc<|za<|zA zg0 Z Z Z<|AtL.done<|zc<|zq Z ?_ ?_
  ·intro hc3
   have hjl:j < o1.l.length:=by omega
   have helN:(o1.l.getD j ⟨none,0,[]⟩).l.length≤N:=el_len28 ho7 hYl8 hjl
   refine zj<|zc<|At.block<|zc<|za ?_
   refine zF j (o1.own.rd (i:=0) Z) Tryz.underlying22 zaA zg0 Z Z Z Z (by omega) ?_
   refine zh (v:=.slice ((o1.l.getD j (⟨none,0,[]⟩:Bs)).A) ((o1.l.getD j (⟨none,0,[]⟩:Bs)).l).length ((o1.l.getD j (⟨none,0,[]⟩:Bs)).C)) zE zg0 Z Z (zH (o1.own.rd (i:=0) Z) (zz (⟨none,0,[]⟩:Bs) (by omega)) Z)<|AtL.assign zg0 Z Z<|AtL.done<|zc<|za<|zb zg0 Z Z ?_
   refine zf zg0 Z Z<|zd zaw zg0 Z Z Z<|zh zR zg0 Z Z (Cell.own 3 0 Z Z Z)<|zag zg0 Z Z<|AtL.done<|zae Z ?_ ?_
   ·intro hc4
    have hc4:cl=false:=zO hc4
    subst hc4
    have hwc2:=hwc rfl
    refine za<|zb zg0 Z Z<|zb zg0 Z Z<|zf zg0 Z Z<|zd zbI zg0 Z Z Z<|zh zcN zg0 Z Z (Cell.own 3 0 Z Z Z) ?_
    refine zb zg0 Z Z<|AtL.pick (H':=ch9.s::o1.s::zas Y2::dnS dn5::O2 x.b ch9.v x.sd x.client x.wh x.buffer wt.A wt.l.length wt.C x.closing false x.hr x.wb x.last x.behind::O3 x.wb 16 fi4 x.next x.mb::[(x.mb,mapG kyI tvB dn5 dnn6)]::O0 c most idle buffer last mb::[(mb,mapG kyI Lk.v kvs mn)]::wt.s::H) [8,0,1,2,3,4,5,6,7,9] 10 Z Z ?_
    refine zZ (zib ch9) zg0 Z Z Z (zh9 ch9) (chn_Send ch9 (l:=(o1.l.getD j (⟨none,0,[]⟩:Bs)).l) (Rd.pick [1] 9 Z Z (hel13 _ (zbh (l:=o1.l) (i:=j) (d:=(⟨none,0,[]⟩:Bs)) (by omega)))) (by omega)) ?_
    rintro _ _ ⟨t14,ch15,ht16,hp17,hc18,rfl,rfl⟩
    have t14n:t14.l.length≤4 + 4 * ((o1.l.getD j (⟨none,0,[]⟩:Bs)).l).length:=by rw [ht16]; exact zh6 _ _
    try rw [zh7 hp17 hc18]
    refine AtL.pick (H':=wt.s::O2 x.b ch15.v x.sd x.client x.wh x.buffer wt.A wt.l.length wt.C x.closing false x.hr x.wb x.last x.behind::t14.s::ch15.s::o1.s::zas Y2::dnS dn5::O3 x.wb 16 fi4 x.next x.mb::[(x.mb,mapG kyI tvB dn5 dnn6)]::O0 c most idle buffer last mb::[(mb,mapG kyI Lk.v kvs mn)]::H) [10,5,0,1,2,3,4,6,7,8,9] 11 Z Z ?_
    refine zk zfd zg0 Z Z (put_req (y:=wt) (l:=t14.l) (t14.own.rd (i:=0) Z) (by omega)) ?_
    rintro _ _ ⟨z19,cl20,hz21,hcl22,rfl,rfl⟩
    have z19c9:=z7 z19.own
    refine AtL.done<|zp<|za ?_
    refine AtL.add (z:=(j:Int) + 1) zg0 Z Z Z (w64 (by omega) (by omega))<|zb zg0 Z Z<|AtL.done<|At.pick (H':=o1.s::zas Y2::dnS dn5::O2 x.b ch15.v x.sd x.client x.wh x.buffer z19.A z19.l.length z19.C x.closing cl20 x.hr x.wb x.last x.behind::O3 x.wb 16 fi4 x.next x.mb::[(x.mb,mapG kyI tvB dn5 dnn6)]::O0 c most idle buffer last mb::[(mb,mapG kyI Lk.v kvs mn)]::ch15.s::z19.s::H) [4,5,6,1,7,8,9,10,3,0] 11 Z Z ?_
    refine ihL1 (j + 1) ch15 z19 cl20 (⟨by omega,by rw [chn_k hp17]; exact hck,by rw [hc18]; exact hcc,by rw [hz21,List.length_append]; omega,fun h9 => (by rw [hcl22,Bool.false_or] at h9; have h8:=of_decide_eq_false h9; omega)⟩) (by omega) _ ?_
    exact ⟨Z,Z,Z,Z,(by first | rfl | exact zaf (by simp []) | exact zah (by omega) | exact zah (by simp []) | exact zaf (by simp []; omega)),trivial⟩
   ·intro hc4
    have hc4:cl=true:=zJ hc4
    subst hc4
    refine zj<|zp<|za ?_
    refine AtL.add (z:=(j:Int) + 1) zg0 Z Z Z (w64 (by omega) (by omega))<|zb zg0 Z Z<|AtL.done ?_
    refine ihL1 (j + 1) ch9 wt true (⟨by omega,hck,hcc,hwl,fun h9 => by cases h9⟩) (by omega) _ ?_
    exact ⟨Z,Z,Z,Z,(by first | rfl | exact zaf (by simp []) | exact zah (by omega) | exact zah (by simp []) | exact zaf (by simp []; omega)),trivial⟩
  ·intro hc3
   refine zau Z<|zc<|zc<|At.joinK (fun E2 H2 => ∃ (ch7:Chn) (wt7:Sl tyB 5) (clo7 cl7:Bool),ch7.y.l=x.ch.y.l∧wt7.l.length≤1300000∧(cl7=false→(wt7.l.length:Int)≤x.buffer)∧Sub [(12,B x.b)] E2∧H2=O0 c most idle buffer last mb::[(mb,mapG kyI Lk.v kvs mn)]::O2 x.b ch7.v x.sd x.client x.wh x.buffer wt7.A wt7.l.length wt7.C clo7 cl7 x.hr x.wb x.last x.behind::O3 x.wb 16 fi4 x.next x.mb::[(x.mb,mapG kyI tvB dn5 dnn6)]::ch7.s::wt7.s::dnS dn5::H) (fun J => ?_) ?_
   ·refine za<|zb zg0 Z Z<|zf zg0 Z Z<|zd zaw zg0 Z Z Z<|zh zR zg0 Z Z (Cell.own 3 0 Z Z Z)<|zag zg0 Z Z ?_
    refine zb zg0 Z Z<|zY (t:=63) Z ?_ ?_
    ·intro hs63
     have hs63:cl=false:=zO hs63
     refine zb (.inr ⟨_,_,_,Z,Z,Z,Z⟩) Z Z<|AtL.pick (H':=O2 x.b ch9.v x.sd x.client x.wh x.buffer wt.A wt.l.length wt.C x.closing cl x.hr x.wb x.last x.behind::o1.s::zas Y2::dnS dn5::O3 x.wb 16 fi4 x.next x.mb::[(x.mb,mapG kyI tvB dn5 dnn6)]::O0 c most idle buffer last mb::[(mb,mapG kyI Lk.v kvs mn)]::ch9.s::wt.s::H) [3,0,1,2,4,5,6,7,8,9] 10 Z Z<|zZ zdE (.inr ⟨_,_,_,Z,Z,Z,Z⟩) Z Z Z (fun w => by kernel_rfl) zfk ?_
     rintro _ _ ⟨rfl,rfl⟩
     refine zn zg0 Z Z Z<|zb zg0 Z Z<|zD (t:=67) Z ?_ ?_
     ·intro hs67
      refine zb (.inr ⟨_,_,_,Z,Z,Z,Z⟩) Z Z<|AtL.pick (H':=O2 x.b ch9.v x.sd x.client x.wh x.buffer wt.A wt.l.length wt.C x.closing cl x.hr x.wb x.last x.behind::O3 x.wb 16 fi4 x.next x.mb::o1.s::zas Y2::dnS dn5::[(x.mb,mapG kyI tvB dn5 dnn6)]::O0 c most idle buffer last mb::[(mb,mapG kyI Lk.v kvs mn)]::ch9.s::wt.s::H) [0,4,1,2,3,5,6,7,8,9] 10 Z Z<|zZ tf_body241 (.inr ⟨_,_,_,Z,Z,Z,Z⟩) Z Z Z (fun w => by kernel_rfl) (qgone_ok hw9) ?_
      rintro _ _ ⟨⟨zg23,rfl⟩,rfl⟩
      refine zn zg0 Z Z Z<|AtL.done<|zae Z ?_ ?_
      ·intro hc5
       have hc5:zg23=true:=hc5
       refine za<|zb zg0 Z Z<|AtL.pick (H':=wt.s::ch9.s::O2 x.b ch9.v x.sd x.client x.wh x.buffer wt.A wt.l.length wt.C x.closing cl x.hr x.wb x.last x.behind::O3 x.wb 16 fi4 x.next x.mb::o1.s::zas Y2::dnS dn5::[(x.mb,mapG kyI tvB dn5 dnn6)]::O0 c most idle buffer last mb::[(mb,mapG kyI Lk.v kvs mn)]::H) [9,8,0,1,2,3,4,5,6,7] 10 Z Z ?_
       refine zk zgG zg0 Z Z (zh5 (y:=wt) (x:=ch9) (by omega)) ?_
       rintro _ _ ⟨z24,ch25,cl26,hz27,hp28,hc29,hcl30,rfl,rfl⟩
       refine AtL.done<|At.pick [8,9,2,3,7,1,0,6] 10 Z Z ?_
       exact J _ _ ⟨ch25,z24,true,cl26,by rw [chn_kc hp28]; exact hck,(by rw [hz27,List.length_append]; have h9:=zb8 ch9.p; omega),(fun h9 => by have h8:=hcl30; rw [h9] at h8; simp at h8; first | omega | (dsimp only; omega)),⟨Z,trivial⟩,Z⟩
      ·intro hc5
       have hc5:zg23=false:=hc5
       refine zj<|At.pick [6,7,0,1,5,8,9,4] 10 Z Z ?_
       exact J _ _ ⟨ch9,wt,x.closing,cl,hck,(by omega),hwc,⟨Z,trivial⟩,Z⟩
     ·intro hs67
      refine ze Z Z Z Z Z Z<|ze Z Z Z Z Z Z<|zm zg0 Z Z Z<|AtL.done<|zB Z<|zj ?_
      refine At.pick [6,7,0,4,5,8,9,3] 10 Z Z ?_
      exact J _ _ ⟨ch9,wt,x.closing,cl,hck,(by omega),hwc,⟨Z,trivial⟩,Z⟩
    ·intro hs63
     have hs63:cl=true:=zJ hs63
     refine ze Z Z Z Z Z Z<|ze Z Z Z Z Z Z<|zm zg0 Z Z Z<|zb zg0 Z Z<|ze Z Z Z Z Z Z<|ze Z Z Z Z Z Z ?_
     refine zm zg0 Z Z Z<|AtL.done<|zB Z<|zj<|At.pick [6,7,3,4,5,8,9,2] 10 Z Z ?_
     exact J _ _ ⟨ch9,wt,x.closing,cl,hck,(by omega),hwc,⟨Z,trivial⟩,Z⟩
   ·rintro E2 H2 ⟨ch7,wt7,clo7,cl7,hck7,hwl7,hwc7,hsub,rfl⟩
    refine At.mono hsub ?_
    clear hsub
    have hwt7:=z7 wt7.own
    refine zc<|zc ?_
    rcases Decidable.em (x.buffer < ((wt7.l).length:Int)) with hgt | hgt
    ·cases hcl9:cl7 with
     | true =>
      refine zac (es:=[]) (pv:=[(0,B x.b),(1,B x.b),(2,.pointer (some ⟨x.b,7,none⟩)),(3,.bool true),(4,.bool true),(5,B x.b),(6,B x.b),(7,.pointer (some ⟨x.b,5,none⟩)),(8,.slice wt7.A wt7.l.length wt7.C),(9,V (wt7.l.length:Int)),(10,B x.b),(11,B x.b),(12,.pointer (some ⟨x.b,4,none⟩)),(13,V x.buffer),(14,.bool true),(15,.bool true)]) zV (by kernel_rfl) (by kernel_rfl) (by kernel_rfl) ?_
      refine ⟨⟨zpr Z Z Z (zi Z),zpr Z Z Z (zl Z),zpr Z Z Z (zg zaw Z Z),zpr Z Z Z (zu zR Z (Cell.own 2 0 Z Z Z)),zpr Z Z Z (zi Z),zpr Z Z ⟨_,_,_,Z,Z,Z,Z⟩ (zi Z),zpr Z Z ⟨_,_,_,Z,Z,Z,Z⟩ (zl Z),zpr Z Z ⟨_,_,_,Z,Z,Z,Z⟩ (zg zaq Z Z),zpr Z Z ⟨_,_,_,Z,Z,Z,Z⟩ (zu zE Z (Cell.own 2 0 Z Z Z)),zpr Z Z ⟨_,_,_,Z,Z,Z,Z⟩ (zbt Tryz.underlying34 Z),zpr Z Z ⟨_,_,_,Z,Z,Z,Z⟩ (zi Z),zpr Z Z ⟨_,_,_,Z,Z,Z,Z⟩ (zl Z),zpr Z Z ⟨_,_,_,Z,Z,Z,Z⟩ (zg zd4 Z Z),zpr Z Z ⟨_,_,_,Z,Z,Z,Z⟩ (zu zo Z (Cell.own 2 0 Z Z Z)),zpr Z Z ⟨_,_,_,Z,Z,Z,Z⟩ (zM (zbV Z Z) (decide_eq_true hgt)),zpr Z Z Z (za4 Z Z),trivial⟩,by kernel_rfl,?_⟩
      refine At.mono (E':=[(88,.bool true)]) ⟨Z,trivial⟩<|zX Z<|zc<|za<|AtL.assign zg0 Z Z<|AtL.done ?_
      refine zaJ Z<|zaH zav Z Z (zbc (cl:=true) (kvs:=kvs) i hat) ?_
      rintro _ _ ⟨rfl,rfl⟩
      exact zap (vs:=[V 3]) [0,1,2,3,4,5,6,7] 8 Z Z Tryz.func15 Z ⟨Z,trivial⟩ (⟨3,ch7,wt7,clo7,true,fi4,dn5,dnn6,hck7,hwl7,(fun h9 => by cases h9),hD9,hf10,hf11,Z,Z⟩)
     | false =>
      refine zac (es:=[]) (pv:=[(0,B x.b),(1,B x.b),(2,.pointer (some ⟨x.b,7,none⟩)),(3,.bool false),(4,.bool false),(5,undef),(6,undef),(7,undef),(8,undef),(9,undef),(10,undef),(11,undef),(12,undef),(13,undef),(14,undef),(15,.bool false)]) zV (by kernel_rfl) (by kernel_rfl) (by kernel_rfl) ?_
      refine ⟨⟨zpr Z Z Z (zi Z),zpr Z Z Z (zl Z),zpr Z Z Z (zg zaw Z Z),zpr Z Z Z (zu zR Z (Cell.own 2 0 Z Z Z)),zpr Z Z Z (zi Z),.inr ⟨_,Z,Z,.inr ⟨⟨_,_,_,Z,Z,Z,Z⟩,Z⟩⟩,.inr ⟨_,Z,Z,.inr ⟨⟨_,_,_,Z,Z,Z,Z⟩,Z⟩⟩,.inr ⟨_,Z,Z,.inr ⟨⟨_,_,_,Z,Z,Z,Z⟩,Z⟩⟩,.inr ⟨_,Z,Z,.inr ⟨⟨_,_,_,Z,Z,Z,Z⟩,Z⟩⟩,.inr ⟨_,Z,Z,.inr ⟨⟨_,_,_,Z,Z,Z,Z⟩,Z⟩⟩,.inr ⟨_,Z,Z,.inr ⟨⟨_,_,_,Z,Z,Z,Z⟩,Z⟩⟩,.inr ⟨_,Z,Z,.inr ⟨⟨_,_,_,Z,Z,Z,Z⟩,Z⟩⟩,.inr ⟨_,Z,Z,.inr ⟨⟨_,_,_,Z,Z,Z,Z⟩,Z⟩⟩,.inr ⟨_,Z,Z,.inr ⟨⟨_,_,_,Z,Z,Z,Z⟩,Z⟩⟩,.inr ⟨_,Z,Z,.inr ⟨⟨_,_,_,Z,Z,Z,Z⟩,Z⟩⟩,zpr Z Z Z (zak Z Z),trivial⟩,by kernel_rfl,?_⟩
      refine At.mono (E':=[(88,.bool false)]) ⟨Z,trivial⟩<|zB Z<|zj<|zc<|za<|AtL.assign zg0 Z Z ?_
      refine AtL.done<|zaJ Z<|zaH zav Z Z (zbc (cl:=false) (kvs:=kvs) i hat) ?_
      rintro _ _ ⟨rfl,rfl⟩
      exact zap (vs:=[V 0]) [0,1,2,3,4,5,6,7] 8 Z Z Tryz.func15 Z ⟨Z,trivial⟩ (⟨0,ch7,wt7,clo7,false,fi4,dn5,dnn6,hck7,hwl7,(fun h9 => hwc7 (by first | exact hcl9 | rfl | exact h9)),hD9,hf10,hf11,Z,Z⟩)
    ·cases hcl9:cl7 with
     | true =>
      refine zac (es:=[]) (pv:=[(0,B x.b),(1,B x.b),(2,.pointer (some ⟨x.b,7,none⟩)),(3,.bool true),(4,.bool true),(5,B x.b),(6,B x.b),(7,.pointer (some ⟨x.b,5,none⟩)),(8,.slice wt7.A wt7.l.length wt7.C),(9,V (wt7.l.length:Int)),(10,B x.b),(11,B x.b),(12,.pointer (some ⟨x.b,4,none⟩)),(13,V x.buffer),(14,.bool false),(15,.bool false)]) zV (by kernel_rfl) (by kernel_rfl) (by kernel_rfl) ?_
      refine ⟨⟨zpr Z Z Z (zi Z),zpr Z Z Z (zl Z),zpr Z Z Z (zg zaw Z Z),zpr Z Z Z (zu zR Z (Cell.own 2 0 Z Z Z)),zpr Z Z Z (zi Z),zpr Z Z ⟨_,_,_,Z,Z,Z,Z⟩ (zi Z),zpr Z Z ⟨_,_,_,Z,Z,Z,Z⟩ (zl Z),zpr Z Z ⟨_,_,_,Z,Z,Z,Z⟩ (zg zaq Z Z),zpr Z Z ⟨_,_,_,Z,Z,Z,Z⟩ (zu zE Z (Cell.own 2 0 Z Z Z)),zpr Z Z ⟨_,_,_,Z,Z,Z,Z⟩ (zbt Tryz.underlying34 Z),zpr Z Z ⟨_,_,_,Z,Z,Z,Z⟩ (zi Z),zpr Z Z ⟨_,_,_,Z,Z,Z,Z⟩ (zl Z),zpr Z Z ⟨_,_,_,Z,Z,Z,Z⟩ (zg zd4 Z Z),zpr Z Z ⟨_,_,_,Z,Z,Z,Z⟩ (zu zo Z (Cell.own 2 0 Z Z Z)),zpr Z Z ⟨_,_,_,Z,Z,Z,Z⟩ (zM (zbV Z Z) (decide_eq_false hgt)),zpr Z Z Z (za4 Z Z),trivial⟩,by kernel_rfl,?_⟩
      refine At.mono (E':=[(88,.bool false)]) ⟨Z,trivial⟩<|zB Z<|zj<|zc<|za<|AtL.assign zg0 Z Z ?_
      refine AtL.done<|zaJ Z<|zaH zav Z Z (zbc (cl:=true) (kvs:=kvs) i hat) ?_
      rintro _ _ ⟨rfl,rfl⟩
      exact zap (vs:=[V 0]) [0,1,2,3,4,5,6,7] 8 Z Z Tryz.func15 Z ⟨Z,trivial⟩ (⟨0,ch7,wt7,clo7,true,fi4,dn5,dnn6,hck7,hwl7,(fun h9 => by cases h9),hD9,hf10,hf11,Z,Z⟩)
     | false =>
      refine zac (es:=[]) (pv:=[(0,B x.b),(1,B x.b),(2,.pointer (some ⟨x.b,7,none⟩)),(3,.bool false),(4,.bool false),(5,undef),(6,undef),(7,undef),(8,undef),(9,undef),(10,undef),(11,undef),(12,undef),(13,undef),(14,undef),(15,.bool false)]) zV (by kernel_rfl) (by kernel_rfl) (by kernel_rfl) ?_
      refine ⟨⟨zpr Z Z Z (zi Z),zpr Z Z Z (zl Z),zpr Z Z Z (zg zaw Z Z),zpr Z Z Z (zu zR Z (Cell.own 2 0 Z Z Z)),zpr Z Z Z (zi Z),.inr ⟨_,Z,Z,.inr ⟨⟨_,_,_,Z,Z,Z,Z⟩,Z⟩⟩,.inr ⟨_,Z,Z,.inr ⟨⟨_,_,_,Z,Z,Z,Z⟩,Z⟩⟩,.inr ⟨_,Z,Z,.inr ⟨⟨_,_,_,Z,Z,Z,Z⟩,Z⟩⟩,.inr ⟨_,Z,Z,.inr ⟨⟨_,_,_,Z,Z,Z,Z⟩,Z⟩⟩,.inr ⟨_,Z,Z,.inr ⟨⟨_,_,_,Z,Z,Z,Z⟩,Z⟩⟩,.inr ⟨_,Z,Z,.inr ⟨⟨_,_,_,Z,Z,Z,Z⟩,Z⟩⟩,.inr ⟨_,Z,Z,.inr ⟨⟨_,_,_,Z,Z,Z,Z⟩,Z⟩⟩,.inr ⟨_,Z,Z,.inr ⟨⟨_,_,_,Z,Z,Z,Z⟩,Z⟩⟩,.inr ⟨_,Z,Z,.inr ⟨⟨_,_,_,Z,Z,Z,Z⟩,Z⟩⟩,.inr ⟨_,Z,Z,.inr ⟨⟨_,_,_,Z,Z,Z,Z⟩,Z⟩⟩,zpr Z Z Z (zak Z Z),trivial⟩,by kernel_rfl,?_⟩
      refine At.mono (E':=[(88,.bool false)]) ⟨Z,trivial⟩<|zB Z<|zj<|zc<|za<|AtL.assign zg0 Z Z ?_
      refine AtL.done<|zaJ Z<|zaH zav Z Z (zbc (cl:=false) (kvs:=kvs) i hat) ?_
      rintro _ _ ⟨rfl,rfl⟩
      exact zap (vs:=[V 0]) [0,1,2,3,4,5,6,7] 8 Z Z Tryz.func15 Z ⟨Z,trivial⟩ (⟨0,ch7,wt7,clo7,false,fi4,dn5,dnn6,hck7,hwl7,(fun h9 => hwc7 (by first | exact hcl9 | rfl | exact h9)),hD9,hf10,hf11,Z,Z⟩)
end Go.Proofs.YtbfabhdfmoiabaaGreatDoor
