/- ConnNumbers: the law holds of every input: it returns true, and each argument reads as it did. -/
import Derived.Test.YtbfabhdfmoiabaaGreatDoorQFH
namespace Go.Proofs.YtbfabhdfmoiabaaGreatDoor
set_option maxHeartbeats 400000
set_option linter.unusedVariables false
set_option linter.unusedSimpArgs false
set_option maxRecDepth 100000
theorem key_some {n:Int}{K:List (Int×Lk×Nat)}(h:n ∈ (K.map fun e => e.1)):∃ lk,atG n K=some lk:=by
 induction K with
 | nil => cases h
 | cons p r ih =>
  rw [atG]
  split
  ·exact ⟨_,rfl⟩
  ·rename_i q
   rw [List.map_cons,List.mem_cons] at h
   rcases h with h | h
   ·exact absurd h q
   ·exact ih h
theorem zfm {n:Int}{K:List (Int×Lk×Nat)}(h:¬ n ∈ (K.map fun e => e.1)):atG n K=none:=by
 cases hq:atG n K with
 | none => rfl
 | some lk =>
  obtain ⟨m,hm⟩:=kv_mem hq
  exact absurd (List.mem_map.2 ⟨_,hm,rfl⟩) h
theorem lenA_succ {l:List (Int×Int×Int×Bool×Int×Int×Int×Int×Vs UInt8)}{i:Nat}(h:i < l.length):lenA (l.take (i + 1))=lenA (l.take i) + (l.getD i zA0).2.2.2.2.2.2.2.2.l.length:=by
 rw [List.take_succ_eq_append_getElem h,lenA,List.map_append,List.sum_append]
 simp [List.getD,h,lenA]
theorem lenA_le (l:List (Int×Int×Int×Bool×Int×Int×Int×Int×Vs UInt8)) (i:Nat):lenA (l.take i)≤lenA l:=by
 conv => rhs; rw [← List.take_append_drop i l]
 rw [lenA,lenA,List.map_append,List.sum_append]
 omega
theorem zcq {K K2:List (Int×Lk×Nat)}(h:(K2.map fun e => e.1).Sublist (K.map fun e => e.1)):K2.length≤K.length:=by
 have:=h.length_le
 rwa [List.length_map,List.length_map] at this
theorem key_ord {K:List (Int×Lk×Nat)}{mn:Nat}{last:Int}(h:KvOk K mn last) {k:Nat}(hk:k < (K.map fun e => e.1).length):(1≤(K.map fun e => e.1).getD k 0∧(K.map fun e => e.1).getD k 0≤last)∧(K.map fun e => e.1).getD k 0 ∈ (K.map fun e => e.1)∧(0 < k→(K.map fun e => e.1).getD (k - 1) 0 < (K.map fun e => e.1).getD k 0):=by
 have h1:(K.map fun e => e.1).getD k 0=(K.map fun e => e.1)[k]:=by rw [List.getD_eq_getElem?_getD,List.getElem?_eq_getElem hk]; rfl
 have h2:(K.map fun e => e.1)[k] ∈ (K.map fun e => e.1):=List.getElem_mem hk
 refine ⟨?_,by rw [h1]; exact h2,fun h0 => ?_⟩
 ·rw [h1]
  obtain ⟨e,he,hq⟩:=List.mem_map.1 h2
  rw [← hq]; exact h.le e he
 ·have h3:k - 1 < (K.map fun e => e.1).length:=by omega
  rw [h1,show (K.map fun e => e.1).getD (k - 1) 0=(K.map fun e => e.1)[k - 1] by rw [List.getD_eq_getElem?_getD,List.getElem?_eq_getElem h3]; rfl]
  exact List.pairwise_iff_getElem.1 h.sorted (k - 1) k h3 hk (by omega)
theorem has_yes {a:List Int}{n:Int}{i:Nat}(hi:i < a.length) (h:a.getD i 0=n):n ∈ a:=by
 rw [← h,show a.getD i 0=a[i] by simp [List.getD,hi]]; exact List.getElem_mem hi
theorem has_no {a:List Int}{n:Int}(h:∀ j,j < a.length→¬ a.getD j 0=n):¬ n ∈ a:=by
 intro h1
 obtain ⟨j,hj,rfl⟩:=List.mem_iff_getElem.1 h1
 exact h j hj (by simp [List.getD,hj])
theorem zcU {w0:World}{base:Nat}{H:List Seg}(n:Int) {A:Option Addr}{C:Nat}{a:List Int}(h:Rd tyI w0 base H A C a) :
  SCalls Tryz.prog 28 [.slice A a.length C,V n] w0 base (H) (fun v H' => v = .bool (decide (n ∈ a))∧H' = H):=by
 have hle0:=h.le
 have hcap0:=h.cap
 refine SCalls.of_walk (n:=18) Tryz.func28 Z Z Z fun cs => ?_
 refine zc<|za<|AtL.assign zg0 Z Z<|AtL.done<|zc<|zc ?_
 refine za<|AtL.assign zg0 Z Z<|AtL.done<|At.block<|zcF (fun (i:Nat) => [(0,.slice A a.length C),(1,V n),(5,V (i:Int))]) (fun (i:Nat) => H) (fun (i:Nat) => i≤a.length∧∀ j,j < i→¬ a.getD j 0=n) (fun (i:Nat) => a.length - i) 0 (⟨Nat.zero_le _,fun j h => absurd h (Nat.not_lt_zero _)⟩) ⟨Z,Z,Z,trivial⟩ Z ?_
 rintro i ⟨hi,hj⟩ ihL1
 refine zc<|zc<|za<|zb zg0 Z Z<|zb zg0 Z Z<|zC Tryz.underlying23 zg0 Z Z ?_
 refine zA zg0 Z Z Z<|AtL.done<|zq Z ?_ ?_
 ·intro hc1
  refine zj<|zc<|At.block<|zc<|za<|zb zg0 Z Z ?_
  refine zb zg0 Z Z ?_
  refine zF i h Tryz.underlying23 zaB zg0 Z Z Z Z (by omega) ?_
  refine zh (v:=V (a.getD i 0)) zo zg0 Z Z (zH h (zz 0 (by omega)) Z)<|zb zg0 Z Z<|zW zg0 Z Z Z<|AtL.done<|zq Z ?_ ?_
  ·intro hc2
   refine zc<|za<|AtL.assign zg0 Z Z<|AtL.done ?_
   exact zt Tryz.func28 Z Z (⟨congrArg Value.bool (decide_eq_true (has_yes (by omega) hc2)).symm,Z⟩)
  ·intro hc2
   refine zj<|zp<|za<|zb zg0 Z Z ?_
   refine AtL.add (z:=(i:Int) + 1) zg0 Z Z Z (w64 (by omega) (by omega))<|AtL.assign zg0 Z Z<|AtL.done ?_
   refine ihL1 (i + 1) (⟨by omega,fun j hj2 => (Nat.lt_succ_iff_lt_or_eq.1 hj2).elim (hj j) (fun h9 => by subst h9; exact hc2)⟩) (by omega) _ ?_
   exact ⟨Z,Z,(by first | rfl | exact zaf (by simp []) | exact zah (by omega) | exact zah (by simp []) | exact zaf (by simp []; omega)),trivial⟩
 ·intro hc1
  refine zau Z<|zc<|za<|AtL.assign zg0 Z Z<|AtL.done ?_
  exact zt Tryz.func28 Z Z (⟨congrArg Value.bool (decide_eq_false (has_no (fun j h9 => hj j (by omega)))).symm,Z⟩)
theorem iend_in {w0:World}{base:Nat}{H:List Seg}{c mb:Nat}{most idle buffer last:Int}{kvs:List (Int×Lk×Nat)}{mn:Nat}{N M:Nat}{i:Int}(hm:¬ most=0) (hc:KvI kvs mn last buffer N M) (hin:i ∈ (kvs.map fun e => e.1)) :
  SCalls Tryz.prog 23 [(B c),int i] w0 base (O0 c most idle buffer last mb::[(mb,mapG kyI Lk.v kvs mn)]::zv kvs::H) (fun v H' => ∃ (K:List (Int×Lk×Nat)),KvI K mn last buffer N M∧(K.map fun e => e.1).Sublist (kvs.map fun e => e.1)∧(¬ i ∈ (K.map fun e => e.1))∧v=int 0∧H' = (O0 c most idle buffer last mb)::[(mb,mapG kyI Lk.v K mn)]::zv K::H):=by
 refine (iend hm hc).mono ?_
 rintro v H1 ⟨e9,K,h1,h2,h3,h4,h5,rfl,rfl⟩
 refine ⟨K,h1,h2,fun h9 => ?_,?_,Z⟩
 ·obtain ⟨e,he,hq⟩:=List.mem_map.1 h9; exact h5 e he hq
 ·obtain ⟨lk,hlk⟩:=key_some hin; rw [h4 (by rw [hlk]; rfl)]
theorem iend_out {w0:World}{base:Nat}{H:List Seg}{c mb:Nat}{most idle buffer last:Int}{kvs:List (Int×Lk×Nat)}{mn:Nat}{N M:Nat}{i:Int}(hm:¬ most=0) (hc:KvI kvs mn last buffer N M) (hin:¬ i ∈ (kvs.map fun e => e.1)) :
  SCalls Tryz.prog 23 [(B c),int i] w0 base (O0 c most idle buffer last mb::[(mb,mapG kyI Lk.v kvs mn)]::zv kvs::H) (fun v H' => ∃ (K:List (Int×Lk×Nat)),KvI K mn last buffer N M∧(K.map fun e => e.1).Sublist (kvs.map fun e => e.1)∧(¬ i ∈ (K.map fun e => e.1))∧v=int 6∧H' = (O0 c most idle buffer last mb)::[(mb,mapG kyI Lk.v K mn)]::zv K::H):=by
 refine (iend hm hc).mono ?_
 rintro v H1 ⟨e9,K,h1,h2,h3,h4,h5,rfl,rfl⟩
 refine ⟨K,h1,h2,fun h9 => ?_,?_,Z⟩
 ·obtain ⟨e,he,hq⟩:=List.mem_map.1 h9; exact h5 e he hq
 ·rw [h3 (zfm hin)]
theorem cnew_bad {w0:World}{base:Nat}{H:List Seg}{most idle buffer:Int}(hb:¬ ((1≤most∧most≤256)∧(1≤idle∧idle≤1073741824)∧(512≤buffer∧buffer≤1048576))) :
  SCalls Tryz.prog 9 [V most,V idle,V buffer] w0 base (H) (fun v H' => v = .tuple #[.pointer none,int 2]∧H' = H):=by
 refine SCalls.of_walk (n:=36) Tryz.func9 Z Z Z fun cs => ?_
 refine zc<|za<|AtL.assign zg0 Z Z<|AtL.assign zg0 Z Z<|AtL.done<|zc ?_
 refine zc<|za<|zb zg0 Z Z<|zA zg0 Z Z Z<|zb zg0 Z Z<|zy 3 (E':=[(13,.bool (decide (((most:Int) < 1)∨(256 < (most:Int))))),(0,V most),(1,V idle),(2,V buffer)]) (fun J => ?_) ?_
 ·refine zD (t:=10) Z ?_ ?_
  ·intro hs10
   refine ze Z Z Z Z Z Z<|ze Z Z Z Z Z Z<|zn zg0 Z Z Z ?_
   exact J _ (by exact ⟨(zw (by clear J; first | (simp [hs10]; done) | (simp_all; done) | grind)),Z,Z,Z,trivial⟩)
  ·intro hs10
   refine zb (.inr ⟨_,_,_,Z,Z,Z,Z⟩) Z Z<|zai (.inr ⟨_,_,_,Z,Z,Z,Z⟩) Z Z Z<|zm zg0 Z Z Z ?_
   exact J _ (by exact ⟨(zw (by clear J; first | (simp [hs10]; done) | (simp_all; done) | grind)),Z,Z,Z,trivial⟩)
 ·refine zb zg0 Z Z<|zy 3 (E':=[(17,.bool (decide ((((most:Int) < 1)∨(256 < (most:Int)))∨((idle:Int) < 1)))),(0,V most),(1,V idle),(2,V buffer)]) (fun J => ?_) ?_
  ·refine zD (t:=14) Z ?_ ?_
   ·intro hs14
    refine ze Z Z Z Z Z Z<|ze Z Z Z Z Z Z<|zn zg0 Z Z Z ?_
    exact J _ (by exact ⟨(zw (by clear J; first | (simp [hs14]; done) | (simp_all; done) | grind)),Z,Z,Z,trivial⟩)
   ·intro hs14
    refine zb (.inr ⟨_,_,_,Z,Z,Z,Z⟩) Z Z<|zA (.inr ⟨_,_,_,Z,Z,Z,Z⟩) Z Z Z<|zm zg0 Z Z Z ?_
    exact J _ (by exact ⟨(zw (by clear J; first | (simp [hs14]; done) | (simp_all; done) | grind)),Z,Z,Z,trivial⟩)
  ·refine zb zg0 Z Z<|zy 3 (E':=[(21,.bool (decide (((((most:Int) < 1)∨(256 < (most:Int)))∨((idle:Int) < 1))∨(1073741824 < (idle:Int))))),(0,V most),(1,V idle),(2,V buffer)]) (fun J => ?_) ?_
   ·refine zD (t:=18) Z ?_ ?_
    ·intro hs18
     refine ze Z Z Z Z Z Z<|ze Z Z Z Z Z Z<|zn zg0 Z Z Z ?_
     exact J _ (by exact ⟨(zw (by clear J; first | (simp [hs18]; done) | (simp_all; done) | grind)),Z,Z,Z,trivial⟩)
    ·intro hs18
     refine zb (.inr ⟨_,_,_,Z,Z,Z,Z⟩) Z Z<|zai (.inr ⟨_,_,_,Z,Z,Z,Z⟩) Z Z Z<|zm zg0 Z Z Z ?_
     exact J _ (by exact ⟨(zw (by clear J; first | (simp [hs18]; done) | (simp_all; done) | grind)),Z,Z,Z,trivial⟩)
   ·refine zb zg0 Z Z<|zy 3 (E':=[(25,.bool (decide ((((((most:Int) < 1)∨(256 < (most:Int)))∨((idle:Int) < 1))∨(1073741824 < (idle:Int)))∨((buffer:Int) < 512)))),(0,V most),(1,V idle),(2,V buffer)]) (fun J => ?_) ?_
    ·refine zD (t:=22) Z ?_ ?_
     ·intro hs22
      refine ze Z Z Z Z Z Z<|ze Z Z Z Z Z Z<|zn zg0 Z Z Z ?_
      exact J _ (by exact ⟨(zw (by clear J; first | (simp [hs22]; done) | (simp_all; done) | grind)),Z,Z,Z,trivial⟩)
     ·intro hs22
      refine zb (.inr ⟨_,_,_,Z,Z,Z,Z⟩) Z Z<|zA (.inr ⟨_,_,_,Z,Z,Z,Z⟩) Z Z Z<|zm zg0 Z Z Z ?_
      exact J _ (by exact ⟨(zw (by clear J; first | (simp [hs22]; done) | (simp_all; done) | grind)),Z,Z,Z,trivial⟩)
    ·refine zb zg0 Z Z<|zy 3 (E':=[(29,.bool (decide (((((((most:Int) < 1)∨(256 < (most:Int)))∨((idle:Int) < 1))∨(1073741824 < (idle:Int)))∨((buffer:Int) < 512))∨(1048576 < (buffer:Int))))),(0,V most),(1,V idle),(2,V buffer)]) (fun J => ?_) ?_
     ·refine zD (t:=26) Z ?_ ?_
      ·intro hs26
       refine ze Z Z Z Z Z Z<|ze Z Z Z Z Z Z<|zn zg0 Z Z Z ?_
       exact J _ (by exact ⟨(zw (by clear J; first | (simp [hs26]; done) | (simp_all; done) | grind)),Z,Z,Z,trivial⟩)
      ·intro hs26
       refine zb (.inr ⟨_,_,_,Z,Z,Z,Z⟩) Z Z<|zai (.inr ⟨_,_,_,Z,Z,Z,Z⟩) Z Z Z<|zm zg0 Z Z Z ?_
       exact J _ (by exact ⟨(zw (by clear J; first | (simp [hs26]; done) | (simp_all; done) | grind)),Z,Z,Z,trivial⟩)
     ·refine AtL.done<|zq Z ?_ ?_
      ·intro hc1
       refine zc<|za<|AtL.assign zg0 Z Z<|AtL.assign zg0 Z Z<|AtL.done ?_
       exact zt Tryz.func9 Z Z (⟨Z,Z⟩)
      ·intro hc1
       exfalso; omega
set_option maxHeartbeats 4000000 in
theorem zhy {w0:World}{base:Nat}{H:List Seg}(most idle buffer:Int) {A:Option Addr}{C:Nat}{l:List (Int×Int×Int×Bool×Int×Int×Int×Int×Vs UInt8)}(h:Rd zkv w0 base H A C l) (he:∀ x ∈ l,Rd tyB w0 base H x.2.2.2.2.2.2.2.2.A x.2.2.2.2.2.2.2.2.C x.2.2.2.2.2.2.2.2.l) (hb:∀ x ∈ l,x.2.2.2.2.2.2.2.2.l.length≤140737488351232) (T:Tabs w0 base) :
  SCalls Tryz.prog 7 [V most,V idle,V buffer,.slice A l.length C] w0 base (H) (fun v H' => v = .bool true∧H' = H):=by
 have hle0:=h.le
 have hcap0:=h.cap
 refine SCalls.of_walk (n:=283) Tryz.func7 Z Z Z fun cs => ?_
 refine zc<|za<|AtL.assign zg0 Z Z<|AtL.done<|zc<|za ?_
 refine zk tf_body5 zg0 Z Z zj4 ?_
 rintro _ _ ⟨rfl,hHq⟩
 obtain rfl:=hHq.symm
 refine AtL.assign zg0 Z Z<|AtL.done<|zc ?_
 rcases Decidable.em ((1≤most∧most≤256)∧(1≤idle∧idle≤1073741824)∧(512≤buffer∧buffer≤1048576)) with hb9 | hb9
 ·refine za<|zb zg0 Z Z<|zb zg0 Z Z<|zb zg0 Z Z<|zk zio zg0 Z Z (bnew hb9.1 hb9.2.1 hb9.2.2) ?_
  rintro _ _ ⟨c,mb,K1,hcs2,rfl,rfl⟩
  refine zb zg0 Z Z<|AtL.extract zg0 Z Z Z<|AtL.extract zg0 Z Z Z<|AtL.assign zg0 Z Z<|AtL.assign zg0 Z Z<|AtL.done ?_
  refine zc<|zc<|za<|zb zg0 Z Z<|zT zg0 Z Z Z<|zb zg0 Z Z ?_
  refine zb (.inr ⟨_,_,_,Z,Z,Z,Z⟩) Z Z<|zk tf_body24 (.inr ⟨_,_,_,Z,Z,Z,Z⟩) Z Z (long28_ok (l:=l) (Rd.skip 3 h) hb) ?_
  rintro _ _ ⟨z3,hz4,rfl,rfl⟩
  refine zm zg0 Z Z Z<|AtL.done<|zae Z ?_ ?_
  ·intro hc1
   have hc1:z3=true:=hc1
   refine zc<|za<|zb zg0 Z Z<|AtL.assign zg0 Z Z<|AtL.done<|At.pick [] 3 Z Z ?_
   exact zt Tryz.func7 Z Z (⟨Z,Z⟩)
  ·intro hc1
   have hc1:z3=false:=hc1
   refine zj<|zc<|zc<|za<|zb zg0 Z Z<|zbo Tryz.underlying25 zg0 Z Z Z ?_
   refine AtL.done<|zB Z<|zj<|zc<|za<|AtL.assign zg0 Z Z ?_
   refine AtL.done<|zc<|zc<|za<|AtL.assign zg0 Z Z<|AtL.done ?_
   refine At.block ?_
   obtain ⟨hl60,hlA⟩:=hz4 (by simpa using hc1)
   have hI0:KvI K1 0 0 buffer (lenA (l.take 0)) 0:=⟨hcs2.ok,by have h9:=hcs2.all; cases h9; intro e he; cases he⟩
   have hlen0:((K1).length:Int)≤most:=by rw [ziS hcs2.all]; show ((0:Nat):Int)≤most; omega
   refine zfJ (fun (i:Nat) (K:List (Int×Lk×Nat)) (mn0:Nat) (la:Int) => [(0,V most),(2,V buffer),(3,.slice A l.length C),(9,.bool true),(10,B c),(12,V la),(13,V (i:Int))]) (fun (i:Nat) (K:List (Int×Lk×Nat)) (mn0:Nat) (la:Int) => (O0 c most idle buffer la mb)::[(mb,mapG kyI Lk.v K mn0)]::zv K::H) (fun (i:Nat) (K:List (Int×Lk×Nat)) (mn0:Nat) (la:Int) => i≤l.length∧KvI K mn0 la buffer (lenA (l.take i)) i∧(K.length:Int)≤most∧(0≤la∧la≤(i:Int))) (fun (i:Nat) (K:List (Int×Lk×Nat)) (mn0:Nat) (la:Int) => l.length - i) 0 K1 0 0 (⟨Nat.zero_le _,hI0,hlen0,⟨Int.le_refl _,Int.le_refl _⟩⟩) ⟨Z,Z,Z,Z,Z,Z,Z,trivial⟩ Z ?_
   rintro i K mn0 la ⟨hi,hI,hkl,hla⟩ ihL1
   have hA9:=lenA_le l i
   refine zc<|zc<|za<|zb zg0 Z Z<|zb zg0 Z Z<|zC Tryz.underlying61 zg0 Z Z ?_
   refine zA zg0 Z Z Z<|AtL.done<|zq Z ?_ ?_
   ·intro hc3
    refine zj<|zc<|At.block<|zc<|za<|zb zg0 Z Z ?_
    refine zb zg0 Z Z ?_
    refine zF i (Rd.skip 3 h) Tryz.underlying61 zky zg0 Z Z Z Z (by omega) ?_
    refine zhk (n:=0) (Rd.skip 3 h) (zz zA0 (by omega)) Z tf_agg59 zg0 Z Z<|AtL.alloc tf_zero59 (cs:=#[V 0,V 0,V 0,.bool false,V 0,V 0,V 0,V 0,.slice none 0 0]) Z zg0 Z ?_
    intro b5
    refine zr (H':=O11 b5 ((l.getD i zA0).1) ((l.getD i zA0).2.1) ((l.getD i zA0).2.2.1) ((l.getD i zA0).2.2.2.1) ((l.getD i zA0).2.2.2.2.1) ((l.getD i zA0).2.2.2.2.2.1) ((l.getD i zA0).2.2.2.2.2.2.1) ((l.getD i zA0).2.2.2.2.2.2.2.1) (.slice ((l.getD i zA0).2.2.2.2.2.2.2.2.A) ((l.getD i zA0).2.2.2.2.2.2.2.2.l).length ((l.getD i zA0).2.2.2.2.2.2.2.2.C))::O0 c most idle buffer la mb::[(mb,mapG kyI Lk.v K mn0)]::zv K::H) 0 0 zky zg0 Z Z Z Z Z Z Z Z Z<|AtL.done<|zc<|za<|zb zg0 Z Z<|AtL.pick (H':=O0 c most idle buffer la mb::[(mb,mapG kyI Lk.v K mn0)]::zv K::O11 b5 ((l.getD i zA0).1) ((l.getD i zA0).2.1) ((l.getD i zA0).2.2.1) ((l.getD i zA0).2.2.2.1) ((l.getD i zA0).2.2.2.2.1) ((l.getD i zA0).2.2.2.2.2.1) ((l.getD i zA0).2.2.2.2.2.2.1) ((l.getD i zA0).2.2.2.2.2.2.2.1) (.slice ((l.getD i zA0).2.2.2.2.2.2.2.2.A) ((l.getD i zA0).2.2.2.2.2.2.2.2.l).length ((l.getD i zA0).2.2.2.2.2.2.2.2.C))::H) [1,2,3,0] 4 Z Z ?_
    refine zk zco zg0 Z Z (zen (H:=zv K::O11 b5 ((l.getD i zA0).1) ((l.getD i zA0).2.1) ((l.getD i zA0).2.2.1) ((l.getD i zA0).2.2.2.1) ((l.getD i zA0).2.2.2.2.1) ((l.getD i zA0).2.2.2.2.2.1) ((l.getD i zA0).2.2.2.2.2.2.1) ((l.getD i zA0).2.2.2.2.2.2.2.1) (.slice ((l.getD i zA0).2.2.2.2.2.2.2.2.A) ((l.getD i zA0).2.2.2.2.2.2.2.2.l).length ((l.getD i zA0).2.2.2.2.2.2.2.2.C))::H) (by omega) hI.ok) ?_
    rintro _ _ ⟨⟨A6,C7,l8,s9,o10⟩,hks11,rfl,rfl⟩
    obtain rfl:(K.map fun e => e.1)=l8:=hks11.symm
    refine AtL.assign zg0 Z Z<|AtL.done<|zc<|zc ?_
    have hil9:i < l.length:=by omega
    have hsu9:=lenA_succ hil9
    have hle9:=lenA_le l (i + 1)
    refine At.joinK (fun E2 H2 => ∃ (K9:List (Int×Lk×Nat)) (mn9:Nat) (la9:Int),KvI K9 mn9 la9 buffer (lenA (l.take (i + 1))) (i + 1)∧(∀ n9,n9 ∈ (K9.map fun e => e.1)→n9 ∈ (K.map fun e => e.1)∨n9=la9)∧(K9.length:Int)≤most∧(la≤la9∧la9≤la + 1)∧Sub [(0,V most),(2,V buffer),(3,.slice A l.length C),(9,.bool true),(10,B c),(12,V la9),(13,V (i:Int)),(15,.slice A6 (K.map fun e => e.1).length C7)] E2∧H2=s9::O0 c most idle buffer la9 mb::[(mb,mapG kyI Lk.v K9 mn9)]::zv K9::H) (fun J => ?_) ?_
    ·refine za<|zd tf_fo59_0 zg0 Z Z Z<|zh zo zg0 Z Z (Cell.own 4 0 Z Z Z) ?_
     refine zk tf_body13 zg0 Z Z (pick_ok ((l.getD i zA0).1) 10 (by omega)) ?_
     rintro _ _ ⟨rfl,rfl⟩
     refine AtL.done<|At.block<|zc<|za<|zW zg0 Z Z Z<|AtL.assign zg0 Z Z ?_
     refine AtL.done<|zq Z ?_ ?_
     ·intro hc4
      refine zc<|za<|zb zg0 Z Z<|zd tf_fo59_1 zg0 Z Z Z<|zh zo zg0 Z Z (Cell.own 4 0 Z Z Z)<|zd tf_fo59_3 zg0 Z Z Z ?_
      refine zh zR zg0 Z Z (Cell.own 4 0 Z Z Z)<|zd tf_fo59_2 zg0 Z Z Z<|zh zo zg0 Z Z (Cell.own 4 0 Z Z Z)<|zd zc7 zg0 Z Z Z<|zh zo zg0 Z Z (Cell.own 4 0 Z Z Z)<|AtL.pick (H':=O0 c most idle buffer la mb::[(mb,mapG kyI Lk.v K mn0)]::zv K::s9::O11 b5 ((l.getD i zA0).1) ((l.getD i zA0).2.1) ((l.getD i zA0).2.2.1) ((l.getD i zA0).2.2.2.1) ((l.getD i zA0).2.2.2.2.1) ((l.getD i zA0).2.2.2.2.2.1) ((l.getD i zA0).2.2.2.2.2.2.1) ((l.getD i zA0).2.2.2.2.2.2.2.1) (.slice ((l.getD i zA0).2.2.2.2.2.2.2.2.A) ((l.getD i zA0).2.2.2.2.2.2.2.2.l).length ((l.getD i zA0).2.2.2.2.2.2.2.2.C))::H) [1,2,3,0,4] 5 Z Z ?_
      refine zk zd9 zg0 Z Z (iopen (k:=(l.getD i zA0).2.1) (client:=(l.getD i zA0).2.2.1) (now:=(l.getD i zA0).2.2.2.2.2.2.2.1) (sd:=(l.getD i zA0).2.2.2.1) (by omega) hI (by omega) (by omega) (by omega)) ?_
      rintro _ _ ⟨n12,e13,K14,mn15,la16,hK17,ho18,rfl,rfl⟩
      refine zb zg0 Z Z<|AtL.extract zg0 Z Z Z<|AtL.extract zg0 Z Z Z<|AtL.assign zg0 Z Z<|AtL.assign zg0 Z Z<|AtL.done ?_
      refine zc<|zc ?_
      rcases ho18 with hoE | hoE
      ·have hmx9:max la n12=la16:=by omega
       refine za<|zb zg0 Z Z<|zW zg0 Z Z Z<|zb zg0 Z Z<|zy 5 (E':=[(105,.bool (decide (((e13:Int)=0)∧(¬ ((n12:Int)=(la + 1)))))),(0,V most),(2,V buffer),(3,.slice A l.length C),(9,.bool true),(10,B c),(12,V la),(13,V (i:Int)),(15,.slice A6 (K.map fun e => e.1).length C7),(16,V n12),(17,V e13)]) (fun J => ?_) ?_
       ·refine zD (t:=100) Z ?_ ?_
        ·intro hs100
         refine zb (.inr ⟨_,_,_,Z,Z,Z,Z⟩) Z Z<|zb (.inr ⟨_,_,_,Z,Z,Z,Z⟩) Z Z ?_
         refine AtL.add (z:=la + 1) (.inr ⟨_,_,_,Z,Z,Z,Z⟩) Z Z Z (w64 (by omega) (by omega))<|zT (.inr ⟨_,_,_,Z,Z,Z,Z⟩) Z Z Z<|zn zg0 Z Z Z ?_
         exact J _ (by exact ⟨(zw (by clear J; first | (simp [hs100]; done) | (simp_all; done) | grind)),Z,Z,Z,Z,Z,Z,Z,Z,Z,Z,trivial⟩)
        ·intro hs100
         refine ze Z Z Z Z Z Z<|ze Z Z Z Z Z Z<|ze Z Z Z Z Z Z<|ze Z Z Z Z Z Z<|zm zg0 Z Z Z ?_
         exact J _ (by exact ⟨(zw (by clear J; first | (simp [hs100]; done) | (simp_all; done) | grind)),Z,Z,Z,Z,Z,Z,Z,Z,Z,Z,trivial⟩)
       ·refine zb zg0 Z Z<|zy 7 (E':=[(113,.bool (decide ((((e13:Int)=0)∧(¬ ((n12:Int)=(la + 1))))∨((¬ ((e13:Int)=0))∧(¬ ((n12:Int)=0)))))),(0,V most),(2,V buffer),(3,.slice A l.length C),(9,.bool true),(10,B c),(12,V la),(13,V (i:Int)),(15,.slice A6 (K.map fun e => e.1).length C7),(16,V n12)]) (fun J => ?_) ?_
        ·refine zD (t:=106) Z ?_ ?_
         ·intro hs106
          refine ze Z Z Z Z Z Z<|ze Z Z Z Z Z Z<|ze Z Z Z Z Z Z<|zaa Z Z Z Z Z<|zaa Z Z Z Z Z<|ze Z Z Z Z Z Z ?_
          refine zn zg0 Z Z Z ?_
          exact J _ (by exact ⟨(zw (by clear J; first | (simp [hs106]; done) | (simp_all; done) | grind)),Z,Z,Z,Z,Z,Z,Z,Z,Z,trivial⟩)
         ·intro hs106
          refine zb (.inr ⟨_,_,_,Z,Z,Z,Z⟩) Z Z<|zT (.inr ⟨_,_,_,Z,Z,Z,Z⟩) Z Z Z<|zb (.inr ⟨_,_,_,Z,Z,Z,Z⟩) Z Z<|zy 3 (E':=[(112,.bool (decide ((¬ ((e13:Int)=0))∧(¬ ((n12:Int)=0))))),(0,V most),(2,V buffer),(3,.slice A l.length C),(9,.bool true),(10,B c),(12,V la),(13,V (i:Int)),(15,.slice A6 (K.map fun e => e.1).length C7),(16,V n12),(106,.bool false)]) (fun J => ?_) ?_
          ·refine zY (t:=109) Z ?_ ?_
           ·intro hs109
            have hs109:¬ ((e13:Int)=0):=of_decide_eq_false (zO hs109)
            refine zb (.inr ⟨_,_,_,Z,Z,Z,Z⟩) Z Z<|zT (.inr ⟨_,_,_,Z,Z,Z,Z⟩) Z Z Z<|zn (.inr ⟨_,_,_,Z,Z,Z,Z⟩) Z Z Z ?_
            exact J _ (by exact ⟨(zw (by clear J; first | (simp [hs109]; done) | (simp_all; done) | grind)),Z,Z,Z,Z,Z,Z,Z,Z,Z,Z,trivial⟩)
           ·intro hs109
            have hs109:(e13:Int)=0:=of_decide_eq_true (zJ hs109)
            refine ze Z Z Z Z Z Z<|ze Z Z Z Z Z Z<|zm (.inr ⟨_,_,_,Z,Z,Z,Z⟩) Z Z Z ?_
            exact J _ (by exact ⟨(zw (by clear J; first | (simp [hs109]; done) | (simp_all; done) | grind)),Z,Z,Z,Z,Z,Z,Z,Z,Z,Z,trivial⟩)
          ·refine zm zg0 Z Z Z ?_
           exact J _ (by exact ⟨(zw (by clear J; first | (simp [hs106]; done) | (simp_all; done) | grind)),Z,Z,Z,Z,Z,Z,Z,Z,Z,trivial⟩)
        ·refine AtL.done<|zq Z ?_ ?_
         ·intro hc5
          exfalso; omega
         ·intro hc5
          refine zj<|za<|zb zg0 Z Z<|zb zg0 Z Z ?_
          refine zcZ (z:=max la n12) zg0 Z Z Z (by omega)<|AtL.assign zg0 Z Z<|AtL.done<|zp<|At.pick [3,0,1,2] 5 Z Z ?_
          exact J _ _ ⟨K14,mn15,la16,hK17.mono (by omega) (by omega),by rw [hoE.2.2.2.2]; intro n9 hn9; rcases List.mem_append.1 hn9 with h9 | h9; exact .inl h9; exact .inr (by rw [List.mem_singleton.1 h9]; exact hoE.2.2.1.symm),by have h9:=congrArg List.length hoE.2.2.2.2; simp only [List.length_map,List.length_append,List.length_cons,List.length_nil] at h9; have:=hoE.2.2.2.1; omega,⟨by omega,by omega⟩,⟨Z,Z,Z,Z,Z,(by rw [hmx9]; rfl),Z,Z,trivial⟩,Z⟩
      ·have hmx9:max la n12=la16:=by omega
       refine za<|zb zg0 Z Z<|zW zg0 Z Z Z<|zb zg0 Z Z<|zy 5 (E':=[(105,.bool (decide (((e13:Int)=0)∧(¬ ((n12:Int)=(la + 1)))))),(0,V most),(2,V buffer),(3,.slice A l.length C),(9,.bool true),(10,B c),(12,V la),(13,V (i:Int)),(15,.slice A6 (K.map fun e => e.1).length C7),(16,V n12),(17,V e13)]) (fun J => ?_) ?_
       ·refine zD (t:=100) Z ?_ ?_
        ·intro hs100
         refine zb (.inr ⟨_,_,_,Z,Z,Z,Z⟩) Z Z<|zb (.inr ⟨_,_,_,Z,Z,Z,Z⟩) Z Z ?_
         refine AtL.add (z:=la + 1) (.inr ⟨_,_,_,Z,Z,Z,Z⟩) Z Z Z (w64 (by omega) (by omega))<|zT (.inr ⟨_,_,_,Z,Z,Z,Z⟩) Z Z Z<|zn zg0 Z Z Z ?_
         exact J _ (by exact ⟨(zw (by clear J; first | (simp [hs100]; done) | (simp_all; done) | grind)),Z,Z,Z,Z,Z,Z,Z,Z,Z,Z,trivial⟩)
        ·intro hs100
         refine ze Z Z Z Z Z Z<|ze Z Z Z Z Z Z<|ze Z Z Z Z Z Z<|ze Z Z Z Z Z Z<|zm zg0 Z Z Z ?_
         exact J _ (by exact ⟨(zw (by clear J; first | (simp [hs100]; done) | (simp_all; done) | grind)),Z,Z,Z,Z,Z,Z,Z,Z,Z,Z,trivial⟩)
       ·refine zb zg0 Z Z<|zy 7 (E':=[(113,.bool (decide ((((e13:Int)=0)∧(¬ ((n12:Int)=(la + 1))))∨((¬ ((e13:Int)=0))∧(¬ ((n12:Int)=0)))))),(0,V most),(2,V buffer),(3,.slice A l.length C),(9,.bool true),(10,B c),(12,V la),(13,V (i:Int)),(15,.slice A6 (K.map fun e => e.1).length C7),(16,V n12)]) (fun J => ?_) ?_
        ·refine zD (t:=106) Z ?_ ?_
         ·intro hs106
          refine ze Z Z Z Z Z Z<|ze Z Z Z Z Z Z<|ze Z Z Z Z Z Z<|zaa Z Z Z Z Z<|zaa Z Z Z Z Z<|ze Z Z Z Z Z Z ?_
          refine zn zg0 Z Z Z ?_
          exact J _ (by exact ⟨(zw (by clear J; first | (simp [hs106]; done) | (simp_all; done) | grind)),Z,Z,Z,Z,Z,Z,Z,Z,Z,trivial⟩)
         ·intro hs106
          refine zb (.inr ⟨_,_,_,Z,Z,Z,Z⟩) Z Z<|zT (.inr ⟨_,_,_,Z,Z,Z,Z⟩) Z Z Z<|zb (.inr ⟨_,_,_,Z,Z,Z,Z⟩) Z Z<|zy 3 (E':=[(112,.bool (decide ((¬ ((e13:Int)=0))∧(¬ ((n12:Int)=0))))),(0,V most),(2,V buffer),(3,.slice A l.length C),(9,.bool true),(10,B c),(12,V la),(13,V (i:Int)),(15,.slice A6 (K.map fun e => e.1).length C7),(16,V n12),(106,.bool false)]) (fun J => ?_) ?_
          ·refine zY (t:=109) Z ?_ ?_
           ·intro hs109
            have hs109:¬ ((e13:Int)=0):=of_decide_eq_false (zO hs109)
            refine zb (.inr ⟨_,_,_,Z,Z,Z,Z⟩) Z Z<|zT (.inr ⟨_,_,_,Z,Z,Z,Z⟩) Z Z Z<|zn (.inr ⟨_,_,_,Z,Z,Z,Z⟩) Z Z Z ?_
            exact J _ (by exact ⟨(zw (by clear J; first | (simp [hs109]; done) | (simp_all; done) | grind)),Z,Z,Z,Z,Z,Z,Z,Z,Z,Z,trivial⟩)
           ·intro hs109
            have hs109:(e13:Int)=0:=of_decide_eq_true (zJ hs109)
            refine ze Z Z Z Z Z Z<|ze Z Z Z Z Z Z<|zm (.inr ⟨_,_,_,Z,Z,Z,Z⟩) Z Z Z ?_
            exact J _ (by exact ⟨(zw (by clear J; first | (simp [hs109]; done) | (simp_all; done) | grind)),Z,Z,Z,Z,Z,Z,Z,Z,Z,Z,trivial⟩)
          ·refine zm zg0 Z Z Z ?_
           exact J _ (by exact ⟨(zw (by clear J; first | (simp [hs106]; done) | (simp_all; done) | grind)),Z,Z,Z,Z,Z,Z,Z,Z,Z,trivial⟩)
        ·refine AtL.done<|zq Z ?_ ?_
         ·intro hc5
          exfalso; omega
         ·intro hc5
          refine zj<|za<|zb zg0 Z Z<|zb zg0 Z Z ?_
          refine zcZ (z:=max la n12) zg0 Z Z Z (by omega)<|AtL.assign zg0 Z Z<|AtL.done<|zp<|At.pick [3,0,1,2] 5 Z Z ?_
          exact J _ _ ⟨K14,mn15,la16,hK17.mono (by omega) (by omega),by rw [hoE.2.2.2]; exact fun n9 hn9 => .inl hn9,by rw [hoE.2.2.2]; exact hkl,⟨by omega,by omega⟩,⟨Z,Z,Z,Z,Z,(by rw [hmx9]; rfl),Z,Z,trivial⟩,Z⟩
     ·intro hc4
      refine zc<|zc<|za<|zW zg0 Z Z Z<|AtL.assign zg0 Z Z<|AtL.done ?_
      refine zq Z ?_ ?_
      ·intro hc6
       refine zj<|zq Z ?_ ?_
       ·intro hc7
        refine za<|zb zg0 Z Z<|zd zao zg0 Z Z Z<|zh zo zg0 Z Z (Cell.own 4 0 Z Z Z)<|zd zjf zg0 Z Z Z<|zh zo zg0 Z Z (Cell.own 4 0 Z Z Z) ?_
        refine zd zd5 zg0 Z Z Z<|zh zE zg0 Z Z (Cell.own 4 0 Z Z Z)<|AtL.pick (H':=O0 c most idle buffer la mb::[(mb,mapG kyI Lk.v K mn0)]::zv K::s9::O11 b5 ((l.getD i zA0).1) ((l.getD i zA0).2.1) ((l.getD i zA0).2.2.1) ((l.getD i zA0).2.2.2.1) ((l.getD i zA0).2.2.2.2.1) ((l.getD i zA0).2.2.2.2.2.1) ((l.getD i zA0).2.2.2.2.2.2.1) ((l.getD i zA0).2.2.2.2.2.2.2.1) (.slice ((l.getD i zA0).2.2.2.2.2.2.2.2.A) ((l.getD i zA0).2.2.2.2.2.2.2.2.l).length ((l.getD i zA0).2.2.2.2.2.2.2.2.C))::H) [1,2,3,0,4] 5 Z Z ?_
        refine zk zgK zg0 Z Z (ianswer (i:=(l.getD i zA0).2.2.2.2.1) (slot:=(l.getD i zA0).2.2.2.2.2.1) (l:=(l.getD i zA0).2.2.2.2.2.2.2.2.l) (by omega) hI (by omega) (Rd.skip 2 (he _ (zbh (l:=l) (i:=i) (d:=zA0) (by omega)))) (by omega) (by omega)) ?_
        rintro _ _ ⟨e19,s20,K21,hK22,hs23,rfl,rfl⟩
        refine AtL.done<|zp<|At.pick [4,1,2,3] 6 Z Z ?_
        exact J _ _ ⟨K21,mn0,la,hK22.mono (by omega) (by omega),fun n9 hn9 => .inl (hs23.subset hn9),by have h9:=zcq hs23; omega,⟨by omega,by omega⟩,⟨Z,Z,Z,Z,Z,Z,Z,Z,trivial⟩,Z⟩
       ·intro hc7
        refine zc<|za<|zW zg0 Z Z Z<|AtL.assign zg0 Z Z<|AtL.done<|zq Z ?_ ?_
        ·intro hc8
         refine zc<|za<|zb zg0 Z Z<|zd zao zg0 Z Z Z<|zh zo zg0 Z Z (Cell.own 4 0 Z Z Z)<|zd zfb zg0 Z Z Z ?_
         refine zh zo zg0 Z Z (Cell.own 4 0 Z Z Z)<|zd zc7 zg0 Z Z Z<|zh zo zg0 Z Z (Cell.own 4 0 Z Z Z)<|AtL.pick (H':=O0 c most idle buffer la mb::[(mb,mapG kyI Lk.v K mn0)]::zv K::s9::O11 b5 ((l.getD i zA0).1) ((l.getD i zA0).2.1) ((l.getD i zA0).2.2.1) ((l.getD i zA0).2.2.2.1) ((l.getD i zA0).2.2.2.2.1) ((l.getD i zA0).2.2.2.2.2.1) ((l.getD i zA0).2.2.2.2.2.2.1) ((l.getD i zA0).2.2.2.2.2.2.2.1) (.slice ((l.getD i zA0).2.2.2.2.2.2.2.2.A) ((l.getD i zA0).2.2.2.2.2.2.2.2.l).length ((l.getD i zA0).2.2.2.2.2.2.2.2.C))::H) [1,2,3,0,4] 5 Z Z ?_
         refine zk zgJ zg0 Z Z (itake (i:=(l.getD i zA0).2.2.2.2.1) (m:=(l.getD i zA0).2.2.2.2.2.2.1) (now:=(l.getD i zA0).2.2.2.2.2.2.2.1) (by omega) hI (by omega)) ?_
         rintro _ _ ⟨A24,n25,C26,e28,s29,K30,hK31,hs32,hf33,hm34,rfl,rfl⟩
         obtain ⟨ll27,rfl⟩:∃ ll27:List UInt8,n25=ll27.length:=⟨List.replicate n25 0,by simp⟩
         refine zb zg0 Z Z<|AtL.extract zg0 Z Z Z<|AtL.extract zg0 Z Z Z<|AtL.assign zg0 Z Z<|AtL.assign zg0 Z Z<|AtL.done ?_
         refine zc<|za<|zb zg0 Z Z<|zd zao zg0 Z Z Z<|zh zo zg0 Z Z (Cell.own 5 0 Z Z Z) ?_
         refine zk za8 zg0 Z Z (by exact zcU _ (o10.rd (i:=4) Z)) ?_
         rintro _ _ ⟨rfl,rfl⟩
         refine zag zg0 Z Z<|zb zg0 Z Z<|zy 8 (E':=[(154,.bool (decide ((¬ (((l.getD i zA0).2.2.2.2.1) ∈ (K.map fun e => e.1)))∧((¬ ((e28:Int)=6))∨(0 < (ll27.length:Int)))))),(0,V most),(2,V buffer),(3,.slice A l.length C),(9,.bool true),(10,B c),(12,V la),(13,V (i:Int)),(14,B b5),(15,.slice A6 (K.map fun e => e.1).length C7),(18,.slice A24 ll27.length C26)]) (fun J => ?_) ?_
         ·refine zY (t:=146) Z ?_ ?_
          ·intro hs146
           have hs146:¬ (((l.getD i zA0).2.2.2.2.1) ∈ (K.map fun e => e.1)):=of_decide_eq_false (zO hs146)
           refine zb (.inr ⟨_,_,_,Z,Z,Z,Z⟩) Z Z<|zT (.inr ⟨_,_,_,Z,Z,Z,Z⟩) Z Z Z<|zb (.inr ⟨_,_,_,Z,Z,Z,Z⟩) Z Z<|zy 4 (E':=[(153,.bool (decide ((¬ ((e28:Int)=6))∨(0 < (ll27.length:Int))))),(0,V most),(2,V buffer),(3,.slice A l.length C),(9,.bool true),(10,B c),(12,V la),(13,V (i:Int)),(14,B b5),(15,.slice A6 (K.map fun e => e.1).length C7),(18,.slice A24 ll27.length C26),(146,.bool true)]) (fun J => ?_) ?_
           ·refine zY (t:=149) Z ?_ ?_
            ·intro hs149
             have hs149:¬ ((e28:Int)=6):=of_decide_eq_false (zO hs149)
             refine ze Z Z Z Z Z Z<|ze Z Z Z Z Z Z<|ze Z Z Z Z Z Z<|zn (.inr ⟨_,_,_,Z,Z,Z,Z⟩) Z Z Z ?_
             exact J _ (by exact ⟨(zw (by clear J; first | (simp [hs149]; done) | (simp_all; done) | grind)),Z,Z,Z,Z,Z,Z,Z,Z,Z,Z,Z,trivial⟩)
            ·intro hs149
             have hs149:(e28:Int)=6:=of_decide_eq_true (zJ hs149)
             refine zb (.inr ⟨_,_,_,Z,Z,Z,Z⟩) Z Z<|zC Tryz.underlying34 (.inr ⟨_,_,_,Z,Z,Z,Z⟩) Z Z<|zai (.inr ⟨_,_,_,Z,Z,Z,Z⟩) Z Z Z<|zm (.inr ⟨_,_,_,Z,Z,Z,Z⟩) Z Z Z ?_
             exact J _ (by exact ⟨(zw (by clear J; first | (simp [hs149]; done) | (simp_all; done) | grind)),Z,Z,Z,Z,Z,Z,Z,Z,Z,Z,Z,trivial⟩)
           ·refine zn zg0 Z Z Z ?_
            exact J _ (by exact ⟨(zw (by clear J; first | (simp [hs146]; done) | (simp_all; done) | grind)),Z,Z,Z,Z,Z,Z,Z,Z,Z,Z,trivial⟩)
          ·intro hs146
           have hs146:((l.getD i zA0).2.2.2.2.1) ∈ (K.map fun e => e.1):=of_decide_eq_true (zJ hs146)
           refine ze Z Z Z Z Z Z<|ze Z Z Z Z Z Z<|ze Z Z Z Z Z Z<|zaa Z Z Z Z Z<|zaa Z Z Z Z Z<|zaa Z Z Z Z Z ?_
           refine ze Z Z Z Z Z Z<|zm zg0 Z Z Z ?_
           exact J _ (by exact ⟨(zw (by clear J; first | (simp [hs146]; done) | (simp_all; done) | grind)),Z,Z,Z,Z,Z,Z,Z,Z,Z,Z,trivial⟩)
         ·refine zb zg0 Z Z<|zy 7 (E':=[(162,.bool (decide (((¬ (((l.getD i zA0).2.2.2.2.1) ∈ (K.map fun e => e.1)))∧((¬ ((e28:Int)=6))∨(0 < (ll27.length:Int))))∨((max ((l.getD i zA0).2.2.2.2.2.2.1) 0) < (ll27.length:Int))))),(0,V most),(2,V buffer),(3,.slice A l.length C),(9,.bool true),(10,B c),(12,V la),(13,V (i:Int)),(15,.slice A6 (K.map fun e => e.1).length C7)]) (fun J => ?_) ?_
          ·refine zD (t:=155) Z ?_ ?_
           ·intro hs155
            refine ze Z Z Z Z Z Z<|ze Z Z Z Z Z Z<|ze Z Z Z Z Z Z<|ze Z Z Z Z Z Z<|ze Z Z Z Z Z Z<|ze Z Z Z Z Z Z ?_
            refine zn zg0 Z Z Z ?_
            exact J _ (by exact ⟨(zw (by clear J; first | (simp [hs155]; done) | (simp_all; done) | grind)),Z,Z,Z,Z,Z,Z,Z,Z,trivial⟩)
           ·intro hs155
            refine zb (.inr ⟨_,_,_,Z,Z,Z,Z⟩) Z Z<|zC Tryz.underlying34 (.inr ⟨_,_,_,Z,Z,Z,Z⟩) Z Z<|zd zfb (.inr ⟨_,_,_,Z,Z,Z,Z⟩) Z Z Z<|zh zo (.inr ⟨_,_,_,Z,Z,Z,Z⟩) Z Z (Cell.own 5 0 Z Z Z) ?_
            refine zcZ (z:=max ((l.getD i zA0).2.2.2.2.2.2.1) 0) (.inr ⟨_,_,_,Z,Z,Z,Z⟩) Z Z Z (by omega)<|zai (.inr ⟨_,_,_,Z,Z,Z,Z⟩) Z Z Z<|zm zg0 Z Z Z ?_
            exact J _ (by exact ⟨(zw (by clear J; first | (simp [hs155]; done) | (simp_all; done) | grind)),Z,Z,Z,Z,Z,Z,Z,Z,trivial⟩)
          ·refine AtL.done<|zq Z ?_ ?_
           ·intro hc9
            exfalso
            have hq9:=fun (h9:¬ (l.getD i zA0).2.2.2.2.1 ∈ (K.map fun e => e.1)) => hf33 (zfm h9)
            by_cases hz8:(l.getD i zA0).2.2.2.2.1 ∈ (K.map fun e => e.1)
            ·first | (simp only [hz8,not_true,false_and,false_or,or_false] at hc9; first | omega | (obtain ⟨h7,h8⟩:=hc9; omega)) | grind
            ·obtain ⟨h7,h8⟩:=hq9 hz8; simp only [h7,h8,hz8,not_false_eq_true,true_and] at hc9; first | omega | grind
           ·intro hc9
            refine zj<|zp<|At.pick [4,1,2,3] 6 Z Z ?_
            exact J _ _ ⟨K30,mn0,la,hK31.mono (by omega) (by omega),fun n9 hn9 => .inl (hs32.subset hn9),by have h9:=zcq hs32; omega,⟨by omega,by omega⟩,⟨Z,Z,Z,Z,Z,Z,Z,Z,trivial⟩,Z⟩
        ·intro hc8
         refine zc<|za<|zW zg0 Z Z Z<|AtL.assign zg0 Z Z<|AtL.done<|zq Z ?_ ?_
         ·intro hc10
          refine za<|zb zg0 Z Z<|zd zao zg0 Z Z Z<|zh zo zg0 Z Z (Cell.own 4 0 Z Z Z)<|AtL.pick (H':=O0 c most idle buffer la mb::[(mb,mapG kyI Lk.v K mn0)]::zv K::s9::O11 b5 ((l.getD i zA0).1) ((l.getD i zA0).2.1) ((l.getD i zA0).2.2.1) ((l.getD i zA0).2.2.2.1) ((l.getD i zA0).2.2.2.2.1) ((l.getD i zA0).2.2.2.2.2.1) ((l.getD i zA0).2.2.2.2.2.2.1) ((l.getD i zA0).2.2.2.2.2.2.2.1) (.slice ((l.getD i zA0).2.2.2.2.2.2.2.2.A) ((l.getD i zA0).2.2.2.2.2.2.2.2.l).length ((l.getD i zA0).2.2.2.2.2.2.2.2.C))::H) [1,2,3,0,4] 5 Z Z ?_
          refine zk zju zg0 Z Z (ifinish (i:=(l.getD i zA0).2.2.2.2.1) (by omega) hI (by omega) (by omega)) ?_
          rintro _ _ ⟨e35,s36,K37,hK38,hs39,rfl,rfl⟩
          refine AtL.done<|zp<|At.pick [4,1,2,3] 6 Z Z ?_
          exact J _ _ ⟨K37,mn0,la,hK38.mono (by omega) (by omega),fun n9 hn9 => .inl (hs39.subset hn9),by have h9:=zcq hs39; omega,⟨by omega,by omega⟩,⟨Z,Z,Z,Z,Z,Z,Z,Z,trivial⟩,Z⟩
         ·intro hc10
          refine zc<|za<|zW zg0 Z Z Z<|AtL.assign zg0 Z Z<|AtL.done<|zq Z ?_ ?_
          ·intro hc11
           refine zc ?_
           rcases Decidable.em ((l.getD i zA0).2.2.2.2.1 ∈ (K.map fun e => e.1)) with hin9 | hin9
           ·refine zac (es:=[3,12]) (pv:=[(0,B c),(1,.pointer (some ⟨b5,4,none⟩)),(2,V ((l.getD i zA0).2.2.2.2.1)),(5,.slice A6 (K.map fun e => e.1).length C7),(6,.pointer (some ⟨b5,4,none⟩)),(7,V ((l.getD i zA0).2.2.2.2.1))]) zV (by kernel_rfl) (by kernel_rfl) (by kernel_rfl) ?_
            refine ⟨⟨zpr Z Z Z (zi Z),zpr Z Z Z (zg zao Z Z),zpr Z Z Z (zu zo Z (Cell.own 4 0 Z Z Z)),zpr Z Z Z (zi Z),zpr Z Z Z (zg zao Z Z),zpr Z Z Z (zu zo Z (Cell.own 4 0 Z Z Z)),trivial⟩,Z,Z,by kernel_rfl,_,Z,Z,Z,_,Does.pick (H':=O0 c most idle buffer la mb::[(mb,mapG kyI Lk.v K mn0)]::zv K::s9::O11 b5 ((l.getD i zA0).1) ((l.getD i zA0).2.1) ((l.getD i zA0).2.2.1) ((l.getD i zA0).2.2.2.1) ((l.getD i zA0).2.2.2.2.1) ((l.getD i zA0).2.2.2.2.2.1) ((l.getD i zA0).2.2.2.2.2.2.1) ((l.getD i zA0).2.2.2.2.2.2.2.1) (.slice ((l.getD i zA0).2.2.2.2.2.2.2.2.A) ((l.getD i zA0).2.2.2.2.2.2.2.2.l).length ((l.getD i zA0).2.2.2.2.2.2.2.2.C))::H) [1,2,3,0,4] 5 Z Z (zaz zd8 Z (iend_in (i:=(l.getD i zA0).2.2.2.2.1) (by omega) hI hin9)),?_⟩
            rintro _ _ ⟨K40,hK41,hs42,hno43,rfl,rfl⟩
            refine ⟨[(4,.bool true),(8,.bool true),(9,.bool false),(10,.bool false),(11,B c),(13,.pointer (some ⟨b5,4,none⟩)),(14,V ((l.getD i zA0).2.2.2.2.1))],Z,?_⟩
            refine ⟨⟨zpr Z Z Z (zM (zdg Z Z) (by decide)),zpr Z Z Z (zM (zaz za8 Z (by exact zcU _ (o10.rd (i:=3) Z))) (decide_eq_true hin9)),zpr Z Z Z (zM (Do.neb Tryz.underlying4 Z Z) (congrArg not (beq_self_eq_true _))),zpr Z Z Z (zi Z),zpr Z Z ⟨_,_,_,Z,Z,Z,Z⟩ (zi Z),zpr Z Z ⟨_,_,_,Z,Z,Z,Z⟩ (zg zao Z Z),zpr Z Z ⟨_,_,_,Z,Z,Z,Z⟩ (zu zo Z (Cell.own 4 0 Z Z Z)),.inl (by kernel_rfl),.inl (by kernel_rfl),.inl (by kernel_rfl),zpr Z Z Z (zi Z),zpr Z Z Z (zg zao Z Z),zpr Z Z Z (zu zo Z (Cell.own 4 0 Z Z Z)),trivial⟩,Z,Z,by kernel_rfl,_,Z,Z,⟨_,_,_,Z,Z,Z,Z⟩,_,zaz zco Z (zen (H:=zv K40::s9::O11 b5 ((l.getD i zA0).1) ((l.getD i zA0).2.1) ((l.getD i zA0).2.2.1) ((l.getD i zA0).2.2.2.1) ((l.getD i zA0).2.2.2.2.1) ((l.getD i zA0).2.2.2.2.2.1) ((l.getD i zA0).2.2.2.2.2.2.1) ((l.getD i zA0).2.2.2.2.2.2.2.1) (.slice ((l.getD i zA0).2.2.2.2.2.2.2.2.A) ((l.getD i zA0).2.2.2.2.2.2.2.2.l).length ((l.getD i zA0).2.2.2.2.2.2.2.2.C))::H) (by omega) hK41.ok),?_⟩
            rintro _ _ ⟨⟨A44,C45,l46,s47,o48⟩,hks49,rfl,rfl⟩
            obtain rfl:(K40.map fun e => e.1)=l46:=hks49.symm
            refine ⟨[(15,.bool false),(16,.bool false)],Z,?_⟩
            refine ⟨⟨zpr Z Z ⟨_,_,_,Z,Z,Z,Z⟩ (zM (zaz za8 Z (by exact zcU _ (o48.rd (i:=0) Z))) (decide_eq_false hno43)),zpr Z Z Z (zak Z Z),.inl (by kernel_rfl),.inl (by kernel_rfl),.inl (by kernel_rfl),.inl (by kernel_rfl),.inl (by kernel_rfl),zpr Z Z ⟨_,_,_,Z,Z,Z,Z⟩ (zg zao Z Z),zpr Z Z ⟨_,_,_,Z,Z,Z,Z⟩ (zu zo Z (Cell.own 5 0 Z Z Z)),.inl (by kernel_rfl),.inl (by kernel_rfl),.inl (by kernel_rfl),.inl (by kernel_rfl),.inl (by kernel_rfl),.inl (by kernel_rfl),trivial⟩,by kernel_rfl,?_⟩
            refine At.mono (E':=[(0,V most),(2,V buffer),(3,.slice A l.length C),(9,.bool true),(10,B c),(12,V la),(13,V (i:Int)),(15,.slice A6 (K.map fun e => e.1).length C7),(187,.bool false)]) ⟨Z,Z,Z,Z,Z,Z,Z,Z,Z,trivial⟩<|zB Z<|zj<|zp<|At.pick [4,1,2,3] 6 Z Z ?_
            exact J _ _ ⟨K40,mn0,la,hK41.mono (by omega) (by omega),fun n9 hn9 => .inl (hs42.subset hn9),by have h9:=zcq hs42; omega,⟨by omega,by omega⟩,⟨Z,Z,Z,Z,Z,Z,Z,Z,trivial⟩,Z⟩
           ·refine zac (es:=[3,12]) (pv:=[(0,B c),(1,.pointer (some ⟨b5,4,none⟩)),(2,V ((l.getD i zA0).2.2.2.2.1)),(5,.slice A6 (K.map fun e => e.1).length C7),(6,.pointer (some ⟨b5,4,none⟩)),(7,V ((l.getD i zA0).2.2.2.2.1))]) zV (by kernel_rfl) (by kernel_rfl) (by kernel_rfl) ?_
            refine ⟨⟨zpr Z Z Z (zi Z),zpr Z Z Z (zg zao Z Z),zpr Z Z Z (zu zo Z (Cell.own 4 0 Z Z Z)),zpr Z Z Z (zi Z),zpr Z Z Z (zg zao Z Z),zpr Z Z Z (zu zo Z (Cell.own 4 0 Z Z Z)),trivial⟩,Z,Z,by kernel_rfl,_,Z,Z,Z,_,Does.pick (H':=O0 c most idle buffer la mb::[(mb,mapG kyI Lk.v K mn0)]::zv K::s9::O11 b5 ((l.getD i zA0).1) ((l.getD i zA0).2.1) ((l.getD i zA0).2.2.1) ((l.getD i zA0).2.2.2.1) ((l.getD i zA0).2.2.2.2.1) ((l.getD i zA0).2.2.2.2.2.1) ((l.getD i zA0).2.2.2.2.2.2.1) ((l.getD i zA0).2.2.2.2.2.2.2.1) (.slice ((l.getD i zA0).2.2.2.2.2.2.2.2.A) ((l.getD i zA0).2.2.2.2.2.2.2.2.l).length ((l.getD i zA0).2.2.2.2.2.2.2.2.C))::H) [1,2,3,0,4] 5 Z Z (zaz zd8 Z (iend_out (i:=(l.getD i zA0).2.2.2.2.1) (by omega) hI hin9)),?_⟩
            rintro _ _ ⟨K60,hK61,hs62,hno63,rfl,rfl⟩
            refine ⟨[(4,.bool false),(8,.bool false),(9,.bool false),(10,.bool false),(11,B c),(13,.pointer (some ⟨b5,4,none⟩)),(14,V ((l.getD i zA0).2.2.2.2.1))],Z,?_⟩
            refine ⟨⟨zpr Z Z Z (zM (zdg Z Z) (by decide)),zpr Z Z Z (zM (zaz za8 Z (by exact zcU _ (o10.rd (i:=3) Z))) (decide_eq_false hin9)),zpr Z Z Z (zM (Do.neb Tryz.underlying4 Z Z) (congrArg not (beq_self_eq_true _))),zpr Z Z Z (zi Z),zpr Z Z ⟨_,_,_,Z,Z,Z,Z⟩ (zi Z),zpr Z Z ⟨_,_,_,Z,Z,Z,Z⟩ (zg zao Z Z),zpr Z Z ⟨_,_,_,Z,Z,Z,Z⟩ (zu zo Z (Cell.own 4 0 Z Z Z)),.inl (by kernel_rfl),.inl (by kernel_rfl),.inl (by kernel_rfl),zpr Z Z Z (zi Z),zpr Z Z Z (zg zao Z Z),zpr Z Z Z (zu zo Z (Cell.own 4 0 Z Z Z)),trivial⟩,Z,Z,by kernel_rfl,_,Z,Z,⟨_,_,_,Z,Z,Z,Z⟩,_,zaz zco Z (zen (H:=zv K60::s9::O11 b5 ((l.getD i zA0).1) ((l.getD i zA0).2.1) ((l.getD i zA0).2.2.1) ((l.getD i zA0).2.2.2.1) ((l.getD i zA0).2.2.2.2.1) ((l.getD i zA0).2.2.2.2.2.1) ((l.getD i zA0).2.2.2.2.2.2.1) ((l.getD i zA0).2.2.2.2.2.2.2.1) (.slice ((l.getD i zA0).2.2.2.2.2.2.2.2.A) ((l.getD i zA0).2.2.2.2.2.2.2.2.l).length ((l.getD i zA0).2.2.2.2.2.2.2.2.C))::H) (by omega) hK61.ok),?_⟩
            rintro _ _ ⟨⟨A64,C65,l66,s67,o68⟩,hks69,rfl,rfl⟩
            obtain rfl:(K60.map fun e => e.1)=l66:=hks69.symm
            refine ⟨[(15,.bool false),(16,.bool false)],Z,?_⟩
            refine ⟨⟨zpr Z Z ⟨_,_,_,Z,Z,Z,Z⟩ (zM (zaz za8 Z (by exact zcU _ (o68.rd (i:=0) Z))) (decide_eq_false hno63)),zpr Z Z Z (zak Z Z),.inl (by kernel_rfl),.inl (by kernel_rfl),.inl (by kernel_rfl),.inl (by kernel_rfl),.inl (by kernel_rfl),zpr Z Z ⟨_,_,_,Z,Z,Z,Z⟩ (zg zao Z Z),zpr Z Z ⟨_,_,_,Z,Z,Z,Z⟩ (zu zo Z (Cell.own 5 0 Z Z Z)),.inl (by kernel_rfl),.inl (by kernel_rfl),.inl (by kernel_rfl),.inl (by kernel_rfl),.inl (by kernel_rfl),.inl (by kernel_rfl),trivial⟩,by kernel_rfl,?_⟩
            refine At.mono (E':=[(0,V most),(2,V buffer),(3,.slice A l.length C),(9,.bool true),(10,B c),(12,V la),(13,V (i:Int)),(15,.slice A6 (K.map fun e => e.1).length C7),(187,.bool false)]) ⟨Z,Z,Z,Z,Z,Z,Z,Z,Z,trivial⟩<|zB Z<|zj<|zp<|At.pick [4,1,2,3] 6 Z Z ?_
            exact J _ _ ⟨K60,mn0,la,hK61.mono (by omega) (by omega),fun n9 hn9 => .inl (hs62.subset hn9),by have h9:=zcq hs62; omega,⟨by omega,by omega⟩,⟨Z,Z,Z,Z,Z,Z,Z,Z,trivial⟩,Z⟩
          ·intro hc11
           refine zc<|za<|zW zg0 Z Z Z<|AtL.assign zg0 Z Z<|AtL.done<|zq Z ?_ ?_
           ·intro hc13
            refine za<|zb zg0 Z Z<|zd zc7 zg0 Z Z Z<|zh zo zg0 Z Z (Cell.own 4 0 Z Z Z)<|AtL.pick (H':=O0 c most idle buffer la mb::[(mb,mapG kyI Lk.v K mn0)]::zv K::s9::O11 b5 ((l.getD i zA0).1) ((l.getD i zA0).2.1) ((l.getD i zA0).2.2.1) ((l.getD i zA0).2.2.2.1) ((l.getD i zA0).2.2.2.2.1) ((l.getD i zA0).2.2.2.2.2.1) ((l.getD i zA0).2.2.2.2.2.2.1) ((l.getD i zA0).2.2.2.2.2.2.2.1) (.slice ((l.getD i zA0).2.2.2.2.2.2.2.2.A) ((l.getD i zA0).2.2.2.2.2.2.2.2.l).length ((l.getD i zA0).2.2.2.2.2.2.2.2.C))::H) [1,2,3,0,4] 5 Z Z ?_
            refine zk zfe zg0 Z Z (itick (now:=(l.getD i zA0).2.2.2.2.2.2.2.1) (by omega) hI (by omega)) ?_
            rintro _ _ ⟨A80,n81,C82,s84,K85,hK86,hs87,rfl,rfl⟩
            obtain ⟨ll83,rfl⟩:∃ ll83:List UInt8,n81=ll83.length:=⟨List.replicate n81 0,by simp⟩
            refine AtL.done<|zp<|At.pick [4,1,2,3] 6 Z Z ?_
            exact J _ _ ⟨K85,mn0,la,hK86.mono (by omega) (by omega),fun n9 hn9 => .inl (hs87.subset hn9),by have h9:=zcq hs87; omega,⟨by omega,by omega⟩,⟨Z,Z,Z,Z,Z,Z,Z,Z,trivial⟩,Z⟩
           ·intro hc13
            refine zc<|za<|zb zg0 Z Z<|zd zao zg0 Z Z Z<|zh zo zg0 Z Z (Cell.own 4 0 Z Z Z)<|zd zd5 zg0 Z Z Z ?_
            refine zh zE zg0 Z Z (Cell.own 4 0 Z Z Z)<|zd zc7 zg0 Z Z Z<|zh zo zg0 Z Z (Cell.own 4 0 Z Z Z)<|AtL.pick (H':=O0 c most idle buffer la mb::[(mb,mapG kyI Lk.v K mn0)]::zv K::s9::O11 b5 ((l.getD i zA0).1) ((l.getD i zA0).2.1) ((l.getD i zA0).2.2.1) ((l.getD i zA0).2.2.2.1) ((l.getD i zA0).2.2.2.2.1) ((l.getD i zA0).2.2.2.2.2.1) ((l.getD i zA0).2.2.2.2.2.2.1) ((l.getD i zA0).2.2.2.2.2.2.2.1) (.slice ((l.getD i zA0).2.2.2.2.2.2.2.2.A) ((l.getD i zA0).2.2.2.2.2.2.2.2.l).length ((l.getD i zA0).2.2.2.2.2.2.2.2.C))::H) [1,2,3,0,4] 5 Z Z ?_
            refine zk zdG zg0 Z Z (ipush (i:=(l.getD i zA0).2.2.2.2.1) (now:=(l.getD i zA0).2.2.2.2.2.2.2.1) (l:=(l.getD i zA0).2.2.2.2.2.2.2.2.l) (by omega) hI (Rd.skip 2 (he _ (zbh (l:=l) (i:=i) (d:=zA0) (by omega)))) (by omega) (by omega) T) ?_
            rintro _ _ ⟨A88,n89,C90,e92,s93,K94,hK95,hs96,hf97,rfl,rfl⟩
            obtain ⟨ll91,rfl⟩:∃ ll91:List UInt8,n89=ll91.length:=⟨List.replicate n89 0,by simp⟩
            refine zb zg0 Z Z<|AtL.extract zg0 Z Z Z<|AtL.extract zg0 Z Z Z<|AtL.assign zg0 Z Z<|AtL.assign zg0 Z Z<|AtL.done ?_
            refine zc<|za<|zb zg0 Z Z<|zd zao zg0 Z Z Z<|zh zo zg0 Z Z (Cell.own 5 0 Z Z Z) ?_
            refine zk za8 zg0 Z Z (by exact zcU _ (o10.rd (i:=4) Z)) ?_
            rintro _ _ ⟨rfl,rfl⟩
            refine zag zg0 Z Z<|zb zg0 Z Z<|zy 8 (E':=[(82,.bool (decide ((¬ (((l.getD i zA0).2.2.2.2.1) ∈ (K.map fun e => e.1)))∧((¬ ((e92:Int)=6))∨(0 < (ll91.length:Int)))))),(0,V most),(2,V buffer),(3,.slice A l.length C),(9,.bool true),(10,B c),(12,V la),(13,V (i:Int)),(15,.slice A6 (K.map fun e => e.1).length C7)]) (fun J => ?_) ?_
            ·refine zY (t:=74) Z ?_ ?_
             ·intro hs74
              have hs74:¬ (((l.getD i zA0).2.2.2.2.1) ∈ (K.map fun e => e.1)):=of_decide_eq_false (zO hs74)
              refine zb (.inr ⟨_,_,_,Z,Z,Z,Z⟩) Z Z<|zT (.inr ⟨_,_,_,Z,Z,Z,Z⟩) Z Z Z<|zb (.inr ⟨_,_,_,Z,Z,Z,Z⟩) Z Z<|zy 4 (E':=[(81,.bool (decide ((¬ ((e92:Int)=6))∨(0 < (ll91.length:Int))))),(0,V most),(2,V buffer),(3,.slice A l.length C),(9,.bool true),(10,B c),(12,V la),(13,V (i:Int)),(15,.slice A6 (K.map fun e => e.1).length C7),(74,.bool true)]) (fun J => ?_) ?_
              ·refine zY (t:=77) Z ?_ ?_
               ·intro hs77
                have hs77:¬ ((e92:Int)=6):=of_decide_eq_false (zO hs77)
                refine ze Z Z Z Z Z Z<|ze Z Z Z Z Z Z<|ze Z Z Z Z Z Z<|zn (.inr ⟨_,_,_,Z,Z,Z,Z⟩) Z Z Z ?_
                exact J _ (by exact ⟨(zw (by clear J; first | (simp [hs77]; done) | (simp_all; done) | grind)),Z,Z,Z,Z,Z,Z,Z,Z,Z,trivial⟩)
               ·intro hs77
                have hs77:(e92:Int)=6:=of_decide_eq_true (zJ hs77)
                refine zb (.inr ⟨_,_,_,Z,Z,Z,Z⟩) Z Z<|zC Tryz.underlying37 (.inr ⟨_,_,_,Z,Z,Z,Z⟩) Z Z<|zai (.inr ⟨_,_,_,Z,Z,Z,Z⟩) Z Z Z<|zm (.inr ⟨_,_,_,Z,Z,Z,Z⟩) Z Z Z ?_
                exact J _ (by exact ⟨(zw (by clear J; first | (simp [hs77]; done) | (simp_all; done) | grind)),Z,Z,Z,Z,Z,Z,Z,Z,Z,trivial⟩)
              ·refine zn zg0 Z Z Z ?_
               exact J _ (by exact ⟨(zw (by clear J; first | (simp [hs74]; done) | (simp_all; done) | grind)),Z,Z,Z,Z,Z,Z,Z,Z,trivial⟩)
             ·intro hs74
              have hs74:((l.getD i zA0).2.2.2.2.1) ∈ (K.map fun e => e.1):=of_decide_eq_true (zJ hs74)
              refine ze Z Z Z Z Z Z<|ze Z Z Z Z Z Z<|ze Z Z Z Z Z Z<|zaa Z Z Z Z Z<|zaa Z Z Z Z Z<|zaa Z Z Z Z Z ?_
              refine ze Z Z Z Z Z Z<|zm zg0 Z Z Z ?_
              exact J _ (by exact ⟨(zw (by clear J; first | (simp [hs74]; done) | (simp_all; done) | grind)),Z,Z,Z,Z,Z,Z,Z,Z,trivial⟩)
            ·refine AtL.done<|zq Z ?_ ?_
             ·intro hc14
              exfalso
              have hq9:=fun (h9:¬ (l.getD i zA0).2.2.2.2.1 ∈ (K.map fun e => e.1)) => hf97 (zfm h9)
              by_cases hz8:(l.getD i zA0).2.2.2.2.1 ∈ (K.map fun e => e.1)
              ·first | (simp only [hz8,not_true,false_and,false_or,or_false] at hc14; first | omega | (obtain ⟨h7,h8⟩:=hc14; omega)) | grind
              ·obtain ⟨h7,h8⟩:=hq9 hz8; simp only [h7,h8,hz8,not_false_eq_true,true_and] at hc14; first | omega | grind
             ·intro hc14
              refine zj<|zp<|At.pick [4,1,2,3] 6 Z Z ?_
              exact J _ _ ⟨K94,mn0,la,hK95.mono (by omega) (by omega),fun n9 hn9 => .inl (hs96.subset hn9),by have h9:=zcq hs96; omega,⟨by omega,by omega⟩,⟨Z,Z,Z,Z,Z,Z,Z,Z,trivial⟩,Z⟩
      ·intro hc6
       refine za<|zW zg0 Z Z Z<|AtL.assign zg0 Z Z<|AtL.done<|zq Z ?_ ?_
       ·intro hc7
        refine za<|zb zg0 Z Z<|zd zao zg0 Z Z Z<|zh zo zg0 Z Z (Cell.own 4 0 Z Z Z)<|zd zjf zg0 Z Z Z<|zh zo zg0 Z Z (Cell.own 4 0 Z Z Z) ?_
        refine zd zd5 zg0 Z Z Z<|zh zE zg0 Z Z (Cell.own 4 0 Z Z Z)<|AtL.pick (H':=O0 c most idle buffer la mb::[(mb,mapG kyI Lk.v K mn0)]::zv K::s9::O11 b5 ((l.getD i zA0).1) ((l.getD i zA0).2.1) ((l.getD i zA0).2.2.1) ((l.getD i zA0).2.2.2.1) ((l.getD i zA0).2.2.2.2.1) ((l.getD i zA0).2.2.2.2.2.1) ((l.getD i zA0).2.2.2.2.2.2.1) ((l.getD i zA0).2.2.2.2.2.2.2.1) (.slice ((l.getD i zA0).2.2.2.2.2.2.2.2.A) ((l.getD i zA0).2.2.2.2.2.2.2.2.l).length ((l.getD i zA0).2.2.2.2.2.2.2.2.C))::H) [1,2,3,0,4] 5 Z Z ?_
        refine zk zgK zg0 Z Z (ianswer (i:=(l.getD i zA0).2.2.2.2.1) (slot:=(l.getD i zA0).2.2.2.2.2.1) (l:=(l.getD i zA0).2.2.2.2.2.2.2.2.l) (by omega) hI (by omega) (Rd.skip 2 (he _ (zbh (l:=l) (i:=i) (d:=zA0) (by omega)))) (by omega) (by omega)) ?_
        rintro _ _ ⟨e98,s99,K100,hK101,hs102,rfl,rfl⟩
        refine AtL.done<|zp<|At.pick [4,1,2,3] 6 Z Z ?_
        exact J _ _ ⟨K100,mn0,la,hK101.mono (by omega) (by omega),fun n9 hn9 => .inl (hs102.subset hn9),by have h9:=zcq hs102; omega,⟨by omega,by omega⟩,⟨Z,Z,Z,Z,Z,Z,Z,Z,trivial⟩,Z⟩
       ·intro hc7
        refine zc<|za<|zW zg0 Z Z Z<|AtL.assign zg0 Z Z<|AtL.done<|zq Z ?_ ?_
        ·intro hc8
         refine zc<|za<|zb zg0 Z Z<|zd zao zg0 Z Z Z<|zh zo zg0 Z Z (Cell.own 4 0 Z Z Z)<|zd zfb zg0 Z Z Z ?_
         refine zh zo zg0 Z Z (Cell.own 4 0 Z Z Z)<|zd zc7 zg0 Z Z Z<|zh zo zg0 Z Z (Cell.own 4 0 Z Z Z)<|AtL.pick (H':=O0 c most idle buffer la mb::[(mb,mapG kyI Lk.v K mn0)]::zv K::s9::O11 b5 ((l.getD i zA0).1) ((l.getD i zA0).2.1) ((l.getD i zA0).2.2.1) ((l.getD i zA0).2.2.2.1) ((l.getD i zA0).2.2.2.2.1) ((l.getD i zA0).2.2.2.2.2.1) ((l.getD i zA0).2.2.2.2.2.2.1) ((l.getD i zA0).2.2.2.2.2.2.2.1) (.slice ((l.getD i zA0).2.2.2.2.2.2.2.2.A) ((l.getD i zA0).2.2.2.2.2.2.2.2.l).length ((l.getD i zA0).2.2.2.2.2.2.2.2.C))::H) [1,2,3,0,4] 5 Z Z ?_
         refine zk zgJ zg0 Z Z (itake (i:=(l.getD i zA0).2.2.2.2.1) (m:=(l.getD i zA0).2.2.2.2.2.2.1) (now:=(l.getD i zA0).2.2.2.2.2.2.2.1) (by omega) hI (by omega)) ?_
         rintro _ _ ⟨A103,n104,C105,e107,s108,K109,hK110,hs111,hf112,hm113,rfl,rfl⟩
         obtain ⟨ll106,rfl⟩:∃ ll106:List UInt8,n104=ll106.length:=⟨List.replicate n104 0,by simp⟩
         refine zb zg0 Z Z<|AtL.extract zg0 Z Z Z<|AtL.extract zg0 Z Z Z<|AtL.assign zg0 Z Z<|AtL.assign zg0 Z Z<|AtL.done ?_
         refine zc<|za<|zb zg0 Z Z<|zd zao zg0 Z Z Z<|zh zo zg0 Z Z (Cell.own 5 0 Z Z Z) ?_
         refine zk za8 zg0 Z Z (by exact zcU _ (o10.rd (i:=4) Z)) ?_
         rintro _ _ ⟨rfl,rfl⟩
         refine zag zg0 Z Z<|zb zg0 Z Z<|zy 8 (E':=[(154,.bool (decide ((¬ (((l.getD i zA0).2.2.2.2.1) ∈ (K.map fun e => e.1)))∧((¬ ((e107:Int)=6))∨(0 < (ll106.length:Int)))))),(0,V most),(2,V buffer),(3,.slice A l.length C),(9,.bool true),(10,B c),(12,V la),(13,V (i:Int)),(14,B b5),(15,.slice A6 (K.map fun e => e.1).length C7),(18,.slice A103 ll106.length C105)]) (fun J => ?_) ?_
         ·refine zY (t:=146) Z ?_ ?_
          ·intro hs146
           have hs146:¬ (((l.getD i zA0).2.2.2.2.1) ∈ (K.map fun e => e.1)):=of_decide_eq_false (zO hs146)
           refine zb (.inr ⟨_,_,_,Z,Z,Z,Z⟩) Z Z<|zT (.inr ⟨_,_,_,Z,Z,Z,Z⟩) Z Z Z<|zb (.inr ⟨_,_,_,Z,Z,Z,Z⟩) Z Z<|zy 4 (E':=[(153,.bool (decide ((¬ ((e107:Int)=6))∨(0 < (ll106.length:Int))))),(0,V most),(2,V buffer),(3,.slice A l.length C),(9,.bool true),(10,B c),(12,V la),(13,V (i:Int)),(14,B b5),(15,.slice A6 (K.map fun e => e.1).length C7),(18,.slice A103 ll106.length C105),(146,.bool true)]) (fun J => ?_) ?_
           ·refine zY (t:=149) Z ?_ ?_
            ·intro hs149
             have hs149:¬ ((e107:Int)=6):=of_decide_eq_false (zO hs149)
             refine ze Z Z Z Z Z Z<|ze Z Z Z Z Z Z<|ze Z Z Z Z Z Z<|zn (.inr ⟨_,_,_,Z,Z,Z,Z⟩) Z Z Z ?_
             exact J _ (by exact ⟨(zw (by clear J; first | (simp [hs149]; done) | (simp_all; done) | grind)),Z,Z,Z,Z,Z,Z,Z,Z,Z,Z,Z,trivial⟩)
            ·intro hs149
             have hs149:(e107:Int)=6:=of_decide_eq_true (zJ hs149)
             refine zb (.inr ⟨_,_,_,Z,Z,Z,Z⟩) Z Z<|zC Tryz.underlying34 (.inr ⟨_,_,_,Z,Z,Z,Z⟩) Z Z<|zai (.inr ⟨_,_,_,Z,Z,Z,Z⟩) Z Z Z<|zm (.inr ⟨_,_,_,Z,Z,Z,Z⟩) Z Z Z ?_
             exact J _ (by exact ⟨(zw (by clear J; first | (simp [hs149]; done) | (simp_all; done) | grind)),Z,Z,Z,Z,Z,Z,Z,Z,Z,Z,Z,trivial⟩)
           ·refine zn zg0 Z Z Z ?_
            exact J _ (by exact ⟨(zw (by clear J; first | (simp [hs146]; done) | (simp_all; done) | grind)),Z,Z,Z,Z,Z,Z,Z,Z,Z,Z,trivial⟩)
          ·intro hs146
           have hs146:((l.getD i zA0).2.2.2.2.1) ∈ (K.map fun e => e.1):=of_decide_eq_true (zJ hs146)
           refine ze Z Z Z Z Z Z<|ze Z Z Z Z Z Z<|ze Z Z Z Z Z Z<|zaa Z Z Z Z Z<|zaa Z Z Z Z Z<|zaa Z Z Z Z Z ?_
           refine ze Z Z Z Z Z Z<|zm zg0 Z Z Z ?_
           exact J _ (by exact ⟨(zw (by clear J; first | (simp [hs146]; done) | (simp_all; done) | grind)),Z,Z,Z,Z,Z,Z,Z,Z,Z,Z,trivial⟩)
         ·refine zb zg0 Z Z<|zy 7 (E':=[(162,.bool (decide (((¬ (((l.getD i zA0).2.2.2.2.1) ∈ (K.map fun e => e.1)))∧((¬ ((e107:Int)=6))∨(0 < (ll106.length:Int))))∨((max ((l.getD i zA0).2.2.2.2.2.2.1) 0) < (ll106.length:Int))))),(0,V most),(2,V buffer),(3,.slice A l.length C),(9,.bool true),(10,B c),(12,V la),(13,V (i:Int)),(15,.slice A6 (K.map fun e => e.1).length C7)]) (fun J => ?_) ?_
          ·refine zD (t:=155) Z ?_ ?_
           ·intro hs155
            refine ze Z Z Z Z Z Z<|ze Z Z Z Z Z Z<|ze Z Z Z Z Z Z<|ze Z Z Z Z Z Z<|ze Z Z Z Z Z Z<|ze Z Z Z Z Z Z ?_
            refine zn zg0 Z Z Z ?_
            exact J _ (by exact ⟨(zw (by clear J; first | (simp [hs155]; done) | (simp_all; done) | grind)),Z,Z,Z,Z,Z,Z,Z,Z,trivial⟩)
           ·intro hs155
            refine zb (.inr ⟨_,_,_,Z,Z,Z,Z⟩) Z Z<|zC Tryz.underlying34 (.inr ⟨_,_,_,Z,Z,Z,Z⟩) Z Z<|zd zfb (.inr ⟨_,_,_,Z,Z,Z,Z⟩) Z Z Z<|zh zo (.inr ⟨_,_,_,Z,Z,Z,Z⟩) Z Z (Cell.own 5 0 Z Z Z) ?_
            refine zcZ (z:=max ((l.getD i zA0).2.2.2.2.2.2.1) 0) (.inr ⟨_,_,_,Z,Z,Z,Z⟩) Z Z Z (by omega)<|zai (.inr ⟨_,_,_,Z,Z,Z,Z⟩) Z Z Z<|zm zg0 Z Z Z ?_
            exact J _ (by exact ⟨(zw (by clear J; first | (simp [hs155]; done) | (simp_all; done) | grind)),Z,Z,Z,Z,Z,Z,Z,Z,trivial⟩)
          ·refine AtL.done<|zq Z ?_ ?_
           ·intro hc9
            exfalso
            have hq9:=fun (h9:¬ (l.getD i zA0).2.2.2.2.1 ∈ (K.map fun e => e.1)) => hf112 (zfm h9)
            by_cases hz8:(l.getD i zA0).2.2.2.2.1 ∈ (K.map fun e => e.1)
            ·first | (simp only [hz8,not_true,false_and,false_or,or_false] at hc9; first | omega | (obtain ⟨h7,h8⟩:=hc9; omega)) | grind
            ·obtain ⟨h7,h8⟩:=hq9 hz8; simp only [h7,h8,hz8,not_false_eq_true,true_and] at hc9; first | omega | grind
           ·intro hc9
            refine zj<|zp<|At.pick [4,1,2,3] 6 Z Z ?_
            exact J _ _ ⟨K109,mn0,la,hK110.mono (by omega) (by omega),fun n9 hn9 => .inl (hs111.subset hn9),by have h9:=zcq hs111; omega,⟨by omega,by omega⟩,⟨Z,Z,Z,Z,Z,Z,Z,Z,trivial⟩,Z⟩
        ·intro hc8
         refine zc<|za<|zW zg0 Z Z Z<|AtL.assign zg0 Z Z<|AtL.done<|zq Z ?_ ?_
         ·intro hc10
          refine za<|zb zg0 Z Z<|zd zao zg0 Z Z Z<|zh zo zg0 Z Z (Cell.own 4 0 Z Z Z)<|AtL.pick (H':=O0 c most idle buffer la mb::[(mb,mapG kyI Lk.v K mn0)]::zv K::s9::O11 b5 ((l.getD i zA0).1) ((l.getD i zA0).2.1) ((l.getD i zA0).2.2.1) ((l.getD i zA0).2.2.2.1) ((l.getD i zA0).2.2.2.2.1) ((l.getD i zA0).2.2.2.2.2.1) ((l.getD i zA0).2.2.2.2.2.2.1) ((l.getD i zA0).2.2.2.2.2.2.2.1) (.slice ((l.getD i zA0).2.2.2.2.2.2.2.2.A) ((l.getD i zA0).2.2.2.2.2.2.2.2.l).length ((l.getD i zA0).2.2.2.2.2.2.2.2.C))::H) [1,2,3,0,4] 5 Z Z ?_
          refine zk zju zg0 Z Z (ifinish (i:=(l.getD i zA0).2.2.2.2.1) (by omega) hI (by omega) (by omega)) ?_
          rintro _ _ ⟨e114,s115,K116,hK117,hs118,rfl,rfl⟩
          refine AtL.done<|zp<|At.pick [4,1,2,3] 6 Z Z ?_
          exact J _ _ ⟨K116,mn0,la,hK117.mono (by omega) (by omega),fun n9 hn9 => .inl (hs118.subset hn9),by have h9:=zcq hs118; omega,⟨by omega,by omega⟩,⟨Z,Z,Z,Z,Z,Z,Z,Z,trivial⟩,Z⟩
         ·intro hc10
          refine zc<|za<|zW zg0 Z Z Z<|AtL.assign zg0 Z Z<|AtL.done<|zq Z ?_ ?_
          ·intro hc11
           refine zc ?_
           rcases Decidable.em ((l.getD i zA0).2.2.2.2.1 ∈ (K.map fun e => e.1)) with hin9 | hin9
           ·refine zac (es:=[3,12]) (pv:=[(0,B c),(1,.pointer (some ⟨b5,4,none⟩)),(2,V ((l.getD i zA0).2.2.2.2.1)),(5,.slice A6 (K.map fun e => e.1).length C7),(6,.pointer (some ⟨b5,4,none⟩)),(7,V ((l.getD i zA0).2.2.2.2.1))]) zV (by kernel_rfl) (by kernel_rfl) (by kernel_rfl) ?_
            refine ⟨⟨zpr Z Z Z (zi Z),zpr Z Z Z (zg zao Z Z),zpr Z Z Z (zu zo Z (Cell.own 4 0 Z Z Z)),zpr Z Z Z (zi Z),zpr Z Z Z (zg zao Z Z),zpr Z Z Z (zu zo Z (Cell.own 4 0 Z Z Z)),trivial⟩,Z,Z,by kernel_rfl,_,Z,Z,Z,_,Does.pick (H':=O0 c most idle buffer la mb::[(mb,mapG kyI Lk.v K mn0)]::zv K::s9::O11 b5 ((l.getD i zA0).1) ((l.getD i zA0).2.1) ((l.getD i zA0).2.2.1) ((l.getD i zA0).2.2.2.1) ((l.getD i zA0).2.2.2.2.1) ((l.getD i zA0).2.2.2.2.2.1) ((l.getD i zA0).2.2.2.2.2.2.1) ((l.getD i zA0).2.2.2.2.2.2.2.1) (.slice ((l.getD i zA0).2.2.2.2.2.2.2.2.A) ((l.getD i zA0).2.2.2.2.2.2.2.2.l).length ((l.getD i zA0).2.2.2.2.2.2.2.2.C))::H) [1,2,3,0,4] 5 Z Z (zaz zd8 Z (iend_in (i:=(l.getD i zA0).2.2.2.2.1) (by omega) hI hin9)),?_⟩
            rintro _ _ ⟨K119,hK120,hs121,hno122,rfl,rfl⟩
            refine ⟨[(4,.bool true),(8,.bool true),(9,.bool false),(10,.bool false),(11,B c),(13,.pointer (some ⟨b5,4,none⟩)),(14,V ((l.getD i zA0).2.2.2.2.1))],Z,?_⟩
            refine ⟨⟨zpr Z Z Z (zM (zdg Z Z) (by decide)),zpr Z Z Z (zM (zaz za8 Z (by exact zcU _ (o10.rd (i:=3) Z))) (decide_eq_true hin9)),zpr Z Z Z (zM (Do.neb Tryz.underlying4 Z Z) (congrArg not (beq_self_eq_true _))),zpr Z Z Z (zi Z),zpr Z Z ⟨_,_,_,Z,Z,Z,Z⟩ (zi Z),zpr Z Z ⟨_,_,_,Z,Z,Z,Z⟩ (zg zao Z Z),zpr Z Z ⟨_,_,_,Z,Z,Z,Z⟩ (zu zo Z (Cell.own 4 0 Z Z Z)),.inl (by kernel_rfl),.inl (by kernel_rfl),.inl (by kernel_rfl),zpr Z Z Z (zi Z),zpr Z Z Z (zg zao Z Z),zpr Z Z Z (zu zo Z (Cell.own 4 0 Z Z Z)),trivial⟩,Z,Z,by kernel_rfl,_,Z,Z,⟨_,_,_,Z,Z,Z,Z⟩,_,zaz zco Z (zen (H:=zv K119::s9::O11 b5 ((l.getD i zA0).1) ((l.getD i zA0).2.1) ((l.getD i zA0).2.2.1) ((l.getD i zA0).2.2.2.1) ((l.getD i zA0).2.2.2.2.1) ((l.getD i zA0).2.2.2.2.2.1) ((l.getD i zA0).2.2.2.2.2.2.1) ((l.getD i zA0).2.2.2.2.2.2.2.1) (.slice ((l.getD i zA0).2.2.2.2.2.2.2.2.A) ((l.getD i zA0).2.2.2.2.2.2.2.2.l).length ((l.getD i zA0).2.2.2.2.2.2.2.2.C))::H) (by omega) hK120.ok),?_⟩
            rintro _ _ ⟨⟨A123,C124,l125,s126,o127⟩,hks128,rfl,rfl⟩
            obtain rfl:(K119.map fun e => e.1)=l125:=hks128.symm
            refine ⟨[(15,.bool false),(16,.bool false)],Z,?_⟩
            refine ⟨⟨zpr Z Z ⟨_,_,_,Z,Z,Z,Z⟩ (zM (zaz za8 Z (by exact zcU _ (o127.rd (i:=0) Z))) (decide_eq_false hno122)),zpr Z Z Z (zak Z Z),.inl (by kernel_rfl),.inl (by kernel_rfl),.inl (by kernel_rfl),.inl (by kernel_rfl),.inl (by kernel_rfl),zpr Z Z ⟨_,_,_,Z,Z,Z,Z⟩ (zg zao Z Z),zpr Z Z ⟨_,_,_,Z,Z,Z,Z⟩ (zu zo Z (Cell.own 5 0 Z Z Z)),.inl (by kernel_rfl),.inl (by kernel_rfl),.inl (by kernel_rfl),.inl (by kernel_rfl),.inl (by kernel_rfl),.inl (by kernel_rfl),trivial⟩,by kernel_rfl,?_⟩
            refine At.mono (E':=[(0,V most),(2,V buffer),(3,.slice A l.length C),(9,.bool true),(10,B c),(12,V la),(13,V (i:Int)),(15,.slice A6 (K.map fun e => e.1).length C7),(187,.bool false)]) ⟨Z,Z,Z,Z,Z,Z,Z,Z,Z,trivial⟩<|zB Z<|zj<|zp<|At.pick [4,1,2,3] 6 Z Z ?_
            exact J _ _ ⟨K119,mn0,la,hK120.mono (by omega) (by omega),fun n9 hn9 => .inl (hs121.subset hn9),by have h9:=zcq hs121; omega,⟨by omega,by omega⟩,⟨Z,Z,Z,Z,Z,Z,Z,Z,trivial⟩,Z⟩
           ·refine zac (es:=[3,12]) (pv:=[(0,B c),(1,.pointer (some ⟨b5,4,none⟩)),(2,V ((l.getD i zA0).2.2.2.2.1)),(5,.slice A6 (K.map fun e => e.1).length C7),(6,.pointer (some ⟨b5,4,none⟩)),(7,V ((l.getD i zA0).2.2.2.2.1))]) zV (by kernel_rfl) (by kernel_rfl) (by kernel_rfl) ?_
            refine ⟨⟨zpr Z Z Z (zi Z),zpr Z Z Z (zg zao Z Z),zpr Z Z Z (zu zo Z (Cell.own 4 0 Z Z Z)),zpr Z Z Z (zi Z),zpr Z Z Z (zg zao Z Z),zpr Z Z Z (zu zo Z (Cell.own 4 0 Z Z Z)),trivial⟩,Z,Z,by kernel_rfl,_,Z,Z,Z,_,Does.pick (H':=O0 c most idle buffer la mb::[(mb,mapG kyI Lk.v K mn0)]::zv K::s9::O11 b5 ((l.getD i zA0).1) ((l.getD i zA0).2.1) ((l.getD i zA0).2.2.1) ((l.getD i zA0).2.2.2.1) ((l.getD i zA0).2.2.2.2.1) ((l.getD i zA0).2.2.2.2.2.1) ((l.getD i zA0).2.2.2.2.2.2.1) ((l.getD i zA0).2.2.2.2.2.2.2.1) (.slice ((l.getD i zA0).2.2.2.2.2.2.2.2.A) ((l.getD i zA0).2.2.2.2.2.2.2.2.l).length ((l.getD i zA0).2.2.2.2.2.2.2.2.C))::H) [1,2,3,0,4] 5 Z Z (zaz zd8 Z (iend_out (i:=(l.getD i zA0).2.2.2.2.1) (by omega) hI hin9)),?_⟩
            rintro _ _ ⟨K139,hK140,hs141,hno142,rfl,rfl⟩
            refine ⟨[(4,.bool false),(8,.bool false),(9,.bool false),(10,.bool false),(11,B c),(13,.pointer (some ⟨b5,4,none⟩)),(14,V ((l.getD i zA0).2.2.2.2.1))],Z,?_⟩
            refine ⟨⟨zpr Z Z Z (zM (zdg Z Z) (by decide)),zpr Z Z Z (zM (zaz za8 Z (by exact zcU _ (o10.rd (i:=3) Z))) (decide_eq_false hin9)),zpr Z Z Z (zM (Do.neb Tryz.underlying4 Z Z) (congrArg not (beq_self_eq_true _))),zpr Z Z Z (zi Z),zpr Z Z ⟨_,_,_,Z,Z,Z,Z⟩ (zi Z),zpr Z Z ⟨_,_,_,Z,Z,Z,Z⟩ (zg zao Z Z),zpr Z Z ⟨_,_,_,Z,Z,Z,Z⟩ (zu zo Z (Cell.own 4 0 Z Z Z)),.inl (by kernel_rfl),.inl (by kernel_rfl),.inl (by kernel_rfl),zpr Z Z Z (zi Z),zpr Z Z Z (zg zao Z Z),zpr Z Z Z (zu zo Z (Cell.own 4 0 Z Z Z)),trivial⟩,Z,Z,by kernel_rfl,_,Z,Z,⟨_,_,_,Z,Z,Z,Z⟩,_,zaz zco Z (zen (H:=zv K139::s9::O11 b5 ((l.getD i zA0).1) ((l.getD i zA0).2.1) ((l.getD i zA0).2.2.1) ((l.getD i zA0).2.2.2.1) ((l.getD i zA0).2.2.2.2.1) ((l.getD i zA0).2.2.2.2.2.1) ((l.getD i zA0).2.2.2.2.2.2.1) ((l.getD i zA0).2.2.2.2.2.2.2.1) (.slice ((l.getD i zA0).2.2.2.2.2.2.2.2.A) ((l.getD i zA0).2.2.2.2.2.2.2.2.l).length ((l.getD i zA0).2.2.2.2.2.2.2.2.C))::H) (by omega) hK140.ok),?_⟩
            rintro _ _ ⟨⟨A143,C144,l145,s146,o147⟩,hks148,rfl,rfl⟩
            obtain rfl:(K139.map fun e => e.1)=l145:=hks148.symm
            refine ⟨[(15,.bool false),(16,.bool false)],Z,?_⟩
            refine ⟨⟨zpr Z Z ⟨_,_,_,Z,Z,Z,Z⟩ (zM (zaz za8 Z (by exact zcU _ (o147.rd (i:=0) Z))) (decide_eq_false hno142)),zpr Z Z Z (zak Z Z),.inl (by kernel_rfl),.inl (by kernel_rfl),.inl (by kernel_rfl),.inl (by kernel_rfl),.inl (by kernel_rfl),zpr Z Z ⟨_,_,_,Z,Z,Z,Z⟩ (zg zao Z Z),zpr Z Z ⟨_,_,_,Z,Z,Z,Z⟩ (zu zo Z (Cell.own 5 0 Z Z Z)),.inl (by kernel_rfl),.inl (by kernel_rfl),.inl (by kernel_rfl),.inl (by kernel_rfl),.inl (by kernel_rfl),.inl (by kernel_rfl),trivial⟩,by kernel_rfl,?_⟩
            refine At.mono (E':=[(0,V most),(2,V buffer),(3,.slice A l.length C),(9,.bool true),(10,B c),(12,V la),(13,V (i:Int)),(15,.slice A6 (K.map fun e => e.1).length C7),(187,.bool false)]) ⟨Z,Z,Z,Z,Z,Z,Z,Z,Z,trivial⟩<|zB Z<|zj<|zp<|At.pick [4,1,2,3] 6 Z Z ?_
            exact J _ _ ⟨K139,mn0,la,hK140.mono (by omega) (by omega),fun n9 hn9 => .inl (hs141.subset hn9),by have h9:=zcq hs141; omega,⟨by omega,by omega⟩,⟨Z,Z,Z,Z,Z,Z,Z,Z,trivial⟩,Z⟩
          ·intro hc11
           refine zc<|za<|zW zg0 Z Z Z<|AtL.assign zg0 Z Z<|AtL.done<|zq Z ?_ ?_
           ·intro hc13
            refine za<|zb zg0 Z Z<|zd zc7 zg0 Z Z Z<|zh zo zg0 Z Z (Cell.own 4 0 Z Z Z)<|AtL.pick (H':=O0 c most idle buffer la mb::[(mb,mapG kyI Lk.v K mn0)]::zv K::s9::O11 b5 ((l.getD i zA0).1) ((l.getD i zA0).2.1) ((l.getD i zA0).2.2.1) ((l.getD i zA0).2.2.2.1) ((l.getD i zA0).2.2.2.2.1) ((l.getD i zA0).2.2.2.2.2.1) ((l.getD i zA0).2.2.2.2.2.2.1) ((l.getD i zA0).2.2.2.2.2.2.2.1) (.slice ((l.getD i zA0).2.2.2.2.2.2.2.2.A) ((l.getD i zA0).2.2.2.2.2.2.2.2.l).length ((l.getD i zA0).2.2.2.2.2.2.2.2.C))::H) [1,2,3,0,4] 5 Z Z ?_
            refine zk zfe zg0 Z Z (itick (now:=(l.getD i zA0).2.2.2.2.2.2.2.1) (by omega) hI (by omega)) ?_
            rintro _ _ ⟨A159,n160,C161,s163,K164,hK165,hs166,rfl,rfl⟩
            obtain ⟨ll162,rfl⟩:∃ ll162:List UInt8,n160=ll162.length:=⟨List.replicate n160 0,by simp⟩
            refine AtL.done<|zp<|At.pick [4,1,2,3] 6 Z Z ?_
            exact J _ _ ⟨K164,mn0,la,hK165.mono (by omega) (by omega),fun n9 hn9 => .inl (hs166.subset hn9),by have h9:=zcq hs166; omega,⟨by omega,by omega⟩,⟨Z,Z,Z,Z,Z,Z,Z,Z,trivial⟩,Z⟩
           ·intro hc13
            refine zc<|za<|zb zg0 Z Z<|zd zao zg0 Z Z Z<|zh zo zg0 Z Z (Cell.own 4 0 Z Z Z)<|zd zd5 zg0 Z Z Z ?_
            refine zh zE zg0 Z Z (Cell.own 4 0 Z Z Z)<|zd zc7 zg0 Z Z Z<|zh zo zg0 Z Z (Cell.own 4 0 Z Z Z)<|AtL.pick (H':=O0 c most idle buffer la mb::[(mb,mapG kyI Lk.v K mn0)]::zv K::s9::O11 b5 ((l.getD i zA0).1) ((l.getD i zA0).2.1) ((l.getD i zA0).2.2.1) ((l.getD i zA0).2.2.2.1) ((l.getD i zA0).2.2.2.2.1) ((l.getD i zA0).2.2.2.2.2.1) ((l.getD i zA0).2.2.2.2.2.2.1) ((l.getD i zA0).2.2.2.2.2.2.2.1) (.slice ((l.getD i zA0).2.2.2.2.2.2.2.2.A) ((l.getD i zA0).2.2.2.2.2.2.2.2.l).length ((l.getD i zA0).2.2.2.2.2.2.2.2.C))::H) [1,2,3,0,4] 5 Z Z ?_
            refine zk zdG zg0 Z Z (ipush (i:=(l.getD i zA0).2.2.2.2.1) (now:=(l.getD i zA0).2.2.2.2.2.2.2.1) (l:=(l.getD i zA0).2.2.2.2.2.2.2.2.l) (by omega) hI (Rd.skip 2 (he _ (zbh (l:=l) (i:=i) (d:=zA0) (by omega)))) (by omega) (by omega) T) ?_
            rintro _ _ ⟨A167,n168,C169,e171,s172,K173,hK174,hs175,hf176,rfl,rfl⟩
            obtain ⟨ll170,rfl⟩:∃ ll170:List UInt8,n168=ll170.length:=⟨List.replicate n168 0,by simp⟩
            refine zb zg0 Z Z<|AtL.extract zg0 Z Z Z<|AtL.extract zg0 Z Z Z<|AtL.assign zg0 Z Z<|AtL.assign zg0 Z Z<|AtL.done ?_
            refine zc<|za<|zb zg0 Z Z<|zd zao zg0 Z Z Z<|zh zo zg0 Z Z (Cell.own 5 0 Z Z Z) ?_
            refine zk za8 zg0 Z Z (by exact zcU _ (o10.rd (i:=4) Z)) ?_
            rintro _ _ ⟨rfl,rfl⟩
            refine zag zg0 Z Z<|zb zg0 Z Z<|zy 8 (E':=[(82,.bool (decide ((¬ (((l.getD i zA0).2.2.2.2.1) ∈ (K.map fun e => e.1)))∧((¬ ((e171:Int)=6))∨(0 < (ll170.length:Int)))))),(0,V most),(2,V buffer),(3,.slice A l.length C),(9,.bool true),(10,B c),(12,V la),(13,V (i:Int)),(15,.slice A6 (K.map fun e => e.1).length C7)]) (fun J => ?_) ?_
            ·refine zY (t:=74) Z ?_ ?_
             ·intro hs74
              have hs74:¬ (((l.getD i zA0).2.2.2.2.1) ∈ (K.map fun e => e.1)):=of_decide_eq_false (zO hs74)
              refine zb (.inr ⟨_,_,_,Z,Z,Z,Z⟩) Z Z<|zT (.inr ⟨_,_,_,Z,Z,Z,Z⟩) Z Z Z<|zb (.inr ⟨_,_,_,Z,Z,Z,Z⟩) Z Z<|zy 4 (E':=[(81,.bool (decide ((¬ ((e171:Int)=6))∨(0 < (ll170.length:Int))))),(0,V most),(2,V buffer),(3,.slice A l.length C),(9,.bool true),(10,B c),(12,V la),(13,V (i:Int)),(15,.slice A6 (K.map fun e => e.1).length C7),(74,.bool true)]) (fun J => ?_) ?_
              ·refine zY (t:=77) Z ?_ ?_
               ·intro hs77
                have hs77:¬ ((e171:Int)=6):=of_decide_eq_false (zO hs77)
                refine ze Z Z Z Z Z Z<|ze Z Z Z Z Z Z<|ze Z Z Z Z Z Z<|zn (.inr ⟨_,_,_,Z,Z,Z,Z⟩) Z Z Z ?_
                exact J _ (by exact ⟨(zw (by clear J; first | (simp [hs77]; done) | (simp_all; done) | grind)),Z,Z,Z,Z,Z,Z,Z,Z,Z,trivial⟩)
               ·intro hs77
                have hs77:(e171:Int)=6:=of_decide_eq_true (zJ hs77)
                refine zb (.inr ⟨_,_,_,Z,Z,Z,Z⟩) Z Z<|zC Tryz.underlying37 (.inr ⟨_,_,_,Z,Z,Z,Z⟩) Z Z<|zai (.inr ⟨_,_,_,Z,Z,Z,Z⟩) Z Z Z<|zm (.inr ⟨_,_,_,Z,Z,Z,Z⟩) Z Z Z ?_
                exact J _ (by exact ⟨(zw (by clear J; first | (simp [hs77]; done) | (simp_all; done) | grind)),Z,Z,Z,Z,Z,Z,Z,Z,Z,trivial⟩)
              ·refine zn zg0 Z Z Z ?_
               exact J _ (by exact ⟨(zw (by clear J; first | (simp [hs74]; done) | (simp_all; done) | grind)),Z,Z,Z,Z,Z,Z,Z,Z,trivial⟩)
             ·intro hs74
              have hs74:((l.getD i zA0).2.2.2.2.1) ∈ (K.map fun e => e.1):=of_decide_eq_true (zJ hs74)
              refine ze Z Z Z Z Z Z<|ze Z Z Z Z Z Z<|ze Z Z Z Z Z Z<|zaa Z Z Z Z Z<|zaa Z Z Z Z Z<|zaa Z Z Z Z Z ?_
              refine ze Z Z Z Z Z Z<|zm zg0 Z Z Z ?_
              exact J _ (by exact ⟨(zw (by clear J; first | (simp [hs74]; done) | (simp_all; done) | grind)),Z,Z,Z,Z,Z,Z,Z,Z,trivial⟩)
            ·refine AtL.done<|zq Z ?_ ?_
             ·intro hc14
              exfalso
              have hq9:=fun (h9:¬ (l.getD i zA0).2.2.2.2.1 ∈ (K.map fun e => e.1)) => hf176 (zfm h9)
              by_cases hz8:(l.getD i zA0).2.2.2.2.1 ∈ (K.map fun e => e.1)
              ·first | (simp only [hz8,not_true,false_and,false_or,or_false] at hc14; first | omega | (obtain ⟨h7,h8⟩:=hc14; omega)) | grind
              ·obtain ⟨h7,h8⟩:=hq9 hz8; simp only [h7,h8,hz8,not_false_eq_true,true_and] at hc14; first | omega | grind
             ·intro hc14
              refine zj<|zp<|At.pick [4,1,2,3] 6 Z Z ?_
              exact J _ _ ⟨K173,mn0,la,hK174.mono (by omega) (by omega),fun n9 hn9 => .inl (hs175.subset hn9),by have h9:=zcq hs175; omega,⟨by omega,by omega⟩,⟨Z,Z,Z,Z,Z,Z,Z,Z,trivial⟩,Z⟩
    ·rintro E2 H2 ⟨K9,mn9,la9,hK9,hky9,hkl9,hla9,hsub,rfl⟩
     refine At.mono hsub ?_
     clear hsub
     refine zc<|za<|zb zg0 Z Z<|AtL.pick (H':=O0 c most idle buffer la9 mb::[(mb,mapG kyI Lk.v K9 mn9)]::zv K9::s9::H) [1,2,3,0] 4 Z Z ?_
     refine zk zco zg0 Z Z (zen (H:=zv K9::s9::H) (by omega) hK9.ok) ?_
     rintro _ _ ⟨⟨A177,C178,l179,s180,o181⟩,hks182,rfl,rfl⟩
     obtain rfl:(K9.map fun e => e.1)=l179:=hks182.symm
     refine AtL.assign zg0 Z Z<|AtL.done<|zc<|zc<|za<|zb zg0 Z Z ?_
     refine zC Tryz.underlying23 zg0 Z Z<|zb zg0 Z Z<|zai zg0 Z Z Z<|zb zg0 Z Z<|zy 5 (E':=[(205,.bool (decide ((most < ((K9.map fun e => e.1).length:Int))∨(¬ ((la9:Int)=la9))))),(0,V most),(2,V buffer),(3,.slice A l.length C),(9,.bool true),(10,B c),(12,V la9),(13,V (i:Int)),(15,.slice A6 (K.map fun e => e.1).length C7),(22,.slice A177 (K9.map fun e => e.1).length C178)]) (fun J => ?_) ?_
     ·refine zD (t:=200) Z ?_ ?_
      ·intro hs200
       refine ze Z Z Z Z Z Z<|ze Z Z Z Z Z Z<|ze Z Z Z Z Z Z<|ze Z Z Z Z Z Z<|zn zg0 Z Z Z ?_
       exact J _ (by exact ⟨(zw (by clear J; first | (simp [hs200]; done) | (simp_all; done) | grind)),Z,Z,Z,Z,Z,Z,Z,Z,Z,trivial⟩)
      ·intro hs200
       refine zb (.inr ⟨_,_,_,Z,Z,Z,Z⟩) Z Z<|AtL.pick (H':=O0 c most idle buffer la9 mb::s180::[(mb,mapG kyI Lk.v K9 mn9)]::zv K9::s9::H) [1,0,2,3,4] 5 Z Z ?_
       refine zk tf_body27 (.inr ⟨_,_,_,Z,Z,Z,Z⟩) Z Z (clast_ok (by omega)) ?_
       rintro _ _ ⟨rfl,rfl⟩
       refine zb (.inr ⟨_,_,_,Z,Z,Z,Z⟩) Z Z<|zT (.inr ⟨_,_,_,Z,Z,Z,Z⟩) Z Z Z<|zm zg0 Z Z Z<|AtL.pick (H':=s180::O0 c most idle buffer la9 mb::[(mb,mapG kyI Lk.v K9 mn9)]::zv K9::s9::H) [1,0,2,3,4] 5 Z Z ?_
       exact J _ (by exact ⟨(zw (by clear J; first | (simp [hs200]; done) | (simp_all; done) | grind)),Z,Z,Z,Z,Z,Z,Z,Z,Z,trivial⟩)
     ·refine AtL.done<|zq Z ?_ ?_
      ·intro hc15
       exfalso; rw [List.length_map] at hc15; omega
      ·intro hc15
       refine zj<|zc<|za<|AtL.assign zg0 Z Z<|AtL.done<|At.block ?_
       refine zcF (fun (k:Nat) => [(0,V most),(2,V buffer),(3,.slice A l.length C),(9,.bool true),(10,B c),(12,V la9),(13,V (i:Int)),(15,.slice A6 (K.map fun e => e.1).length C7),(22,.slice A177 (K9.map fun e => e.1).length C178),(23,V (k:Int))]) (fun (k:Nat) => s180::O0 c most idle buffer la9 mb::[(mb,mapG kyI Lk.v K9 mn9)]::zv K9::s9::H) (fun (k:Nat) => k≤(K9.map fun e => e.1).length) (fun (k:Nat) => (K9.map fun e => e.1).length - k) 0 (Nat.zero_le _) ⟨Z,Z,Z,Z,Z,Z,Z,Z,Z,Z,trivial⟩ Z ?_
       rintro k hk ihL2
       refine zc<|zc<|za<|zb zg0 Z Z<|zb zg0 Z Z<|zC Tryz.underlying23 zg0 Z Z ?_
       refine zA zg0 Z Z Z<|AtL.done<|zq Z ?_ ?_
       ·intro hc16
        have hk9:=key_ord hK9.ok (k:=k) (by omega)
        refine zj<|zc<|At.block<|zc<|za<|zb zg0 Z Z ?_
        refine zb zg0 Z Z<|zb zg0 Z Z ?_
        refine zF k (o181.rd (i:=0) Z) Tryz.underlying23 zaB zg0 Z Z Z Z (by omega) ?_
        refine zh (v:=V ((K9.map fun e => e.1).getD k 0)) zo zg0 Z Z (zH (o181.rd (i:=0) Z) (zz 0 (by omega)) Z) ?_
        obtain ⟨lk191,hlk192⟩:=key_some hk9.2.1
        refine AtL.pick (H':=O0 c most idle buffer la9 mb::[(mb,mapG kyI Lk.v K9 mn9)]::zv K9::s180::s9::H) [1,2,3,0,4] 5 Z Z ?_
        refine zk tf_body25 zg0 Z Z (iinfo (by omega) hK9 (by omega) hlk192) ?_
        rintro _ _ ⟨k183,b184,c185,w186,l187,g188,hw189,hl190,rfl,rfl⟩
        refine zb zg0 Z Z<|AtL.extract zg0 Z Z Z<|AtL.extract zg0 Z Z Z<|AtL.alloc zc5 (cs:=#[V 0,.bool false,V 0,V 0,V 0,.bool false]) Z zg0 Z ?_
        intro b193
        refine zr (H':=O5 b193 k183 b184 c185 w186 l187 g188::O0 c most idle buffer la9 mb::[(mb,mapG kyI Lk.v K9 mn9)]::zv K9::s180::s9::H) 0 0 zdP zg0 Z Z Z Z Z Z Z Z Z<|AtL.assign zg0 Z Z<|AtL.done<|zc ?_
        rcases Nat.eq_zero_or_pos k with hk0 | hk0
        ·rcases Decidable.em ((K9.map fun e => e.1).getD k 0 ∈ (K.map fun e => e.1)) with hin9 | hin9
         ·refine zac (es:=[]) (pv:=[(0,.bool true),(1,.bool false),(2,.bool false),(3,.pointer (some ⟨b193,3,none⟩)),(4,V w186),(5,V buffer),(6,.bool false),(7,.bool false),(8,.bool false),(9,.pointer (some ⟨b193,4,none⟩)),(10,V l187),(11,.bool false),(12,.bool false),(13,.bool false),(14,V (k:Int)),(15,.bool false),(16,.bool false),(17,undef),(18,undef),(19,undef),(20,undef),(21,undef),(22,undef),(23,undef),(24,undef),(25,undef),(26,undef),(27,.bool false),(28,.bool false),(29,.bool false),(30,.slice A177 (K9.map fun e => e.1).length C178),(31,V (k:Int)),(32,.pointer (some (za3 A177 (k * tyI.sz)))),(33,V ((K9.map fun e => e.1).getD k 0)),(34,.bool false),(35,.bool false),(36,.bool false),(37,.slice A177 (K9.map fun e => e.1).length C178),(38,V (k:Int)),(39,.pointer (some (za3 A177 (k * tyI.sz)))),(40,V ((K9.map fun e => e.1).getD k 0)),(41,V la9),(42,.bool false),(43,.bool false),(44,.bool false),(45,.slice A6 (K.map fun e => e.1).length C7),(46,.slice A177 (K9.map fun e => e.1).length C178),(47,V (k:Int)),(48,.pointer (some (za3 A177 (k * tyI.sz)))),(49,V ((K9.map fun e => e.1).getD k 0)),(50,.bool true),(51,.bool false),(52,.bool false),(53,undef),(54,undef),(55,undef),(56,undef),(57,undef),(58,undef),(59,.bool false),(60,.bool false)]) zV (by kernel_rfl) (by kernel_rfl) (by kernel_rfl) ?_
          refine ⟨⟨zpr Z Z Z (zi Z),zpr Z Z Z (zfB (b:=true) Z),zpr Z Z Z (zi Z),zpr Z Z ⟨_,_,_,Z,Z,Z,Z⟩ (zg ze8 Z Z),zpr Z Z ⟨_,_,_,Z,Z,Z,Z⟩ (zu zo Z (Cell.own 0 0 Z Z Z)),zpr Z Z ⟨_,_,_,Z,Z,Z,Z⟩ (zi Z),zpr Z Z ⟨_,_,_,Z,Z,Z,Z⟩ (zM (zbV Z Z) (decide_eq_false (by omega))),zpr Z Z Z (zak Z Z),zpr Z Z Z (zi Z),zpr Z Z ⟨_,_,_,Z,Z,Z,Z⟩ (zg zcM Z Z),zpr Z Z ⟨_,_,_,Z,Z,Z,Z⟩ (zu zo Z (Cell.own 0 0 Z Z Z)),zpr Z Z ⟨_,_,_,Z,Z,Z,Z⟩ (zM (zbV Z Z) (decide_eq_false (by omega))),zpr Z Z Z (zak Z Z),zpr Z Z Z (zi Z),zpr Z Z ⟨_,_,_,Z,Z,Z,Z⟩ (zi Z),zpr Z Z ⟨_,_,_,Z,Z,Z,Z⟩ (zM (zbV Z Z) (decide_eq_false (by omega))),zpr Z Z ⟨_,_,_,Z,Z,Z,Z⟩ (zi Z),.inr ⟨_,Z,Z,.inr ⟨⟨_,_,_,Z,Z,Z,Z⟩,Z⟩⟩,.inr ⟨_,Z,Z,.inr ⟨⟨_,_,_,Z,Z,Z,Z⟩,Z⟩⟩,.inr ⟨_,Z,Z,.inr ⟨⟨_,_,_,Z,Z,Z,Z⟩,Z⟩⟩,.inr ⟨_,Z,Z,.inr ⟨⟨_,_,_,Z,Z,Z,Z⟩,Z⟩⟩,.inr ⟨_,Z,Z,.inr ⟨⟨_,_,_,Z,Z,Z,Z⟩,Z⟩⟩,.inr ⟨_,Z,Z,.inr ⟨⟨_,_,_,Z,Z,Z,Z⟩,Z⟩⟩,.inr ⟨_,Z,Z,.inr ⟨⟨_,_,_,Z,Z,Z,Z⟩,Z⟩⟩,.inr ⟨_,Z,Z,.inr ⟨⟨_,_,_,Z,Z,Z,Z⟩,Z⟩⟩,.inr ⟨_,Z,Z,.inr ⟨⟨_,_,_,Z,Z,Z,Z⟩,Z⟩⟩,.inr ⟨_,Z,Z,.inr ⟨⟨_,_,_,Z,Z,Z,Z⟩,Z⟩⟩,zpr Z Z ⟨_,_,_,Z,Z,Z,Z⟩ (zak Z Z),zpr Z Z Z (zak Z Z),zpr Z Z Z (zi Z),zpr Z Z ⟨_,_,_,Z,Z,Z,Z⟩ (zi Z),zpr Z Z ⟨_,_,_,Z,Z,Z,Z⟩ (zi Z),zpr Z Z ⟨_,_,_,Z,Z,Z,Z⟩ (zar k (o181.rd (i:=4) Z) Tryz.underlying23 zaB Z Z Z (by omega)),zpr Z Z ⟨_,_,_,Z,Z,Z,Z⟩ (zu (v:=V ((K9.map fun e => e.1).getD k 0)) zo Z (zH (o181.rd (i:=4) Z) (zz 0 (by omega)) Z)),zpr Z Z ⟨_,_,_,Z,Z,Z,Z⟩ (zM (zig Z Z) (decide_eq_false (by have h9:=hk9.1.1; omega))),zpr Z Z Z (zak Z Z),zpr Z Z Z (zi Z),zpr Z Z ⟨_,_,_,Z,Z,Z,Z⟩ (zi Z),zpr Z Z ⟨_,_,_,Z,Z,Z,Z⟩ (zi Z),zpr Z Z ⟨_,_,_,Z,Z,Z,Z⟩ (zar k (o181.rd (i:=4) Z) Tryz.underlying23 zaB Z Z Z (by omega)),zpr Z Z ⟨_,_,_,Z,Z,Z,Z⟩ (zu (v:=V ((K9.map fun e => e.1).getD k 0)) zo Z (zH (o181.rd (i:=4) Z) (zz 0 (by omega)) Z)),zpr Z Z ⟨_,_,_,Z,Z,Z,Z⟩ (zi Z),zpr Z Z ⟨_,_,_,Z,Z,Z,Z⟩ (zM (zbV Z Z) (decide_eq_false (by have h9:=hk9.1.2; omega))),zpr Z Z Z (zak Z Z),zpr Z Z Z (zi Z),zpr Z Z ⟨_,_,_,Z,Z,Z,Z⟩ (zi Z),zpr Z Z ⟨_,_,_,Z,Z,Z,Z⟩ (zi Z),zpr Z Z ⟨_,_,_,Z,Z,Z,Z⟩ (zi Z),zpr Z Z ⟨_,_,_,Z,Z,Z,Z⟩ (zar k (o181.rd (i:=4) Z) Tryz.underlying23 zaB Z Z Z (by omega)),zpr Z Z ⟨_,_,_,Z,Z,Z,Z⟩ (zu (v:=V ((K9.map fun e => e.1).getD k 0)) zo Z (zH (o181.rd (i:=4) Z) (zz 0 (by omega)) Z)),zpr Z Z ⟨_,_,_,Z,Z,Z,Z⟩ (zM (zaz za8 Z (by exact zcU _ (o10.rd (i:=5) Z))) (decide_eq_true hin9)),zpr Z Z ⟨_,_,_,Z,Z,Z,Z⟩ (zfB (b:=true) Z),zpr Z Z ⟨_,_,_,Z,Z,Z,Z⟩ (zi Z),.inr ⟨_,Z,Z,.inr ⟨⟨_,_,_,Z,Z,Z,Z⟩,Z⟩⟩,.inr ⟨_,Z,Z,.inr ⟨⟨_,_,_,Z,Z,Z,Z⟩,Z⟩⟩,.inr ⟨_,Z,Z,.inr ⟨⟨_,_,_,Z,Z,Z,Z⟩,Z⟩⟩,.inr ⟨_,Z,Z,.inr ⟨⟨_,_,_,Z,Z,Z,Z⟩,Z⟩⟩,.inr ⟨_,Z,Z,.inr ⟨⟨_,_,_,Z,Z,Z,Z⟩,Z⟩⟩,.inr ⟨_,Z,Z,.inr ⟨⟨_,_,_,Z,Z,Z,Z⟩,Z⟩⟩,zpr Z Z ⟨_,_,_,Z,Z,Z,Z⟩ (zak Z Z),zpr Z Z Z (zak Z Z),trivial⟩,by kernel_rfl,?_⟩
          refine At.mono (E':=[(0,V most),(2,V buffer),(3,.slice A l.length C),(9,.bool true),(10,B c),(12,V la9),(13,V (i:Int)),(15,.slice A6 (K.map fun e => e.1).length C7),(22,.slice A177 (K9.map fun e => e.1).length C178),(23,V (k:Int)),(281,.bool false)]) ⟨Z,Z,Z,Z,Z,Z,Z,Z,Z,Z,Z,trivial⟩<|zB Z<|zj<|zp<|za<|zb zg0 Z Z ?_
          refine AtL.add (z:=(k:Int) + 1) zg0 Z Z Z (w64 (by omega) (by omega))<|AtL.assign zg0 Z Z<|AtL.done<|At.pick (H':=s180::O0 c most idle buffer la9 mb::[(mb,mapG kyI Lk.v K9 mn9)]::zv K9::s9::H) [4,1,2,3,5] 6 Z Z ?_
          refine ihL2 (k + 1) (by omega) (by omega) _ ?_
          exact ⟨Z,Z,Z,Z,Z,Z,Z,Z,Z,(by first | rfl | exact zaf (by simp []) | exact zah (by omega) | exact zah (by simp []) | exact zaf (by simp []; omega)),trivial⟩
         ·refine zac (es:=[]) (pv:=[(0,.bool true),(1,.bool false),(2,.bool false),(3,.pointer (some ⟨b193,3,none⟩)),(4,V w186),(5,V buffer),(6,.bool false),(7,.bool false),(8,.bool false),(9,.pointer (some ⟨b193,4,none⟩)),(10,V l187),(11,.bool false),(12,.bool false),(13,.bool false),(14,V (k:Int)),(15,.bool false),(16,.bool false),(17,undef),(18,undef),(19,undef),(20,undef),(21,undef),(22,undef),(23,undef),(24,undef),(25,undef),(26,undef),(27,.bool false),(28,.bool false),(29,.bool false),(30,.slice A177 (K9.map fun e => e.1).length C178),(31,V (k:Int)),(32,.pointer (some (za3 A177 (k * tyI.sz)))),(33,V ((K9.map fun e => e.1).getD k 0)),(34,.bool false),(35,.bool false),(36,.bool false),(37,.slice A177 (K9.map fun e => e.1).length C178),(38,V (k:Int)),(39,.pointer (some (za3 A177 (k * tyI.sz)))),(40,V ((K9.map fun e => e.1).getD k 0)),(41,V la9),(42,.bool false),(43,.bool false),(44,.bool false),(45,.slice A6 (K.map fun e => e.1).length C7),(46,.slice A177 (K9.map fun e => e.1).length C178),(47,V (k:Int)),(48,.pointer (some (za3 A177 (k * tyI.sz)))),(49,V ((K9.map fun e => e.1).getD k 0)),(50,.bool false),(51,.bool true),(52,.bool true),(53,.slice A177 (K9.map fun e => e.1).length C178),(54,V (k:Int)),(55,.pointer (some (za3 A177 (k * tyI.sz)))),(56,V ((K9.map fun e => e.1).getD k 0)),(57,V la9),(58,.bool false),(59,.bool false),(60,.bool false)]) zV (by kernel_rfl) (by kernel_rfl) (by kernel_rfl) ?_
          refine ⟨⟨zpr Z Z Z (zi Z),zpr Z Z Z (zfB (b:=true) Z),zpr Z Z Z (zi Z),zpr Z Z ⟨_,_,_,Z,Z,Z,Z⟩ (zg ze8 Z Z),zpr Z Z ⟨_,_,_,Z,Z,Z,Z⟩ (zu zo Z (Cell.own 0 0 Z Z Z)),zpr Z Z ⟨_,_,_,Z,Z,Z,Z⟩ (zi Z),zpr Z Z ⟨_,_,_,Z,Z,Z,Z⟩ (zM (zbV Z Z) (decide_eq_false (by omega))),zpr Z Z Z (zak Z Z),zpr Z Z Z (zi Z),zpr Z Z ⟨_,_,_,Z,Z,Z,Z⟩ (zg zcM Z Z),zpr Z Z ⟨_,_,_,Z,Z,Z,Z⟩ (zu zo Z (Cell.own 0 0 Z Z Z)),zpr Z Z ⟨_,_,_,Z,Z,Z,Z⟩ (zM (zbV Z Z) (decide_eq_false (by omega))),zpr Z Z Z (zak Z Z),zpr Z Z Z (zi Z),zpr Z Z ⟨_,_,_,Z,Z,Z,Z⟩ (zi Z),zpr Z Z ⟨_,_,_,Z,Z,Z,Z⟩ (zM (zbV Z Z) (decide_eq_false (by omega))),zpr Z Z ⟨_,_,_,Z,Z,Z,Z⟩ (zi Z),.inr ⟨_,Z,Z,.inr ⟨⟨_,_,_,Z,Z,Z,Z⟩,Z⟩⟩,.inr ⟨_,Z,Z,.inr ⟨⟨_,_,_,Z,Z,Z,Z⟩,Z⟩⟩,.inr ⟨_,Z,Z,.inr ⟨⟨_,_,_,Z,Z,Z,Z⟩,Z⟩⟩,.inr ⟨_,Z,Z,.inr ⟨⟨_,_,_,Z,Z,Z,Z⟩,Z⟩⟩,.inr ⟨_,Z,Z,.inr ⟨⟨_,_,_,Z,Z,Z,Z⟩,Z⟩⟩,.inr ⟨_,Z,Z,.inr ⟨⟨_,_,_,Z,Z,Z,Z⟩,Z⟩⟩,.inr ⟨_,Z,Z,.inr ⟨⟨_,_,_,Z,Z,Z,Z⟩,Z⟩⟩,.inr ⟨_,Z,Z,.inr ⟨⟨_,_,_,Z,Z,Z,Z⟩,Z⟩⟩,.inr ⟨_,Z,Z,.inr ⟨⟨_,_,_,Z,Z,Z,Z⟩,Z⟩⟩,.inr ⟨_,Z,Z,.inr ⟨⟨_,_,_,Z,Z,Z,Z⟩,Z⟩⟩,zpr Z Z ⟨_,_,_,Z,Z,Z,Z⟩ (zak Z Z),zpr Z Z Z (zak Z Z),zpr Z Z Z (zi Z),zpr Z Z ⟨_,_,_,Z,Z,Z,Z⟩ (zi Z),zpr Z Z ⟨_,_,_,Z,Z,Z,Z⟩ (zi Z),zpr Z Z ⟨_,_,_,Z,Z,Z,Z⟩ (zar k (o181.rd (i:=4) Z) Tryz.underlying23 zaB Z Z Z (by omega)),zpr Z Z ⟨_,_,_,Z,Z,Z,Z⟩ (zu (v:=V ((K9.map fun e => e.1).getD k 0)) zo Z (zH (o181.rd (i:=4) Z) (zz 0 (by omega)) Z)),zpr Z Z ⟨_,_,_,Z,Z,Z,Z⟩ (zM (zig Z Z) (decide_eq_false (by have h9:=hk9.1.1; omega))),zpr Z Z Z (zak Z Z),zpr Z Z Z (zi Z),zpr Z Z ⟨_,_,_,Z,Z,Z,Z⟩ (zi Z),zpr Z Z ⟨_,_,_,Z,Z,Z,Z⟩ (zi Z),zpr Z Z ⟨_,_,_,Z,Z,Z,Z⟩ (zar k (o181.rd (i:=4) Z) Tryz.underlying23 zaB Z Z Z (by omega)),zpr Z Z ⟨_,_,_,Z,Z,Z,Z⟩ (zu (v:=V ((K9.map fun e => e.1).getD k 0)) zo Z (zH (o181.rd (i:=4) Z) (zz 0 (by omega)) Z)),zpr Z Z ⟨_,_,_,Z,Z,Z,Z⟩ (zi Z),zpr Z Z ⟨_,_,_,Z,Z,Z,Z⟩ (zM (zbV Z Z) (decide_eq_false (by have h9:=hk9.1.2; omega))),zpr Z Z Z (zak Z Z),zpr Z Z Z (zi Z),zpr Z Z ⟨_,_,_,Z,Z,Z,Z⟩ (zi Z),zpr Z Z ⟨_,_,_,Z,Z,Z,Z⟩ (zi Z),zpr Z Z ⟨_,_,_,Z,Z,Z,Z⟩ (zi Z),zpr Z Z ⟨_,_,_,Z,Z,Z,Z⟩ (zar k (o181.rd (i:=4) Z) Tryz.underlying23 zaB Z Z Z (by omega)),zpr Z Z ⟨_,_,_,Z,Z,Z,Z⟩ (zu (v:=V ((K9.map fun e => e.1).getD k 0)) zo Z (zH (o181.rd (i:=4) Z) (zz 0 (by omega)) Z)),zpr Z Z ⟨_,_,_,Z,Z,Z,Z⟩ (zM (zaz za8 Z (by exact zcU _ (o10.rd (i:=5) Z))) (decide_eq_false hin9)),zpr Z Z ⟨_,_,_,Z,Z,Z,Z⟩ (zfB (b:=false) Z),zpr Z Z ⟨_,_,_,Z,Z,Z,Z⟩ (zi Z),zpr Z Z ⟨_,_,_,Z,Z,Z,Z⟩ (zi Z),zpr Z Z ⟨_,_,_,Z,Z,Z,Z⟩ (zi Z),zpr Z Z ⟨_,_,_,Z,Z,Z,Z⟩ (zar k (o181.rd (i:=4) Z) Tryz.underlying23 zaB Z Z Z (by omega)),zpr Z Z ⟨_,_,_,Z,Z,Z,Z⟩ (zu (v:=V ((K9.map fun e => e.1).getD k 0)) zo Z (zH (o181.rd (i:=4) Z) (zz 0 (by omega)) Z)),zpr Z Z ⟨_,_,_,Z,Z,Z,Z⟩ (zi Z),zpr Z Z ⟨_,_,_,Z,Z,Z,Z⟩ (zM (Do.nei Z Z) (congrArg not (decide_eq_true ((hky9 _ hk9.2.1).resolve_left hin9)))),zpr Z Z ⟨_,_,_,Z,Z,Z,Z⟩ (za4 Z Z),zpr Z Z Z (zak Z Z),trivial⟩,by kernel_rfl,?_⟩
          refine At.mono (E':=[(0,V most),(2,V buffer),(3,.slice A l.length C),(9,.bool true),(10,B c),(12,V la9),(13,V (i:Int)),(15,.slice A6 (K.map fun e => e.1).length C7),(22,.slice A177 (K9.map fun e => e.1).length C178),(23,V (k:Int)),(281,.bool false)]) ⟨Z,Z,Z,Z,Z,Z,Z,Z,Z,Z,Z,trivial⟩<|zB Z<|zj<|zp<|za<|zb zg0 Z Z ?_
          refine AtL.add (z:=(k:Int) + 1) zg0 Z Z Z (w64 (by omega) (by omega))<|AtL.assign zg0 Z Z<|AtL.done<|At.pick (H':=s180::O0 c most idle buffer la9 mb::[(mb,mapG kyI Lk.v K9 mn9)]::zv K9::s9::H) [4,1,2,3,5] 6 Z Z ?_
          refine ihL2 (k + 1) (by omega) (by omega) _ ?_
          exact ⟨Z,Z,Z,Z,Z,Z,Z,Z,Z,(by first | rfl | exact zaf (by simp []) | exact zah (by omega) | exact zah (by simp []) | exact zaf (by simp []; omega)),trivial⟩
        ·rcases Decidable.em ((K9.map fun e => e.1).getD k 0 ∈ (K.map fun e => e.1)) with hin9 | hin9
         ·refine zac (es:=[]) (pv:=[(0,.bool true),(1,.bool false),(2,.bool false),(3,.pointer (some ⟨b193,3,none⟩)),(4,V w186),(5,V buffer),(6,.bool false),(7,.bool false),(8,.bool false),(9,.pointer (some ⟨b193,4,none⟩)),(10,V l187),(11,.bool false),(12,.bool false),(13,.bool false),(14,V (k:Int)),(15,.bool true),(16,.bool true),(17,.slice A177 (K9.map fun e => e.1).length C178),(18,V (k:Int)),(19,.pointer (some (za3 A177 (k * tyI.sz)))),(20,V ((K9.map fun e => e.1).getD k 0)),(21,.slice A177 (K9.map fun e => e.1).length C178),(22,V (k:Int)),(23,V ((k:Int) - 1)),(24,.pointer (some (za3 A177 ((k - 1) * tyI.sz)))),(25,V ((K9.map fun e => e.1).getD (k - 1) 0)),(26,.bool false),(27,.bool false),(28,.bool false),(29,.bool false),(30,.slice A177 (K9.map fun e => e.1).length C178),(31,V (k:Int)),(32,.pointer (some (za3 A177 (k * tyI.sz)))),(33,V ((K9.map fun e => e.1).getD k 0)),(34,.bool false),(35,.bool false),(36,.bool false),(37,.slice A177 (K9.map fun e => e.1).length C178),(38,V (k:Int)),(39,.pointer (some (za3 A177 (k * tyI.sz)))),(40,V ((K9.map fun e => e.1).getD k 0)),(41,V la9),(42,.bool false),(43,.bool false),(44,.bool false),(45,.slice A6 (K.map fun e => e.1).length C7),(46,.slice A177 (K9.map fun e => e.1).length C178),(47,V (k:Int)),(48,.pointer (some (za3 A177 (k * tyI.sz)))),(49,V ((K9.map fun e => e.1).getD k 0)),(50,.bool true),(51,.bool false),(52,.bool false),(53,undef),(54,undef),(55,undef),(56,undef),(57,undef),(58,undef),(59,.bool false),(60,.bool false)]) zV (by kernel_rfl) (by kernel_rfl) (by kernel_rfl) ?_
          refine ⟨⟨zpr Z Z Z (zi Z),zpr Z Z Z (zfB (b:=true) Z),zpr Z Z Z (zi Z),zpr Z Z ⟨_,_,_,Z,Z,Z,Z⟩ (zg ze8 Z Z),zpr Z Z ⟨_,_,_,Z,Z,Z,Z⟩ (zu zo Z (Cell.own 0 0 Z Z Z)),zpr Z Z ⟨_,_,_,Z,Z,Z,Z⟩ (zi Z),zpr Z Z ⟨_,_,_,Z,Z,Z,Z⟩ (zM (zbV Z Z) (decide_eq_false (by omega))),zpr Z Z Z (zak Z Z),zpr Z Z Z (zi Z),zpr Z Z ⟨_,_,_,Z,Z,Z,Z⟩ (zg zcM Z Z),zpr Z Z ⟨_,_,_,Z,Z,Z,Z⟩ (zu zo Z (Cell.own 0 0 Z Z Z)),zpr Z Z ⟨_,_,_,Z,Z,Z,Z⟩ (zM (zbV Z Z) (decide_eq_false (by omega))),zpr Z Z Z (zak Z Z),zpr Z Z Z (zi Z),zpr Z Z ⟨_,_,_,Z,Z,Z,Z⟩ (zi Z),zpr Z Z ⟨_,_,_,Z,Z,Z,Z⟩ (zM (zbV Z Z) (decide_eq_true (by omega))),zpr Z Z ⟨_,_,_,Z,Z,Z,Z⟩ (zi Z),zpr Z Z ⟨_,_,_,Z,Z,Z,Z⟩ (zi Z),zpr Z Z ⟨_,_,_,Z,Z,Z,Z⟩ (zi Z),zpr Z Z ⟨_,_,_,Z,Z,Z,Z⟩ (zar k (o181.rd (i:=4) Z) Tryz.underlying23 zaB Z Z Z (by omega)),zpr Z Z ⟨_,_,_,Z,Z,Z,Z⟩ (zu (v:=V ((K9.map fun e => e.1).getD k 0)) zo Z (zH (o181.rd (i:=4) Z) (zz 0 (by omega)) Z)),zpr Z Z ⟨_,_,_,Z,Z,Z,Z⟩ (zi Z),zpr Z Z ⟨_,_,_,Z,Z,Z,Z⟩ (zi Z),zpr Z Z ⟨_,_,_,Z,Z,Z,Z⟩ (Do.sub (z:=(k:Int) - 1) Z Z (w64 (by omega) (by omega))),zpr Z Z ⟨_,_,_,Z,Z,Z,Z⟩ (zar (k - 1) (o181.rd (i:=4) Z) Tryz.underlying23 zaB Z Z (by omega) (by omega)),zpr Z Z ⟨_,_,_,Z,Z,Z,Z⟩ (zu (v:=V ((K9.map fun e => e.1).getD (k - 1) 0)) zo Z (zH (o181.rd (i:=4) Z) (zz 0 (by omega)) Z)),zpr Z Z ⟨_,_,_,Z,Z,Z,Z⟩ (zM (Do.leq Z Z) (decide_eq_false (by have h9:=hk9.2.2 hk0; omega))),zpr Z Z ⟨_,_,_,Z,Z,Z,Z⟩ (za4 Z Z),zpr Z Z Z (zak Z Z),zpr Z Z Z (zi Z),zpr Z Z ⟨_,_,_,Z,Z,Z,Z⟩ (zi Z),zpr Z Z ⟨_,_,_,Z,Z,Z,Z⟩ (zi Z),zpr Z Z ⟨_,_,_,Z,Z,Z,Z⟩ (zar k (o181.rd (i:=4) Z) Tryz.underlying23 zaB Z Z Z (by omega)),zpr Z Z ⟨_,_,_,Z,Z,Z,Z⟩ (zu (v:=V ((K9.map fun e => e.1).getD k 0)) zo Z (zH (o181.rd (i:=4) Z) (zz 0 (by omega)) Z)),zpr Z Z ⟨_,_,_,Z,Z,Z,Z⟩ (zM (zig Z Z) (decide_eq_false (by have h9:=hk9.1.1; omega))),zpr Z Z Z (zak Z Z),zpr Z Z Z (zi Z),zpr Z Z ⟨_,_,_,Z,Z,Z,Z⟩ (zi Z),zpr Z Z ⟨_,_,_,Z,Z,Z,Z⟩ (zi Z),zpr Z Z ⟨_,_,_,Z,Z,Z,Z⟩ (zar k (o181.rd (i:=4) Z) Tryz.underlying23 zaB Z Z Z (by omega)),zpr Z Z ⟨_,_,_,Z,Z,Z,Z⟩ (zu (v:=V ((K9.map fun e => e.1).getD k 0)) zo Z (zH (o181.rd (i:=4) Z) (zz 0 (by omega)) Z)),zpr Z Z ⟨_,_,_,Z,Z,Z,Z⟩ (zi Z),zpr Z Z ⟨_,_,_,Z,Z,Z,Z⟩ (zM (zbV Z Z) (decide_eq_false (by have h9:=hk9.1.2; omega))),zpr Z Z Z (zak Z Z),zpr Z Z Z (zi Z),zpr Z Z ⟨_,_,_,Z,Z,Z,Z⟩ (zi Z),zpr Z Z ⟨_,_,_,Z,Z,Z,Z⟩ (zi Z),zpr Z Z ⟨_,_,_,Z,Z,Z,Z⟩ (zi Z),zpr Z Z ⟨_,_,_,Z,Z,Z,Z⟩ (zar k (o181.rd (i:=4) Z) Tryz.underlying23 zaB Z Z Z (by omega)),zpr Z Z ⟨_,_,_,Z,Z,Z,Z⟩ (zu (v:=V ((K9.map fun e => e.1).getD k 0)) zo Z (zH (o181.rd (i:=4) Z) (zz 0 (by omega)) Z)),zpr Z Z ⟨_,_,_,Z,Z,Z,Z⟩ (zM (zaz za8 Z (by exact zcU _ (o10.rd (i:=5) Z))) (decide_eq_true hin9)),zpr Z Z ⟨_,_,_,Z,Z,Z,Z⟩ (zfB (b:=true) Z),zpr Z Z ⟨_,_,_,Z,Z,Z,Z⟩ (zi Z),.inr ⟨_,Z,Z,.inr ⟨⟨_,_,_,Z,Z,Z,Z⟩,Z⟩⟩,.inr ⟨_,Z,Z,.inr ⟨⟨_,_,_,Z,Z,Z,Z⟩,Z⟩⟩,.inr ⟨_,Z,Z,.inr ⟨⟨_,_,_,Z,Z,Z,Z⟩,Z⟩⟩,.inr ⟨_,Z,Z,.inr ⟨⟨_,_,_,Z,Z,Z,Z⟩,Z⟩⟩,.inr ⟨_,Z,Z,.inr ⟨⟨_,_,_,Z,Z,Z,Z⟩,Z⟩⟩,.inr ⟨_,Z,Z,.inr ⟨⟨_,_,_,Z,Z,Z,Z⟩,Z⟩⟩,zpr Z Z ⟨_,_,_,Z,Z,Z,Z⟩ (zak Z Z),zpr Z Z Z (zak Z Z),trivial⟩,by kernel_rfl,?_⟩
          refine At.mono (E':=[(0,V most),(2,V buffer),(3,.slice A l.length C),(9,.bool true),(10,B c),(12,V la9),(13,V (i:Int)),(15,.slice A6 (K.map fun e => e.1).length C7),(22,.slice A177 (K9.map fun e => e.1).length C178),(23,V (k:Int)),(281,.bool false)]) ⟨Z,Z,Z,Z,Z,Z,Z,Z,Z,Z,Z,trivial⟩<|zB Z<|zj<|zp<|za<|zb zg0 Z Z ?_
          refine AtL.add (z:=(k:Int) + 1) zg0 Z Z Z (w64 (by omega) (by omega))<|AtL.assign zg0 Z Z<|AtL.done<|At.pick (H':=s180::O0 c most idle buffer la9 mb::[(mb,mapG kyI Lk.v K9 mn9)]::zv K9::s9::H) [4,1,2,3,5] 6 Z Z ?_
          refine ihL2 (k + 1) (by omega) (by omega) _ ?_
          exact ⟨Z,Z,Z,Z,Z,Z,Z,Z,Z,(by first | rfl | exact zaf (by simp []) | exact zah (by omega) | exact zah (by simp []) | exact zaf (by simp []; omega)),trivial⟩
         ·refine zac (es:=[]) (pv:=[(0,.bool true),(1,.bool false),(2,.bool false),(3,.pointer (some ⟨b193,3,none⟩)),(4,V w186),(5,V buffer),(6,.bool false),(7,.bool false),(8,.bool false),(9,.pointer (some ⟨b193,4,none⟩)),(10,V l187),(11,.bool false),(12,.bool false),(13,.bool false),(14,V (k:Int)),(15,.bool true),(16,.bool true),(17,.slice A177 (K9.map fun e => e.1).length C178),(18,V (k:Int)),(19,.pointer (some (za3 A177 (k * tyI.sz)))),(20,V ((K9.map fun e => e.1).getD k 0)),(21,.slice A177 (K9.map fun e => e.1).length C178),(22,V (k:Int)),(23,V ((k:Int) - 1)),(24,.pointer (some (za3 A177 ((k - 1) * tyI.sz)))),(25,V ((K9.map fun e => e.1).getD (k - 1) 0)),(26,.bool false),(27,.bool false),(28,.bool false),(29,.bool false),(30,.slice A177 (K9.map fun e => e.1).length C178),(31,V (k:Int)),(32,.pointer (some (za3 A177 (k * tyI.sz)))),(33,V ((K9.map fun e => e.1).getD k 0)),(34,.bool false),(35,.bool false),(36,.bool false),(37,.slice A177 (K9.map fun e => e.1).length C178),(38,V (k:Int)),(39,.pointer (some (za3 A177 (k * tyI.sz)))),(40,V ((K9.map fun e => e.1).getD k 0)),(41,V la9),(42,.bool false),(43,.bool false),(44,.bool false),(45,.slice A6 (K.map fun e => e.1).length C7),(46,.slice A177 (K9.map fun e => e.1).length C178),(47,V (k:Int)),(48,.pointer (some (za3 A177 (k * tyI.sz)))),(49,V ((K9.map fun e => e.1).getD k 0)),(50,.bool false),(51,.bool true),(52,.bool true),(53,.slice A177 (K9.map fun e => e.1).length C178),(54,V (k:Int)),(55,.pointer (some (za3 A177 (k * tyI.sz)))),(56,V ((K9.map fun e => e.1).getD k 0)),(57,V la9),(58,.bool false),(59,.bool false),(60,.bool false)]) zV (by kernel_rfl) (by kernel_rfl) (by kernel_rfl) ?_
          refine ⟨⟨zpr Z Z Z (zi Z),zpr Z Z Z (zfB (b:=true) Z),zpr Z Z Z (zi Z),zpr Z Z ⟨_,_,_,Z,Z,Z,Z⟩ (zg ze8 Z Z),zpr Z Z ⟨_,_,_,Z,Z,Z,Z⟩ (zu zo Z (Cell.own 0 0 Z Z Z)),zpr Z Z ⟨_,_,_,Z,Z,Z,Z⟩ (zi Z),zpr Z Z ⟨_,_,_,Z,Z,Z,Z⟩ (zM (zbV Z Z) (decide_eq_false (by omega))),zpr Z Z Z (zak Z Z),zpr Z Z Z (zi Z),zpr Z Z ⟨_,_,_,Z,Z,Z,Z⟩ (zg zcM Z Z),zpr Z Z ⟨_,_,_,Z,Z,Z,Z⟩ (zu zo Z (Cell.own 0 0 Z Z Z)),zpr Z Z ⟨_,_,_,Z,Z,Z,Z⟩ (zM (zbV Z Z) (decide_eq_false (by omega))),zpr Z Z Z (zak Z Z),zpr Z Z Z (zi Z),zpr Z Z ⟨_,_,_,Z,Z,Z,Z⟩ (zi Z),zpr Z Z ⟨_,_,_,Z,Z,Z,Z⟩ (zM (zbV Z Z) (decide_eq_true (by omega))),zpr Z Z ⟨_,_,_,Z,Z,Z,Z⟩ (zi Z),zpr Z Z ⟨_,_,_,Z,Z,Z,Z⟩ (zi Z),zpr Z Z ⟨_,_,_,Z,Z,Z,Z⟩ (zi Z),zpr Z Z ⟨_,_,_,Z,Z,Z,Z⟩ (zar k (o181.rd (i:=4) Z) Tryz.underlying23 zaB Z Z Z (by omega)),zpr Z Z ⟨_,_,_,Z,Z,Z,Z⟩ (zu (v:=V ((K9.map fun e => e.1).getD k 0)) zo Z (zH (o181.rd (i:=4) Z) (zz 0 (by omega)) Z)),zpr Z Z ⟨_,_,_,Z,Z,Z,Z⟩ (zi Z),zpr Z Z ⟨_,_,_,Z,Z,Z,Z⟩ (zi Z),zpr Z Z ⟨_,_,_,Z,Z,Z,Z⟩ (Do.sub (z:=(k:Int) - 1) Z Z (w64 (by omega) (by omega))),zpr Z Z ⟨_,_,_,Z,Z,Z,Z⟩ (zar (k - 1) (o181.rd (i:=4) Z) Tryz.underlying23 zaB Z Z (by omega) (by omega)),zpr Z Z ⟨_,_,_,Z,Z,Z,Z⟩ (zu (v:=V ((K9.map fun e => e.1).getD (k - 1) 0)) zo Z (zH (o181.rd (i:=4) Z) (zz 0 (by omega)) Z)),zpr Z Z ⟨_,_,_,Z,Z,Z,Z⟩ (zM (Do.leq Z Z) (decide_eq_false (by have h9:=hk9.2.2 hk0; omega))),zpr Z Z ⟨_,_,_,Z,Z,Z,Z⟩ (za4 Z Z),zpr Z Z Z (zak Z Z),zpr Z Z Z (zi Z),zpr Z Z ⟨_,_,_,Z,Z,Z,Z⟩ (zi Z),zpr Z Z ⟨_,_,_,Z,Z,Z,Z⟩ (zi Z),zpr Z Z ⟨_,_,_,Z,Z,Z,Z⟩ (zar k (o181.rd (i:=4) Z) Tryz.underlying23 zaB Z Z Z (by omega)),zpr Z Z ⟨_,_,_,Z,Z,Z,Z⟩ (zu (v:=V ((K9.map fun e => e.1).getD k 0)) zo Z (zH (o181.rd (i:=4) Z) (zz 0 (by omega)) Z)),zpr Z Z ⟨_,_,_,Z,Z,Z,Z⟩ (zM (zig Z Z) (decide_eq_false (by have h9:=hk9.1.1; omega))),zpr Z Z Z (zak Z Z),zpr Z Z Z (zi Z),zpr Z Z ⟨_,_,_,Z,Z,Z,Z⟩ (zi Z),zpr Z Z ⟨_,_,_,Z,Z,Z,Z⟩ (zi Z),zpr Z Z ⟨_,_,_,Z,Z,Z,Z⟩ (zar k (o181.rd (i:=4) Z) Tryz.underlying23 zaB Z Z Z (by omega)),zpr Z Z ⟨_,_,_,Z,Z,Z,Z⟩ (zu (v:=V ((K9.map fun e => e.1).getD k 0)) zo Z (zH (o181.rd (i:=4) Z) (zz 0 (by omega)) Z)),zpr Z Z ⟨_,_,_,Z,Z,Z,Z⟩ (zi Z),zpr Z Z ⟨_,_,_,Z,Z,Z,Z⟩ (zM (zbV Z Z) (decide_eq_false (by have h9:=hk9.1.2; omega))),zpr Z Z Z (zak Z Z),zpr Z Z Z (zi Z),zpr Z Z ⟨_,_,_,Z,Z,Z,Z⟩ (zi Z),zpr Z Z ⟨_,_,_,Z,Z,Z,Z⟩ (zi Z),zpr Z Z ⟨_,_,_,Z,Z,Z,Z⟩ (zi Z),zpr Z Z ⟨_,_,_,Z,Z,Z,Z⟩ (zar k (o181.rd (i:=4) Z) Tryz.underlying23 zaB Z Z Z (by omega)),zpr Z Z ⟨_,_,_,Z,Z,Z,Z⟩ (zu (v:=V ((K9.map fun e => e.1).getD k 0)) zo Z (zH (o181.rd (i:=4) Z) (zz 0 (by omega)) Z)),zpr Z Z ⟨_,_,_,Z,Z,Z,Z⟩ (zM (zaz za8 Z (by exact zcU _ (o10.rd (i:=5) Z))) (decide_eq_false hin9)),zpr Z Z ⟨_,_,_,Z,Z,Z,Z⟩ (zfB (b:=false) Z),zpr Z Z ⟨_,_,_,Z,Z,Z,Z⟩ (zi Z),zpr Z Z ⟨_,_,_,Z,Z,Z,Z⟩ (zi Z),zpr Z Z ⟨_,_,_,Z,Z,Z,Z⟩ (zi Z),zpr Z Z ⟨_,_,_,Z,Z,Z,Z⟩ (zar k (o181.rd (i:=4) Z) Tryz.underlying23 zaB Z Z Z (by omega)),zpr Z Z ⟨_,_,_,Z,Z,Z,Z⟩ (zu (v:=V ((K9.map fun e => e.1).getD k 0)) zo Z (zH (o181.rd (i:=4) Z) (zz 0 (by omega)) Z)),zpr Z Z ⟨_,_,_,Z,Z,Z,Z⟩ (zi Z),zpr Z Z ⟨_,_,_,Z,Z,Z,Z⟩ (zM (Do.nei Z Z) (congrArg not (decide_eq_true ((hky9 _ hk9.2.1).resolve_left hin9)))),zpr Z Z ⟨_,_,_,Z,Z,Z,Z⟩ (za4 Z Z),zpr Z Z Z (zak Z Z),trivial⟩,by kernel_rfl,?_⟩
          refine At.mono (E':=[(0,V most),(2,V buffer),(3,.slice A l.length C),(9,.bool true),(10,B c),(12,V la9),(13,V (i:Int)),(15,.slice A6 (K.map fun e => e.1).length C7),(22,.slice A177 (K9.map fun e => e.1).length C178),(23,V (k:Int)),(281,.bool false)]) ⟨Z,Z,Z,Z,Z,Z,Z,Z,Z,Z,Z,trivial⟩<|zB Z<|zj<|zp<|za<|zb zg0 Z Z ?_
          refine AtL.add (z:=(k:Int) + 1) zg0 Z Z Z (w64 (by omega) (by omega))<|AtL.assign zg0 Z Z<|AtL.done<|At.pick (H':=s180::O0 c most idle buffer la9 mb::[(mb,mapG kyI Lk.v K9 mn9)]::zv K9::s9::H) [4,1,2,3,5] 6 Z Z ?_
          refine ihL2 (k + 1) (by omega) (by omega) _ ?_
          exact ⟨Z,Z,Z,Z,Z,Z,Z,Z,Z,(by first | rfl | exact zaf (by simp []) | exact zah (by omega) | exact zah (by simp []) | exact zaf (by simp []; omega)),trivial⟩
       ·intro hc16
        refine zau Z<|zp<|za<|zb zg0 Z Z ?_
        refine AtL.add (z:=(i:Int) + 1) zg0 Z Z Z (w64 (by omega) (by omega))<|AtL.assign zg0 Z Z<|AtL.done<|At.pick (H':=O0 c most idle buffer la9 mb::[(mb,mapG kyI Lk.v K9 mn9)]::zv K9::H) [1,2,3] 5 Z Z ?_
        refine ihL1 (i + 1) K9 mn9 la9 (⟨by omega,hK9,hkl9,⟨by omega,by omega⟩⟩) (by omega) _ ?_
        exact ⟨Z,Z,Z,Z,Z,(by first | rfl | exact zaf (by simp []) | exact zah (by omega) | exact zah (by simp []) | exact zaf (by simp []; omega)),(by first | rfl | exact zaf (by simp []) | exact zah (by omega) | exact zah (by simp []) | exact zaf (by simp []; omega)),trivial⟩
   ·intro hc3
    refine zau Z<|zc<|za<|zb zg0 Z Z<|AtL.assign zg0 Z Z<|AtL.done ?_
    refine At.pick [] 3 Z Z ?_
    exact zt Tryz.func7 Z Z (⟨Z,Z⟩)
 ·refine za<|zb zg0 Z Z<|zb zg0 Z Z<|zb zg0 Z Z<|zk zio zg0 Z Z (cnew_bad hb9) ?_
  rintro _ _ ⟨rfl,hHq⟩
  obtain rfl:=hHq.symm
  refine zb zg0 Z Z<|AtL.extract zg0 Z Z Z<|AtL.extract zg0 Z Z Z<|AtL.assign zg0 Z Z<|AtL.assign zg0 Z Z<|AtL.done ?_
  refine zc<|zc<|za<|zb zg0 Z Z<|zT zg0 Z Z Z<|zb zg0 Z Z ?_
  refine ze Z Z Z Z Z Z<|ze Z Z Z Z Z Z<|zn zg0 Z Z Z<|AtL.done<|zX Z<|zc ?_
  refine za<|zb zg0 Z Z<|AtL.assign zg0 Z Z<|AtL.done ?_
  exact zt Tryz.func7 Z Z (⟨Z,Z⟩)
end Go.Proofs.YtbfabhdfmoiabaaGreatDoor
namespace Go.Proofs.YtbfabhdfmoiabaaGreatDoor
set_option linter.unusedVariables false
theorem zhs {H:Type}{enc:TypeId×Value→H}{a:Assume}{C:Checked}{os:Os}{f:FuncId}{fn:Func}{s:ChangeSpec}{conds:List PathCond}{apart fresh handsOn again:Bool}{X:World→Array Value→Prop}
  (hX:∀ (w w' : World) (args:Array Value),w.heap=w'.heap→X w args→X w' args) (own:ownKnob C.prog.godebug=none) (started:os.Started) (noInit:C.prog.inits.idxOf? f=none) (hfn:C.prog.funcs[f]? = some fn)
  (wit:∃ (w:World) (tape:Tape) (i:Input),w.os=os∧(w.forCall tape i).Shaped C.prog∧i.vars=[]∧Input.okWide C.prog (w.forCall tape i) .any w.heap.size f i ∧
   ((s.pre enc C.prog fn conds apart (w.forCall tape i).memory i.args∧X (w.forCall tape i).memory i.args)∧sizedMet enc C.prog fn (OpenSpec.ofChange s) apart (w.forCall tape i).memory i.args)∧a.holds C.prog (lone (Frame.enter C.prog f i.args .normal) [] (w.forCall tape i)))
  (con:∀ (W:World) (base:Nat) (args:Array Value) (ds gs:List (DataW H)) (before:List MemPlace),(∀ (j:Nat) t v,fn.params[j]? = some t→args[j]? = some v→Value.okWide C.prog W .any base t v)→DataW.Whole enc C.prog fn.params.toList s.vars apart W args.toList ds gs before →
   conds.all (PathCond.test C.prog ⟨fn.params.toList,ds,s.plain.varTypes C.prog,gs⟩)=true→(DataW.weightsEach C.prog (fn.params.toList++s.plain.varTypes C.prog) (ds++gs)).all (·≤reachBytes)=true→X W args→W.ShapedOpen C.prog →
   Calls C.prog f args W fun e W' => ∃ v,e = .returned v∧s.post enc C.prog fn apart fresh handsOn again W args v W') :
  ReturnsInHanded a C os f .any (fun w args => (s.pre enc C.prog fn conds apart w args∧X w args)∧sizedMet enc C.prog fn (OpenSpec.ofChange s) apart w args) (s.post enc C.prog fn apart fresh handsOn again):=by
 refine returnsInHanded_of_calls own started noInit wit ?_
 rintro w tape i _ hsh _ ⟨_,_,_,fn',hfn',_,_,_,_,hval⟩ ⟨⟨⟨ds,gs,before,hw,hc⟩,hx⟩,hz⟩ _
 obtain rfl:fn' = fn:=Option.some.inj (hfn'.symm.trans hfn)
 refine (con (w.forCall tape i) w.heap.size i.args ds gs before hval (DataW.Whole.of_heap (w':=w.forCall tape i) (by rfl) hw) hc (hz.weights hw) (hX _ _ _ (by rfl) hx) hsh).mono ?_
 rintro _ W' ⟨v,rfl,hp⟩
 exact ChangeSpec.post_blind hp
end Go.Proofs.YtbfabhdfmoiabaaGreatDoor
namespace Go.Proofs.YtbfabhdfmoiabaaGreatDoor
set_option linter.unusedVariables false
set_option linter.unusedSimpArgs false
set_option maxRecDepth 100000
def u8ren:Go.Shelf.Ren:=⟨fun _ => 0,fun | 5 => 5 | 119 => 238 | 138 => 240 | 139 => 241 | _ => 0,fun | 3 => 3 | 4 => 4 | _ => 0⟩
theorem tabs_of {W:World}(hsh:W.ShapedOpen Tryz.prog) {d1 d2:DataW Unit}(h3:Go.Lib.VarReads Tryz.prog W "unicode/utf8.first" d1) (h4:Go.Lib.VarReads Tryz.prog W "unicode/utf8.acceptRanges" d2) (e1:d1=Go.Lib.firstData:=by kernel_rfl) (e2:d2=Go.Lib.acceptData:=by kernel_rfl):Tabs W W.heap.size:=by
 subst e1; subst e2
 obtain ⟨m,hm⟩:=cell_of_shapedOpen_int (P:=Tryz.prog) (g:=0) (t:=3) (zero:=#[.int .i64 0]) hsh (of_decide_eq_true (by kernel_rfl)) (by kernel_rfl) rfl (by kernel_rfl) (by kernel_rfl) Tryz.underlying3
 have hu:=Go.Proofs.utf8Tabs_of_readsT (P:=Tryz.prog) (ρ:=u8ren) { t5:=Tryz.underlying5,t119:=Tryz.underlying238,t138:=Tryz.underlying240,t139:=Tryz.underlying241 } { n3:=by kernel_rfl,n4:=by kernel_rfl,y3:=by kernel_rfl,y4:=by kernel_rfl,c5:=by kernel_rfl,c119:=by kernel_rfl,c138:=by kernel_rfl } h3 h4
 have h1:∀ c,c < 256→W.cell? ⟨3,c,none⟩=some (.int .u8 (Lib.firstT c)):=hu.1
 have h2:∀ i,i < 16→W.cell? ⟨4,2 * i,none⟩=some (.int .u8 (Lib.accLo i))∧W.cell? ⟨4,2 * i + 1,none⟩=some (.int .u8 (Lib.accHi i)):=hu.2
 exact ⟨zfv (h1 0 (by decide)),zfv (h2 0 (by decide)).1,h1,zfv hm,⟨m,hm⟩,h2⟩
end Go.Proofs.YtbfabhdfmoiabaaGreatDoor
namespace Go.Proofs.YtbfabhdfmoiabaaGreatDoor
set_option linter.unusedVariables false
set_option linter.unusedSimpArgs false
set_option maxRecDepth 100000
theorem seat_main:Tryz.prog.mainIs=some ((true, "4d7236934a5e150e4f60b1c5740cbdbb30286df2378f98f26f0a6889d248b4a5").1,(true, "4d7236934a5e150e4f60b1c5740cbdbb30286df2378f98f26f0a6889d248b4a5").2.toList):=by kernel_rfl
theorem seat_looks:true=Tryz.prog.looks []:=by kernel_rfl
end Go.Proofs.YtbfabhdfmoiabaaGreatDoor
namespace Go.Proofs.YtbfabhdfmoiabaaGreatDoor.pConnNumbers
open Go.ChangeShapes Go.WideShapes Go.ChangeAt Go.RowKit Go.Deep
open Go.ChangeMaps (open_string shut_string)
set_option linter.unusedVariables false
theorem own:ownKnob Tryz.prog.godebug=none:=by kernel_rfl
theorem laidOut:laidOutB Tryz.prog=true:=by kernel_rfl
set_option maxRecDepth 100000 in
theorem lifted (os:Os) (started:os.Started) (H:Type) (enc:TypeId×Value→H) :
  ReturnsInHanded {} Tryz.checked os 7 .any (fun w args => (Rows.connNumbersSpec.pre enc Tryz.prog Tryz.f7 Rows.connNumbersRow.domain false w args∧laidMetH Tryz.prog [("math/bits.deBruijn32tab",Rows.laid_math_bits_deBruijn32tab),("math/bits.deBruijn64tab",Rows.laid_math_bits_deBruijn64tab),("internal/strconv.uint64pow10",Rows.laid_internal_strconv_uint64pow10),("unicode/utf8.acceptRanges",Rows.laid_unicode_utf8_acceptRanges),("strconv.ErrRange",Rows.laid_strconv_ErrRange),("strconv.ErrSyntax",Rows.laid_strconv_ErrSyntax),("unicode/utf8.first",Rows.laid_unicode_utf8_first)] w)∧sizedMet enc Tryz.prog Tryz.f7 (OpenSpec.ofChange Rows.connNumbersSpec) false w args) (Rows.connNumbersSpec.post enc Tryz.prog Tryz.f7 false true false false):=by
 refine zhs (C:=Tryz.checked) (X:=fun w _ => laidMetH Tryz.prog [("math/bits.deBruijn32tab",Rows.laid_math_bits_deBruijn32tab),("math/bits.deBruijn64tab",Rows.laid_math_bits_deBruijn64tab),("internal/strconv.uint64pow10",Rows.laid_internal_strconv_uint64pow10),("unicode/utf8.acceptRanges",Rows.laid_unicode_utf8_acceptRanges),("strconv.ErrRange",Rows.laid_strconv_ErrRange),("strconv.ErrSyntax",Rows.laid_strconv_ErrSyntax),("unicode/utf8.first",Rows.laid_unicode_utf8_first)] w) (fun _ _ _ hh h => h.of_heap hh) own started (by kernel_rfl) Tryz.func7
  (ChangeSpec.witness_shaped (enc:=enc) (C:=Tryz.checked) (os:=os) (X:=fun w _ => laidMetH Tryz.prog [("math/bits.deBruijn32tab",Rows.laid_math_bits_deBruijn32tab),("math/bits.deBruijn64tab",Rows.laid_math_bits_deBruijn64tab),("internal/strconv.uint64pow10",Rows.laid_internal_strconv_uint64pow10),("unicode/utf8.acceptRanges",Rows.laid_unicode_utf8_acceptRanges),("strconv.ErrRange",Rows.laid_strconv_ErrRange),("strconv.ErrSyntax",Rows.laid_strconv_ErrSyntax),("unicode/utf8.first",Rows.laid_unicode_utf8_first)] w) false (World.laidAll Tryz.prog os [("math/bits.deBruijn32tab",Rows.laid_math_bits_deBruijn32tab),("math/bits.deBruijn64tab",Rows.laid_math_bits_deBruijn64tab),("internal/strconv.uint64pow10",Rows.laid_internal_strconv_uint64pow10),("unicode/utf8.acceptRanges",Rows.laid_unicode_utf8_acceptRanges),("strconv.ErrRange",Rows.laid_strconv_ErrRange),("strconv.ErrSyntax",Rows.laid_strconv_ErrSyntax),("unicode/utf8.first",Rows.laid_unicode_utf8_first)]) #[V 0,V 0,V 0,.slice none 0 0] 8 (World.laidAll_os _ _ _) (World.shaped_of_ZipB (by kernel_rfl) (by kernel_rfl)) (by kernel_rfl) (by kernel_rfl) (by kernel_rfl) (by rw [MakeChecks.laidMetH_plain _ _ _ (by kernel_rfl)]; exact laidMet_laidAll _ (by kernel_rfl) (by kernel_rfl))) ?_
 intro W base args ds gs before hval0 hW hcnd hsz0 hlaid hsh
 have hlaid' : laidMet Tryz.prog [("math/bits.deBruijn32tab",Rows.laid_math_bits_deBruijn32tab),("math/bits.deBruijn64tab",Rows.laid_math_bits_deBruijn64tab),("internal/strconv.uint64pow10",Rows.laid_internal_strconv_uint64pow10),("unicode/utf8.acceptRanges",Rows.laid_unicode_utf8_acceptRanges),("strconv.ErrRange",Rows.laid_strconv_ErrRange),("strconv.ErrSyntax",Rows.laid_strconv_ErrSyntax),("unicode/utf8.first",Rows.laid_unicode_utf8_first)] W:=hlaid
 have hTabs:Tabs W W.heap.size:=tabs_of hsh (Go.Lib.laidMet.reads hlaid' (n:= "unicode/utf8.first") (d:=Rows.laid_unicode_utf8_first) (.tail _ (.tail _ (.tail _ (.tail _ (.tail _ (.tail _ (.head _)))))))) (Go.Lib.laidMet.reads hlaid' (n:= "unicode/utf8.acceptRanges") (d:=Rows.laid_unicode_utf8_acceptRanges) (.tail _ (.tail _ (.tail _ (.head _)))))
 have hsz:∀ (j:Nat) t d,Tryz.f7.params.toList[j]? = some t→ds[j]? = some d→∀ n ∈ d.weights Tryz.prog t,n≤140737488351232:=fun j t d ht hd n hn => by
  have h1:=List.all_eq_true.1 hsz0 n (DataW.weights_mem_each (j:=j) (t:=t) (d:=d) (by rw [List.getElem?_append_left (List.getElem?_eq_some_iff.1 ht).1]; exact ht) (by rw [List.getElem?_append_left (List.getElem?_eq_some_iff.1 hd).1]; exact hd) n hn)
  exact of_decide_eq_true h1
 have hval:∀ (j:Nat) t v,Tryz.f7.params[j]? = some t→args[j]? = some v→Value.okWide Tryz.prog W .any base t v:=hval0
 have hW':=hW
 obtain ⟨p,q,hA0,hV,rfl,hfz,hnd⟩:=hW
 have hA:DataW.TrodAll enc Tryz.prog W 0 (fun _ => true) true Tryz.f7.params.toList args.toList ds p:=hA0
 rw [Tryz.params7] at hA hval hsz
 obtain ⟨v0,vs0,d0,ds0,p0,q0,hargs,rfl,rfl,h0,tr0⟩:=trodAll_cons hA
 obtain ⟨v1,vs1,d1,ds1,p1,q1,rfl,rfl,rfl,h1,tr1⟩:=trodAll_cons tr0
 obtain ⟨v2,vs2,d2,ds2,p2,q2,rfl,rfl,rfl,h2,tr2⟩:=trodAll_cons tr1
 obtain ⟨v3,vs3,d3,ds3,p3,q3,rfl,rfl,rfl,h3,tr3⟩:=trodAll_cons tr2
 obtain ⟨rfl,rfl,rfl⟩:=trodAll_nil tr3
 obtain rfl:args = #[v0,v1,v2,v3]:=by cases args; simp_all
 obtain ⟨rfl,rfl⟩:=trodVars_none hV
 have k0:=h0
 have lt0:∀ x ∈ p0,x.block < W.heap.size:=by obtain ⟨m,hm⟩:=k0; exact DataW.trod_lt m _ _ _ hm
 obtain ⟨a0,rfl,w0⟩:=zk1 Tryz.underlying3 (hval 0 3 v0 rfl rfl) h0 (hsz 0 3 d0 rfl rfl)
 have k1:=h1
 have lt1:∀ x ∈ p1,x.block < W.heap.size:=by obtain ⟨m,hm⟩:=k1; exact DataW.trod_lt m _ _ _ hm
 obtain ⟨a1,rfl,w1⟩:=zk1 Tryz.underlying3 (hval 1 3 v1 rfl rfl) h1 (hsz 1 3 d1 rfl rfl)
 have k2:=h2
 have lt2:∀ x ∈ p2,x.block < W.heap.size:=by obtain ⟨m,hm⟩:=k2; exact DataW.trod_lt m _ _ _ hm
 obtain ⟨a2,rfl,w2⟩:=zk1 Tryz.underlying3 (hval 2 3 v2 rfl rfl) h2 (hsz 2 3 d2 rfl rfl)
 have k3:=h3
 have lt3:∀ x ∈ p3,x.block < W.heap.size:=by obtain ⟨m,hm⟩:=k3; exact DataW.trod_lt m _ _ _ hm
 obtain ⟨A3,C3,l3,rfl,r3,b3,q3⟩:=arg_slice Tryz.underlying61 (by kernel_rfl) (by decide) 88 (by kernel_rfl) (Reads.struct (T:=zkv) (Q':=fun x => Rd tyB W W.heap.size [] x.2.2.2.2.2.2.2.2.A x.2.2.2.2.2.2.2.2.C x.2.2.2.2.2.2.2.2.l∧x.2.2.2.2.2.2.2.2.l.length≤140737488351232) (ReadsF.cons 0 1 3 (by kernel_rfl) (Reads.int Tryz.underlying3) (ReadsF.cons 1 1 3 (by kernel_rfl) (Reads.int Tryz.underlying3) (ReadsF.cons 2 1 3 (by kernel_rfl) (Reads.int Tryz.underlying3) (ReadsF.cons 3 1 4 (by kernel_rfl) (Reads.bool Tryz.underlying4) (ReadsF.cons 4 1 3 (by kernel_rfl) (Reads.int Tryz.underlying3) (ReadsF.cons 5 1 3 (by kernel_rfl) (Reads.int Tryz.underlying3) (ReadsF.cons 6 1 3 (by kernel_rfl) (Reads.int Tryz.underlying3) (ReadsF.cons 7 1 3 (by kernel_rfl) (Reads.int Tryz.underlying3) (ReadsF.cons 8 1 34 (by kernel_rfl) (Reads.slice Tryz.underlying34 (by kernel_rfl) (by decide) 1 (by kernel_rfl) (Reads.u8 Tryz.underlying5)) (ReadsF.nil 9)))))))))) (fun (b:Int×Int×Int×Bool×Int×Int×Int×Int×Vs UInt8×Unit) => (b.1,b.2.1,b.2.2.1,b.2.2.2.1,b.2.2.2.2.1,b.2.2.2.2.2.1,b.2.2.2.2.2.2.1,b.2.2.2.2.2.2.2.1,b.2.2.2.2.2.2.2.2.1)) Tryz.underlying59 rfl (by kernel_rfl) (fun _ => rfl) (by intro b h; exact ⟨h.2.2.2.2.2.2.2.2.1.1,by have:=h.2.2.2.2.2.2.2.2.1.2.1; dsimp only; omega⟩)) (hval 3 61 v3 rfl rfl) h3 (hsz 3 61 d3 rfl rfl)
 clear hA0 hval0
 refine (law_of (zhy a0 a1 a2 (l:=l3) r3 (fun x hx => (q3 x hx).1) (fun x hx => (q3 x hx).2) hTabs)).mono fun e W' ⟨he,bel⟩ => ?_
 subst he
 exact ⟨_,Z,_,_,_,[],_,[],hW',trodAll_mk1 (shut_bool Tryz.underlying4 _),(trodAll_cons_mk (Below.trod laidOut (by kernel_rfl) (of_decide_eq_true (by kernel_rfl)) k0 bel lt0) (trodAll_cons_mk (Below.trod laidOut (by kernel_rfl) (of_decide_eq_true (by kernel_rfl)) k1 bel lt1) (trodAll_cons_mk (Below.trod laidOut (by kernel_rfl) (of_decide_eq_true (by kernel_rfl)) k2 bel lt2) (trodAll_cons_mk (Below.trod laidOut (by kernel_rfl) (of_decide_eq_true (by kernel_rfl)) k3 bel lt3) trodAll_mk0)))),Z,bel.frame _,fun h => by cases h⟩
theorem jf0:(Rows.connNumbersRow.inPlace == Tryz.prog.inPlace 7)=true:=by kernel_rfl
theorem jf1:(Rows.connNumbersRow.unfollowed == Tryz.prog.unfollowed 7)=true:=by kernel_rfl
theorem jf2:(Rows.connNumbersRow.recurses == Tryz.prog.recurses 7)=true:=by kernel_rfl
theorem jf3:(Rows.connNumbersRow.named == Tryz.prog.varsNamed 7)=true:=by kernel_rfl
theorem jall:joinedFacts Tryz.prog 7 Tryz.f7 Rows.connNumbersSpec Rows.connNumbersRow=true:=by
 unfold joinedFacts
 rw [jf0,jf1,jf2,jf3]
 kernel_rfl
theorem over:Rows.connNumbersRow.holds Tryz.pinned (OpenSpec.ofChange Rows.connNumbersSpec) :=
 OpenClaim.holds_of_wide 7 Tryz.f7 rfl rfl rfl rfl rfl rfl rfl ⟨rfl,rfl,rfl,rfl,rfl⟩ rfl rfl rfl rfl rfl (by kernel_rfl) Tryz.func7 jall
  (of_decide_eq_true (by kernel_rfl)) (by unfold Func.isWrapper; first | (rw [if_pos (by decide +kernel)]; kernel_rfl) | (rw [if_neg (by decide +kernel)]; exact ⟨rfl,rfl⟩))
  (fun os started H enc _ => lifted os started H enc)
theorem pf0:Rows.connNumbersRow.wfByText (OpenSpec.ofChange Rows.connNumbersSpec)=true:=by kernel_rfl
theorem pf3:false=Rows.connNumbersRow.goesBy Tryz.prog:=by kernel_rfl
theorem proved:Rows.ConnNumbersCardSaid :=
 Claim7.holds_tied_plain_at .later [] [.data,.data,.data,.data,.sentinel,.sentinel,.pinned] true (true, "4d7236934a5e150e4f60b1c5740cbdbb30286df2378f98f26f0a6889d248b4a5") true
  over (fun _ h => by cases h) pf0 (fun _ h => by cases h) connNumbers_row_tie rfl ⟨rfl,rfl⟩ seat_main rfl
  (fun f fn hf hfn => by
   obtain rfl:f=7:=Option.some.inj ((show Tryz.prog.funcNamed "ostiary/ostiarylaw28.ConnNumbers" = some 7 by kernel_rfl).symm.trans hf) |>.symm
   obtain rfl:fn=Tryz.f7:=(Option.some.inj (Tryz.func7.symm.trans hfn)).symm
   exact ⟨seat_looks,fun j t ht => by
    rw [Tryz.params7] at ht
    have hm:t ∈ ([3,3,3,61]:List Nat):=by simpa using Array.mem_of_getElem? ht
    have hall:(([3,3,3,61]:List Nat).all fun u => !Tryz.prog.wantsStandIn u)=true:=by kernel_rfl
    exact (show Tryz.prog.wantsStandIn t=false by simpa using List.all_eq_true.1 hall t hm)⟩)
  pf3
end Go.Proofs.YtbfabhdfmoiabaaGreatDoor.pConnNumbers
