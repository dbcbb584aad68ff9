/- The parts of the proof that this law needs, in the order of their texts: the logic of walks, the plain laws, the walks. -/
import Derived.Test.YtdncjmehhahidaaGreatDoorQE07
import Derived.Test.YtdncjmehhahidaaGreatDoorQE10
namespace Go.Proofs.YtdncjmehhahidaaGreatDoor
set_option maxHeartbeats 400000
open Go.RowKit (Below)
set_option linter.unusedVariables false
set_option linter.unusedSimpArgs false
variable {G:List (Nat×Obj)}
def DrawOk (P:Program) (w0:World) (base:Nat) (cx:Cx) (ih:Run):Prop :=
 ∀ {G:List (Nat×Obj)}{B:BB}{s:SF}{f:Fr}{c:Ctx}{a:Array Value}{ds:List Deferred}{cs:List AF}{rcs:List Frame}{nx:Nat}{h:LH}{H:List Seg}{w:World}{cs0:List Frame}{ops:Array Oper}{k:List AI}{todo:List Item}{id:Nat},
  FB B s f c a ds→okC a.size (.region id ops true)=true→okTmps ops.toList=true→okDeps ops.toList=true→IRL B a.size k todo→CsR B cs rcs→Mem G w0 base B nx h H w→((botP (s.g,s.rd.isSome) cs).2=true→cs0≠[]) →
  Goes G P w0 base B (botP (s.g,s.rd.isSome) cs) cs0 (lone (c.fr a ds (.code (.region id ops true)::todo)) (rcs++cs0) w) (drawE cx s.g ops.toList ih f nx h fun f nx h => ih (.run s f k) cs nx h)
section
variable {P:Program}{w0:World}{base:Nat}{cx:Cx}{ih:Run}{B:BB}{s:SF}{f:Fr}{c:Ctx}{a:Array Value}{ds:List Deferred}{cs:List AF}{rcs:List Frame}{nx:Nat}{h:LH}{H:List Seg}{w:World}{cs0:List Frame}{k:List AI}{todo:List Item}
theorem code_goes (hc:CxF P w0 base cx) (hs:Sim P w0 base ih) (hd:DrawOk P w0 base cx ih) (hb:FB B s f c a ds) (hk:IRL B a.size k todo) (hcs:CsR B cs rcs) (M:Mem G w0 base B nx h H w) (hne:(botP (s.g,s.rd.isSome) cs).2=true→cs0≠[]) {cd:Code}(hok:okC a.size cd=true) :
  Goes G P w0 base B (botP (s.g,s.rd.isSome) cs) cs0 (lone (c.fr a ds (.code cd::todo)) (rcs++cs0) w) ((compC cx cd).go ih s f k cs nx h):=by
 cases cd with
 | skip => exact Goes.step go_skip (Goes.run hs hb hk hcs M hne)
 | label l => exact Goes.step go_label (Goes.run hs hb hk hcs M hne)
 | ret => exact zdL hs hb hcs M hne (.ret todo)
 | exit id =>
  refine to_goes (k':=exitA id k) hs hb hcs M hne ?_
  have:=exit_ok (id:=id) hk
  cases hq:exitA id k with
  | some k' =>
   rw [hq] at this
   obtain ⟨todo',h1,h2⟩:=this
   exact ⟨todo',go_exit h1,h2⟩
  | none =>
   rw [hq] at this
   exact .exit this
 | goto l =>
  refine to_goes (k':=gotoA l k) hs hb hcs M hne ?_
  have:=goto_ok (l:=l) hk
  cases hq:gotoA l k with
  | some k' =>
   rw [hq] at this
   obtain ⟨todo',h1,h2⟩:=this
   exact ⟨todo',go_goto h1,h2⟩
  | none =>
   rw [hq] at this
   exact .goto this
 | seq x y =>
  simp only [okC,Bool.and_eq_true] at hok
  exact Goes.step go_seq (Goes.run hs hb (k:=.code x::.code y::k) (todo:=.code x::.code y::todo) ⟨_,_,rfl,rfl,hok.1,_,_,rfl,rfl,hok.2,hk⟩ hcs M hne)
 | cond o x y =>
  simp only [okC,Bool.and_eq_true] at hok
  simp only [compC,W.go_mk]
  unfold condA
  split
  ·rename_i hv
   have:=hb.evA (x:=o) (by rw [hv]; simp)
   rw [hv] at this; simp only [VR] at this
   exact Goes.step (zcA this) (Goes.run hs hb (k:=.code x::k) (todo:=.code x::todo) ⟨_,_,rfl,rfl,hok.1,hk⟩ hcs M hne)
  ·rename_i hv
   have:=hb.evA (x:=o) (by rw [hv]; simp)
   rw [hv] at this; simp only [VR] at this
   exact Goes.step (zcA this) (Goes.run hs hb (k:=.code y::k) (todo:=.code y::todo) ⟨_,_,rfl,rfl,hok.2,hk⟩ hcs M hne)
  ·exact Goes.bad
 | block i b => exact Goes.step go_block (Goes.run hs hb (k:=.code b::.blk i::k) (todo:=.code b::.inBlock i::todo) ⟨_,_,rfl,rfl,hok,_,_,rfl,rfl,rfl,hk⟩ hcs M hne)
 | loop b => exact Goes.step go_loop (Goes.run hs hb (k:=.code b::.lp b::k) (todo:=.code b::.inLoop b::todo) ⟨_,_,rfl,rfl,hok,_,_,rfl,rfl,hok,hk⟩ hcs M hne)
 | scope b => exact Goes.step go_scope (Goes.run hs hb (k:=.code b::.scp b::k) (todo:=.code b::.inScope b::todo) ⟨_,_,rfl,rfl,hok,_,_,rfl,rfl,hok,hk⟩ hcs M hne)
 | region id ops d =>
  cases d with
  | false =>
   refine Goes.step go_region (Goes.run hs hb (k:=.reg ops.toList ops.toList::k) (todo:=.inRegion ops (List.range ops.size)::todo) ⟨_,_,rfl,⟨rfl,?_⟩,hok,hk⟩ hcs M hne)
   apply List.ext_getElem
   ·simp
   ·intro i h1 h2
    simp at h1 h2 ⊢
  | true =>
   simp only [compC]
   split
   ·rename_i h1
    rw [Bool.and_eq_true] at h1
    simp only [W.go_mk]
    exact hd hb hok h1.1 h1.2 hk hcs M hne
   ·exact Goes.bad
 | rangeFunc x ps assign body => exact range_goes hc hs hb hk hcs M hne hok
 | refuse m => exact Goes.bad
theorem item_goes (hc:CxF P w0 base cx) (hs:Sim P w0 base ih) (hd:DrawOk P w0 base cx ih) (hb:FB B s f c a ds) {i:AI}(hk:IRL B a.size (i::k) todo) (hcs:CsR B cs rcs) (M:Mem G w0 base B nx h H w) (hne:(botP (s.g,s.rd.isSome) cs).2=true→cs0≠[]) :
  Goes G P w0 base B (botP (s.g,s.rd.isSome) cs) cs0 (lone (c.fr a ds todo) (rcs++cs0) w) ((compI cx i).go ih s f k cs nx h):=by
 obtain ⟨b,m,rfl,h1,h2,h3⟩:=hk
 cases i with
 | code cd =>
  cases b <;> try exact h1.elim
  have h1:=h1
  simp only [IR] at h1
  subst h1
  exact code_goes hc hs hd hb h3 hcs M hne h2
 | blk j =>
  cases b <;> try exact h1.elim
  exact Goes.step zfe (Goes.run hs hb h3 hcs M hne)
 | scp j =>
  cases b <;> try exact h1.elim
  exact Goes.step zfd (Goes.run hs hb h3 hcs M hne)
 | lp b' =>
  cases b <;> try exact h1.elim
  simp only [IR] at h1
  subst h1
  exact Goes.step zeB (Goes.run hs hb (k:=.code b'::.lp b'::k) (todo:=.code b'::.inLoop b'::m) ⟨_,_,rfl,rfl,h2,_,_,rfl,rfl,h2,h3⟩ hcs M hne)
 | reg all rest =>
  cases b <;> try exact h1.elim
  rename_i ops is
  obtain ⟨e1,e2⟩:=h1
  subst e1
  cases rest with
  | nil =>
   have:is=[]:=by simpa using e2
   subst this
   exact Goes.step za4 (Goes.run hs hb h3 hcs M hne)
  | cons o os =>
   cases is with
   | nil => simp at e2
   | cons i is =>
    simp only [List.map_cons,List.cons.injEq] at e2
    exact oper_goes hc hs hb e2.1 e2.2 h2 h3 hcs M hne
 | rng l => exact Goes.bad
 | endr l =>
  cases b <;> try exact h1.elim
  obtain ⟨kl,hkl,rfl⟩:=h1
  exact endr_goes hs hb h3 hcs M hne hkl
 | beg =>
  cases b <;> try exact h1.elim
  simp only [compI,W.go_mk]
  split
  ·rename_i l hr
   exact beg_goes hs hb h3 hcs M hne hr
  ·exact Goes.bad
theorem sim_step (hc:CxF P w0 base cx) (hs:Sim P w0 base ih) (hd:DrawOk P w0 base cx ih):Sim P w0 base (stepA cx ih):=by
 intro G fr cs nx h B rf rcs w H hfr hcs M cs0 hne
 cases fr with
 | run s f k =>
  obtain ⟨c,a,ds,todo,hb,hk,rfl⟩:=hfr
  show Goes G P w0 base B (botP (s.g,s.rd.isSome) cs) cs0 (lone (c.fr a ds todo) (rcs++cs0) w) (runK cx ih s f k cs nx h)
  cases k with
  | nil =>
   simp only [IRL] at hk
   subst hk
   exact zdL hs hb hcs M hne .end_
  | cons i k => exact item_goes hc hs hd hb hk hcs M hne
 | ret s f =>
  obtain ⟨c,a,ds,todo,hb,rfl⟩:=hfr
  exact ret_goes hc hs hb hcs M hne
 | pan s f ch =>
  obtain ⟨c,a,ds,todo,ch',hb,hch,rfl⟩:=hfr
  exact zfG hc hs hb hcs M hne hch
theorem sim_all (hc:CxF P w0 base cx) (hd:∀ ih,Sim P w0 base ih→DrawOk P w0 base cx ih):∀ n,Sim P w0 base (runA cx n)
 | 0 => fun _ _ _ _ _ _ _ _ _ _ _ _ _ _ => Goes.bad
 | n + 1 => sim_step hc (sim_all hc hd n) (hd _ (sim_all hc hd n))
end
end Go.Proofs.YtdncjmehhahidaaGreatDoor
namespace Go.Proofs.YtdncjmehhahidaaGreatDoor
open Go.RowKit (Below)
set_option linter.unusedVariables false
set_option linter.unusedSimpArgs false
def wantsC (os:List Oper) (E:Env) (g:Option (Nat×Bool)):Prop:=wantsB os E g false∨∃ j want p t,g=some (j,want)∧os[j]? = some p∧p.dst=some t∧Env.get E t=some (.tuple #[])
def PureTwo (X:Pt) (os:List Oper) (E0 val:Env) (H:List Seg) (i:Nat) (v:Value):Prop :=
 ∃ o,os[i]? = some o∧dstOk X.n o.dst=true∧((wantsB os (pre os E0 val i) o.guard true∧Does X (pre os E0 val i) H o.op (Is v H))∨(wantsC os (pre os E0 val i) o.guard∧v=undef))
def PureM (X:Pt) (os:List Oper) (E0 val xv:Env) (H:List Seg):Env→Prop
 | [] => True
 | (i,v)::r => ((xv.any fun p => befB (masks os []) i p.1)=true∨PureTwo X os E0 val H i v)∧PureM X os E0 val xv H r
theorem PureM.get {X:Pt}{os:List Oper}{E0 val xv:Env}{H:List Seg}{pv:Env}(h:PureM X os E0 val xv H pv) {i:Nat}{v:Value}(hi:Env.get pv i=some v):(xv.any fun p => befB (masks os []) i p.1)=true∨PureTwo X os E0 val H i v:=by
 induction pv with
 | nil => simp [Env.get] at hi
 | cons p pv ih =>
  obtain ⟨j,u⟩:=p
  simp only [Env.get] at hi
  by_cases e:j=i
  ·subst e
   simp at hi
   subst hi
   exact h.1
  ·rw [zau e] at hi
   exact ih h.2 hi
inductive PhI (X:Pt) (os:List Oper) (k:List Item) (E0:Env) (ds:List Deferred):Env→Env→List Seg→Prop where
  | fin {pv xv:Env}{H:List Seg}:PureM X os E0 (pv++xv) xv H pv→(os.zipIdx.all fun (_,i) => isKnown (pv++xv) i)=true→At X k (finE os 0 (pv++xv) E0) ds H→PhI X os k E0 ds pv xv H
  | act {pv xv:Env}{H:List Seg}(fs:List Nat) (R:Nat→Value→List Seg→Prop) (Q:Nat→Value→List Seg→Env→Prop):PureM X os E0 (pv++xv) xv H pv→fs≠[]→(fs.all fun x => !isKnown (pv++xv) x)=true→waitsM os (pv++xv) fs=true →
    (∀ e,e ∈ fs→∃ o,os[e]? = some o∧dstOk X.n o.dst=true∧wantsB os (pre os E0 (pv++xv) e) o.guard true∧Does X (pre os E0 (pv++xv) e) H o.op (R e)∧∀ v H',R e v H'→∃ pv',Q e v H' pv') →
    (∀ e,e ∈ fs→∀ v H' pv',Q e v H' pv'→(pv'.all fun p => !isKnown (pv++xv) p.1 && !Nat.beq p.1 e)=true) →
    (∀ e,e ∈ fs→∀ v H' pv',Q e v H' pv'→PhI X os k E0 ds (pv'++pv) ((e,v)::xv) H')→PhI X os k E0 ds pv xv H
section
variable {X:Pt}{k:List Item}{E0:Env}{ds:List Deferred}{ops:Array Oper}
theorem wantsC_false {val:Env}{i:Nat}{o:Oper}{a:Array Value}(ha:Agree X.n a (pre ops.toList E0 val i)) (hn:∀ t v,Env.get (pre ops.toList E0 val i) t=some v→t < X.n) (hw:wantsC ops.toList (pre ops.toList E0 val i) o.guard):Region.wanted o (yielded ops a)=false:=by
 rcases hw with hw | ⟨j,want,p,t,hg,hp,hd,ht⟩
 ·exact zed ha hn hw
 ·have hlt:=hn t _ ht
  have hv:=ha.get t _ ht
  rw [← ha.size] at hlt
  have hj:ops[j]? = some p:=by rw [← Array.getElem?_toList]; exact hp
  have hv:a[t]? = some (.tuple #[]):=by
   rw [Array.getD_eq_getD_getElem?,Array.getElem?_eq_getElem hlt] at hv
   rw [Array.getElem?_eq_getElem hlt]
   simpa using hv
  simp [Region.wanted,hg,yielded,hj,hd,hv]
theorem draw_goI (hok:okTmps ops.toList=true) (hdl:okDeps ops.toList=true) (hrd:(ops.toList.all fun o => (readsOf ops.toList o).all fun t => Nat.blt t X.n)=true) :
  ∀ (fuel t:Nat) (l:Array Bool) (pv xv:Env) (H:List Seg) (a:Array Value) (w:World),l.size=ops.size→(∀ i o,ops.toList[i]? = some o→Dn l i→∀ j ∈ depsL o,Dn l j) →
   (∀ i o,ops.toList[i]? = some o→Dn l i→isKnown (pv++xv) i=true)→(∀ p ∈ xv,Dn l p.1) →
   (ops.size≤fuel + ((List.range ops.size).filter fun i => l.getD i false).length)→PhI X ops.toList k E0 ds pv xv H→AgD X.n ops.toList E0 (pv++xv) (Dn l) a→Sep X.w0 X.base w H →
   Ev X.P (lone (X.c.fr a ds (.inRegion ops (Region.linearise.go .any ops fuel t l [])::k)) X.cs w) X.G:=by
 intro fuel
 induction fuel with
 | zero =>
  intro t l pv xv H a w hs hcl hkn hxv hf hp ha S
  have hall:∀ i o,ops.toList[i]? = some o→Dn l i:=by
   intro i o ho
   have hlt:i < ops.size:=by have:=(List.getElem?_eq_some_iff.1 ho).1; simpa using this
   have hle:((List.range ops.size).filter fun i => l.getD i false).length≤ops.size:=by
    have:=List.length_filter_le (fun i => l.getD i false) (List.range ops.size)
    simpa using this
   have heq:((List.range ops.size).filter fun i => l.getD i false).length=(List.range ops.size).length:=by rw [List.length_range]; omega
   have:=List.length_filter_eq_length_iff.1 heq i (List.mem_range.2 hlt)
   exact this
  cases hp with
  | act fs R Q hpl hne hun hwt hA hQ1 hQ =>
   cases fs with
   | nil => exact absurd rfl hne
   | cons e es =>
    obtain ⟨o,ho,_⟩:=hA e (by simp)
    have h1:=hkn e o ho (hall e o ho)
    have h2:=List.all_eq_true.1 hun e (by simp)
    rw [h1] at h2; cases h2
  | fin hpl hkn2 hat =>
   simp only [Region.linearise.go,List.reverse_nil]
   refine .step za4 (hat a w (ha.fin hall (fun i o ho => ?_)) S)
   exact hkn i o ho (hall i o ho)
 | succ fuel ih =>
  intro t l pv xv H a w hs hcl hkn hxv hf hp ha S
  simp only [Region.linearise.go]
  split
  ·rename_i i hi
   rw [linearise_go_acc]
   simp only [List.reverse_cons,List.reverse_nil,List.nil_append,List.singleton_append]
   have hmem:i ∈ Region.ready .any ops l:=List.mem_iff_getElem?.2 ⟨_,hi⟩
   obtain ⟨o,ho,hnl,hdeps⟩:=ready_mem hmem
   have hnd:=not_dn hnl
   have hoL:ops.toList[i]? = some o:=by rw [Array.getElem?_toList]; exact ho
   have hlt:i < ops.size:=(Array.getElem?_eq_some_iff.1 ho).1
   have hAg:=ha.pre hok hdl hcl hoL hnd hdeps
   have hprelt:∀ t v,Env.get (pre ops.toList E0 (pv++xv) i) t=some v→t < X.n:=by
    have h1:=List.all_eq_true.1 hrd o (List.mem_iff_getElem?.2 ⟨i,hoL⟩)
    have key:∀ ts:List Nat,(∀ t ∈ ts,t < X.n)→∀ t v,Env.get (preL ops.toList E0 (pv++xv) i ts) t=some v→t < X.n:=by
     intro ts
     induction ts with
     | nil => intro _ t v hv; simp [preL,Env.get] at hv
     | cons t0 ts ih =>
      intro hts t v hv
      simp only [preL] at hv
      split at hv
      ·simp only [Env.get] at hv
       by_cases e:t0=t
       ·subst e; exact hts t0 (by simp)
       ·rw [zau e] at hv
        exact ih (fun t ht => hts t (by simp [ht])) t v hv
      ·exact ih (fun t ht => hts t (by simp [ht])) t v hv
    intro t v hv
    unfold pre at hv
    rw [hoL] at hv
    exact key _ (fun t ht => zbS (List.all_eq_true.1 h1 t ht)) t v hv
   -- what is the same in each case behind the operation
   have after:∀ (pv' xv' : Env) (H' : List Seg) (v:Value) (w' : World),PhI X ops.toList k E0 ds pv' xv' H'→Sep X.w0 X.base w' H'→dstOk X.n o.dst=true→Env.get (pv'++xv') i=some v →
     (∀ j,isKnown (pv++xv) j=true→Env.get (pv'++xv') j=Env.get (pv++xv) j)→(∀ p ∈ xv',Dn l p.1∨p.1=i) →
     Ev X.P (lone (X.c.fr (putA a o.dst v) ds (.inRegion ops (Region.linearise.go .any ops fuel (t / (Region.ready .any ops l).length) (l.setIfInBounds i true) [])::k)) X.cs w') X.G:=by
    intro pv' xv' H' v w' hp' S' hd hv hsame hxv'
    have hds:=dn_set (l:=l) (i:=i) (by omega)
    have hAgD:AgD X.n ops.toList E0 (pv'++xv') (Dn l) a:=by
     refine ⟨ha.size,fun j p t u hDj hp hpd hlast hu => ?_,ha.old⟩
     refine ha.done j p t u hDj hp hpd hlast ?_
     rw [← hsame j (hkn j p hp hDj)]
     exact hu
    have hst:=hAgD.step hok hdl hcl hoL hnd hd hv
    refine ih _ _ pv' xv' H' _ w' (by simpa using hs) ?_ ?_ ?_ ?_ hp' ?_ S'
    ·intro j p hj hDj m hm
     rw [hds] at hDj ⊢
     rcases hDj with hDj | rfl
     ·exact .inl (hcl j p hj hDj m hm)
     ·rw [hoL] at hj; cases hj
      exact .inl (hdeps m hm)
    ·intro j p hj hDj
     rw [hds] at hDj
     rcases hDj with hDj | rfl
     ·have:=hkn j p hj hDj
      unfold isKnown at this ⊢
      rw [hsame j this]; exact this
     ·unfold isKnown; rw [hv]; rfl
    ·intro p hp
     rw [hds]; exact hxv' p hp
    ·have hcount:((List.range ops.size).filter fun j => (l.setIfInBounds i true).getD j false).length=((List.range ops.size).filter fun j => l.getD j false).length + 1:=by
      have hp:∀ j,(l.setIfInBounds i true).getD j false=(l.getD j false || Nat.beq j i):=by
       intro j
       have:(l.setIfInBounds i true).getD j false=true↔l.getD j false=true∨j=i:=hds j
       rw [Bool.eq_iff_iff,Bool.or_eq_true,this]
       constructor
       ·rintro (h | h)
        ·exact .inl h
        ·exact .inr (by subst h; simp)
       ·rintro (h | h)
        ·exact .inl h
        ·exact .inr (Nat.eq_of_beq_eq_true h)
      have hif:l.getD i false=false:=by
       cases hb:l.getD i false with
       | false => rfl
       | true => exact absurd hb hnd
      have hset:(List.range ops.size).filter (fun j => (l.setIfInBounds i true).getD j false)=(List.range ops.size).filter fun j => ((fun j => l.getD j false) j || Nat.beq j i):=List.filter_congr fun j _ => hp j
      rw [hset]
      exact zfj _ i hif _ List.nodup_range (List.mem_range.2 hlt)
     omega
    ·refine ⟨hst.size,?_,?_⟩
     ·intro j p t u hDj hp hpd hlast hu
      exact hst.done j p t u ((hds j).1 hDj) hp hpd (fun m hm hDm q hq => hlast m hm ((hds m).2 hDm) q hq) hu
     ·intro t u hno hu
      exact hst.old t u (fun m hDm p hp => hno m ((hds m).2 hDm) p hp) hu
   -- an operation whose value is known in this phase
   have pureCase:∀ v,Env.get pv i=some v→PureM X ops.toList E0 (pv++xv) xv H pv →
     Ev X.P (lone (X.c.fr a ds (.inRegion ops (i::Region.linearise.go .any ops fuel (t / (Region.ready .any ops l).length) (l.setIfInBounds i true) [])::k)) X.cs w) X.G:=by
    intro v hv hpl
    have hone:PureTwo X ops.toList E0 (pv++xv) H i v:=by
     rcases hpl.get hv with h | h
     ·obtain ⟨p,hp1,hp2⟩:=List.any_eq_true.1 h
      have hDp:=hxv p hp1
      cases hop:ops.toList[p.1]? with
      | none =>
       exfalso
       have hlen:(masks ops.toList []).length=ops.toList.length:=by have:=masks_len ops.toList []; simpa using this
       have hnone:(masks ops.toList []).getD p.1 0=0:=by
        rw [List.getElem?_eq_none_iff] at hop
        simp [List.getD,List.getElem?_eq_none (show (masks ops.toList []).length≤p.1 by omega)]
       unfold befB at hp2
       rw [hnone] at hp2
       simp at hp2
      | some q => exact absurd (zdB hcl hdl p.1 q hop (hcl p.1 q hop hDp) i hp2) hnd
     ·exact h
    obtain ⟨o',ho',hd,hor⟩:=hone
    rw [hoL] at ho'; cases ho'
    have hget:Env.get (pv++xv) i=some v:=by rw [zav,hv]
    have hcont:=fun (w' : World) (S' : Sep X.w0 X.base w' H) => after pv xv H v w' hp S' hd hget (fun j _ => rfl) (fun p hp => .inl (hxv p hp))
    rcases hor with ⟨hw,hdo⟩ | ⟨hw,rfl⟩
    ·obtain ⟨v',H',w',⟨rfl,rfl⟩,S',hst⟩:=hdo o.dst o.type o.pos o.after o.guard ops i _ k ds a w ho (zcL hAg hprelt hw) (fun x u hx => hAg.ev hx) S
     exact .steps hst (hcont w' S')
    ·exact .step (zcY ho (wantsC_false hAg hprelt hw)) (hcont w S)
   have hp0:=hp
   cases hp with
   | fin hpl hall hat =>
    have hk1:=List.all_eq_true.1 hall (o,i) (List.mem_iff_getElem?.2 ⟨i,by simp [List.getElem?_zipIdx,hoL]⟩)
    have hk1:isKnown (pv++xv) i=true:=hk1
    cases hv:Env.get pv i with
    | some v => exact pureCase v hv hpl
    | none =>
     unfold isKnown at hk1
     rw [zav,hv] at hk1
     cases hx:Env.get xv i with
     | none => rw [hx] at hk1; cases hk1
     | some u => exact absurd (hxv _ (zfT hx)) hnd
   | act fs R Q hpl hne hek hwt hA hQ1 hQ =>
    have hunk:∀ x ∈ fs,Env.get (pv++xv) x=none:=by
     intro x hx
     have:=List.all_eq_true.1 hek x hx
     unfold isKnown at this
     cases hg:Env.get (pv++xv) x with
     | none => rfl
     | some u => rw [hg] at this; cases this
    by_cases hie:i ∈ fs
    ·obtain ⟨oe,hoe,hd,hw,hdo,hR⟩:=hA i hie
     rw [hoL] at hoe; cases hoe
     obtain ⟨v,H',w',hRv,S',hst⟩:=hdo o.dst o.type o.pos o.after o.guard ops i (Region.linearise.go .any ops fuel (t / (Region.ready .any ops l).length) (l.setIfInBounds i true) []) k ds a w ho (zcL hAg hprelt hw) (fun x u hx => hAg.ev hx) S
     obtain ⟨pv',hq⟩:=hR v H' hRv
     have hpv':=hQ1 i hie v H' pv' hq
     have hp':=hQ i hie v H' pv' hq
     refine .steps hst ?_
     have hfresh:∀ j u,Env.get pv' j=some u→Env.get (pv++xv) j=none∧j≠i:=by
      intro j u hj
      have hm:∃ p ∈ pv',p.1=j:=by
       clear hp' hpv' hq
       induction pv' with
       | nil => simp [Env.get] at hj
       | cons p pv' ihp =>
        simp only [Env.get] at hj
        by_cases e:p.1=j
        ·exact ⟨p,by simp,e⟩
        ·rw [zau e] at hj
         obtain ⟨q,hq,hq2⟩:=ihp hj
         exact ⟨q,by simp [hq],hq2⟩
      obtain ⟨p,hp1,rfl⟩:=hm
      have:=List.all_eq_true.1 hpv' p hp1
      rw [Bool.and_eq_true,Bool.not_eq_true',Bool.not_eq_true'] at this
      refine ⟨?_,?_⟩
      ·have h1:=this.1
       unfold isKnown at h1
       cases hg:Env.get (pv++xv) p.1 with
       | none => rfl
       | some u => rw [hg] at h1; cases h1
      ·intro e
       have h2:=this.2
       rw [e] at h2
       simp at h2
     have hi0:=hunk i hie
     have hpi:Env.get pv i=none:=by
      rw [zav] at hi0
      cases hg:Env.get pv i with
      | none => rfl
      | some u => rw [hg] at hi0; cases hi0
     have hget:Env.get ((pv'++pv)++((i,v)::xv)) i=some v:=by
      rw [zav,zav]
      cases hg:Env.get pv' i with
      | some u => exact absurd rfl (hfresh i u hg).2
      | none => simp [hpi,Env.get]
     refine after _ _ H' v w' hp' S' hd hget ?_ ?_
     ·intro j hj
      have hj0:Env.get (pv++xv) j≠none:=by
       unfold isKnown at hj
       intro h; rw [h] at hj; cases hj
      have hji:j≠i:=by rintro rfl; exact hj0 hi0
      rw [zav,zav,zav]
      cases hg:Env.get pv' j with
      | some u => exact absurd (hfresh j u hg).1 hj0
      | none =>
       cases hg2:Env.get pv j with
       | some u => rfl
       | none => simp only [Env.get,zau (Ne.symm hji)]
     ·intro p hp
      rcases List.mem_cons.1 hp with rfl | hp
      ·exact .inr rfl
      ·exact .inl (hxv p hp)
    ·have hk1:=List.all_eq_true.1 hwt (o,i) (List.mem_iff_getElem?.2 ⟨i,by simp [List.getElem?_zipIdx,hoL]⟩)
     have hk1:(isKnown (pv++xv) i || (fs.any fun e => Nat.beq i e) || (depsL o).any fun j => !isKnown (pv++xv) j)=true:=hk1
     have hany:((depsL o).any fun j => !isKnown (pv++xv) j)=false:=by
      cases hb:((depsL o).any fun j => !isKnown (pv++xv) j) with
      | false => rfl
      | true =>
       obtain ⟨j,hj,hjk⟩:=List.any_eq_true.1 hb
       have hDj:=hdeps j hj
       have hjlt:j < i:=by
        have h1:=List.all_eq_true.1 hdl (o,i) (List.mem_iff_getElem?.2 ⟨i,by simp [List.getElem?_zipIdx,hoL]⟩)
        exact zbS (List.all_eq_true.1 h1 j hj)
       have hjl:j < ops.toList.length:=by simpa using (show j < ops.size by omega)
       have:=hkn j _ (List.getElem?_eq_getElem hjl) hDj
       rw [this] at hjk; cases hjk
     have hfs:(fs.any fun e => Nat.beq i e)=false:=by
      cases hb:(fs.any fun e => Nat.beq i e) with
      | false => rfl
      | true =>
       obtain ⟨e,he,he2⟩:=List.any_eq_true.1 hb
       exact absurd (Nat.eq_of_beq_eq_true he2 ▸ he) hie
     rw [hfs,hany,Bool.or_false,Bool.or_false] at hk1
     cases hv:Env.get pv i with
     | some v => exact pureCase v hv hpl
     | none =>
      unfold isKnown at hk1
      rw [zav,hv] at hk1
      cases hx:Env.get xv i with
      | none => rw [hx] at hk1; cases hk1
      | some u => exact absurd (hxv _ (zfT hx)) hnd
  ·rename_i hnone
   have hempty:Region.ready .any ops l=[]:=by
    cases hr:Region.ready .any ops l with
    | nil => rfl
    | cons b r =>
     have hlen:t % (Region.ready .any ops l).length < (Region.ready .any ops l).length:=Nat.mod_lt _ (by rw [hr]; simp)
     exact absurd hnone (by
      show ¬ (Region.ready .any ops l)[t % (Region.ready .any ops l).length]? = none
      rw [List.getElem?_eq_getElem hlen]; simp)
   have hall:=all_done hdl hs hempty
   cases hp with
   | act fs R Q hpl hne hun hwt hA hQ1 hQ =>
    cases fs with
    | nil => exact absurd rfl hne
    | cons e es =>
     obtain ⟨o,ho,_⟩:=hA e (by simp)
     have h1:=hkn e o ho (hall e o ho)
     have h2:=List.all_eq_true.1 hun e (by simp)
     rw [h1] at h2; cases h2
   | fin hpl hkn2 hat =>
    simp only [List.reverse_nil]
    refine .step za4 (hat a w (ha.fin hall (fun i o ho => ?_)) S)
    exact hkn i o ho (hall i o ho)
theorem At.drawI {id:Nat}{pv:Env}{H:List Seg}(hm:X.P.follows .mixedOrders=true) (hok:okTmps ops.toList=true) (hdl:okDeps ops.toList=true) (hrd:(ops.toList.all fun o => (readsOf ops.toList o).all fun t => Nat.blt t X.n)=true)
  (hp:PhI X ops.toList k E0 ds pv [] H):At X (.code (.region id ops true)::k) E0 ds H:=by
 intro a w ha S
 refine .step zc2 ?_
 have hno:∀ i,¬ Dn (Array.replicate ops.size false) i:=by
  intro i hi
  unfold Dn at hi
  rw [Array.getD_eq_getD_getElem?,Array.getElem?_replicate] at hi
  split at hi <;> simp at hi
 unfold Region.schedule Region.linearise
 rw [hm,Bool.true_or,if_pos rfl]
 refine draw_goI hok hdl hrd ops.size _ _ pv [] H a _ (by simp) ?_ ?_ ?_ (Nat.le_add_right _ _) hp ⟨ha.size,?_,?_⟩ (S.drawn _)
 ·exact fun i o _ h => absurd h (hno i)
 ·exact fun i o _ h => absurd h (hno i)
 ·intro p h; cases h
 ·exact fun j o t v h => absurd h (hno j)
 ·exact fun t v _ h => ha.get t v h
end
end Go.Proofs.YtdncjmehhahidaaGreatDoor
namespace Go.Proofs.YtdncjmehhahidaaGreatDoor
open Go.RowKit (Below)
set_option linter.unusedVariables false
set_option linter.unusedSimpArgs false
theorem zaU (kn i j:Nat):knows (addK kn i) j=(knows kn j || Nat.beq i j):=by
 show (kn ||| 2 ^ i).testBit j=_
 rw [Nat.testBit_or,Nat.testBit_two_pow,zf2]
 rfl
theorem knows_all (n i:Nat):knows (Nat.pred (Nat.pow 2 n)) i=decide (i < n):=by
 show (Nat.pred (2 ^ n)).testBit i=_
 rw [Nat.pred_eq_sub_one,Nat.testBit_two_pow_sub_one]
def Le (V V' : Env):Prop:=∀ t v,Env.get V t=some v→Env.get V' t=some v
theorem Le.rfl' {V:Env}:Le V V:=fun _ _ h => h
theorem Le.trans {V V' V'' : Env}(h:Le V V') (h' : Le V' V''):Le V V'':=fun t v e => h' t v (h t v e)
theorem zby {V:Env}{i:Nat}:isKnown V i=true↔∃ v,Env.get V i=some v:=by
 unfold isKnown
 cases Env.get V i <;> simp
theorem Le.known {V V' : Env}(h:Le V V') {i:Nat}(hi:isKnown V i=true):isKnown V' i=true:=by
 obtain ⟨v,hv⟩:=zby.1 hi
 exact zby.2 ⟨v,h i v hv⟩
theorem zet {V:Env}{i:Nat}(h:isKnown V i=false):Env.get V i=none:=by
 unfold isKnown at h
 cases hg:Env.get V i with
 | none => rfl
 | some v => rw [hg] at h; cases h
theorem Le.act {pv xv:Env}{i:Nat}{v:Value}(h:isKnown (pv++xv) i=false):Le (pv++xv) (pv++((i,v)::xv)):=by
 intro t u hu
 rw [zav] at hu ⊢
 cases hp:Env.get pv t with
 | some w => rw [hp] at hu; exact hu
 | none =>
  rw [hp] at hu
  simp only at hu
  simp only [Env.get]
  by_cases e:i=t
  ·subst e
   have:=zet h
   rw [zav,hp] at this
   rw [hu] at this; cases this
  ·rw [zau e]; exact hu
theorem Le.pure {pv xv:Env}{i:Nat}{v:Value}(h:isKnown (pv++xv) i=false):Le (pv++xv) ((i,v)::pv++xv):=by
 intro t u hu
 show Env.get ((i,v)::(pv++xv)) t=some u
 simp only [Env.get]
 by_cases e:i=t
 ·subst e; rw [zet h] at hu; cases hu
 ·rw [zau e]; exact hu
theorem get_act {pv xv:Env}{i:Nat}{v:Value}(h:isKnown (pv++xv) i=false):Env.get (pv++((i,v)::xv)) i=some v:=by
 have:=zet h
 rw [zav] at this ⊢
 cases hp:Env.get pv i with
 | some w => rw [hp] at this; cases this
 | none => simp [Env.get]
theorem zdu {pv xv:Env}{i j:Nat}{v:Value}(h:j≠i):Env.get (pv++((i,v)::xv)) j=Env.get (pv++xv) j:=by
 rw [zav,zav]
 simp only [Env.get,zau (Ne.symm h)]
theorem zc3 {pv xv:Env}{i j:Nat}{v:Value}(h:j≠i):Env.get ((i,v)::pv++xv) j=Env.get (pv++xv) j:=by
 show Env.get ((i,v)::(pv++xv)) j=_
 simp only [Env.get,zau (Ne.symm h)]
theorem get_pure {pv xv:Env}{i:Nat}{v:Value}:Env.get ((i,v)::pv++xv) i=some v:=by
 show Env.get ((i,v)::(pv++xv)) i=_
 simp [Env.get]
theorem za5 {pv xv:Env}{i j:Nat}{v:Value}(h:isKnown (pv++xv) i=false):isKnown (pv++((i,v)::xv)) j=(isKnown (pv++xv) j || Nat.beq i j):=by
 by_cases e:j=i
 ·subst e
  have:Nat.beq j j=true:=by simp
  rw [zby.2 ⟨v,get_act h⟩,this,Bool.or_true]
 ·unfold isKnown
  rw [zdu e,zau (Ne.symm e),Bool.or_false]
theorem zcV {pv xv:Env}{i j:Nat}{v:Value}:isKnown ((i,v)::pv++xv) j=(isKnown (pv++xv) j || Nat.beq i j):=by
 by_cases e:j=i
 ·subst e
  have:Nat.beq j j=true:=by simp
  rw [zby.2 ⟨v,get_pure⟩,this,Bool.or_true]
 ·unfold isKnown
  rw [zc3 e,zau (Ne.symm e),Bool.or_false]
section
variable {os:List Oper}{E0 V V' : Env}
theorem zd2 {i t:Nat}{v:Value}(hl:look os E0 V i t=some v):∀ {ts:List Nat},t ∈ ts→Env.get (preL os E0 V i ts) t=some v
  | t0::ts,h => by
    rw [preL]
    by_cases e:t0=t
    · subst e
      rw [hl]
      simp [Env.get]
    · have h : t ∈ ts := by rcases List.mem_cons.1 h with h | h; · exact absurd h.symm e
                            · exact h
      have ih:=zd2 hl h
      split
      · simp only [Env.get,zau e]; exact ih
      · exact ih
theorem zfF {i t:Nat}{v:Value}:∀ {ts:List Nat},Env.get (preL os E0 V i ts) t=some v→t ∈ ts∧look os E0 V i t=some v
 | [],h => by simp [preL,Env.get] at h
 | t0::ts,h => by
  rw [preL] at h
  split at h
  ·rename_i u hu
   simp only [Env.get] at h
   by_cases e:t0=t
   ·subst e
    simp at h
    subst h
    exact ⟨by simp,hu⟩
   ·rw [zau e] at h
    have:=zfF h
    exact ⟨by simp [this.1],this.2⟩
  ·have:=zfF h
   exact ⟨by simp [this.1],this.2⟩
theorem look_le (h:Le V V') {i t:Nat}{v:Value}(hl:look os E0 V i t=some v):look os E0 V' i t=some v:=by
 unfold look at hl ⊢
 split at hl
 ·exact h _ _ hl
 ·exact hl
theorem pre_le (h:Le V V') (i:Nat):Le (pre os E0 V i) (pre os E0 V' i):=by
 intro t v hv
 unfold pre at hv ⊢
 split at hv
 ·have:=zfF hv
  exact zd2 (look_le h this.2) this.1
 ·exact hv
theorem ev_le {E E' : Env}(h:Le E E') {x:Operand}{v:Value}(hx:ev E x=some v):ev E' x=some v:=by
 cases x with
 | tmp t => exact h t v hx
 | const u => exact hx
 | global g => exact hx
 | func g => exact hx
theorem Does.le {X:Pt}{E E' : Env}{H:List Seg}{op:Op}{R:Value→List Seg→Prop}(h:Le E E') (hd:Does X E H op R):Does X E' H op R:=by
 intro dst ty pos after g ops i is k ds a w ho hw ha S
 exact hd dst ty pos after g ops i is k ds a w ho hw (fun x v hx => ha x v (ev_le h hx)) S
theorem wantsB_le {E E' : Env}(h:Le E E') {g:Option (Nat×Bool)}{b:Bool}(hw:wantsB os E g b):wantsB os E' g b:=by
 unfold wantsB at hw ⊢
 split at hw
 ·exact hw
 ·obtain ⟨p,t,c,h1,h2,h3,h4⟩:=hw
  exact ⟨p,t,c,h1,h2,h _ _ h3,h4⟩
theorem wantsC_le {E E' : Env}(h:Le E E') {g:Option (Nat×Bool)}(hw:wantsC os E g):wantsC os E' g:=by
 rcases hw with hw | ⟨j,want,p,t,h1,h2,h3,h4⟩
 ·exact .inl (wantsB_le h hw)
 ·exact .inr ⟨j,want,p,t,h1,h2,h3,h _ _ h4⟩
theorem PureTwo.le {X:Pt}{H:List Seg}(h:Le V V') {i:Nat}{v:Value}(hp:PureTwo X os E0 V H i v):PureTwo X os E0 V' H i v:=by
 obtain ⟨o,h1,h2,h3⟩:=hp
 refine ⟨o,h1,h2,?_⟩
 rcases h3 with ⟨h3,h4⟩ | ⟨h3,h4⟩
 ·exact .inl ⟨wantsB_le (pre_le h i) h3,h4.le (pre_le h i)⟩
 ·exact .inr ⟨wantsC_le (pre_le h i) h3,h4⟩
theorem zfE {X:Pt}{val xv:Env}{H:List Seg}:∀ {pv:Env},(∀ p ∈ pv,(xv.any fun q => befB (masks os []) p.1 q.1)=true∨PureTwo X os E0 val H p.1 p.2)→PureM X os E0 val xv H pv
 | [],h => trivial
 | p::pv,h => ⟨h p (by simp),zfE fun q hq => h q (by simp [hq])⟩
theorem Does.nd {X:Pt}{E:Env}{H:List Seg}{op:Op}{R:Value→List Seg→Prop}(hd:Does X E H op R):Does X E H op fun v H' => R v H'∧(H'.flatten.map (·.1)).Nodup:=by
 intro dst ty pos after g ops i is k ds a w ho hw ha S
 obtain ⟨v,H',w',hR,S',st⟩:=hd dst ty pos after g ops i is k ds a w ho hw ha S
 exact ⟨v,H',w',⟨hR,S'.nodup⟩,S',st⟩
end
section
variable {os:List Oper}{f0 val:Fr}{E0 V:Env}{B:BB}
theorem zd4 (h0:ER B (gF f0) E0) (hv:ER B (gF val) V) {i:Nat}{o:Oper}(ho:os[i]? = some o):ER B (lookA os (gF f0) val i (readsOf os o)) (pre os E0 V i):=by
 intro t ht
 unfold lookA at ht ⊢
 cases hm:memN (readsOf os o) t with
 | false => rw [hm] at ht; exact absurd rfl ht
 | true =>
  rw [hm] at ht
  have hmem:t ∈ readsOf os o:=by rw [zfL] at hm; simpa using hm
  unfold pre
  rw [ho]
  cases hw:lastW os i t with
  | some j =>
   rw [hw] at ht
   obtain ⟨v,h1,h2⟩:=hv j ht
   exact ⟨v,zd2 (by unfold look; rw [hw]; exact h1) hmem,h2⟩
  | none =>
   rw [hw] at ht
   obtain ⟨v,h1,h2⟩:=h0 t ht
   exact ⟨v,zd2 (by unfold look; rw [hw]; exact h1) hmem,h2⟩
def wantsD (os:List Oper) (E:Env) (g:Option (Nat×Bool)):Bool→Prop
 | true => wantsB os E g true
 | false => wantsC os E g
theorem zdY {f:SlF}{E:Env}(hE:ER B f E) {g:Option (Nat×Bool)}{b:Bool}(h:wantE os g f=some b):wantsD os E g b:=by
 unfold wantE at h
 split at h
 ·cases h; exact (rfl:true=true)
 ·rename_i j w
  split at h
  ·rename_i t ht
   unfold dstAt at ht
   split at ht
   ·rename_i p hp
    unfold asB at h
    split at h
    ·rename_i c hc
     obtain ⟨u,h1,h2⟩:=hE t (by rw [hc]; simp)
     rw [hc] at h2; simp only [VR] at h2; subst h2
     have key:∀ b',(c == w)=b'→wantsB os E (some (j,w)) b':=fun b' hb => ⟨p,t,c,hp,ht,h1,hb⟩
     cases b with
     | true => exact key true (by cases w <;> cases c <;> (first | rfl | cases h))
     | false => exact .inl (key false (by cases w <;> cases c <;> (first | rfl | cases h)))
    ·rename_i hc
     cases h
     obtain ⟨u,h1,h2⟩:=hE t (by rw [hc]; simp)
     rw [hc] at h2; simp only [VR,VRL] at h2
     obtain ⟨vs,rfl,hvs⟩:=h2
     have:vs = #[]:=by cases vs; simp_all
     subst this
     exact .inr ⟨j,w,p,t,rfl,hp,ht,h1⟩
    ·cases h
   ·cases ht
  ·cases h
theorem zev {kn i e:Nat}{o:Oper}{v:LV}(hr:readsC os kn (e,o)=true) (hi:knows kn i=false):lookA os (gF f0) (Tr.set .undef v val i) e (readsOf os o)=lookA os (gF f0) val e (readsOf os o):=by
 funext t
 unfold lookA
 cases hm:memN (readsOf os o) t with
 | false => rfl
 | true =>
  have hmem:t ∈ readsOf os o:=by rw [zfL] at hm; simpa using hm
  have:=List.all_eq_true.1 hr t hmem
  cases hw:lastW os e t with
  | none => rfl
  | some j =>
   simp only [hw] at this
   have hj:j≠i:=fun e => by rw [e,hi] at this; cases this
   exact zcB hj
theorem zc7 {kn kn' : Nat}(h:∀ j,knows kn j=true→knows kn' j=true) {p:Nat×Oper}(hr:readsC os kn p=true):readsC os kn' p=true:=by
 refine List.all_eq_true.2 fun t ht => ?_
 have:=List.all_eq_true.1 hr t ht
 split at this
 ·exact h _ this
 ·rfl
end
theorem eqS_inj {B:BB}{l a m b:Nat}(h:eqS l a m b=true) {u u' : Value}(h1:VR B (.str l a) u) (h2:VR B (.str m b) u'):u=u':=by
 unfold eqS at h
 rw [Bool.and_eq_true] at h
 have e1:=zaa.1 h.1
 have e2:=zaa.1 h.2
 simp only [VR] at h1 h2
 obtain ⟨x,rfl,x1,x2⟩:=h1
 obtain ⟨y,rfl,y1,y2⟩:=h2
 rw [zbz x y (by omega) (by omega)]
theorem zcc {B:BB}{f:LV→LV→Bool}(hf:∀ a b,f a b=true→∀ u u',VR B a u→VR B b u'→u=u'):∀ (l m:List LV),sameL f l m=true→∀ us us',VRL B l us→VRL B m us'→us=us'
 | [],[],_,us,us',h1,h2 => by simp only [VRL] at h1 h2; rw [h1,h2]
 | [],b::m,h,_,_,_,_ => by simp [sameL] at h
 | a::l,[],h,_,_,_,_ => by simp [sameL] at h
 | a::l,b::m,h,us,us',h1,h2 => by
  simp only [sameL] at h
  split at h
  ·rename_i hab
   simp only [VRL] at h1 h2
   obtain ⟨x,xs,rfl,x1,x2⟩:=h1
   obtain ⟨y,ys,rfl,y1,y2⟩:=h2
   rw [hf a b hab x y x1 y1,zcc hf l m h xs ys x2 y2]
  ·cases h
theorem same_uniq {G:List (Nat×Obj)}{B:BB}{h:LH}{H:List Seg}(hr:HR G B h H):∀ (n:Nat) (a b:LV),same h n a b=true→∀ u u',VR B a u→VR B b u'→u=u'
 | 0,a,b,hq => by simp [same] at hq
 | n + 1,a,b,h => by
  intro u u' h1 h2
  have ih:=fun a b h u u' => same_uniq hr n a b h u u'
  unfold same at h
  split at h
  ·simp only [VR] at h1 h2; rw [h1,h2,beq_iff_eq.1 h]
  ·simp only [VR] at h1 h2; rw [h1,h2,zaa.1 h]
  ·rw [Bool.and_eq_true] at h
   rw [zcG] at h
   simp only [VR] at h1 h2; rw [h1,h2,kN_inj h.1,of_decide_eq_true h.2]
  ·exact eqS_inj h h1 h2
  ·simp only [VR] at h1 h2; rw [h1,h2]
  ·rw [Bool.and_eq_true] at h
   have e1:=zaa.1 h.1
   have e2:=zaa.1 h.2
   subst e1 e2
   simp only [VR] at h1 h2
   obtain ⟨k,a1,rfl⟩:=h1
   obtain ⟨k',b1,rfl⟩:=h2
   rw [a1] at b1; cases b1; rfl
  ·rw [Bool.and_eq_true] at h
   simp only [VR] at h1 h2; rw [h1,h2,zaa.1 h.1,zaa.1 h.2]
  ·simp only [VR] at h1 h2; rw [h1,h2]
  ·rw [Bool.and_eq_true,Bool.and_eq_true,Bool.and_eq_true] at h
   obtain ⟨e1,e2,e3,e4⟩:=h
   have e1:=zaa.1 e1
   have e2:=zaa.1 e2
   have e3:=zaa.1 e3
   have e4:=zaa.1 e4
   subst e1 e2 e3 e4
   simp only [VR] at h1 h2
   obtain ⟨k,a1,rfl⟩:=h1
   obtain ⟨k',b1,rfl⟩:=h2
   rw [a1] at b1; cases b1; rfl
  ·rw [Bool.and_eq_true,Bool.and_eq_true,Bool.and_eq_true] at h
   obtain ⟨hl,e1,e2,e3⟩:=h
   rw [Bool.and_eq_true] at e3
   have e1:=zaa.1 e1
   have e2:=zaa.1 e2
   have e4:=zaa.1 e3.2
   have e3:=zaa.1 e3.1
   subst e1 e2 e3 e4
   simp only [VR] at h1 h2
   obtain ⟨k,c,A,a1,rfl,a3,a4,a5,a6,a7⟩:=h1
   obtain ⟨k',c',A',b1,rfl,b3,b4,b5,b6,b7⟩:=h2
   rw [a1] at b1; cases b1
   have hsz:0 < k.sz:=by
    rename_i i _ _ _
    unfold liveC at hl
    split at hl
    ·rename_i hlo
     obtain ⟨k2,_,_,c1,_,c3⟩:=hr.at_ i (by rw [hlo]; rfl)
     rw [a1] at c1; cases c1
     rw [hlo] at c3
     obtain ⟨_,_,_,d1,d2,_⟩:=c3
     omega
    ·rename_i hlo
     obtain ⟨k2,_,_,c1,_,c3⟩:=hr.at_ i (by rw [hlo]; rfl)
     rw [a1] at c1; cases c1
     rw [hlo] at c3
     obtain ⟨_,_,_,_,_,d1,_⟩:=c3
     omega
    ·cases hl
   have hc:c=c':=Nat.eq_of_mul_eq_mul_right hsz (by omega)
   subst hc
   rcases Nat.eq_zero_or_pos c with h0 | h0
   ·rw [a6 h0,b6 h0]
   ·rw [a5 h0,b5 h0]
  ·simp only [VR] at h1 h2; rw [h1,h2]
  ·have e1:=zaa.1 h
   subst e1
   simp only [VR] at h1 h2
   obtain ⟨k,a1,rfl⟩:=h1
   obtain ⟨k',b1,rfl⟩:=h2
   rw [a1] at b1; cases b1; rfl
  ·rw [Bool.and_eq_true,Bool.and_eq_true] at h
   obtain ⟨e1,e2,e3⟩:=h
   have e1:=zaa.1 e1
   subst e1
   simp only [VR] at h1 h2
   obtain ⟨x,y,rfl,x1,x2⟩:=h1
   obtain ⟨x',y',rfl,y1,y2⟩:=h2
   have q1:=zcc ih _ _ e2 _ _ x1 y1
   have q2:=zcc ih _ _ e3 _ _ x2 y2
   rw [Array.ext' q1,Array.ext' q2]
  ·have e1:=zaa.1 h
   subst e1
   simp only [VR] at h1 h2
   obtain ⟨k,a1,rfl⟩:=h1
   obtain ⟨k',b1,rfl⟩:=h2
   rw [a1] at b1; cases b1; rfl
  ·simp only [VR] at h1 h2; rw [h1,h2]
  ·rw [Bool.and_eq_true] at h
   have e1:=zaa.1 h.1
   subst e1
   simp only [VR] at h1 h2
   obtain ⟨x,rfl,x1⟩:=h1
   obtain ⟨y,rfl,y1⟩:=h2
   rw [ih _ _ h.2 _ _ x1 y1]
  ·simp only [VR] at h1 h2; rw [h1,h2]
  ·simp only [VR] at h1 h2
   obtain ⟨x,rfl,x1,_⟩:=h1
   obtain ⟨y,rfl,y1,_⟩:=h2
   rw [Array.ext' (zcc ih _ _ h _ _ x1 y1)]
  ·simp only [VR] at h1 h2
   obtain ⟨x,rfl,x1⟩:=h1
   obtain ⟨y,rfl,y1⟩:=h2
   rw [Array.ext' (zcc ih _ _ h _ _ x1 y1)]
  ·cases h
end Go.Proofs.YtdncjmehhahidaaGreatDoor
namespace Go.Proofs.YtdncjmehhahidaaGreatDoor
open Go.RowKit (Below)
set_option linter.unusedVariables false
set_option linter.unusedSimpArgs false
variable {G:List (Nat×Obj)}
section
variable {X:Pt}{os:List Oper}{f0 val:Fr}{E0 V E:Env}{B:BB}{h h' : LH}{H:List Seg}{cx:Cx}{f:SlF}{nx nx' : Nat}{lv:LV}
theorem quietE_ok (hc:CxOk X.P X.w0 X.base cx) (hr:HR G B h H) (h0:ER B (gF f0) E0) (hv:ER B (gF val) V) {i:Nat}{o:Oper}(ho:os[i]? = some o) (hd:dstOk X.n o.dst=true) {v:LV}(hq:quietE cx os (gF f0) val i o h = .ok v):∃ u,VR B v u∧PureTwo X os E0 V H i u:=by
 have hE:=zd4 h0 hv ho
 unfold quietE at hq
 split at hq
 ·cases hq
 ·rename_i hw
  cases hq
  exact ⟨Go.undef,zbJ,o,ho,hd,.inr ⟨zdY hE hw,rfl⟩⟩
 ·rename_i hw
  obtain ⟨u,h1,h2⟩:=opQ_ok hc hr hE hq
  exact ⟨u,h1,o,ho,hd,.inl ⟨zdY hE hw,h2⟩⟩
theorem doneR_ok {g:Nat}{r:Res}{c:LV→Nat→LH→Res}{v2:LV}{nx2:Nat}{h2:LH}(hq:doneR g r c = .done v2 nx2 h2):∃ lv nx1 h1,r = .done lv nx1 h1∧c lv nx1 h1 = .done v2 nx2 h2:=by
 unfold doneR at hq
 split at hq
 ·exact ⟨_,_,_,rfl,hq⟩
 ·cases hq
theorem rsR_ok {g:Nat}{r:Rs}{c:LV→Nat→LH→Res}{v2:LV}{nx2:Nat}{h2:LH}(hq:rsR g r c = .done v2 nx2 h2):∃ lv nx1 h1,r = .ok lv nx1 h1∧c lv nx1 h1 = .done v2 nx2 h2:=by
 unfold rsR at hq
 split at hq
 ·exact ⟨_,_,_,rfl,hq⟩
 ·cases hq
theorem callD_ok {run:Run}(hc:CxF X.P X.w0 X.base cx) (hs:Sim X.P X.w0 X.base run) (hr:HR G B h H) (hn:B.length=nx) (hE:ER B f E) {cl:Callee}{xs:Array Operand}{ts:Array TypeId}{w:Nat}{c:LV→Nat→LH→Res}{v2:LV}{nx2:Nat}{h2:LH}
  (hq:callD cx w run ((calleeE cx cl xs.toList).go f h) nx h c = .done v2 nx2 h2):∃ lv nx1 h1,c lv nx1 h1 = .done v2 nx2 h2∧Does X E H (.call ⟨cl,xs,ts⟩) (MR G B lv nx1 h1):=by
 have hcl:=callee_ok X (cl:=cl) (xs:=xs) hc hr hE
 unfold callD at hq
 split at hq
 ·rename_i g args hcal
  rw [hcal] at hcl
  obtain ⟨us,hu,hrun⟩:=hcl
  split at hq
  ·rename_i p hpr
   obtain ⟨lv,nx1,h1,hp,hk⟩:=rsR_ok hq
   refine ⟨lv,nx1,h1,hk,?_⟩
   rcases hc.pr G g p hpr _ _ _ _ _ _ B H us hp hu hn hr with hv0 | ⟨hbody,hsc⟩
   ·refine Does.core rfl fun dst ty pos after g' ρ w hρ S => ?_
    obtain ⟨u,w',H',r1,r2,r3⟩:=hv0 w S
    refine ⟨u,w',H',?_,r2,r3⟩
    rw [← r1]
    exact hrun ρ hρ ts ty w S
   ·intro dst ty pos after g' ops i is k ds a w' ho hw ha S
    have hrun:=hrun (evA a) ha ts ty w' S
    rw [zbt hbody] at hrun
    obtain ⟨e,w2,fr,⟨u,H',rfl,r3,r2⟩,hcomes,_,hleave⟩:=hsc w' S (X.c.fr a ds (.inRegion ops (i::is)::k)::X.cs)
    refine ⟨u,H',w2,r3,r2,.head (zbQ ho hw (.inl rfl) hrun) (Steps.trans hcomes (.one ?_))⟩
    have:=step_leave_returned (cs:=X.cs) (c:=X.c.fr a ds (.inRegion ops (i::is)::k)) hleave
    rw [zax ho] at this
    exact this
  ·obtain ⟨lv,nx1,h1,hp,hk⟩:=doneR_ok hq
   refine ⟨lv,nx1,h1,hk,?_⟩
   intro dst ty pos after g' ops i is k ds a w' ho hw ha S
   have hrun:=hrun (evA a) ha ts ty w' S
   have hgo:=zbI (dfd:=false) (cs:=[]) (rcs:=[]) (cs0:=X.c.fr a ds (.inRegion ops (i::is)::k)::X.cs) hc hs hu rfl ⟨hn,hr,S⟩ (fun e => by cases e) (m:=lone (X.c.fr a ds (.inRegion ops (i::is)::k)) X.cs w') (fun hbody => by
    rw [zbt hbody] at hrun
    exact .one (zbQ ho hw (.inl rfl) hrun))
   obtain ⟨m',st,u,B',H',w2,b1,b2,b3,b4,b5,fr,rfl,_,hleave⟩:=hgo _ _ _ hp
   refine ⟨u,H',w2,⟨B',b1,b2,b3,b4⟩,b5,st.trans (.one ?_)⟩
   have:=step_leave_returned (cs:=X.cs) (c:=X.c.fr a ds (.inRegion ops (i::is)::k)) hleave
   rw [zax ho] at this
   exact this
 ·rename_i l args hcal
  rw [hcal] at hcl
  obtain ⟨kb,us,hkb,hu,hrun⟩:=hcl
  unfold roundD at hq
  split at hq
  ·rename_i st pend fn lf ps assign body dfs hlo
   split at hq
   ·rename_i hlen
    have hlen:=zaa.1 hlen
    rw [zfz] at hq
    obtain ⟨lv,nx1,h1,hp,hk⟩:=doneR_ok hq
    refine ⟨lv,nx1,h1,hk,?_⟩
    intro dst ty pos after g' ops i is k ds a w' ho hw ha S
    have hrun:=hrun (evA a) ha ts ty w' S
    have hgo:=ze4 (cs:=[]) (rcs:=[]) (cs0:=X.c.fr a ds (.inRegion ops (i::is)::k)::X.cs) hs hkb hu rfl ⟨hn,hr,S⟩ (m:=lone (X.c.fr a ds (.inRegion ops (i::is)::k)) X.cs w') hlo hlen (fun _ => by simp) (fun fn tmps assign body hy => by
     have hrun:(execOp (evA a) ⟨dst,.call ⟨cl,xs,ts⟩,ty,pos,after,g'⟩).run X.P w' = (Instr.yield kb.b us.toArray).run X.P w':=hrun
     rw [hy] at hrun
     refine .one (step_lone_go ?_)
     rw [za3 ho hw (.inl rfl)]
     simp [stepG.apply,hrun,Ctx.fr])
    obtain ⟨m',st',u,B',H',w2,b1,b2,b3,b4,b5,c1,cs1,he,rfl⟩:=hgo _ _ _ hp
    cases he
    refine ⟨u,H',w2,⟨B',b1,b2,b3,b4⟩,b5,?_⟩
    rw [zax ho] at st'
    exact st'
   ·cases hq
  ·cases hq
 ·cases hq
theorem actE_ok {run:Run}(hc:CxF X.P X.w0 X.base cx) (hs:Sim X.P X.w0 X.base run) (hr:HR G B h H) (hn:B.length=nx) (hE:ER B f E) {w:Nat}{o:Op}{c:LV→Nat→LH→Res}{v2:LV}{nx2:Nat}{h2:LH}
  (hq:(actE cx w o).go run f nx h c = .done v2 nx2 h2):∃ lv nx1 h1,c lv nx1 h1 = .done v2 nx2 h2∧Does X E H o (MR G B lv nx1 h1):=by
 unfold actE at hq
 split at hq
 ·simp only [W.go_mk] at hq
  obtain ⟨lv,nx1,h1,hp,hk⟩:=rsR_ok hq
  exact ⟨lv,nx1,h1,hk,opM_ok hc.ok hr hn hE hp⟩
 ·split at hq
  ·simp only [W.go_mk] at hq
   exact callD_ok hc hs hr hn hE hq
  ·cases hq
 ·cases hq
def CrOk (cx:Cx) (B:BB) (op:Op) (f:SlF) (b:Nat) (obj:Obj) (u:Value):Prop :=
 ∀ nx h lv nx' h',(opM cx op).go f nx h = .ok lv nx' h'→nx' = nx + 1∧∃ (k:Bk) (lo:LO),k.b=b∧h' = Tr.set .gone lo h nx∧∀ B',B <+: B'→B'.length=nx→OR (B'++[k]) k obj lo∧VR (B'++[k]) lv u
theorem CrOk.mono {B B' : BB}(hp:B <+: B') {op:Op}{b:Nat}{obj:Obj}{u:Value}(h:CrOk cx B op f b obj u):CrOk cx B' op f b obj u:=by
 intro nx h0 lv nx' h' hq
 obtain ⟨h1,k,lo,h2,h3,h4⟩:=h nx h0 lv nx' h' hq
 exact ⟨h1,k,lo,h2,h3,fun B'' hp' hl => h4 B'' (hp.trans hp') hl⟩
theorem LOR.new {lo:LO}{sz:Nat}{vs:List Value}(hl:LOR B sz vs lo) (h1:∀ c ∈ vs,c.oneCell' = true) (b:Nat) (e:TypeId) {B' : BB}(hp:B <+: B') :
  OR (B'++[⟨b,0,vs.length,sz⟩]) ⟨b,0,vs.length,sz⟩ (.cells vs.toArray e (0,0)) lo :=
 (hl.mono (hp.trans (List.prefix_append _ _))).or (cs:=vs.toArray) (rest:=[]) (by simp) (by simp) (by simpa using h1) b e (zao _) (.inr rfl)
theorem newLO_cr {P:Program}(hb:∀ e,isByte cx e=true→(mkTI P e).sz=1) {e:TypeId}{l:List LV}{vs:List Value}(hv:VRL B l vs) (h1:∀ c ∈ vs,c.oneCell' = true) {v:Nat→LV}{u:Value}{b:Nat}(hty:cx.ty=mkTI P)
  (hu:∀ (nx:Nat) (B' : BB) (k:Bk),k.b=b→k.off=0→B'.length=nx→VR (B'++[k]) (v nx) u) {nx:Nat}{h:LH}{lv:LV}{nx' : Nat}{h' : LH}(hq:newLO (isByte cx e) (cx.ty e).sz l (v nx) nx h = .ok lv nx' h') :
  nx' = nx + 1∧∃ (k:Bk) (lo:LO),k.b=b∧h' = Tr.set .gone lo h nx∧∀ B',B <+: B'→B'.length=nx→OR (B'++[k]) k (.cells vs.toArray e (0,0)) lo∧VR (B'++[k]) lv u:=by
 obtain ⟨lo,h2,rfl,rfl,rfl⟩:=zcl hq
 refine ⟨rfl,_,lo,rfl,rfl,fun B' hp hl => ⟨(zbX h2 hv (fun hb' => by rw [hty]; exact hb e hb')).new h1 b e hp,hu nx B' _ rfl rfl hl⟩⟩
theorem newE_cr {P:Program}(hb:∀ e,isByte cx e=true→(mkTI P e).sz=1) (hty:cx.ty=mkTI P) {e:TypeId}{x:LV}{z:Value}(hz:x≠.undef→VR B x z) (b:Nat) {nx:Nat}{h:LH}{lv:LV}{nx' : Nat}{h' : LH}(hq:newE cx e (cells x) nx h = .ok lv nx' h') :
  nx' = nx + 1∧∃ (k:Bk) (lo:LO),k.b=b∧h' = Tr.set .gone lo h nx∧∀ B',B <+: B'→B'.length=nx→OR (B'++[k]) k (.cells z.cells e (0,0)) lo∧VR (B'++[k]) lv (.pointer (some ⟨b,0,none⟩)):=by
 have hu:∀ (nx:Nat) (B' : BB) (k:Bk),k.b=b→k.off=0→B'.length=nx→VR (B'++[k]) (.ptr nx 0) (.pointer (some ⟨b,0,none⟩)):=by
  intro nx B' k hk ho hl
  simp only [VR]
  exact ⟨k,zaC hl,by rw [hk,ho]⟩
 unfold newE at hq
 split at hq
 ·rename_i hl
  obtain ⟨rfl,rfl,rfl⟩:=zbg hq
  have hz:=hz (fun e => by rw [e] at hl; cases hl)
  obtain ⟨c1,c2⟩:=zaB hz hl
  simp only [VRL] at c1
  refine ⟨rfl,⟨b,0,z.cells.toList.length,1⟩,_,rfl,rfl,fun B' hp hl => ⟨?_,hu nx B' _ rfl rfl hl⟩⟩
  have:=LOR.new (B:=B) (lo:=.rows 1 0 .e) (sz:=1) (vs:=z.cells.toList) ⟨rfl,by omega,by simp,fun r hr => absurd hr (by omega)⟩ c2 b e hp
  simpa using this
 ·rename_i l _ hl
  have hz:=hz (fun e => by rw [e] at hl; cases hl)
  obtain ⟨c1,c2⟩:=zaB hz hl
  have:=newLO_cr hb c1 c2 (v:=fun nx => .ptr nx 0) (u:=.pointer (some ⟨b,0,none⟩)) (b:=b) hty hu hq
  simpa using this
 ·cases hq
theorem creator_ok (hc:CxOk X.P X.w0 X.base cx) (hE:ER B f E) {o:Oper}(ha:isAl o=true) (hq:(opM cx o.op).go f nx h = .ok lv nx' h') :
  ∃ (obj:Obj) (mk:Nat→Value),Does X E H o.op (fun u H' => ∃ b,u=mk b∧H' = [(b,obj)]::H)∧∀ b,CrOk cx B o.op f b obj (mk b):=by
 have hb:∀ e,isByte cx e=true→(mkTI X.P e).sz=1:=fun e he => (zcJ hc he).1
 unfold isAl at ha
 split at ha
 ·rename_i e hop
  rw [hop] at hq ⊢
  simp only [opM,W.go_mk] at hq
  have hz0:(mkTI X.P e).zero≠.undef:=by
   intro e0
   unfold newE at hq
   rw [hc.ty,e0] at hq
   simp [cells] at hq
  obtain ⟨_,z,z1,z2,z3,z4⟩:=zaZ (P:=X.P) (t:=e) B hz0
  refine ⟨.cells z.cells e (0,0),fun b => .pointer (some ⟨b,0,none⟩),Do.alloc z2 rfl,fun b nx h lv nx' h' hq => ?_⟩
  simp only [opM,W.go_mk] at hq
  rw [hc.ty] at hq
  exact newE_cr hb hc.ty (fun _ => z3) b hq
 ·rename_i e x hop
  rw [hop] at hq ⊢
  simp only [opM,W.go_mk] at hq
  have hz0:evO x f≠.undef:=by
   intro e0
   unfold newE at hq
   rw [e0] at hq
   simp [cells] at hq
  obtain ⟨z,v1,v2⟩:=hE.ev x hz0
  refine ⟨.cells z.cells e (0,0),fun b => .pointer (some ⟨b,0,none⟩),Do.box rfl v1,fun b nx h lv nx' h' hq => ?_⟩
  simp only [opM,W.go_mk] at hq
  exact newE_cr hb hc.ty (fun _ => v2) b hq
 ·rename_i t n ps hop
  rw [hop] at hq ⊢
  simp only [opM,W.go_mk] at hq
  unfold buildSliceE at hq
  rw [hc.ty] at hq
  cases hk:(mkTI X.P t).kind <;> simp only [hk,W.go_mk] at hq
  case slice e =>
   obtain ⟨hu,hke⟩:=zaL hk
   have hq0:=hq
   unfold bslE at hq
   rw [hc.ty] at hq
   split at hq
   ·rename_i z hz hle
    have hle' : n * (mkTI X.P e).sz≤16777216:=zaf.1 hle
    split at hq
    ·rename_i l hl
     obtain ⟨_,zv,z1,z2,z3,z4⟩:=zaZ (P:=X.P) (t:=e) B (fun e => by rw [e] at hz; cases hz)
     obtain ⟨c1,c2⟩:=zaB z3 hz
     obtain ⟨vs,v1,v2,v3⟩:=zeD hE ps.toList (zcg _ _ _ hl)
     obtain ⟨r,r1,r2,r3,r4⟩:=zdx (place:=plcA (mkTI X.P e).sz) _ vs (repL n z) (List.replicate n zv.cells.toList).flatten l (by rw [v2,zcd]) v3 (c1.rep n) (zdH c2 n) hl
     refine ⟨.cells r.toArray e (0,0),fun b => .slice (some ⟨b,0,none⟩) n n,Do.buildSlice hu z2 (zfw hke) (zaa.2 (by simpa using z4)) (zaf.2 hle') v1 r1,fun b nx h lv nx' h' hq => ?_⟩
     simp only [opM,W.go_mk] at hq
     unfold buildSliceE at hq
     rw [hc.ty] at hq
     simp only [hk,W.go_mk] at hq
     unfold bslE at hq
     rw [hc.ty] at hq
     simp only [hz,hle,hl] at hq
     refine newLO_cr hb r2 r3 (v:=fun nx => .sl nx 0 n n) (u:=.slice (some ⟨b,0,none⟩) n n) (b:=b) hc.ty (fun nx B' k hk ho hl => ?_) (by rw [hc.ty]; exact hq)
     simp only [VR]
     exact ⟨k,zaC hl,by rw [hk,ho]⟩
    ·cases hq
   ·cases hq
  all_goals cases hq
 ·cases ha
end
end Go.Proofs.YtdncjmehhahidaaGreatDoor
namespace Go.Proofs.YtdncjmehhahidaaGreatDoor
open Go.RowKit (Below)
set_option linter.unusedVariables false
set_option linter.unusedSimpArgs false
structure Ear where
  e:Nat
  b:Nat
  obj:Obj
def geOf (S:List Ear):List (Nat×Obj):=S.map fun s => (s.b,s.obj)
section
variable {G:List (Nat×Obj)}{B:BB}{h:LH}{H:List Seg}
theorem HR.more (hr:HR G B h H) (g:Nat×Obj):HR (g::G) B h ([g]::H):=by
 obtain ⟨p,h1,h2,h3⟩:=hr
 refine ⟨fun i => p i + 1,fun i hi => ?_,fun i i' hi hi' he => h2 i i' hi hi' (by simpa using he),fun g' hg => ?_⟩
 ·obtain ⟨k,obj,a1,a2,a3⟩:=h1 i hi
  exact ⟨k,obj,a1,by simpa using a2,a3⟩
 ·rcases List.mem_cons.1 hg with rfl | hg
  ·exact ⟨0,by simp,fun i _ => by simp⟩
  ·obtain ⟨j,j1,j2⟩:=h3 g' hg
   exact ⟨j + 1,by simpa using j1,fun i hi => by have:=j2 i hi; simpa using this⟩
theorem HR.join {G1 G2:List (Nat×Obj)}{g:Nat×Obj}(hr:HR (G1++g::G2) B h H) {nx:Nat}(hn:B.length=nx) {k:Bk}{lo:LO}(hk:k.b=g.1) (hor:OR (B++[k]) k g.2 lo) (hd:∀ g' ∈ G1++G2,g'.1≠g.1):HR (G1++G2) (B++[k]) (Tr.set .gone lo h nx) H:=by
 have hp:B <+: B++[k]:=List.prefix_append _ _
 obtain ⟨p,h1,h2,h3⟩:=hr
 obtain ⟨jg,g1,g2⟩:=h3 g (by simp)
 have old:∀ i,i≠nx→liveO (atB (Tr.set .gone lo h nx) i)=true→liveO (atB h i)=true:=by
  intro i hi hl; rw [zaY,if_neg hi] at hl; exact hl
 refine ⟨fun i => if i=nx then jg else p i,fun i hi => ?_,fun i i' hi hi' he => ?_,fun g' hg => ?_⟩
 ·by_cases e:i=nx
  ·subst e
   refine ⟨k,g.2,by rw [← hn]; simp,by simp only [if_true]; rw [g1,hk],?_⟩
   rw [zaY,if_pos rfl]; exact hor
  ·obtain ⟨k1,o1,a1,a2,a3⟩:=h1 i (old i e hi)
   refine ⟨k1,o1,zaP hp a1,by simp only [if_neg e]; exact a2,?_⟩
   rw [zaY,if_neg e]; exact a3.mono hp
 ·by_cases e:i=nx <;> by_cases e' : i' = nx
  ·rw [e,e']
  ·simp only [if_pos e,if_neg e'] at he
   exact absurd he.symm (g2 i' (old i' e' hi'))
  ·simp only [if_neg e,if_pos e'] at he
   exact absurd he (g2 i (old i e hi))
  ·simp only [if_neg e,if_neg e'] at he
   exact h2 i i' (old i e hi) (old i' e' hi') he
 ·obtain ⟨j,j1,j2⟩:=h3 g' (by
   rcases List.mem_append.1 hg with hg | hg
   ·simp [hg]
   ·simp [hg])
  refine ⟨j,j1,fun i hi => ?_⟩
  by_cases e:i=nx
  ·simp only [if_pos e]
   intro ej
   subst ej
   rw [g1] at j1
   cases j1
   exact hd g hg rfl
  ·simp only [if_neg e]; exact j2 i (old i e hi)
theorem HR.mem_g (hr:HR G B h H) {g:Nat×Obj}(hg:g ∈ G):g ∈ H.flatten:=by
 obtain ⟨p,_,_,h3⟩:=hr
 obtain ⟨j,j1,_⟩:=h3 g hg
 exact List.mem_flatten.2 ⟨[g],List.mem_of_getElem? j1,by simp⟩
end
section
variable (X:Pt) (cx:Cx) (os:List Oper) (f0:Fr) (E0:Env) (G:List (Nat×Obj)) (B0:BB)
structure DS (kn:Nat) (acts:List Nat) (val:Fr) (nx:Nat) (h:LH) (B:BB) (H:List Seg) (pv xv:Env) (S:List Ear):Prop where
  bp:B0 <+: B
  len:B.length=nx
  hr:HR (geOf S++G) B h H
  e0:ER B (gF f0) E0
  er:ER B (gF val) (pv++xv)
  low:∀ i,isKnown (pv++xv) i=true→i < os.length
  known:∀ i,isKnown (pv++xv) i=true↔(knows kn i=true∨∃ s ∈ S,s.e=i)
  ent:∀ p ∈ pv,knows kn p.1=true∧p.1 ∉ acts∧VR B (gF val p.1) p.2
  act:∀ e ∈ acts,knows kn e=true∧∃ p ∈ xv,p.1=e
  pure:∀ p ∈ pv,(xv.any fun q => befB (masks os []) p.1 q.1)=true∨PureTwo X os E0 (pv++xv) H p.1 p.2
  ear:∀ s ∈ S,∃ o u,os[s.e]? = some o∧isAl o=true∧knows kn s.e=false∧readsC os kn (s.e,o)=true∧Env.get (pv++xv) s.e=some u∧(∃ p ∈ xv,p.1=s.e)∧CrOk cx B o.op (lookA os (gF f0) val s.e (readsOf os o)) s.b s.obj u∧wantE os o.guard (lookA os (gF f0) val s.e (readsOf os o))=some true
  nd:(S.map (·.b)).Nodup
  ng:∀ s ∈ S,s.b ∉ G.map (·.1)
  ne:(S.map (·.e)).Nodup
end
section
variable {X:Pt}{cx:Cx}{os:List Oper}{f0:Fr}{E0:Env}{G:List (Nat×Obj)}{B0:BB}{kn:Nat}{acts:List Nat}{val:Fr}{nx:Nat}{h:LH}{B:BB}{H:List Seg}{pv xv:Env}{S:List Ear}
theorem toChk_mem:∀ (r:List Oper) (i:Nat),(∀ j,r[j]? = os[i + j]?)→∀ (j:Nat) (o:Oper),i≤j→os[j]? = some o→knows kn j=true→(acts.any fun e => Nat.beq j e || befB (masks os []) j e)=false→(j,o) ∈ toChk os kn acts r i
 | [],i,hr,j,o,hij,ho,_,_ => by
  have:=hr (j - i)
  rw [show i + (j - i)=j by omega,ho] at this
  simp at this
 | a::r,i,hr,j,o,hij,ho,hk,ha => by
  have hr' : ∀ j,r[j]? = os[i + 1 + j]?:=fun j => by
   have:=hr (j + 1)
   rw [List.getElem?_cons_succ] at this
   rw [this]; congr 1; omega
  rw [toChk]
  by_cases e:j=i
  ·subst e
   have h0:=hr 0
   rw [Nat.add_zero,ho] at h0
   simp at h0
   subst h0
   rw [hk,ha]
   simp
  ·have:=toChk_mem r (i + 1) hr' j o (by omega) ho hk ha
   split
   ·exact List.mem_cons_of_mem _ this
   ·exact this
theorem chks_ok:∀ {l:List (Nat×Oper)},chksE cx os (gF f0) h val l=true→∀ p ∈ l,∃ v,quietE cx os (gF f0) val p.1 p.2 h = .ok v∧same h 20 v (gF val p.1)=true
 | [],_,p,hp => by simp at hp
 | (i,o)::l,hq,p,hp => by
  rw [chksE] at hq
  split at hq
  ·rename_i v hv
   split at hq
   ·rename_i hs
    rcases List.mem_cons.1 hp with rfl | hp
    ·exact ⟨v,hv,hs⟩
    ·exact chks_ok hq p hp
   ·cases hq
  ·cases hq
theorem recheck (hc:CxOk X.P X.w0 X.base cx) (hdst:∀ (i:Nat) (o:Oper),os[i]? = some o→dstOk X.n o.dst=true) {G' : List (Nat×Obj)}{V' xv' : Env}(hr:HR G' B h H) (h0:ER B (gF f0) E0) (he:ER B (gF val) V') (hp:∀ p ∈ pv,p.1 < os.length∧knows kn p.1=true∧p.1 ∉ acts∧VR B (gF val p.1) p.2) (ha:∀ e ∈ acts,∃ q ∈ xv',q.1=e)
  (hchk:chksE cx os (gF f0) h val (toChk os kn acts os 0)=true):∀ p ∈ pv,(xv'.any fun q => befB (masks os []) p.1 q.1)=true∨PureTwo X os E0 V' H p.1 p.2:=by
 intro p hmem
 obtain ⟨h1,h2,h3,h4⟩:=hp p hmem
 cases hb:(acts.any fun e => Nat.beq p.1 e || befB (masks os []) p.1 e) with
 | true =>
  left
  obtain ⟨e,e1,e2⟩:=List.any_eq_true.1 hb
  obtain ⟨q,q1,rfl⟩:=ha e e1
  rw [Bool.or_eq_true] at e2
  rcases e2 with e2 | e2
  ·exact absurd (zaa.1 e2 ▸ e1) h3
  ·exact List.any_eq_true.2 ⟨q,q1,e2⟩
 | false =>
  right
  have ho:os[p.1]? = some os[p.1]:=List.getElem?_eq_getElem h1
  obtain ⟨v,v1,v2⟩:=chks_ok hchk _ (toChk_mem os 0 (fun j => by rw [Nat.zero_add]) p.1 _ (Nat.zero_le _) ho h2 hb)
  obtain ⟨u,u1,u2⟩:=quietE_ok hc hr h0 he ho (hdst _ _ ho) v1
  rw [same_uniq hr 20 _ _ v2 _ _ u1 h4] at u2
  exact u2
theorem za2 {i:Nat}:∀ j,knows kn j=true→knows (addK kn i) j=true:=fun j hj => by rw [zaU,hj]; rfl
theorem DS.unk (D:DS X cx os f0 E0 G B0 kn acts val nx h B H pv xv S) {i:Nat}(hi:knows kn i=false) (hS:∀ s ∈ S,s.e≠i):isKnown (pv++xv) i=false:=by
 cases hk:isKnown (pv++xv) i with
 | false => rfl
 | true =>
  rcases (D.known i).1 hk with h | ⟨s,s1,s2⟩
  ·rw [hi] at h; cases h
  ·exact absurd s2 (hS s s1)
theorem er_set {V V' : Env}(hle:Le V V') (he:ER B (gF val) V) {i:Nat}{v:LV}{u:Value}(hu:Env.get V' i=some u) (hv:VR B v u):ER B (gF (Tr.set .undef v val i)) V':=by
 intro t ht
 by_cases e:t=i
 ·subst e
  refine ⟨u,hu,?_⟩
  show VR B (Tr.get .undef (Tr.set .undef v val t) t) u
  rw [get_same]; exact hv
 ·have e2:gF (Tr.set .undef v val i) t=gF val t:=zcB e
  rw [e2] at ht ⊢
  obtain ⟨w,w1,w2⟩:=he t ht
  exact ⟨w,hle t w w1,w2⟩
theorem DS.quiet (hc:CxOk X.P X.w0 X.base cx) (hdst:∀ (i:Nat) (o:Oper),os[i]? = some o→dstOk X.n o.dst=true) (D:DS X cx os f0 E0 G B0 kn acts val nx h B H pv xv S) {i:Nat}{o:Oper}(ho:os[i]? = some o) (hi:knows kn i=false) (hS:∀ s ∈ S,s.e≠i) {v:LV}(hq:quietE cx os (gF f0) val i o h = .ok v) :
  ∃ u,isKnown (pv++xv) i=false∧DS X cx os f0 E0 G B0 (addK kn i) acts (Tr.set .undef v val i) nx h B H ((i,u)::pv) xv S:=by
 have hu:=D.unk hi hS
 obtain ⟨u,u1,u2⟩:=quietE_ok hc D.hr D.e0 D.er ho (hdst _ _ ho) hq
 have hle:Le (pv++xv) ((i,u)::pv++xv):=Le.pure hu
 refine ⟨u,hu,D.bp,D.len,D.hr,D.e0,er_set hle D.er get_pure u1,fun j hj => ?_,fun j => ?_,fun p hp => ?_,fun e he => ⟨za2 _ (D.act e he).1,(D.act e he).2⟩,fun p hp => ?_,fun s hs => ?_,D.nd,D.ng,D.ne⟩
 ·rw [zcV,Bool.or_eq_true] at hj
  rcases hj with hj | hj
  ·exact D.low j hj
  ·rw [← zaa.1 hj]; exact (List.getElem?_eq_some_iff.1 ho).1
 ·rw [zcV,Bool.or_eq_true,D.known j,zaU,Bool.or_eq_true]
  constructor
  ·rintro ((h | h) | h)
   ·exact .inl (.inl h)
   ·exact .inr h
   ·exact .inl (.inr h)
  ·rintro ((h | h) | h)
   ·exact .inl (.inl h)
   ·exact .inr h
   ·exact .inl (.inr h)
 ·rcases List.mem_cons.1 hp with rfl | hp
  ·refine ⟨by rw [zaU]; simp,fun hm => ?_,?_⟩
   ·have:=(D.act _ hm).1
    simp only at this
    rw [hi] at this; cases this
   ·show VR B (Tr.get .undef (Tr.set .undef v val i) i) u
    rw [get_same]; exact u1
  ·obtain ⟨p1,p2,p3⟩:=D.ent p hp
   have hne:p.1≠i:=fun e => by rw [e,hi] at p1; cases p1
   refine ⟨za2 _ p1,p2,?_⟩
   show VR B (Tr.get .undef (Tr.set .undef v val i) p.1) p.2
   rw [zcB hne]; exact p3
 ·rcases List.mem_cons.1 hp with rfl | hp
  ·exact .inr (u2.le hle)
  ·rcases D.pure p hp with h | h
   ·exact .inl h
   ·exact .inr (h.le hle)
 ·obtain ⟨o',u',s1,s2,s3,s4,s5,s6,s7⟩:=D.ear s hs
  have hne:s.e≠i:=hS s hs
  refine ⟨o',u',s1,s2,by rw [zaU,s3,zau (Ne.symm hne)]; rfl,zc7 za2 s4,by rw [zc3 hne]; exact s5,s6,?_⟩
  rw [zev s4 hi]; exact s7
theorem DS.acted (hc:CxOk X.P X.w0 X.base cx) (hdst:∀ (i:Nat) (o:Oper),os[i]? = some o→dstOk X.n o.dst=true) (D:DS X cx os f0 E0 G B0 kn acts val nx h B H pv xv S) {i:Nat}{o:Oper}(ho:os[i]? = some o) (hi:knows kn i=false) (hS:∀ s ∈ S,s.e≠i) {lv:LV}{u:Value}{nx1:Nat}{h1:LH}{B1:BB}{H1:List Seg}(hp:B <+: B1) (hl:B1.length=nx1) (hv:VR B1 lv u) (hr:HR (geOf S++G) B1 h1 H1)
  (hchk:chksE cx os (gF f0) h1 val (toChk os kn (i::acts) os 0)=true):DS X cx os f0 E0 G B0 (addK kn i) (i::acts) (Tr.set .undef lv val i) nx1 h1 B1 H1 pv ((i,u)::xv) S:=by
 have hu:=D.unk hi hS
 have hle:Le (pv++xv) (pv++((i,u)::xv)):=Le.act hu
 have he:ER B1 (gF val) (pv++((i,u)::xv)):=fun t ht => by
  obtain ⟨w,w1,w2⟩:=D.er t ht
  exact ⟨w,hle t w w1,VR.mono hp _ _ w2⟩
 have hent:∀ p ∈ pv,p.1 < os.length∧knows kn p.1=true∧p.1 ∉ i::acts∧VR B1 (gF val p.1) p.2:=fun p hm => by
  obtain ⟨p1,p2,p3⟩:=D.ent p hm
  have hne:p.1≠i:=fun e => by rw [e,hi] at p1; cases p1
  exact ⟨D.low _ ((D.known _).2 (.inl p1)),p1,by simp [hne,p2],VR.mono hp _ _ p3⟩
 have hact:∀ e ∈ i::acts,∃ q ∈ ((i,u)::xv),q.1=e:=fun e hm => by
  rcases List.mem_cons.1 hm with rfl | hm
  ·exact ⟨(e,u),by simp,rfl⟩
  ·obtain ⟨q,q1,q2⟩:=(D.act e hm).2
   exact ⟨q,by simp [q1],q2⟩
 refine ⟨D.bp.trans hp,hl,hr,D.e0.mono hp,er_set Le.rfl' he (get_act hu) hv,fun j hj => ?_,fun j => ?_,fun p hm => ?_,fun e hm => ⟨?_,hact e hm⟩,recheck hc hdst hr (D.e0.mono hp) he hent hact hchk,fun s hs => ?_,D.nd,D.ng,D.ne⟩
 ·rw [za5 hu,Bool.or_eq_true] at hj
  rcases hj with hj | hj
  ·exact D.low j hj
  ·rw [← zaa.1 hj]; exact (List.getElem?_eq_some_iff.1 ho).1
 ·rw [za5 hu,Bool.or_eq_true,D.known j,zaU,Bool.or_eq_true]
  constructor
  ·rintro ((h | h) | h)
   ·exact .inl (.inl h)
   ·exact .inr h
   ·exact .inl (.inr h)
  ·rintro ((h | h) | h)
   ·exact .inl (.inl h)
   ·exact .inr h
   ·exact .inl (.inr h)
 ·obtain ⟨_,p1,p2,p3⟩:=hent p hm
  have hne:p.1≠i:=fun e => by rw [e,hi] at p1; cases p1
  refine ⟨za2 _ p1,p2,?_⟩
  show VR B1 (Tr.get .undef (Tr.set .undef lv val i) p.1) p.2
  rw [zcB hne]; exact p3
 ·rcases List.mem_cons.1 hm with rfl | hm
  ·rw [zaU]; simp
  ·exact za2 _ (D.act e hm).1
 ·obtain ⟨o',u',s1,s2,s3,s4,s5,⟨q,q1,q2⟩,s7⟩:=D.ear s hs
  have hne:s.e≠i:=hS s hs
  refine ⟨o',u',s1,s2,by rw [zaU,s3,zau (Ne.symm hne)]; rfl,zc7 za2 s4,by rw [zdu hne]; exact s5,⟨q,by simp [q1],q2⟩,?_⟩
  rw [zev s4 hi]; exact ⟨s7.1.mono hp,s7.2⟩
theorem DS.joined (hc:CxOk X.P X.w0 X.base cx) (hdst:∀ (i:Nat) (o:Oper),os[i]? = some o→dstOk X.n o.dst=true) {s:Ear}{S1 S2:List Ear}(D:DS X cx os f0 E0 G B0 kn acts val nx h B H pv xv (S1++s::S2)) {o:Oper}(ho:os[s.e]? = some o) {lv:LV}{nx1:Nat}{h1:LH}(hq:(opM cx o.op).go (lookA os (gF f0) val s.e (readsOf os o)) nx h = .ok lv nx1 h1)
  (hchk:chksE cx os (gF f0) h1 val (toChk os kn (s.e::acts) os 0)=true):∃ B1,DS X cx os f0 E0 G B0 (addK kn s.e) (s.e::acts) (Tr.set .undef lv val s.e) nx1 h1 B1 H pv xv (S1++S2):=by
 obtain ⟨o',u,s1,s2,hi,s4,s5,s6,s7,_⟩:=D.ear s (by simp)
 rw [ho] at s1; cases s1
 obtain ⟨rfl,k,lo,k1,rfl,k3⟩:=s7 _ _ _ _ _ hq
 obtain ⟨k4,k5⟩:=k3 B (List.prefix_refl _) D.len
 have hp:B <+: B++[k]:=List.prefix_append _ _
 have hne0:∀ s' ∈ S1++S2,s'.e≠s.e:=by
  intro s' hs' e
  have hd:=D.ne
  rw [List.map_append,List.map_cons] at hd
  have hd:=List.nodup_append.1 hd
  have hd2:=List.nodup_cons.1 hd.2.1
  rcases List.mem_append.1 hs' with hm | hm
  ·exact hd.2.2 _ (List.mem_map.2 ⟨s',hm,rfl⟩) _ (by simp) e
  ·exact hd2.1 (e ▸ List.mem_map.2 ⟨s',hm,rfl⟩)
 have hnb:∀ s' ∈ S1++S2,s'.b≠s.b:=by
  intro s' hs' e
  have hd:=D.nd
  rw [List.map_append,List.map_cons] at hd
  have hd:=List.nodup_append.1 hd
  have hd2:=List.nodup_cons.1 hd.2.1
  rcases List.mem_append.1 hs' with hm | hm
  ·exact hd.2.2 _ (List.mem_map.2 ⟨s',hm,rfl⟩) _ (by simp) e
  ·exact hd2.1 (e ▸ List.mem_map.2 ⟨s',hm,rfl⟩)
 have sub:∀ s' ∈ S1++S2,s' ∈ S1++s::S2:=fun s' hs' => by
  rcases List.mem_append.1 hs' with hm | hm
  ·simp [hm]
  ·simp [hm]
 have hr:HR (geOf (S1++S2)++G) (B++[k]) (Tr.set .gone lo h nx) H:=by
  have h0:=D.hr
  have e1:geOf (S1++s::S2)++G=geOf S1++(s.b,s.obj)::(geOf S2++G):=by simp [geOf]
  have e2:geOf (S1++S2)++G=geOf S1++(geOf S2++G):=by simp [geOf]
  rw [e1] at h0
  rw [e2]
  refine h0.join D.len (g:=(s.b,s.obj)) k1 k4 fun g' hg' => ?_
  rw [← List.append_assoc] at hg'
  rcases List.mem_append.1 hg' with hg' | hg'
  ·have:g' ∈ geOf (S1++S2):=by simpa [geOf] using hg'
   obtain ⟨s',hs',rfl⟩:=List.mem_map.1 this
   exact hnb s' hs'
  ·intro e
   have e:g'.1=s.b:=e
   exact D.ng s (by simp) (e ▸ List.mem_map.2 ⟨g',hg',rfl⟩)
 have he:ER (B++[k]) (gF val) (pv++xv):=fun t ht => by
  obtain ⟨w,w1,w2⟩:=D.er t ht
  exact ⟨w,w1,VR.mono hp _ _ w2⟩
 have hent:∀ p ∈ pv,p.1 < os.length∧knows kn p.1=true∧p.1 ∉ s.e::acts∧VR (B++[k]) (gF val p.1) p.2:=fun p hm => by
  obtain ⟨p1,p2,p3⟩:=D.ent p hm
  have hne:p.1≠s.e:=fun e => by rw [e,hi] at p1; cases p1
  exact ⟨D.low _ ((D.known _).2 (.inl p1)),p1,by simp [hne,p2],VR.mono hp _ _ p3⟩
 have hact:∀ e ∈ s.e::acts,∃ q ∈ xv,q.1=e:=fun e hm => by
  rcases List.mem_cons.1 hm with rfl | hm
  ·exact s6
  ·exact (D.act e hm).2
 refine ⟨B++[k],D.bp.trans hp,by simp [D.len],hr,D.e0.mono hp,er_set Le.rfl' he s5 k5,D.low,fun j => ?_,fun p hm => ?_,fun e hm => ⟨?_,hact e hm⟩,recheck hc hdst hr (D.e0.mono hp) he hent hact hchk,fun s' hs => ?_,?_,fun s' hs => D.ng s' (sub s' hs),?_⟩
 ·rw [D.known j,zaU,Bool.or_eq_true]
  constructor
  ·rintro (h | ⟨s',h,rfl⟩)
   ·exact .inl (.inl h)
   ·rcases List.mem_append.1 h with h | h
    ·exact .inr ⟨s',by simp [h],rfl⟩
    ·rcases List.mem_cons.1 h with rfl | h
     ·exact .inl (.inr (by simp))
     ·exact .inr ⟨s',by simp [h],rfl⟩
  ·rintro ((h | h) | ⟨s',h,rfl⟩)
   ·exact .inl h
   ·exact .inr ⟨s,by simp,zaa.1 h⟩
   ·exact .inr ⟨s',sub s' h,rfl⟩
 ·obtain ⟨_,p1,p2,p3⟩:=hent p hm
  have hne:p.1≠s.e:=fun e => by rw [e,hi] at p1; cases p1
  refine ⟨za2 _ p1,p2,?_⟩
  show VR (B++[k]) (Tr.get .undef (Tr.set .undef lv val s.e) p.1) p.2
  rw [zcB hne]; exact p3
 ·rcases List.mem_cons.1 hm with rfl | hm
  ·rw [zaU]; simp
  ·exact za2 _ (D.act e hm).1
 ·obtain ⟨o',u',t1,t2,t3,t4,t5,t6,t7⟩:=D.ear s' (sub s' hs)
  have hne:s'.e≠s.e:=hne0 s' hs
  refine ⟨o',u',t1,t2,by rw [zaU,t3,zau (Ne.symm hne)]; rfl,zc7 za2 t4,t5,t6,?_⟩
  rw [zev t4 hi]; exact ⟨t7.1.mono hp,t7.2⟩
 ·have hd:=D.nd
  rw [List.map_append,List.map_cons] at hd
  rw [List.map_append]
  have hd:=List.nodup_append.1 hd
  exact List.nodup_append.2 ⟨hd.1,(List.nodup_cons.1 hd.2.1).2,fun a ha b hb => hd.2.2 a ha b (by simp [hb])⟩
 ·have hd:=D.ne
  rw [List.map_append,List.map_cons] at hd
  rw [List.map_append]
  have hd:=List.nodup_append.1 hd
  exact List.nodup_append.2 ⟨hd.1,(List.nodup_cons.1 hd.2.1).2,fun a ha b hb => hd.2.2 a ha b (by simp [hb])⟩
theorem DS.early (hc:CxOk X.P X.w0 X.base cx) (hdst:∀ (i:Nat) (o:Oper),os[i]? = some o→dstOk X.n o.dst=true) (D:DS X cx os f0 E0 G B0 kn acts val nx h B H pv xv S) {e:Nat}{o:Oper}(ho:os[e]? = some o) (hal:isAl o=true) (hi:knows kn e=false) (hS:∀ s ∈ S,s.e≠e) (hrd:readsC os kn (e,o)=true) {b:Nat}{obj:Obj}{u:Value}
  (hcr:CrOk cx B o.op (lookA os (gF f0) val e (readsOf os o)) b obj u) (hwt:wantE os o.guard (lookA os (gF f0) val e (readsOf os o))=some true) (hnd:(([(b,obj)]::H).flatten.map (·.1)).Nodup) (hchk:chksE cx os (gF f0) h val (toChk os kn acts os 0)=true) :
  DS X cx os f0 E0 G B0 kn acts val nx h B ([(b,obj)]::H) pv ((e,u)::xv) (⟨e,b,obj⟩::S):=by
 have hu:=D.unk hi hS
 have hle:Le (pv++xv) (pv++((e,u)::xv)):=Le.act hu
 have he:ER B (gF val) (pv++((e,u)::xv)):=fun t ht => by
  obtain ⟨w,w1,w2⟩:=D.er t ht
  exact ⟨w,hle t w w1,w2⟩
 have hr:HR (geOf (⟨e,b,obj⟩::S)++G) B h ([(b,obj)]::H):=D.hr.more (b,obj)
 have hfresh:∀ g ∈ geOf S++G,g.1≠b:=by
  intro g hg e
  have hm:=D.hr.mem_g hg
  simp only [List.flatten_cons,List.map_append,List.map_cons,List.map_nil,List.singleton_append] at hnd
  exact (List.nodup_cons.1 hnd).1 (e ▸ List.mem_map.2 ⟨g,hm,rfl⟩)
 have hact:∀ e' ∈ acts,∃ q ∈ ((e,u)::xv),q.1=e':=fun e' hm => by
  obtain ⟨q,q1,q2⟩:=(D.act e' hm).2
  exact ⟨q,by simp [q1],q2⟩
 refine ⟨D.bp,D.len,hr,D.e0,he,fun j hj => ?_,fun j => ?_,D.ent,fun e' hm => ⟨(D.act e' hm).1,hact e' hm⟩,recheck hc hdst hr D.e0 he (fun p hm => ?_) hact hchk,fun s hs => ?_,?_,fun s hs => ?_,?_⟩
 ·rw [za5 hu,Bool.or_eq_true] at hj
  rcases hj with hj | hj
  ·exact D.low j hj
  ·rw [← zaa.1 hj]; exact (List.getElem?_eq_some_iff.1 ho).1
 ·rw [za5 hu,Bool.or_eq_true,D.known j]
  constructor
  ·rintro ((h | ⟨s,h,rfl⟩) | h)
   ·exact .inl h
   ·exact .inr ⟨s,by simp [h],rfl⟩
   ·exact .inr ⟨⟨e,b,obj⟩,by simp,zaa.1 h⟩
  ·rintro (h | ⟨s,h,rfl⟩)
   ·exact .inl (.inl h)
   ·rcases List.mem_cons.1 h with rfl | h
    ·exact .inr (by simp)
    ·exact .inl (.inr ⟨s,h,rfl⟩)
 ·obtain ⟨p1,p2,p3⟩:=D.ent p hm
  exact ⟨D.low _ ((D.known _).2 (.inl p1)),p1,p2,p3⟩
 ·rcases List.mem_cons.1 hs with rfl | hs
  ·exact ⟨o,u,ho,hal,hi,hrd,get_act hu,⟨(e,u),by simp,rfl⟩,hcr,hwt⟩
  ·obtain ⟨o',u',t1,t2,t3,t4,t5,⟨q,q1,q2⟩,t7⟩:=D.ear s hs
   exact ⟨o',u',t1,t2,t3,t4,hle _ _ t5,⟨q,by simp [q1],q2⟩,t7⟩
 ·rw [List.map_cons]
  refine List.nodup_cons.2 ⟨fun hm => ?_,D.nd⟩
  obtain ⟨s,s1,s2⟩:=List.mem_map.1 hm
  exact hfresh (s.b,s.obj) (List.mem_append_left _ (List.mem_map.2 ⟨s,s1,rfl⟩)) s2
 ·rcases List.mem_cons.1 hs with rfl | hs
  ·intro hm
   obtain ⟨g,g1,g2⟩:=List.mem_map.1 hm
   exact hfresh g (List.mem_append_right _ g1) g2
  ·exact D.ng s hs
 ·rw [List.map_cons]
  refine List.nodup_cons.2 ⟨fun hm => ?_,D.ne⟩
  obtain ⟨s,s1,s2⟩:=List.mem_map.1 hm
  exact hS s s1 s2
end
end Go.Proofs.YtdncjmehhahidaaGreatDoor
namespace Go.Proofs.YtdncjmehhahidaaGreatDoor
open Go.RowKit (Below)
set_option linter.unusedVariables false
set_option linter.unusedSimpArgs false
section
variable {cx:Cx}{os:List Oper}{kn:Nat}
theorem isAl_k {o:Oper}(h:isAl o=true):opK cx o.op = .m:=by
 unfold isAl at h
 split at h
 ·rename_i h1; rw [h1]; rfl
 ·rename_i h1; rw [h1]; rfl
 ·rename_i h1; rw [h1]; rfl
 ·cases h
theorem isAl_q {o:Oper}(h:isAl o=true):isQ cx o=false:=by
 unfold isQ; rw [isAl_k h]
theorem isAl_act {o:Oper}(h:isAl o=true) (g:Nat) (run:Run) (f:SlF) (nx:Nat) (hh:LH) (c:LV→Nat→LH→Res):(actE cx g o.op).go run f nx hh c=rsR g ((opM cx o.op).go f nx hh) c:=by
 unfold actE; rw [isAl_k h]; rfl
theorem zfK {l:List (Nat×Oper)}{j:Nat}:memP l j=true↔∃ q ∈ l,q.1=j:=by
 unfold memP
 rw [List.any_eq_true]
 constructor
 ·rintro ⟨q,h1,h2⟩; exact ⟨q,h1,zaa.1 h2⟩
 ·rintro ⟨q,h1,h2⟩; exact ⟨q,h1,zaa.2 h2⟩
theorem knA_iff:∀ {l:List (Nat×Oper)}{kn j:Nat},knows (knA kn l) j=(knows kn j || memP l j)
 | [],kn,j => by simp [knA,memP]
 | p::l,kn,j => by
  rw [knA,knA_iff,zaU]
  simp only [memP,List.any_cons]
  rw [Bool.or_assoc]
theorem pickA_ok:∀ {l:List (Nat×Oper)}{m:Nat×Oper}{oth:List (Nat×Oper)},pickA l=some (m,oth)→m ∈ l∧∀ q ∈ oth,q ∈ l∧isAl q.2=true
 | [],m,oth,h => by simp [pickA] at h
 | (i,o)::r,m,oth,h => by
  unfold pickA at h
  split at h
  ·split at h
   ·rename_i hr
    cases h
    exact ⟨by simp,fun q hq => ⟨by simp [hq],List.all_eq_true.1 hr q hq⟩⟩
   ·cases h
  ·rename_i ho
   split at h
   ·cases h
    exact ⟨by simp,fun q hq => by simp at hq⟩
   ·split at h
    ·rename_i m' oth' hp
     cases h
     obtain ⟨h1,h2⟩:=pickA_ok hp
     refine ⟨by simp [h1],fun q hq => ?_⟩
     rcases List.mem_cons.1 hq with rfl | hq
     ·exact ⟨by simp,ho⟩
     ·exact ⟨by simp [(h2 q hq).1],(h2 q hq).2⟩
    ·cases h
theorem tail_at {r:List Oper}{a:Oper}{i:Nat}(hr:∀ j,(a::r)[j]? = os[i + j]?):os[i]? = some a∧∀ j,r[j]? = os[i + 1 + j]?:=by
 constructor
 ·have:=hr 0
  rw [Nat.add_zero] at this
  rw [← this]; rfl
 ·intro j
  have:=hr (j + 1)
  rw [List.getElem?_cons_succ] at this
  rw [this]; congr 1; omega
theorem zdp:∀ (r:List Oper) (i:Nat),(∀ j,r[j]? = os[i + j]?)→∀ p ∈ readyA r i kn,os[p.1]? = some p.2∧knows kn p.1=false
 | [],i,hr,p,hp => by simp [readyA] at hp
 | o::r,i,hr,p,hp => by
  obtain ⟨h0,h1⟩:=tail_at hr
  rw [readyA] at hp
  split at hp
  ·rename_i hc
   rw [Bool.and_eq_true,Bool.not_eq_true'] at hc
   rcases List.mem_cons.1 hp with rfl | hp
   ·exact ⟨h0,hc.1⟩
   ·exact zdp r (i + 1) h1 p hp
  ·exact zdp r (i + 1) h1 p hp
theorem waitC_ok {m:Nat}{oth:List (Nat×Oper)}:∀ (r:List Oper) (i:Nat),(∀ j,r[j]? = os[i + j]?)→waitC kn m oth r i=true→∀ (j:Nat) (o:Oper),i≤j→os[j]? = some o→knows kn j=true∨j=m∨memP oth j=true∨∃ d ∈ depsL o,knows (knA kn oth) d=false
 | [],i,hr,_,j,o,hij,ho => by
  have:=hr (j - i)
  rw [show i + (j - i)=j by omega,ho] at this
  simp at this
 | a::r,i,hr,hw,j,o,hij,ho => by
  obtain ⟨h0,h1⟩:=tail_at hr
  rw [waitC] at hw
  split at hw
  ·rename_i hc
   by_cases e:j=i
   ·subst e
    rw [h0] at ho; cases ho
    rw [Bool.or_eq_true,Bool.or_eq_true,Bool.or_eq_true] at hc
    rcases hc with hc | hc | hc | hc
    ·exact .inl hc
    ·exact .inr (.inl (zaa.1 hc).symm)
    ·exact .inr (.inr (.inl hc))
    ·obtain ⟨d,d1,d2⟩:=List.any_eq_true.1 hc
     exact .inr (.inr (.inr ⟨d,d1,by simpa using d2⟩))
   ·exact waitC_ok r (i + 1) h1 hw j o (by omega) ho
  ·cases hw
theorem nextP_act {oth oth' : List (Nat×Oper)}{i:Nat}{o:Oper}(h:nextP os kn oth = .act i o oth'):os[i]? = some o∧knows kn i=false∧(∀ q ∈ oth',os[q.1]? = some q.2∧knows kn q.1=false∧isAl q.2=true∧readsC os kn q=true)∧waitC kn i oth' os 0=true∧∀ q ∈ oth,q.1=i∨memP oth' q.1=true:=by
 unfold nextP at h
 split at h
 ·split at h <;> cases h
 ·rename_i i' o' oth2 hp
  split at h
  ·rename_i hc
   rw [frN_eq] at h
   cases h
   rw [Bool.and_eq_true,Bool.and_eq_true] at hc
   obtain ⟨h1,h2⟩:=pickA_ok hp
   have hr:∀ j,os[j]? = os[0 + j]?:=fun j => by rw [Nat.zero_add]
   obtain ⟨a1,a2⟩:=zdp os 0 hr _ h1
   refine ⟨a1,a2,fun q hq => ?_,hc.1,fun q hq => ?_⟩
   ·obtain ⟨b1,b2⟩:=zdp os 0 hr _ (h2 q hq).1
    exact ⟨b1,b2,(h2 q hq).2,List.all_eq_true.1 hc.2.2 q hq⟩
   ·have:=List.all_eq_true.1 hc.2.1 q hq
    rw [Bool.or_eq_true] at this
    rcases this with h | h
    ·exact .inl (zaa.1 h)
    ·exact .inr h
  ·cases h
theorem nextP_fin {oth:List (Nat×Oper)}(h:nextP os kn oth = .fin):oth=[]∧kn=Nat.pred (Nat.pow 2 os.length):=by
 unfold nextP at h
 split at h
 ·split at h
  ·rename_i h1; exact ⟨rfl,zaa.1 h1⟩
  ·cases h
 ·split at h
  ·rw [frN_eq] at h; cases h
  ·cases h
end
section
variable {X:Pt}{cx:Cx}{os:List Oper}{f0:Fr}{E0:Env}{G:List (Nat×Obj)}{B0:BB}{kn:Nat}{acts:List Nat}{val:Fr}{nx:Nat}{h:LH}{B:BB}{H:List Seg}{pv xv:Env}{S:List Ear}{v2:LV}{nx2:Nat}{h2:LH}{k:List Item}{ds:List Deferred}{g:Nat}{run:Run}
theorem zem (hc:CxOk X.P X.w0 X.base cx) (hdst:∀ (i:Nat) (o:Oper),os[i]? = some o→dstOk X.n o.dst=true) {c:Fr→Res}:∀ (r:List Oper) (i:Nat) {kn:Nat}{val:Fr}{pv:Env},(∀ j,r[j]? = os[i + j]?)→DS X cx os f0 E0 G B0 kn acts val nx h B H pv xv S →
  qsE cx os (gF f0) h Res.bad c (readyQ cx r i kn).1 val = .done v2 nx2 h2→∃ val' pv',c val' = .done v2 nx2 h2∧DS X cx os f0 E0 G B0 (readyQ cx r i kn).2 acts val' nx h B H (pv'++pv) xv S∧∀ p ∈ pv',isKnown (pv++xv) p.1=false
 | [],i,kn,val,pv,hr,D,hq => ⟨val,[],hq,D,fun p hp => by simp at hp⟩
 | o::r,i,kn,val,pv,hr,D,hq => by
  obtain ⟨h0,h1⟩:=tail_at hr
  rw [readyQ] at hq ⊢
  split at hq
  ·rename_i hcond
   simp only [hcond] at hq ⊢
   rw [Bool.and_eq_true,Bool.and_eq_true,Bool.not_eq_true'] at hcond
   obtain ⟨c1,c2,c3⟩:=hcond
   have hS:∀ s ∈ S,s.e≠i:=by
    intro s hs e
    obtain ⟨o',u,s1,s2,_⟩:=D.ear s hs
    rw [e,h0] at s1; cases s1
    rw [isAl_q s2] at c3; cases c3
   rw [qsE] at hq
   split at hq
   ·rename_i v hv
    rw [zaN] at hq
    obtain ⟨u,u1,D'⟩:=D.quiet hc hdst h0 c1 hS hv
    obtain ⟨val',pv',q1,q2,q3⟩:=zem hc hdst r (i + 1) h1 D' hq
    refine ⟨val',pv'++[(i,u)],q1,by simpa using q2,fun p hp => ?_⟩
    rcases List.mem_append.1 hp with hp | hp
    ·have:=q3 p hp
     rw [zcV,Bool.or_eq_false_iff] at this
     exact this.1
    ·have:p=(i,u):=by simpa using hp
     rw [this]; exact u1
   ·cases hq
  ·rename_i hcond
   exact zem hc hdst r (i + 1) h1 D hq
def NxtOk (X:Pt) (cx:Cx) (os:List Oper) (f0:Fr) (E0:Env) (G:List (Nat×Obj)) (B0:BB) (k:List Item) (ds:List Deferred) (v2:LV) (nx2:Nat) (h2:LH) (nxt:Nat→List Nat→List (Nat×Oper)→Fr→Nat→LH→Res):Prop :=
 ∀ kn acts oth val nx h B H pv xv S,DS X cx os f0 E0 G B0 kn acts val nx h B H pv xv S→(∀ s ∈ S,memP oth s.e=true)→nxt kn acts oth val nx h = .done v2 nx2 h2 →
  ∃ pv',(∀ p ∈ pv',isKnown (pv++xv) p.1=false)∧PhI X os k E0 ds (pv'++pv) xv H
theorem phase_go (hc:CxF X.P X.w0 X.base cx) (hs:Sim X.P X.w0 X.base run) (hdst:∀ (i:Nat) (o:Oper),os[i]? = some o→dstOk X.n o.dst=true) {nxt:Nat→List Nat→List (Nat×Oper)→Fr→Nat→LH→Res}(hn:NxtOk X cx os f0 E0 G B0 k ds v2 nx2 h2 nxt) {i:Nat}{o:Oper}{oth:List (Nat×Oper)}
  (ho:os[i]? = some o) (hi:knows kn i=false) (hoth:∀ q ∈ oth,os[q.1]? = some q.2∧knows kn q.1=false∧isAl q.2=true∧readsC os kn q=true) (hw:waitC kn i oth os 0=true) (hpre:preC cx os (gF f0) kn acts oth val nx h=true)
  (hq:actP cx g os run (gF f0) nxt kn acts val nx h i o oth = .done v2 nx2 h2) :
  ∀ (n:Nat) {H:List Seg}{xv:Env}{S:List Ear},DS X cx os f0 E0 G B0 kn acts val nx h B H pv xv S→(∀ s ∈ S,s.e=i∨memP oth s.e=true)→(oth.filter fun q => !isKnown (pv++xv) q.1).length=n →
   ∃ pv',(∀ p ∈ pv',isKnown (pv++xv) p.1=false)∧PhI X os k E0 ds (pv'++pv) xv H:=by
 intro n
 induction n using Nat.strongRecOn with
 | _ n ih =>
 intro H xv S D hS hlen
 unfold actP at hq
 by_cases hA:∃ s ∈ S,s.e=i
 ·obtain ⟨s,s1,rfl⟩:=hA
  obtain ⟨S1,S2,rfl⟩:=List.append_of_mem s1
  obtain ⟨o',u,t1,t2,t3,_,_,_,_,t8⟩:=D.ear s s1
  rw [ho] at t1; cases t1
  rw [t8] at hq
  simp only at hq
  rw [isAl_act t2] at hq
  obtain ⟨lv,nx1,h1,r1,r2⟩:=rsR_ok hq
  split at r2
  ·rename_i hchk
   rw [zaN,frN_eq] at r2
   obtain ⟨B1,D'⟩:=D.joined hc.ok hdst ho r1 hchk
   have hne:=D.ne
   rw [List.map_append,List.map_cons] at hne
   have hne:=List.nodup_append.1 hne
   have hne2:=List.nodup_cons.1 hne.2.1
   refine hn _ _ _ _ _ _ _ _ _ _ _ D' (fun s' hs' => ?_) r2
   have hmem:s' ∈ S1++s::S2:=by
    rcases List.mem_append.1 hs' with hm | hm
    ·simp [hm]
    ·simp [hm]
   rcases hS s' hmem with e | e
   ·exfalso
    rcases List.mem_append.1 hs' with hm | hm
    ·exact hne.2.2 _ (List.mem_map.2 ⟨s',hm,rfl⟩) _ (by simp) e
    ·exact hne2.1 (e ▸ List.mem_map.2 ⟨s',hm,rfl⟩)
   ·exact e
  ·cases r2
 ·have hSi:∀ s ∈ S,s.e≠i:=fun s hs e => hA ⟨s,hs,e⟩
  have hSo:∀ s ∈ S,memP oth s.e=true:=fun s hs => (hS s hs).resolve_left (hSi s hs)
  have hunk:=D.unk hi hSi
  have hE:=zd4 D.e0 D.er ho
  split at hq
  ·rename_i hwt
   obtain ⟨lv,nx1,h1,r2,hdoes⟩:=actE_ok hc hs D.hr D.len hE hq
   split at r2
   ·rename_i hchk
    rw [zaN,frN_eq] at r2
    refine ⟨[],fun p hp => by simp at hp,?_⟩
    rw [List.nil_append]
    have early:∀ e ∈ oth.filter (fun q => !isKnown (pv++xv) q.1),e.1≠i→∃ oe,os[e.1]? = some oe∧isAl oe=true∧wantE os oe.guard (lookA os (gF f0) val e.1 (readsOf os oe))=some true∧Does X (pre os E0 (pv++xv) e.1) H oe.op (fun v H' => ∃ b obj,H' = [(b,obj)]::H∧CrOk cx B oe.op (lookA os (gF f0) val e.1 (readsOf os oe)) b obj v∧(H'.flatten.map (·.1)).Nodup):=by
     intro e he hne
     obtain ⟨he1,he2⟩:=List.mem_filter.1 he
     obtain ⟨q1,q2,q3,q4⟩:=hoth e he1
     have hpre2:othC cx os (gF f0) val nx h oth=true:=by
      unfold preC at hpre
      split at hpre
      ·simp at he1
      ·rw [Bool.and_eq_true] at hpre; exact hpre.1
     have hok:=List.all_eq_true.1 hpre2 e he1
     split at hok
     ·rename_i hwt1
      split at hok
      ·rename_i lv' nx' h' hcr
       obtain ⟨obj,mk,m1,m2⟩:=creator_ok (X:=X) hc.ok (zd4 D.e0 D.er q1) q3 hcr
       refine ⟨e.2,q1,q3,hwt1,m1.nd.mono ?_⟩
       rintro v H' ⟨⟨b,rfl,rfl⟩,hnd⟩
       exact ⟨b,obj,rfl,m2 b,hnd⟩
      ·cases hok
     ·cases hok
    refine PhI.act (i::(oth.filter fun q => !isKnown (pv++xv) q.1).map (·.1))
     (fun e v H' => (e=i→MR (geOf S++G) B lv nx1 h1 v H')∧(e≠i→∃ oe b obj,os[e]? = some oe∧isAl oe=true∧H' = [(b,obj)]::H∧CrOk cx B oe.op (lookA os (gF f0) val e (readsOf os oe)) b obj v∧(H'.flatten.map (·.1)).Nodup))
     (fun e v H' pv' => (∀ p ∈ pv',isKnown (pv++((e,v)::xv)) p.1=false)∧isKnown (pv++xv) e=false∧PhI X os k E0 ds (pv'++pv) ((e,v)::xv) H')
     (zfE D.pure) (by simp) ?_ ?_ ?_ ?_ ?_
    ·refine List.all_eq_true.2 fun x hx => ?_
     rcases List.mem_cons.1 hx with rfl | hx
     ·rw [hunk]; rfl
     ·obtain ⟨q,q1,rfl⟩:=List.mem_map.1 hx
      exact (List.mem_filter.1 q1).2
    ·refine List.all_eq_true.2 fun p hp => ?_
     obtain ⟨oj,j⟩:=p
     have hj:os[j]? = some oj:=by
      obtain ⟨m,hm⟩:=List.mem_iff_getElem?.1 hp
      rw [List.getElem?_zipIdx] at hm
      cases hom:os[m]? with
      | none => rw [hom] at hm; cases hm
      | some q =>
       rw [hom] at hm
       simp at hm
       obtain ⟨rfl,rfl⟩:=hm
       exact hom
     show (isKnown (pv++xv) j || ((i::(oth.filter fun q => !isKnown (pv++xv) q.1).map (·.1)).any fun e => Nat.beq j e) || (depsL oj).any fun d => !isKnown (pv++xv) d)=true
     cases hkj:isKnown (pv++xv) j with
     | true => rfl
     | false =>
      rw [Bool.false_or,Bool.or_eq_true]
      rcases waitC_ok os 0 (fun j => by rw [Nat.zero_add]) hw j oj (Nat.zero_le _) hj with c | c | c | ⟨d,d1,d2⟩
      ·rw [(D.known j).2 (.inl c)] at hkj; cases hkj
      ·left; rw [c]; simp
      ·left
       obtain ⟨q,q1,rfl⟩:=zfK.1 c
       exact List.any_eq_true.2 ⟨q.1,List.mem_cons_of_mem _ (List.mem_map.2 ⟨q,List.mem_filter.2 ⟨q1,by rw [hkj]; rfl⟩,rfl⟩),by simp⟩
      ·right
       refine List.any_eq_true.2 ⟨d,d1,?_⟩
       cases hkd:isKnown (pv++xv) d with
       | false => rfl
       | true =>
        rw [knA_iff,Bool.or_eq_false_iff] at d2
        rcases (D.known d).1 hkd with c | ⟨s,s1,rfl⟩
        ·rw [d2.1] at c; cases c
        ·rw [hSo s s1] at d2; cases d2.2
    ·intro e he
     by_cases hei:e=i
     ·subst hei
      refine ⟨o,ho,hdst _ _ ho,zdY hE hwt,hdoes.mono fun v H' hm => ⟨fun _ => hm,fun hne => absurd rfl hne⟩,?_⟩
      rintro v H' ⟨hm,_⟩
      obtain ⟨B1,b1,b2,b3,b4⟩:=hm rfl
      have D':=D.acted hc.ok hdst ho hi hSi b1 b2 b3 b4 hchk
      obtain ⟨pv',f1,f2⟩:=hn _ _ _ _ _ _ _ _ _ _ _ D' hSo r2
      exact ⟨pv',f1,hunk,f2⟩
     ·have he:e ∈ (oth.filter fun q => !isKnown (pv++xv) q.1).map (·.1):=by
       rcases List.mem_cons.1 he with h | h
       ·exact absurd h hei
       ·exact h
      obtain ⟨q,q0,rfl⟩:=List.mem_map.1 he
      obtain ⟨oe,e1,e2,e4,e3⟩:=early q q0 hei
      obtain ⟨q1,q2⟩:=List.mem_filter.1 q0
      rw [Bool.not_eq_true'] at q2
      obtain ⟨t1,t2,t3,t4⟩:=hoth q q1
      rw [e1] at t1; cases t1
      refine ⟨q.2,e1,hdst _ _ e1,zdY (zd4 D.e0 D.er e1) e4,e3.mono ?_,?_⟩
      ·rintro v H' ⟨b,obj,x1,x2,x3⟩
       exact ⟨fun h => absurd h hei,fun _ => ⟨q.2,b,obj,e1,e2,x1,x2,x3⟩⟩
      ·rintro v H' ⟨_,hm⟩
       obtain ⟨oe',b,obj,x1,x2,rfl,x4,x5⟩:=hm hei
       rw [e1] at x1; cases x1
       have hSq:∀ s ∈ S,s.e≠q.1:=fun s hs hse => by
        rw [(D.known q.1).2 (.inr ⟨s,hs,hse⟩)] at q2; cases q2
       have hchk0:chksE cx os (gF f0) h val (toChk os kn acts os 0)=true:=by
        unfold preC at hpre
        split at hpre
        ·simp at q1
        ·rw [Bool.and_eq_true] at hpre; exact hpre.2
       have D':=D.early hc.ok hdst e1 e2 t2 hSq t4 x4 e4 x5 hchk0
       have hlt:(oth.filter fun p => !isKnown (pv++((q.1,v)::xv)) p.1).length < n:=by
        rw [← hlen]
        have key:∀ (l:List (Nat×Oper)),q ∈ l→(l.filter fun p => !isKnown (pv++((q.1,v)::xv)) p.1).length < (l.filter fun p => !isKnown (pv++xv) p.1).length:=by
         have le:∀ (l:List (Nat×Oper)),(l.filter fun p => !isKnown (pv++((q.1,v)::xv)) p.1).length≤(l.filter fun p => !isKnown (pv++xv) p.1).length:=by
          intro l
          induction l with
          | nil => simp
          | cons a l ihl =>
           simp only [List.filter_cons,za5 q2]
           cases hka:isKnown (pv++xv) a.1 <;> cases hqa:Nat.beq q.1 a.1 <;> simp [za5 q2] at ihl ⊢ <;> omega
         intro l
         induction l with
         | nil => intro h; simp at h
         | cons a l ihl =>
          intro hm
          rcases List.mem_cons.1 hm with rfl | hm
          ·simp only [List.filter_cons,za5 q2,q2]
           have:=le l
           simp [za5 q2] at this ⊢
           omega
          ·have:=ihl hm
           simp only [List.filter_cons,za5 q2] at this ⊢
           cases hka:isKnown (pv++xv) a.1 <;> cases hqa:Nat.beq q.1 a.1 <;> simp at this ⊢ <;> omega
        exact key oth q1
       obtain ⟨pv',f1,f2⟩:=ih _ hlt D' (fun s hs => by
        rcases List.mem_cons.1 hs with rfl | hs
        ·exact .inr (zfK.2 ⟨q,q1,rfl⟩)
        ·exact .inr (hSo s hs)) rfl
       exact ⟨pv',f1,q2,f2⟩
    ·rintro e he v H' pv' ⟨f1,f0',f2⟩
     refine List.all_eq_true.2 fun p hp => ?_
     have:=f1 p hp
     rw [za5 f0',Bool.or_eq_false_iff] at this
     rw [this.1]
     have h2:Nat.beq p.1 e=false:=by
      have h3:=this.2
      cases hb:Nat.beq p.1 e with
      | false => rfl
      | true => rw [zaa.1 hb] at h3; simp at h3
     rw [h2]; rfl
    ·rintro e he v H' pv' ⟨f1,f0',f2⟩
     exact f2
   ·cases r2
  ·rename_i hwt
   rw [zaN,frN_eq] at hq
   have hqt:quietE cx os (gF f0) val i o h = .ok (.tup []):=by
    unfold quietE; rw [hwt]
   obtain ⟨u,u1,D'⟩:=D.quiet hc.ok hdst ho hi hSi hqt
   obtain ⟨pv',f1,f2⟩:=hn _ _ _ _ _ _ _ _ _ _ _ D' hSo hq
   refine ⟨pv'++[(i,u)],fun p hp => ?_,by simpa using f2⟩
   rcases List.mem_append.1 hp with hp | hp
   ·have:=f1 p hp
    rw [zcV,Bool.or_eq_false_iff] at this
    exact this.1
   ·have:p=(i,u):=by simpa using hp
    rw [this]; exact u1
  ·cases hq
theorem phases_go (hc:CxF X.P X.w0 X.base cx) (hs:Sim X.P X.w0 X.base run) (hdst:∀ (i:Nat) (o:Oper),os[i]? = some o→dstOk X.n o.dst=true) {c:Fr→Nat→LH→Res}
  (hfin:∀ {kn acts val nx h B H pv xv},DS X cx os f0 E0 G B0 kn acts val nx h B H pv xv []→c val nx h = .done v2 nx2 h2→At X k (finE os 0 (pv++xv) E0) ds H):∀ n,NxtOk X cx os f0 E0 G B0 k ds v2 nx2 h2 (phasesE cx g os run (gF f0) c n)
 | 0 => fun _ _ _ _ _ _ _ _ _ _ _ D hS hq => by cases hq
 | n + 1 => fun kn0 acts oth val nx h B H pv xv S D hS hq => by
  have hq:frN (fun kn => qsE cx os (gF f0) h Res.bad (stepP cx g os run (gF f0) c (phasesE cx g os run (gF f0) c n) kn acts oth nx h) (readyQ cx os 0 kn0).1 val) (readyQ cx os 0 kn0).2 = .done v2 nx2 h2:=hq
  rw [frN_eq] at hq
  obtain ⟨val',pv',q1,D',q3⟩:=zem hc.ok hdst os 0 (fun j => by rw [Nat.zero_add]) D hq
  have add:(∃ pv2,(∀ p ∈ pv2,isKnown (pv'++pv++xv) p.1=false)∧PhI X os k E0 ds (pv2++(pv'++pv)) xv H)→∃ pv2,(∀ p ∈ pv2,isKnown (pv++xv) p.1=false)∧PhI X os k E0 ds (pv2++pv) xv H:=by
   rintro ⟨pv2,f1,f2⟩
   refine ⟨pv2++pv',fun p hp => ?_,by rw [List.append_assoc]; exact f2⟩
   rcases List.mem_append.1 hp with hp | hp
   ·have h1:=f1 p hp
    cases hb:isKnown (pv++xv) p.1 with
    | false => rfl
    | true =>
     obtain ⟨v,hv⟩:=zby.1 hb
     have:isKnown (pv'++pv++xv) p.1=true:=by
      unfold isKnown
      rw [List.append_assoc,zav]
      cases Env.get pv' p.1 with
      | some u => rfl
      | none => simp only [hv]; rfl
     rw [this] at h1; cases h1
   ·exact q3 p hp
  unfold stepP at q1
  split at q1
  ·cases q1
  ·rename_i hnx
   obtain ⟨rfl,hk⟩:=nextP_fin hnx
   have hS0:S=[]:=by
    cases S with
    | nil => rfl
    | cons s S => have:=hS s (by simp); simp [memP] at this
   subst hS0
   refine ⟨pv',q3,PhI.fin (zfE D'.pure) ?_ (hfin D' q1)⟩
   refine List.all_eq_true.2 fun p hp => ?_
   obtain ⟨oj,j⟩:=p
   have hj:j < os.length:=by
    obtain ⟨m,hm⟩:=List.mem_iff_getElem?.1 hp
    rw [List.getElem?_zipIdx] at hm
    cases hom:os[m]? with
    | none => rw [hom] at hm; cases hm
    | some q =>
     rw [hom] at hm
     simp at hm
     obtain ⟨rfl,rfl⟩:=hm
     exact (List.getElem?_eq_some_iff.1 hom).1
   exact (D'.known j).2 (.inl (by rw [hk,knows_all]; exact decide_eq_true hj))
  ·rename_i i o oth' hnx
   obtain ⟨n1,n2,n3,n4,n5⟩:=nextP_act hnx
   split at q1
   ·rename_i hpre
    refine add (phase_go hc hs hdst (phases_go hc hs hdst hfin n) n1 n2 n3 n4 hpre q1 _ D' (fun s hs' => ?_) rfl)
    obtain ⟨q,q4,q5⟩:=zfK.1 (hS s hs')
    have:=n5 q q4
    rw [q5] at this
    exact this
   ·cases q1
end
end Go.Proofs.YtdncjmehhahidaaGreatDoor
namespace Go.Proofs.YtdncjmehhahidaaGreatDoor
open Go.RowKit (Below)
set_option linter.unusedVariables false
set_option linter.unusedSimpArgs false
noncomputable def finS:List Oper→Nat→Fr→Fr→Fr
  | [],_,_,f => f
  | o::r,i,val,f => finS r (i + 1) val (pS o.dst (gF val i) f)
theorem finF_eq {β:Type}(c:Fr→β):∀ (os:List Oper) (i:Nat) (val f:Fr),finF c os i val f=c (finS os i val f)
 | [],i,val,f => rfl
 | o::r,i,val,f => by rw [finF,pF_eq,finF_eq c r]; rfl
theorem finS_er {B:BB}{val:Fr}{V:Env}(hv:ER B (gF val) V):∀ (os:List Oper) (i:Nat) {f:Fr}{E:Env},ER B (gF f) E→ER B (gF (finS os i val f)) (finE os i V E)
 | [],i,f,E,h => h
 | o::r,i,f,E,h => by
  rw [finS,finE]
  refine finS_er hv r (i + 1) ?_
  cases hd:o.dst with
  | none => exact h
  | some d =>
   intro t ht
   have hpS:gF (pS (some d) (gF val i) f) t=if t=d then gF val i else gF f t:=zb2 _ _ _ _ _
   rw [hpS] at ht ⊢
   by_cases e:t=d
   ·subst e
    rw [if_pos rfl] at ht ⊢
    obtain ⟨u,u1,u2⟩:=hv i ht
    rw [u1]
    exact ⟨u,by simp [Env.get],u2⟩
   ·rw [if_neg e] at ht ⊢
    obtain ⟨u,u1,u2⟩:=h t ht
    refine ⟨u,?_,u2⟩
    split
    ·rename_i d' v' e1 e2
     cases e1
     simp only [Env.get,zau (Ne.symm e)]; exact u1
    ·exact u1
theorem zfi {n:Nat}{val:Fr}:∀ (os:List Oper) (i:Nat) {f:Fr},(∀ o ∈ os,∀ t,o.dst=some t→t < n)→(∀ t,gF f t≠.undef→t < n)→∀ t,gF (finS os i val f) t≠.undef→t < n
 | [],i,f,hd,hf => hf
 | o::r,i,f,hd,hf => by
  rw [finS]
  refine zfi r (i + 1) (fun o' ho' => hd o' (by simp [ho'])) fun t ht => ?_
  cases hdo:o.dst with
  | none => rw [hdo] at ht; exact hf t ht
  | some d =>
   have hpS:gF (pS (some d) (gF val i) f) t=if t=d then gF val i else gF f t:=zb2 _ _ _ _ _
   rw [hdo,hpS] at ht
   by_cases e:t=d
   ·subst e; exact hd o (by simp) t hdo
   ·rw [if_neg e] at ht; exact hf t ht
section
variable {P:Program}{w0:World}{base:Nat}{cx:Cx}{ih:Run}
theorem draw_ok (hc:CxF P w0 base cx) (hs:Sim P w0 base ih):DrawOk P w0 base cx ih:=by
 intro G B s f c a ds cs rcs nx h H w cs0 ops k todo id hb hok hT hDp hk hcs M hne v2 nx2 h2 hq
 have hok' : okOps a.size ops.toList=true:=hok
 have hdst:∀ (i:Nat) (o:Oper),ops.toList[i]? = some o→dstOk a.size o.dst=true:=by
  intro i o ho
  have:=List.all_eq_true.1 hok' o (List.mem_of_getElem? ho)
  rw [Bool.and_eq_true] at this
  cases hd:o.dst with
  | none => rfl
  | some d => rw [hd] at this; exact this.1
 have hrd:(ops.toList.all fun o => (readsOf ops.toList o).all fun t => Nat.blt t a.size)=true:=by
  refine List.all_eq_true.2 fun o ho => ?_
  have:=List.all_eq_true.1 hok' o ho
  rw [Bool.and_eq_true] at this
  exact this.2
 have hn:=phases_go (X:=⟨P,c,a.size,rcs++cs0,Fin G P w0 base B v2 nx2 h2 (botP (s.g,s.rd.isSome) cs) cs0,w0,base⟩) (os:=ops.toList) (f0:=f) (E0:=fullE a) (G:=G) (B0:=B) (g:=s.g) (run:=ih) (k:=todo) (ds:=ds) (v2:=v2) (nx2:=nx2) (h2:=h2) (c:=fun val nx h => finF (fun f => ih (.run s f k) cs nx h) ops.toList 0 val f) hc hs hdst (by
  intro kn acts val nx' h' B' H' pv xv D hq' a' w' ha S'
  have hq' : finF (fun f => ih (.run s f k) cs nx' h') ops.toList 0 val f = .done v2 nx2 h2:=hq'
  rw [finF_eq] at hq'
  have her:=finS_er (f:=f) (E:=fullE a) D.er ops.toList 0 D.e0
  have hb' : FB B' s (finS ops.toList 0 val f) c a' ds:=by
   refine ⟨hb.fn,hb.kind,hb.rd.mono D.bp,fun t => ?_,fun t ht => ?_,ADL.mono D.bp hb.ds⟩
   ·by_cases e:gF (finS ops.toList 0 val f) t = .undef
    ·have e:Tr.get .undef (finS ops.toList 0 val f) t = .undef:=e
     rw [e]; simp only [VR]
    ·obtain ⟨u,u1,u2⟩:=her t e
     rw [ha.get t u u1]; exact u2
   ·rw [ha.size]
    exact zfi ops.toList 0 (fun o ho => zer hok' ho) hb.bound t ht
  have hsz:a'.size=a.size:=ha.size
  have hgo:=Goes.run hs hb' (by rw [hsz]; exact hk.mono D.bp) (hcs.mono D.bp) ⟨D.len,D.hr,S'⟩ hne v2 nx2 h2 hq'
  exact hgo.into fun m hm => hm.mono D.bp) 60
 obtain ⟨pv',_,hPh⟩:=hn 0 [] [] .e nx h B H [] [] [] ⟨List.prefix_refl _,M.len,M.hr,hb.er,fun t ht => absurd (e_get t) ht,fun i hi => by simp [isKnown,Env.get] at hi,fun i => by simp [isKnown,Env.get,knows],fun p hp => by simp at hp,fun e he => by simp at he,fun p hp => by simp at hp,fun s hs => by simp at hs,by simp,fun s hs => by simp at hs,by simp⟩ (fun s hs => by simp at hs) hq
 exact At.drawI hc.mo hT hDp hrd hPh a w ⟨rfl,fun t v hv => zff a hv⟩ M.sep
theorem sim (hc:CxF P w0 base cx) (n:Nat):Sim P w0 base (runA cx n):=sim_all hc (fun _ hs => draw_ok hc hs) n
theorem callE_ok {G:List (Nat×Obj)}(hc:CxF P w0 base cx) {n:Nat}{g:FuncId}{args:List LV}{us:List Value}{B:BB}{H:List Seg}{nx:Nat}{h:LH}(hu:VRL B args us) (hn:B.length=nx) (hr:HR G B h H) {v:LV}{nx' : Nat}{h' : LH}(hq:callE cx n g args nx h = .done v nx' h') :
  SCalls P g us w0 base H fun u H' => ∃ B',B <+: B'∧B'.length=nx'∧VR B' v u∧HR G B' h' H':=by
 intro w S cs
 have hgo:=zbI (g:=g) (dfd:=false) (cs:=[]) (rcs:=[]) (cs0:=cs) hc (sim hc n) hu rfl ⟨hn,hr,S⟩ (fun e => by cases e) (m:=lone (Frame.enter P g us.toArray .normal) cs w) (fun _ => Steps.refl _ _)
 obtain ⟨m',st,u,B',H',w2,b1,b2,b3,b4,b5,fr,rfl,hf,hleave⟩:=hgo _ _ _ hq
 exact ⟨.returned u,w2,fr,⟨u,H',rfl,⟨B',b1,b2,b3,b4⟩,b5⟩,st,hf,hleave⟩
theorem callE_bool (hc:CxF P w0 base cx) {n:Nat}{g:FuncId}{b:Bool}(hq:∃ nx' h',callE cx n g [] 0 .e = .done (.bool b) nx' h'):SCalls P g [] w0 base [] fun u _ => u = .bool b:=by
 obtain ⟨nx',h',hq⟩:=hq
 refine (callE_ok (G:=[]) hc (B:=[]) (H:=[]) (us:=[]) VRL.nil_ rfl ⟨fun i => i,fun i hi => ?_,fun i i' hi hi' e => e,fun g hg => by simp at hg⟩ hq).mono ?_
 ·have:atB .e i = .gone:=get_e _ _
  rw [this] at hi; cases hi
 ·rintro u H' ⟨B',_,_,h1,_⟩
  simpa only [VR] using h1
end
end Go.Proofs.YtdncjmehhahidaaGreatDoor
namespace Go.Proofs.YtdncjmehhahidaaGreatDoor
open Go.RowKit (Below)
set_option linter.unusedVariables false
set_option linter.unusedSimpArgs false
def PrOk (P:Program) (w0:World) (base:Nat) (g:FuncId) (p:List LV→Nat→LH→Rs):Prop :=
 ∀ (G:List (Nat×Obj)) args nx h lv nx' h' B H us,p args nx h = .ok lv nx' h'→VRL B args us→B.length=nx→HR G B h H→PrR P w0 base g us H (MR G B lv nx' h')
def bitsE (args:List LV) (nx:Nat) (h:LH):Rs:=match args with
 | [.flt .f64 n] => .ok (.int .u64 (.ofNat n)) nx h
 | [.nan] => .ok .nanb nx h
 | _ => .bad 440
def fromE (args:List LV) (nx:Nat) (h:LH):Rs:=match args with
 | [.int .u64 (.ofNat n)] => .ok (.flt .f64 n) nx h
 | [.nanb] => .ok .nan nx h
 | _ => .bad 441
section
variable {P:Program}{w0:World}{base:Nat}{g:FuncId}
theorem ze8 {B:BB}{a:LV}{us:List Value}(h:VRL B [a] us):∃ u,us=[u]∧VR B a u:=by
 simp only [VRL] at h
 obtain ⟨b,m,rfl,h1,rfl⟩:=h
 exact ⟨b,rfl,h1⟩
theorem bits_pr (hr:∀ b w,(callFunc g #[.float .f64 b]).run P w = .ok (.value (.int .u64 (b:Nat))) w):PrOk P w0 base g bitsE:=by
 intro G args nx h lv nx' h' B H us hq hu hn hH
 refine .inl fun w S => ?_
 unfold bitsE at hq
 split at hq
 ·cases hq
  obtain ⟨u,rfl,h1⟩:=ze8 hu
  simp only [VR] at h1; subst h1
  exact ⟨_,w,H,hr _ w,S,B,List.prefix_refl _,hn,by simp only [VR]; rfl,hH⟩
 ·cases hq
  obtain ⟨u,rfl,h1⟩:=ze8 hu
  simp only [VR] at h1
  obtain ⟨n,rfl,h2⟩:=h1
  exact ⟨_,w,H,hr _ w,S,B,List.prefix_refl _,hn,by simp only [VR]; exact ⟨n,rfl,h2⟩,hH⟩
 ·cases hq
theorem from_pr (hr:∀ (b:Int) w,(callFunc g #[.int .u64 b]).run P w = .ok (.value (.float .f64 b.toNat)) w):PrOk P w0 base g fromE:=by
 intro G args nx h lv nx' h' B H us hq hu hn hH
 refine .inl fun w S => ?_
 unfold fromE at hq
 split at hq
 ·cases hq
  obtain ⟨u,rfl,h1⟩:=ze8 hu
  simp only [VR] at h1; subst h1
  exact ⟨_,w,H,hr _ w,S,B,List.prefix_refl _,hn,by simp only [VR]; rfl,hH⟩
 ·cases hq
  obtain ⟨u,rfl,h1⟩:=ze8 hu
  simp only [VR] at h1
  obtain ⟨n,rfl,h2⟩:=h1
  exact ⟨_,w,H,hr _ w,S,B,List.prefix_refl _,hn,by simp only [VR]; exact ⟨n,rfl,h2⟩,hH⟩
 ·cases hq
end
noncomputable section
def fnTree (P:Program):Tr (Option Func):=mkTr 12 (P.funcs.toList.map some)
def tyTree (P:Program) (n:Nat):Tr TI:=mkTr 12 ((List.range n).map (mkTI P))
def fnAt (t:Tr (Option Func)) (g:FuncId):Option Func:=match Tr.get none t g with
 | some f => match f.body with
  | some _ => some f
  | none => none
 | none => none
def okBody (f:Func):Bool:=match f.body with
 | none => true
 | some _ => okFn f
def cxOf (P:Program) (n:Nat) (pr:FuncId→Option (List LV→Nat→LH→Rs)) (gl:Nat→Nat→Option LV):Cx :=
 { ty:=fun t => Tr.get default (tyTree P n) t,fn:=fnAt (fnTree P),pr:=pr,gl:=gl,mt:=mtOf P }
end
theorem fn_ok {P:Program}(hn:P.funcs.size < 4096) (hall:P.funcs.toList.all okBody=true) (g:FuncId) (f:Func) (h:fnAt (fnTree P) g=some f):P.funcs[g]? = some f∧okFn f=true:=by
 unfold fnAt fnTree at h
 rw [mkTr_at none 12 _ g (by simpa using hn)] at h
 simp only [List.getElem?_map] at h
 cases hg:P.funcs.toList[g]? with
 | none => rw [hg] at h; cases h
 | some f' =>
  rw [hg] at h
  simp only [Option.map_some,Option.getD_some] at h
  cases hb:f'.body with
  | none => rw [hb] at h; cases h
  | some c =>
   rw [hb] at h
   cases h
   refine ⟨by rw [← Array.getElem?_toList]; exact hg,?_⟩
   have:=List.all_eq_true.1 hall f (List.mem_of_getElem? hg)
   unfold okBody at this
   rw [hb] at this
   exact this
theorem ty_ok {P:Program}{n:Nat}(hn:n < 4096) (hs:P.types.size≤n):(fun t => Tr.get default (tyTree P n) t)=mkTI P:=by
 funext t
 unfold tyTree
 rw [mkTr_at default 12 _ t (by simpa using hn),List.getElem?_map]
 by_cases h:t < n
 ·rw [List.getElem?_range h]; rfl
 ·rw [List.getElem?_eq_none (by simpa using h)]
  symm
  refine zce ?_
  unfold known
  have:Nat.blt t P.types.size=false:=by rw [blt_dec]; exact decide_eq_false (by omega)
  rw [this]; rfl
theorem cx_ok {P:Program}{w0:World}{base n:Nat}{pr:FuncId→Option (List LV→Nat→LH→Rs)}{gl:Nat→Nat→Option LV}(hn:n < 4096) (hs:P.types.size≤n) (hf:P.funcs.size < 4096) (hall:P.funcs.toList.all okBody=true) (hmo:P.follows .mixedOrders=true)
  (hpr:∀ g p,pr g=some p→PrOk P w0 base g p) (hgl:∀ g o v,gl g o=some v→∃ u,VR [] v u∧∀ w,Below base w0 w→w.cell? ⟨g,o,none⟩=some u):CxF P w0 base (cxOf P n pr gl) :=
 ⟨⟨ty_ok hn hs,hgl⟩,fun g f h => fn_ok hf hall g f h,rfl,fun G g p h => hpr g p h G,hmo⟩
def isT (r:Res):Bool:=match r with
 | .done (.bool b) _ _ => b
 | _ => false
theorem callE_true {P:Program}{w0:World}{base:Nat}{cx:Cx}(hc:CxF P w0 base cx) {n:Nat}{g:FuncId}(hq:isT (callE cx n g [] 0 .e)=true):SCalls P g [] w0 base [] fun u _ => u = .bool true:=by
 unfold isT at hq
 split at hq
 ·rename_i b nx h e
  subst hq
  exact callE_bool hc ⟨_,_,e⟩
 ·cases hq
end Go.Proofs.YtdncjmehhahidaaGreatDoor
namespace Go.Proofs.YtdncjmehhahidaaGreatDoor
open Go.RowKit (Below)
set_option linter.unusedVariables false
set_option linter.unusedSimpArgs false
noncomputable section
def eqV:Nat→LV→LV→Bool
 | 0,_,_ => false
 | f + 1,a,b => match a,b with
  | .undef,.undef => true
  | .bool a,.bool b => a == b
  | .flt .f64 a,.flt .f64 b => Nat.beq a b
  | .nan,.nan => true
  | .nanb,.nanb => true
  | .int k a,.int k' b => Nat.beq (kN k) (kN k') && eqI a b
  | .str l a,.str m b => eqS l a m b
  | .nilp,.nilp => true
  | .ptr i o,.ptr j p => Nat.beq i j && Nat.beq o p
  | .gptr i o,.gptr j p => Nat.beq i j && Nat.beq o p
  | .nils,.nils => true
  | .sl i o n c,.sl i' o' n' c' => Nat.beq i i' && (Nat.beq o o' && (Nat.beq n n' && Nat.beq c c'))
  | .slo i o n a,.slo i' o' n' a' => Nat.beq i i' && (Nat.beq o o' && (Nat.beq n n' && Nat.beq a a'))
  | .map0,.map0 => true
  | .map i,.map j => Nat.beq i j
  | .fn g u c,.fn g' u' c' => Nat.beq g g' && (sameL (eqV f) u u' && sameL (eqV f) c c')
  | .nilf,.nilf => true
  | .ifc t a,.ifc u b => Nat.beq t u && eqV f a b
  | .nili,.nili => true
  | .agg l,.agg m => sameL (eqV f) l m
  | .tup l,.tup m => sameL (eqV f) l m
  | _,_ => false
theorem zcS {f:LV→LV→Bool}(hf:∀ a b,f a b=true→a=b):∀ (l m:List LV),sameL f l m=true→l=m
 | [],[],_ => rfl
 | [],b::m,h => by simp [sameL] at h
 | a::l,[],h => by simp [sameL] at h
 | a::l,b::m,h => by
  simp only [sameL] at h
  split at h
  ·rename_i hab; rw [hf a b hab,zcS hf l m h]
  ·cases h
theorem eqV_eq:∀ (n:Nat) (a b:LV),eqV n a b=true→a=b
 | 0,a,b,h => by simp [eqV] at h
 | n + 1,a,b,h => by
  have ih:=eqV_eq n
  unfold eqV at h
  split at h
  ·rfl
  ·rw [beq_iff_eq.1 h]
  ·rw [zaa.1 h]
  ·rfl
  ·rfl
  ·rw [Bool.and_eq_true,zcG] at h
   rw [kN_inj h.1,of_decide_eq_true h.2]
  ·unfold eqS at h
   rw [Bool.and_eq_true] at h
   rw [zaa.1 h.1,zaa.1 h.2]
  ·rfl
  ·rw [Bool.and_eq_true] at h
   rw [zaa.1 h.1,zaa.1 h.2]
  ·rw [Bool.and_eq_true] at h
   rw [zaa.1 h.1,zaa.1 h.2]
  ·rfl
  ·rw [Bool.and_eq_true,Bool.and_eq_true,Bool.and_eq_true] at h
   rw [zaa.1 h.1,zaa.1 h.2.1,zaa.1 h.2.2.1,zaa.1 h.2.2.2]
  ·rw [Bool.and_eq_true,Bool.and_eq_true,Bool.and_eq_true] at h
   rw [zaa.1 h.1,zaa.1 h.2.1,zaa.1 h.2.2.1,zaa.1 h.2.2.2]
  ·rfl
  ·rw [zaa.1 h]
  ·rw [Bool.and_eq_true,Bool.and_eq_true] at h
   rw [zaa.1 h.1,zcS ih _ _ h.2.1,zcS ih _ _ h.2.2]
  ·rfl
  ·rw [Bool.and_eq_true] at h
   rw [zaa.1 h.1,ih _ _ h.2]
  ·rfl
  ·rw [zcS ih _ _ h]
  ·rw [zcS ih _ _ h]
  ·cases h
def eqVs (l m:List LV):Bool:=sameL (eqV 20) l m
theorem eqVs_eq {l m:List LV}(h:eqVs l m=true):l=m:=zcS (eqV_eq 20) l m h
def eqRows (t t' : Tr (List LV)):Nat→Nat→Bool
 | 0,_ => true
 | r + 1,i => match eqVs (Tr.get [] t i) (Tr.get [] t' i) with
  | true => eqRows t t' r (i + 1)
  | false => false
theorem eqRows_ok {t t' : Tr (List LV)}:∀ (r i:Nat),eqRows t t' r i=true→∀ j,i≤j→j < i + r→Tr.get [] t j=Tr.get [] t' j
 | 0,i,_,j,h1,h2 => by omega
 | r + 1,i,h,j,h1,h2 => by
  rw [eqRows] at h
  split at h
  ·rename_i he
   by_cases e:j=i
   ·subst e; exact eqVs_eq he
   ·exact eqRows_ok r (i + 1) h j (by omega) (by omega)
  ·cases h
def eqNs:List Nat→List Nat→Bool
 | [],[] => true
 | a::l,b::m => match Nat.beq a b with
  | true => eqNs l m
  | false => false
 | _,_ => false
theorem eqNs_eq:∀ {l m:List Nat},eqNs l m=true→l=m
 | [],[],_ => rfl
 | [],b::m,h => by simp [eqNs] at h
 | a::l,[],h => by simp [eqNs] at h
 | a::l,b::m,h => by
  simp only [eqNs] at h
  split at h
  ·rename_i hab; rw [zaa.1 hab,eqNs_eq h]
  ·cases h
def eqPs:List (LV×LV)→List (LV×LV)→Bool
 | [],[] => true
 | (a,a')::l,(b,b')::m => match eqV 20 a b && eqV 20 a' b' with
  | true => eqPs l m
  | false => false
 | _,_ => false
theorem eqPs_eq:∀ {l m:List (LV×LV)},eqPs l m=true→l=m
 | [],[],_ => rfl
 | [],b::m,h => by simp [eqPs] at h
 | a::l,[],h => by simp [eqPs] at h
 | (a,a')::l,(b,b')::m,h => by
  simp only [eqPs] at h
  split at h
  ·rename_i hab
   rw [Bool.and_eq_true] at hab
   rw [eqV_eq 20 _ _ hab.1,eqV_eq 20 _ _ hab.2,eqPs_eq h]
  ·cases h
def eqO (a b:LO):Bool:=match a,b with
 | .rows sz len t,.rows sz' len' t' => Nat.beq sz sz' && (Nat.beq len len' && eqRows t t' len 0)
 | .bytes len n,.bytes len' n' => Nat.beq len len' && Nat.beq n n'
 | .map c bs es,.map c' bs' es' => Nat.beq c c' && (eqNs bs bs' && eqPs es es')
 | _,_ => false
theorem eqO_cases {a b:LO}(h:eqO a b=true):a=b∨∃ sz len t t',a = .rows sz len t∧b = .rows sz len t'∧∀ r,r < len→Tr.get [] t r=Tr.get [] t' r:=by
 unfold eqO at h
 split at h
 ·rw [Bool.and_eq_true,Bool.and_eq_true] at h
  have e1:=zaa.1 h.1
  have e2:=zaa.1 h.2.1
  subst e1 e2
  exact .inr ⟨_,_,_,_,rfl,rfl,fun r hr => eqRows_ok _ _ h.2.2 r (Nat.zero_le _) (by omega)⟩
 ·rw [Bool.and_eq_true] at h
  rw [zaa.1 h.1,zaa.1 h.2]; exact .inl rfl
 ·rw [Bool.and_eq_true,Bool.and_eq_true] at h
  rw [zaa.1 h.1,eqNs_eq h.2.1,eqPs_eq h.2.2]; exact .inl rfl
 ·cases h
theorem zbB {a b:LO}(h:eqO a b=true):liveO a=true∧liveO b=true:=by
 unfold eqO at h
 split at h
 ·exact ⟨rfl,rfl⟩
 ·exact ⟨rfl,rfl⟩
 ·exact ⟨rfl,rfl⟩
 ·cases h
theorem eqO_or {a b:LO}(h:eqO a b=true) {B:BB}{k:Bk}{obj:Obj}:OR B k obj a↔OR B k obj b:=by
 rcases eqO_cases h with rfl | ⟨sz,len,t,t',rfl,rfl,ht⟩
 ·exact Iff.rfl
 ·constructor
  ·rintro ⟨cs,e,h1,h2,h3,h4,h5,h6,h7⟩
   exact ⟨cs,e,h1,h2,h3,h4,h5,h6,fun r hr => by rw [← ht r hr]; exact h7 r hr⟩
  ·rintro ⟨cs,e,h1,h2,h3,h4,h5,h6,h7⟩
   exact ⟨cs,e,h1,h2,h3,h4,h5,h6,fun r hr => by rw [ht r hr]; exact h7 r hr⟩
def putK {β:Type}(h:LH):List (Nat×LO)→(LH→β)→β
 | [],c => c h
 | p::l,c => putK h l fun h => Tr.put .gone p.2 h p.1 c
noncomputable def putS (h:LH):List (Nat×LO)→LH
 | [] => h
 | p::l => Tr.set .gone p.2 (putS h l) p.1
theorem putK_eq {β:Type}(h:LH):∀ (l:List (Nat×LO)) (c:LH→β),putK h l c=c (putS h l)
 | [],c => rfl
 | p::l,c => by rw [putK,putK_eq h l,zaN]; rfl
def findO (i:Nat):List (Nat×LO)→Option LO
 | [] => none
 | p::l => match Nat.beq p.1 i with
  | true => some p.2
  | false => findO i l
theorem putS_at {h:LH}{i:Nat}:∀ {l:List (Nat×LO)},atB (putS h l) i=match findO i l with | some lo => lo | none => atB h i
 | [] => rfl
 | p::l => by
  rw [putS,zaY,findO]
  by_cases e:i=p.1
  ·subst e
   rw [if_pos rfl]
   have:Nat.beq p.1 p.1=true:=by simp
   rw [this]
  ·rw [if_neg e,zau (Ne.symm e),putS_at]
theorem zdw {i:Nat}{lo:LO}:∀ {l:List (Nat×LO)},findO i l=some lo→(i,lo) ∈ l
 | p::l,h => by
  rw [findO] at h
  split at h
  ·rename_i hb
   cases h
   rw [← zaa.1 hb]; simp
  ·exact List.mem_cons_of_mem _ (zdw h)
structure Memo where
  args:List LV
  nx:Nat
  need:List (Nat×LO)
  v:LV
  nx' : Nat
  out:List (Nat×LO)
def isGone (lo:LO):Bool:=match lo with
 | .gone => true
 | _ => false
def needOk (h:LH) (l:List (Nat×LO)):Bool:=l.all fun p => eqO (atB h p.1) p.2
def memoE (m:Memo) (args:List LV) (nx:Nat) (h:LH):Rs:=match eqVs args m.args && (Nat.beq nx m.nx && needOk h m.need) with
 | true => putK h m.out fun h => .ok m.v m.nx' h
 | false => .bad 450
def outOk (h:LH) (m:Memo):Bool:=(m.out.all fun p => isGone p.2 || eqO (atB h p.1) p.2) && m.need.all fun p => (findO p.1 m.out).isSome || eqO (atB h p.1) p.2
def chkM (r:Res) (m:Memo):Bool:=match r with
 | .done v nx h => eqV 20 v m.v && (Nat.beq nx m.nx' && outOk h m)
 | .bad _ => false
def memosE:List Memo→List LV→Nat→LH→Rs
 | [],_,_,_ => .bad 451
 | m::l,args,nx,h => match Nat.beq nx m.nx with
  | true => memoE m args nx h
  | false => memosE l args nx h
section
variable {P:Program}{w0:World}{base:Nat}{cx:Cx}{g:FuncId}
noncomputable def restG (B:BB) (h:LH) (H:List Seg) (p:Nat→Nat) (N:Nat→Bool):List (Nat×Obj):=((List.range B.length).filter fun i => liveO (atB h i) && !N i).flatMap fun i => H.getD (p i) []
theorem restG_mem {B:BB}{h:LH}{H:List Seg}{p:Nat→Nat}{N:Nat→Bool}{x:Nat×Obj}:x ∈ restG B h H p N↔∃ i,i < B.length∧liveO (atB h i)=true∧N i=false∧x ∈ H.getD (p i) []:=by
 unfold restG
 simp only [List.mem_flatMap,List.mem_filter,List.mem_range,Bool.and_eq_true,Bool.not_eq_true']
 constructor
 ·rintro ⟨i,⟨h1,h2,h3⟩,h4⟩; exact ⟨i,h1,h2,h3,h4⟩
 ·rintro ⟨i,h1,h2,h3,h4⟩; exact ⟨i,⟨h1,h2,h3⟩,h4⟩
theorem zdJ (hc:CxF P w0 base cx) (m:Memo) (hbody:Body P g) {n:Nat}(hq:chkM (callE cx n g m.args m.nx (putK .e m.need fun h => h)) m=true):PrOk P w0 base g (memoE m):=by
 intro G args nx h lv nx' h' B H us hm hu hn hr
 unfold memoE at hm
 split at hm
 ·rename_i hcond
  rw [Bool.and_eq_true,Bool.and_eq_true] at hcond
  obtain ⟨g1,g2,g3⟩:=hcond
  have e1:=eqVs_eq g1
  have e2:=zaa.1 g2
  subst e1 e2
  rw [putK_eq] at hm
  cases hm
  rw [putK_eq] at hq
  unfold chkM at hq
  split at hq
  ·rename_i v1 nx1 h1 hrun
   rw [Bool.and_eq_true,Bool.and_eq_true] at hq
   obtain ⟨q1,q2,q3⟩:=hq
   have e3:=eqV_eq 20 _ _ q1
   have e4:=zaa.1 q2
   subst e3 e4
   unfold outOk at q3
   rw [Bool.and_eq_true] at q3
   obtain ⟨q3,q4⟩:=q3
   refine .inr ⟨hbody,fun w S cs => ?_⟩
   have hr0:=hr
   obtain ⟨p,a1,a2,a3⟩:=hr
   have need_at:∀ i lo,findO i m.need=some lo→eqO (atB h i) lo=true:=fun i lo hf => List.all_eq_true.1 g3 _ (zdw hf)
   have mk_at:∀ i,atB (putS .e m.need) i=match findO i m.need with | some lo => lo | none => .gone:=fun i => by
    rw [putS_at]
    split
    ·rfl
    ·exact get_e _ _
   have live_mk:∀ i,liveO (atB (putS .e m.need) i)=true→∃ lo,findO i m.need=some lo:=fun i hi => by
    rw [mk_at] at hi
    cases hf:findO i m.need with
    | some lo => exact ⟨lo,rfl⟩
    | none => rw [hf] at hi; cases hi
   have hr1:HR (restG B h H p (fun i => (findO i m.need).isSome)++G) B (putS .e m.need) H:=by
    refine ⟨p,fun i hi => ?_,fun i i' hi hi' he => ?_,fun x hx => ?_⟩
    ·obtain ⟨lo,hf⟩:=live_mk i hi
     have he:=need_at i lo hf
     obtain ⟨k,obj,b1,b2,b3⟩:=a1 i (zbB he).1
     refine ⟨k,obj,b1,b2,?_⟩
     rw [mk_at,hf]
     exact (eqO_or he).1 b3
    ·obtain ⟨lo,hf⟩:=live_mk i hi
     obtain ⟨lo',hf'⟩:=live_mk i' hi'
     exact a2 i i' (zbB (need_at i lo hf)).1 (zbB (need_at i' lo' hf')).1 he
    ·rcases List.mem_append.1 hx with hx | hx
     ·obtain ⟨i0,c1,c2,c3,c4⟩:=restG_mem.1 hx
      obtain ⟨k,obj,b1,b2,b3⟩:=a1 i0 c2
      have e:H.getD (p i0) []=[(k.b,obj)]:=by rw [List.getD_eq_getElem?_getD,b2]; rfl
      rw [e] at c4
      have c4:x=(k.b,obj):=by simpa using c4
      refine ⟨p i0,by rw [b2,c4],fun i hi hpe => ?_⟩
      obtain ⟨lo,hf⟩:=live_mk i hi
      have:=a2 i i0 (zbB (need_at i lo hf)).1 c2 hpe
      subst this
      rw [hf] at c3; cases c3
     ·obtain ⟨j,j1,j2⟩:=a3 x hx
      refine ⟨j,j1,fun i hi => ?_⟩
      obtain ⟨lo,hf⟩:=live_mk i hi
      exact j2 i (zbB (need_at i lo hf)).1
   obtain ⟨e,w',fr,⟨u,H',rfl,⟨B',bp,bl,bv,br⟩,S'⟩,r2,r3,r4⟩:=callE_ok hc hu hn hr1 hrun w S cs
   refine ⟨.returned u,w',fr,⟨u,H',rfl,⟨B',bp,bl,bv,?_⟩,S'⟩,r2,r3,r4⟩
   obtain ⟨p1,b1,b2,b3⟩:=br
   have pos:∀ i,∃ j,liveO (atB (putS h m.out) i)=true→(∃ k obj,B'[i]? = some k∧H'[j]? = some [(k.b,obj)]∧OR B' k obj (atB (putS h m.out) i)) ∧
     ((j=p1 i∧liveO (atB h1 i)=true)∨((∀ i',liveO (atB h1 i')=true→p1 i'≠j)∧liveO (atB h i)=true∧∃ k obj,B[i]? = some k∧H[p i]? = some [(k.b,obj)]∧H'[j]? = some [(k.b,obj)])):=by
    intro i
    by_cases hlive:liveO (atB (putS h m.out) i)=true
    ·rw [putS_at] at hlive ⊢
     cases hf:findO i m.out with
     | some lo =>
      rw [hf] at hlive
      have:=List.all_eq_true.1 q3 _ (zdw hf)
      rw [Bool.or_eq_true] at this
      have he:eqO (atB h1 i) lo=true:=by
       rcases this with hg | hg
       ·exfalso
        have hl:liveO lo=true:=hlive
        cases lo <;> first | (cases hl; done) | (cases hg; done)
       ·exact hg
      obtain ⟨k,obj,c1,c2,c3⟩:=b1 i (zbB he).1
      exact ⟨p1 i,fun _ => ⟨⟨k,obj,c1,c2,(eqO_or he).1 c3⟩,.inl ⟨rfl,(zbB he).1⟩⟩⟩
     | none =>
      rw [hf] at hlive
      have hlive:liveO (atB h i)=true:=hlive
      cases hf2:findO i m.need with
      | some lo =>
       have h0:=need_at i lo hf2
       have:=List.all_eq_true.1 q4 _ (zdw hf2)
       rw [Bool.or_eq_true] at this
       have he:eqO (atB h1 i) lo=true:=by
        rcases this with hg | hg
        ·simp only [hf] at hg; cases hg
        ·exact hg
       obtain ⟨k,obj,c1,c2,c3⟩:=b1 i (zbB he).1
       exact ⟨p1 i,fun _ => ⟨⟨k,obj,c1,c2,(eqO_or h0).2 ((eqO_or he).1 c3)⟩,.inl ⟨rfl,(zbB he).1⟩⟩⟩
      | none =>
       obtain ⟨k,obj,c1,c2,c3⟩:=a1 i hlive
       have hin:(k.b,obj) ∈ restG B h H p (fun i => (findO i m.need).isSome)++G:=by
        refine List.mem_append_left _ (restG_mem.2 ⟨i,(List.getElem?_eq_some_iff.1 c1).1,hlive,by simp [hf2],?_⟩)
        rw [List.getD_eq_getElem?_getD,c2]; simp
       obtain ⟨j,j1,j2⟩:=b3 _ hin
       exact ⟨j,fun _ => ⟨⟨k,obj,zaP bp c1,j1,c3.mono bp⟩,.inr ⟨j2,hlive,k,obj,c1,c2,j1⟩⟩⟩
    ·exact ⟨0,fun h => absurd h hlive⟩
   obtain ⟨q,hqq⟩:=Classical.axiomOfChoice pos
   refine ⟨q,fun i hi => (hqq i hi).1,fun i i' hi hi' he => ?_,fun x hx => ?_⟩
   ·rcases (hqq i hi).2 with ⟨t1,t2⟩ | ⟨t1,t2,k,obj,t3,t4,t5⟩ <;> rcases (hqq i' hi').2 with ⟨s1,s2⟩ | ⟨s1,s2,k',obj',s3,s4,s5⟩
    ·exact b2 i i' t2 s2 (by rw [← t1,← s1,he])
    ·exact absurd (by rw [← t1,he]) (s1 i t2)
    ·exact absurd (by rw [← s1,he]) (t1 i' s2)
    ·rw [he,s5] at t5
     have e0:(k'.b,obj')=(k.b,obj):=by simpa using t5
     exact hr0.apart S i i' k k' t2 s2 t3 s3 (congrArg Prod.fst e0).symm
   ·obtain ⟨j,j1,j2⟩:=b3 x (List.mem_append_right _ hx)
    refine ⟨j,j1,fun i hi hqe => ?_⟩
    rcases (hqq i hi).2 with ⟨t1,t2⟩ | ⟨t1,t2,k,obj,t3,t4,t5⟩
    ·exact j2 i t2 (by rw [← t1,hqe])
    ·rw [hqe,j1] at t5
     have e0:x=(k.b,obj):=by simpa using t5
     obtain ⟨j0,d1,d2⟩:=a3 x hx
     rw [e0] at d1
     have:=(zck S.nodup (i:=p i) (j:=0) (s:=[(k.b,obj)]) (b:=k.b) (o:=obj) t4 rfl (i':=j0) (s':=[(k.b,obj)]) (o':=obj) d1 (by simp)).1
     exact d2 i t2 this.symm
  ·cases hq
 ·cases hm
theorem memos_ok:∀ {l:List Memo},(∀ m ∈ l,PrOk P w0 base g (memoE m))→PrOk P w0 base g (memosE l)
 | [],_ => fun G args nx h lv nx' h' B H us hm => by cases hm
 | m::l,hl => fun G args nx h lv nx' h' B H us hm hu hn hr => by
  rw [memosE] at hm
  split at hm
  ·exact hl m (by simp) G args nx h lv nx' h' B H us hm hu hn hr
  ·exact memos_ok (fun m' h' => hl m' (by simp [h'])) G args nx h lv nx' h' B H us hm hu hn hr
end
end
end Go.Proofs.YtdncjmehhahidaaGreatDoor
namespace Go.Proofs.YtdncjmehhahidaaGreatDoor
open Go.RowKit (Below)
set_option linter.unusedVariables false
set_option linter.unusedSimpArgs false
noncomputable section
def cntN:Nat→Nat→Nat→Nat
 | 0,_,_ => 0
 | k + 1,n,c => match Nat.beq (Nat.mod n 256) c with
  | true => Nat.succ (cntN k (Nat.div n 256) c)
  | false => cntN k (Nat.div n 256) c
def idxN:Nat→Nat→Nat→Nat
 | 0,_,_ => 0
 | k + 1,n,c => match Nat.beq (Nat.mod n 256) c with
  | true => 0
  | false => Nat.succ (idxN k (Nat.div n 256) c)
def cntE (args:List LV) (nx:Nat) (h:LH):Rs:=match args with
 | [.str len n,.int .u8 (.ofNat c)] => match Nat.blt c 256 with
  | true => frN (fun i => .ok (.int .i64 (.ofNat i)) nx h) (cntN len n c)
  | false => .bad 442
 | _ => .bad 442
def idxE (args:List LV) (nx:Nat) (h:LH):Rs:=match args with
 | [.str len n,.int .u8 (.ofNat c)] => match Nat.blt c 256 with
  | true => frN (fun i => match Nat.beq i len with
   | true => .ok (.int .i64 (.negSucc 0)) nx h
   | false => .ok (.int .i64 (.ofNat i)) nx h) (idxN len n c)
  | false => .bad 443
 | _ => .bad 443
def strsR (t:Tr (List LV)):Nat→Nat→Option (List (Nat×Nat))
 | 0,_ => some []
 | k + 1,i => match Tr.get [] t i with
  | [.str a b] => match strsR t k (Nat.succ i) with
   | some l => some ((a,b)::l)
   | none => none
  | _ => none
def strsO (lo:LO) (o len:Nat):Option (List (Nat×Nat)):=match lo with
 | .rows sz rl t => match Nat.beq sz 1 && Nat.ble (Nat.add o len) rl with
  | true => strsR t len o
  | false => none
 | _ => none
def strsE (h:LH):LV→Option (List (Nat×Nat))
 | .nils => some []
 | .sl i o len cap => match Nat.ble len cap && Nat.ble cap 1000000 with
  | true => strsO (atB h i) o len
  | false => none
 | .slo i o len _ => strsO (atB h i) o len
 | _ => none
def catS (a n b m:Nat) (k:Nat→Nat→Rs):Rs:=frN (fun l => frN (fun x => k l x) (Nat.add n (Nat.mul (Nat.pow 256 a) m))) (Nat.add a b)
def joinN (sl sn:Nat):List (Nat×Nat)→(Nat→Nat→Rs)→Rs
 | [],k => k 0 0
 | [p],k => k p.1 p.2
 | p::q::l,k => joinN sl sn (q::l) fun b m => catS sl sn b m fun b m => catS p.1 p.2 b m k
def joinE (args:List LV) (nx:Nat) (h:LH):Rs:=match args with
 | [v,.str sl sn] => match strsE h v with
  | some l => joinN sl sn l fun a n => match Nat.ble a 1000000 && Nat.ble l.length 1000000 with
   | true => .ok (.str a n) nx h
   | false => .bad 444
  | none => .bad 444
 | _ => .bad 444
def nameN:List (Nat×Nat)→(Nat→Nat→Rs)→Rs
 | [],k => k 1 0
 | p::l,k => match Nat.ble 1 p.1 && Nat.ble p.1 63 with
  | true => nameN l fun b m => catS p.1 p.2 b m fun b m => catS 1 p.1 b m k
  | false => .bad 445
def nameE (args:List LV) (nx:Nat) (h:LH):Rs:=match args with
 | [v] => match strsE h v with
  | some l => nameN l fun a n => match Nat.ble a 255 with
   | true => .ok (.tup [.str a n,.int .i64 (.ofNat 0)]) nx h
   | false => .bad 445
  | none => .bad 445
 | _ => .bad 445
end
theorem zf1 (b:UInt8) (l:List UInt8):Nat.mod (bytesNum (b::l)) 256=b.toNat∧Nat.div (bytesNum (b::l)) 256=bytesNum l:=by
 have hb:=b.toNat_lt
 rw [bytesNum]
 exact ⟨(by omega:(b.toNat + 256 * bytesNum l) % 256=b.toNat),(by omega:(b.toNat + 256 * bytesNum l) / 256=bytesNum l)⟩
theorem beq_u8 (b c:UInt8):Nat.beq b.toNat c.toNat=(b == c):=by
 by_cases h:b=c
 ·subst h; simp
 ·have h2:b.toNat≠c.toNat:=fun e => h (UInt8.toNat_inj.1 e)
  rw [zau h2]; simp [h]
theorem cnt_eq (c:UInt8):∀ l:List UInt8,cntN l.length (bytesNum l) c.toNat=Lib.countByte l c
 | [] => rfl
 | b::l => by
  rw [List.length_cons,cntN,(zf1 b l).1,(zf1 b l).2,beq_u8,cnt_eq c l]
  unfold Lib.countByte
  rw [List.count_cons]
  cases h:b == c <;> simp [h]
theorem idx_eq (c:UInt8):∀ l:List UInt8,(idxN l.length (bytesNum l) c.toNat=l.length∧Lib.indexByte l c = -1)∨(idxN l.length (bytesNum l) c.toNat < l.length∧Lib.indexByte l c=((idxN l.length (bytesNum l) c.toNat:Nat):Int))
 | [] => .inl ⟨rfl,rfl⟩
 | b::l => by
  rw [List.length_cons,idxN,(zf1 b l).1,(zf1 b l).2,beq_u8,Lib.indexByte]
  cases h:b == c with
  | true => exact .inr ⟨Nat.succ_pos _,by simp⟩
  | false =>
   rcases idx_eq c l with ⟨h1,h2⟩ | ⟨h1,h2⟩
   ·exact .inl ⟨by simp [h1],by simp [h2]⟩
   ·refine .inr ⟨by simp only [Nat.succ_eq_add_one]; omega,?_⟩
    have:¬ Lib.indexByte l c = -1:=by omega
    simp [this,h2]
theorem two_vr {B:BB}{a b:LV}{us:List Value}(h:VRL B [a,b] us):∃ u v,us=[u,v]∧VR B a u∧VR B b v:=by
 simp only [VRL] at h
 obtain ⟨u,m,rfl,h1,v,m',rfl,h2,rfl⟩:=h
 exact ⟨u,v,rfl,h1,h2⟩
theorem byte_nat {c:Nat}(h:c < 256):((c:Int).toNat.toUInt8).toNat=c:=by
 simp [Nat.toUInt8,UInt8.toNat_ofNat,Nat.mod_eq_of_lt h]
section
variable {P:Program}{w0:World}{base:Nat}{g:FuncId}
theorem cnt_pr (hr:∀ (s:ByteArray) (c:Int) w,(callFunc g #[.string s,.int .u8 c]).run P w = .ok (.value (.int .i64 (Lib.countByte s.data.toList c.toNat.toUInt8))) w):PrOk P w0 base g cntE:=by
 intro G args nx h lv nx' h' B H us hq hu hn hH
 refine .inl fun w S => ?_
 unfold cntE at hq
 split at hq
 ·rename_i len n c
  split at hq
  ·rename_i hc
   rw [frN_eq] at hq
   cases hq
   obtain ⟨u,v,rfl,h1,h2⟩:=two_vr hu
   simp only [VR] at h1 h2
   obtain ⟨l,rfl,rfl,rfl⟩:=h1
   subst h2
   have e:=cnt_eq (c:Int).toNat.toUInt8 l
   rw [byte_nat (zal.1 hc)] at e
   exact ⟨_,w,H,hr _ _ w,S,B,List.prefix_refl _,hn,by simp only [VR]; rw [e]; rfl,hH⟩
  ·cases hq
 ·cases hq
theorem idx_pr (hr:∀ (s:ByteArray) (c:Int) w,(callFunc g #[.string s,.int .u8 c]).run P w = .ok (.value (.int .i64 (Lib.indexByte s.data.toList c.toNat.toUInt8))) w):PrOk P w0 base g idxE:=by
 intro G args nx h lv nx' h' B H us hq hu hn hH
 refine .inl fun w S => ?_
 unfold idxE at hq
 split at hq
 ·rename_i len n c
  split at hq
  ·rename_i hc
   rw [frN_eq] at hq
   obtain ⟨u,v,rfl,h1,h2⟩:=two_vr hu
   simp only [VR] at h1 h2
   obtain ⟨l,rfl,rfl,rfl⟩:=h1
   subst h2
   have e:=idx_eq (c:Int).toNat.toUInt8 l
   rw [byte_nat (zal.1 hc)] at e
   split at hq
   ·rename_i hl
    cases hq
    have hl:=zaa.1 hl
    rcases e with ⟨e1,e2⟩ | ⟨e1,e2⟩
    ·exact ⟨_,w,H,hr _ _ w,S,B,List.prefix_refl _,hn,by simp only [VR]; rw [show (str l) = .string ⟨⟨l⟩⟩ from rfl] at *; exact congrArg _ e2,hH⟩
    ·omega
   ·rename_i hl
    cases hq
    have hl:idxN l.length (bytesNum l) c≠l.length:=fun e => by rw [e] at hl; simp at hl
    rcases e with ⟨e1,e2⟩ | ⟨e1,e2⟩
    ·exact absurd e1 hl
    ·exact ⟨_,w,H,hr _ _ w,S,B,List.prefix_refl _,hn,by simp only [VR]; exact congrArg _ e2,hH⟩
  ·cases hq
 ·cases hq
end
def mkS (s:List UInt8):Nat×Nat:=(s.length,bytesNum s)
theorem strsR_ok {B:BB}{t:Tr (List LV)}{cs:List Value}{off rl:Nat}(hrow:∀ r,r < rl→VRL B (Tr.get [] t r) ((cs.drop (off + r * 1)).take 1)):∀ (k i:Nat) {l:List (Nat×Nat)},strsR t k i=some l→i + k≤rl→∃ ls:List (List UInt8),l=ls.map mkS∧ls.length=k∧∀ j x,ls[j]? = some x→cs[off + i + j]? = some (str x)
 | 0,i,l,h,_ => by cases h; exact ⟨[],rfl,rfl,fun j x hx => by simp at hx⟩
 | k + 1,i,l,h,hle => by
  rw [strsR] at h
  split at h
  ·rename_i a b hg
   split at h
   ·rename_i l' h'
    cases h
    obtain ⟨ls,rfl,h2,h3⟩:=strsR_ok hrow k (Nat.succ i) h' (by simp only [Nat.succ_eq_add_one]; omega)
    have hv:=hrow i (by omega)
    rw [hg,Nat.mul_one] at hv
    obtain ⟨u,hu,hv⟩:=ze8 hv
    simp only [VR] at hv
    obtain ⟨x,rfl,rfl,rfl⟩:=hv
    have hx:cs[off + i]? = some (str x):=by
     have h9:((cs.drop (off + i)).take 1)[0]? = some (str x):=by rw [hu]; rfl
     rw [List.getElem?_take,List.getElem?_drop] at h9
     simpa using h9
    refine ⟨x::ls,rfl,by simp [h2],fun j y hy => ?_⟩
    cases j with
    | zero => simp at hy; subst hy; simpa using hx
    | succ j =>
     have:=h3 j y (by simpa using hy)
     rw [show off + i + (j + 1)=off + Nat.succ i + j by simp only [Nat.succ_eq_add_one]; omega]
     exact this
   ·cases h
  ·cases h
section
variable {P:Program}{w0:World}{base:Nat}{g:FuncId}{G:List (Nat×Obj)}{B:BB}{h:LH}{H:List Seg}
theorem strsO_ok (hr:HR G B h H) {i o len:Nat}{k:Bk}(hk:B[i]? = some k) {l:List (Nat×Nat)}(hq:strsO (atB h i) o len=some l):∃ ls:List (List UInt8),l=ls.map mkS∧ls.length=len∧∀ w,Sep w0 base w H→∀ j x,ls[j]? = some x→w.cell? ⟨k.b,k.off + o + j,none⟩=some (str x):=by
 unfold strsO at hq
 split at hq
 ·rename_i sz rl t hlo
  split at hq
  ·rename_i hc
   rw [Bool.and_eq_true] at hc
   have hs:=zaa.1 hc.1
   have hle:o + len≤rl:=zaf.1 hc.2
   subst hs
   obtain ⟨k',j,obj,a1,a2,a3⟩:=hr.at_ i (by rw [hlo]; rfl)
   rw [hk] at a1; cases a1
   rw [hlo] at a3
   obtain ⟨cs,e,rfl,_,_,_,_,_,hrow⟩:=a3
   obtain ⟨ls,h1,h2,h3⟩:=strsR_ok hrow len o hq hle
   refine ⟨ls,h1,h2,fun w S j' x hx => ?_⟩
   rw [cell_of_row w _ _ _ _ _ (S.at_ a2 (j:=0) rfl).1,← Array.getElem?_toList]
   exact h3 j' x hx
  ·cases hq
 ·cases hq
theorem strs_rd (hr:HR G B h H) {v:LV}{u:Value}(hv:VR B v u) {l:List (Nat×Nat)}(hq:strsE h v=some l):∃ (A:Option Addr) (C:Nat) (ls:List (List UInt8)),u = .slice A ls.length C∧l=ls.map mkS∧Rd tyS w0 base H A C ls:=by
 have cells:∀ (ls:List (List UInt8)) (j:Nat) (c:Value),(tyS.cells ls)[j]? = some c→∃ x,ls[j]? = some x∧c=str x:=by
  intro ls
  induction ls with
  | nil => intro j c hc; simp [Ty.cells] at hc
  | cons a r ih =>
   intro j c hc
   have e:tyS.cells (a::r)=str a::tyS.cells r:=rfl
   rw [e] at hc
   cases j with
   | zero => simp at hc; exact ⟨a,rfl,hc.symm⟩
   | succ j => obtain ⟨x,h1,h2⟩:=ih j c (by simpa using hc); exact ⟨x,by simpa using h1,h2⟩
 unfold strsE at hq
 split at hq
 ·cases hq
  simp only [VR] at hv
  subst hv
  exact ⟨none,0,[],rfl,rfl,Rd.nil_⟩
 ·rename_i i o len cap
  split at hq
  ·rename_i hc
   rw [Bool.and_eq_true] at hc
   have c1:=zaf.1 hc.1
   have c2:=zaf.1 hc.2
   simp only [VR] at hv
   obtain ⟨k,hk,rfl⟩:=hv
   obtain ⟨ls,h1,h2,h3⟩:=strsO_ok (w0:=w0) (base:=base) hr hk hq
   refine ⟨_,cap,ls,by rw [h2],h1,⟨by omega,by omega,(fun h => by cases h),fun _ => ⟨_,_,rfl,fun w S j c hc => ?_⟩⟩⟩
   obtain ⟨x,x1,rfl⟩:=cells _ _ _ hc
   exact h3 w S j x x1
  ·cases hq
 ·rename_i i o len ad
  simp only [VR] at hv
  obtain ⟨k,c,A,hk,rfl,q1,q2,q3,q4,q5⟩:=hv
  obtain ⟨ls,h1,h2,h3⟩:=strsO_ok (w0:=w0) (base:=base) hr hk hq
  refine ⟨_,c,ls,by rw [h2],h1,⟨by omega,q5,(fun h => by cases h),fun hne => ?_⟩⟩
  have hpos:0 < ls.length:=List.length_pos_iff.2 hne
  refine ⟨_,_,congrArg some (q3 (by omega)),fun w S j c hc => ?_⟩
  obtain ⟨x,x1,rfl⟩:=cells _ _ _ hc
  exact h3 w S j x x1
 ·cases hq
theorem zf0 {a b:List UInt8}{k:Nat→Nat→Rs}:catS a.length (bytesNum a) b.length (bytesNum b) k=k (a++b).length (bytesNum (a++b)):=by
 unfold catS
 rw [frN_eq,frN_eq,List.length_append,zbA]
 congr 1
 rw [Nat.mul_comm (bytesNum b)]; rfl
theorem joinN_eq (sep:List UInt8):∀ (ls:List (List UInt8)) (k:Nat→Nat→Rs),joinN sep.length (bytesNum sep) (ls.map mkS) k=k (Lib.join ls sep).length (bytesNum (Lib.join ls sep))
 | [],k => rfl
 | [p],k => by rw [Lib.join_one]; rfl
 | p::q::l,k => by
  have e:Lib.join (p::q::l) sep=p++(sep++Lib.join (q::l) sep):=by
   unfold Lib.join List.intercalate; simp [List.intersperse]
  rw [e]
  show joinN sep.length (bytesNum sep) ((q::l).map mkS) _=_
  rw [joinN_eq sep (q::l)]
  show catS sep.length (bytesNum sep) (Lib.join (q::l) sep).length (bytesNum (Lib.join (q::l) sep)) (fun b m => catS p.length (bytesNum p) b m k)=_
  rw [zf0,zf0]
def nmP:List (List UInt8)→List UInt8
 | [] => [0]
 | s::r => UInt8.ofNat s.length::(s++nmP r)
theorem nameN_eq:∀ (ls:List (List UInt8)) (k:Nat→Nat→Rs) {lv:LV}{nx:Nat}{h:LH},nameN (ls.map mkS) k = .ok lv nx h→(∀ s ∈ ls,1≤s.length∧s.length≤63)∧k (nmP ls).length (bytesNum (nmP ls)) = .ok lv nx h
 | [],k,lv,nx,h,hq => ⟨fun s hs => by simp at hs,hq⟩
 | p::l,k,lv,nx,h,hq => by
  have hq:(match Nat.ble 1 p.length && Nat.ble p.length 63 with
   | true => nameN (l.map mkS) fun b m => catS p.length (bytesNum p) b m fun b m => catS 1 p.length b m k
   | false => .bad 445) = .ok lv nx h:=hq
  split at hq
  ·rename_i hc
   rw [Bool.and_eq_true] at hc
   have c1:=zaf.1 hc.1
   have c2:=zaf.1 hc.2
   obtain ⟨h1,h2⟩:=nameN_eq l _ hq
   refine ⟨fun s hs => ?_,?_⟩
   ·rcases List.mem_cons.1 hs with rfl | hs
    ·exact ⟨c1,c2⟩
    ·exact h1 s hs
   ·rw [zf0] at h2
    have e:bytesNum [UInt8.ofNat p.length]=p.length:=by
     simp only [bytesNum,UInt8.toNat_ofNat']
     omega
    have:=zf0 (a:=[UInt8.ofNat p.length]) (b:=p++nmP l) (k:=k)
    rw [e] at this
    rw [show (1:Nat)=[UInt8.ofNat p.length].length from rfl,this] at h2
    exact h2
  ·cases hq
theorem join_pr (hb:Body P g) (hc:∀ {H:List Seg}{A:Option Addr}{C:Nat}{ls:List (List UInt8)}{sep:List UInt8},Rd tyS w0 base H A C ls→ls.length≤1000000→(Lib.join ls sep).length≤1000000→SCalls P g [.slice A ls.length C,str sep] w0 base H (fun v H' => v=str (Lib.join ls sep)∧H' = H)):PrOk P w0 base g joinE:=by
 intro G args nx h lv nx' h' B H us hq hu hn hH
 unfold joinE at hq
 split at hq
 ·rename_i v sl sn
  split at hq
  ·rename_i l hl
   obtain ⟨u,s,rfl,h1,h2⟩:=two_vr hu
   simp only [VR] at h2
   obtain ⟨sep,rfl,rfl,rfl⟩:=h2
   obtain ⟨A,C,ls,rfl,rfl,hrd⟩:=strs_rd (w0:=w0) (base:=base) hH h1 hl
   rw [joinN_eq] at hq
   split at hq
   ·rename_i hle
    rw [Bool.and_eq_true,List.length_map] at hle
    cases hq
    refine .inr ⟨hb,(hc hrd (zaf.1 hle.2) (zaf.1 hle.1)).mono ?_⟩
    rintro v H' ⟨rfl,rfl⟩
    exact ⟨B,List.prefix_refl _,hn,by simp only [VR]; exact ⟨_,rfl,rfl,rfl⟩,hH⟩
   ·cases hq
  ·cases hq
 ·cases hq
theorem name_pr (hb:Body P g) (hc:∀ {H:List Seg}{A:Option Addr}{C:Nat}{ls:List (List UInt8)},Rd tyS w0 base H A C ls→(∀ s ∈ ls,1≤s.length∧s.length≤63)→(nmP ls).length≤255→SCalls P g [.slice A ls.length C] w0 base H (fun v H' => v = .tuple #[str (nmP ls),int 0]∧H' = H)):PrOk P w0 base g nameE:=by
 intro G args nx h lv nx' h' B H us hq hu hn hH
 unfold nameE at hq
 split at hq
 ·rename_i v
  split at hq
  ·rename_i l hl
   obtain ⟨u,rfl,h1⟩:=ze8 hu
   obtain ⟨A,C,ls,rfl,rfl,hrd⟩:=strs_rd (w0:=w0) (base:=base) hH h1 hl
   obtain ⟨q1,q2⟩:=nameN_eq ls _ hq
   split at q2
   ·rename_i hle
    cases q2
    refine .inr ⟨hb,(hc hrd q1 (zaf.1 hle)).mono ?_⟩
    rintro v H' ⟨rfl,rfl⟩
    refine ⟨B,List.prefix_refl _,hn,?_,hH⟩
    simp only [VR]
    refine ⟨_,rfl,VRL.cons_ ?_ (VRL.cons_ ?_ VRL.nil_)⟩
    ·simp only [VR]; exact ⟨_,rfl,rfl,rfl⟩
    ·simp only [VR]; rfl
   ·cases q2
  ·cases hq
 ·cases hq
end
end Go.Proofs.YtdncjmehhahidaaGreatDoor
namespace Go.Proofs.YtdncjmehhahidaaGreatDoor
set_option linter.unusedVariables false
set_option linter.unusedSimpArgs false
set_option maxRecDepth 100000
def nmF:List (List UInt8)→List UInt8
 | [] => []
 | s::r => UInt8.ofNat s.length::(s++nmF r)
theorem nmP_F:∀ ls:List (List UInt8),nmP ls=nmF ls++[0]
 | [] => rfl
 | s::r => by rw [nmP,nmF,nmP_F r]; simp
theorem nmF_snoc:∀ (ls:List (List UInt8)) (s:List UInt8),nmF (ls++[s])=nmF ls++[UInt8.ofNat s.length]++s
 | [],s => by simp [nmF]
 | a::r,s => by rw [List.cons_append,nmF,nmF_snoc r s,nmF]; simp
theorem nmF_take (ls:List (List UInt8)) (k:Nat):(nmF (ls.take k)).length≤(nmF ls).length:=by
 have h:∀ (a b:List (List UInt8)),(nmF a).length≤(nmF (a++b)).length:=by
  intro a
  induction a with
  | nil => intro b; simp [nmF]
  | cons x r ih => intro b; have:=ih b; simp only [List.cons_append,nmF,List.length_cons,List.length_append]; omega
 have:=h (ls.take k) (ls.drop k)
 rwa [List.take_append_drop] at this
theorem nmF_step {ls:List (List UInt8)}{k:Nat}(hk:k < ls.length):nmF (ls.take (k + 1))=nmF (ls.take k)++[UInt8.ofNat (ls.getD k []).length]++ls.getD k []:=by
 rw [List.take_succ_eq_append_getElem hk,nmF_snoc]
 simp [List.getD,hk]
theorem njoin_ok {w0:World}{base:Nat}{H:List Seg}{A:Option Addr}{C:Nat}{l:List (List UInt8)}(h:Rd tyS w0 base H A C l) (hls:∀ s ∈ l,1≤s.length∧s.length≤63) (hnm:(nmP l).length≤255) :
  SCalls Tryz.prog 63 [.slice A l.length C] w0 base (H) (fun v H' => v = .tuple #[str (nmP l),int 0]∧H' = H):=by
 have hle0:=h.le
 have hcap0:=h.cap
 have hnl:=congrArg List.length (nmP_F l); rw [List.length_append] at hnl
 refine SCalls.of_walk (n:=32) Tryz.func63 rfl rfl rfl fun cs => ?_
 refine At.seq<|At.region<|AtL.assign zg0 rfl rfl<|AtL.assign zg0 rfl rfl<|AtL.done<|At.seq ?_
 refine At.region<|AtL.alloc zeO (cs:=#[.pointer none,.slice none 0 0]) rfl zg0 rfl ?_
 intro b1
 refine AtL.done<|At.seq<|At.seq<|At.region<|AtL.move zg0 rfl rfl<|AtL.lenL Tryz.underlying67 zg0 rfl rfl ?_
 refine AtL.move zg0 rfl rfl<|AtL.done<|At.block<|At.nil<|At.loop3 (fun (k:Nat) (x:Sl tyB 5) (q:Value) => [(4,.pointer (some ⟨b1,0,none⟩)),(7,.slice A l.length C),(8,.int .i64 (l.length:Int)),(9,.int .i64 (k:Int))]) (fun (k:Nat) (x:Sl tyB 5) (q:Value) => x.s::[(b1,.cells #[q,.slice x.A x.l.length x.C] 256 (0,0))]::H) (fun (k:Nat) (x:Sl tyB 5) (q:Value) => k≤l.length∧x.l=nmF (l.take k)∧bown b1 q) (fun (k:Nat) (x:Sl tyB 5) (q:Value) => l.length - k) 0 Sl.nil (.pointer none) (⟨Nat.zero_le _,rfl,.inl rfl⟩) ⟨rfl,rfl,rfl,rfl,trivial⟩ rfl ?_
 rintro k x q ⟨hk,hx,hq⟩ ihL1
 have hxl:=congrArg List.length hx
 have htk:=nmF_take l k
 have hq2:bown b1 (.pointer (some ⟨b1,0,none⟩)):=.inr rfl
 refine At.seq<|At.region<|AtL.lss zg0 rfl rfl rfl<|AtL.done<|At.seq<|At.condD rfl ?_ ?_
 ·intro hc1
  have hs:=hls _ (zbj (l:=l) (i:=k) (d:=[]) (by omega))
  refine At.skip<|At.seq<|At.block<|At.seq<|At.region ?_
  refine AtL.indexL k (Rd.skip 2 h) Tryz.underlying67 zaE zg0 rfl rfl rfl rfl (by omega) ?_
  refine AtL.load (v:=str (l.getD k [])) zad zg0 rfl rfl (Rd.cell0 (Rd.skip 2 h) (getD_some [] (by omega)) rfl)<|AtL.assign zg0 rfl rfl<|AtL.done<|At.seq<|At.block<|At.seq ?_
  refine At.region<|AtL.move zg0 rfl rfl<|AtL.lenS (l:=(l.getD k [])) Tryz.underlying9 zg0 rfl rfl<|AtL.eqi zg0 rfl rfl rfl<|AtL.assign zg0 rfl rfl<|AtL.done ?_
  refine At.condIs false rfl (decide_eq_false (by omega))<|At.seq<|At.region<|AtL.move zg0 rfl rfl<|AtL.lenS (l:=(l.getD k [])) Tryz.underlying9 zg0 rfl rfl<|AtL.gtr zg0 rfl rfl rfl ?_
  refine AtL.assign zg0 rfl rfl<|AtL.done ?_
  refine At.condIs false rfl (decide_eq_false (by omega))<|At.skip<|At.inBlock<|At.seq<|At.region<|AtL.move zg0 rfl rfl ?_
  refine AtL.lenS (l:=(l.getD k [])) Tryz.underlying9 zg0 rfl rfl<|AtL.convInt (z:=((UInt8.ofInt ((l.getD k []).length:Int)).toNat:Int)) Tryz.underlying3 Tryz.underlying5 zg0 rfl rfl (zee _) ?_
  refine AtL.call zaG zg0 rfl rfl (zaV hq (x:=x) (c:=(UInt8.ofInt ((l.getD k []).length:Int))) (by first | omega | (dsimp only; simp only [List.length_append,List.length_cons,List.length_nil]; omega))) ?_
  rintro _ _ ⟨⟨A2,C3,l4,s5,o6⟩,hx7,rfl,rfl⟩
  obtain rfl:x.l++[(UInt8.ofInt ((l.getD k []).length:Int))]=l4:=hx7.symm
  refine AtL.done<|At.region<|AtL.move zg0 rfl rfl ?_
  refine AtL.call zeZ zg0 rfl rfl (bwrite_ok (.inr rfl) (x:=⟨A2,C3,x.l++[(UInt8.ofInt ((l.getD k []).length:Int))],s5,o6⟩) (v:=(l.getD k [])) (by first | omega | (dsimp only; simp only [List.length_append,List.length_cons,List.length_nil]; omega))) ?_
  rintro _ _ ⟨⟨A8,C9,l10,s11,o12⟩,hx13,rfl,rfl⟩
  obtain rfl:(x.l++[(UInt8.ofInt ((l.getD k []).length:Int))])++(l.getD k [])=l10:=hx13.symm
  refine AtL.done<|At.inBlock<|At.region ?_
  refine AtL.add (z:=(k:Int) + 1) zg0 rfl rfl rfl (w64 (by omega) (by omega))<|AtL.move zg0 rfl rfl<|AtL.done ?_
  refine ihL1 (k + 1) (⟨A8,C9,(x.l++[(UInt8.ofInt ((l.getD k []).length:Int))])++(l.getD k []),s11,o12⟩) (.pointer (some ⟨b1,0,none⟩)) (⟨by omega,by dsimp only; rw [nmF_step (by omega),← hx,zes],hq2⟩) (by omega) _ ?_
  exact ⟨rfl,rfl,rfl,(by first | rfl | exact slLen (by simp []) | exact intEq (by omega) | exact intEq (by simp []) | exact slLen (by simp []; omega)),trivial⟩
 ·intro hc1
  refine At.exit rfl<|At.seq<|At.region ?_
  refine AtL.call zeZ zg0 rfl rfl (bwrite_ok hq (x:=x) (v:=[0]) (by first | omega | (dsimp only; simp only [List.length_append,List.length_cons,List.length_nil]; omega))) ?_
  rintro _ _ ⟨⟨A14,C15,l16,s17,o18⟩,hx19,rfl,rfl⟩
  obtain rfl:x.l++[0]=l16:=hx19.symm
  refine AtL.done<|At.seq<|At.seq<|At.region<|AtL.call tf_body130 zg0 rfl rfl (blen_ok (x:=⟨A14,C15,x.l++[0],s17,o18⟩)) ?_
  rintro _ _ ⟨rfl,rfl⟩
  refine AtL.gtr zg0 rfl rfl rfl<|AtL.done ?_
  refine At.condIs false rfl (decide_eq_false (by rw [List.take_of_length_le (by omega)] at hxl; dsimp only; simp only [List.length_append,List.length_cons,List.length_nil] at hnl ⊢; omega))<|At.skip<|At.seq<|At.region ?_
  refine AtL.call zeY zg0 rfl rfl (bstr_ok (x:=⟨A14,C15,x.l++[0],s17,o18⟩) (by simp)) ?_
  rintro _ _ ⟨s20,rfl,rfl⟩
  refine AtL.assign zg0 rfl rfl<|AtL.assign zg0 rfl rfl<|AtL.done<|At.pick [] 1 rfl rfl ?_
  exact At.ret Tryz.func63 rfl rfl (⟨congrArg (fun z => Value.tuple #[str z,int 0]) (show x.l++[0]=nmP l by rw [nmP_F,hx,List.take_of_length_le (by omega)]),rfl⟩)
end Go.Proofs.YtdncjmehhahidaaGreatDoor
namespace Go.Proofs
open Go.Shelf
def Tryz.lays156_ren:Go.Shelf.Ren:=⟨fun | 156 => 267 | 165 => 366 | 166 => 129 | 169 => 131 | 240 => 206 | 241 => 429 | 276 => 278 | 277 => 468 | n => n,fun | 31 => 67 | 9 => 9 | 3 => 3 | 4 => 4 | 0 => 0 | 20 => 20 | 72 => 256 | 76 => 260 | 70 => 254 | 37 => 22 | 75 => 258 | 127 => 373 | 164 => 470 | 5 => 5 | 80 => 94 | n => n,fun | n => n⟩
theorem Tryz.lays156:Go.Proofs.Lays.n156 Tryz.prog Tryz.lays156_ren:={
 mixed:=by kernel_rfl
 f156:=Tryz.func267.trans (congrArg some (by kernel_rfl))
 f165:=Tryz.func366.trans (congrArg some (by kernel_rfl))
 f166:=Tryz.func129.trans (congrArg some (by kernel_rfl))
 f169:=Tryz.func131.trans (congrArg some (by kernel_rfl))
 f240:=Tryz.func206.trans (congrArg some (by kernel_rfl))
 f241:=Tryz.func429.trans (congrArg some (by kernel_rfl))
 f276:=Tryz.func278.trans (congrArg some (by kernel_rfl))
 f277:=Tryz.func468.trans (congrArg some (by kernel_rfl))
 t0:=Tryz.underlying0
 a0:=Tryz.isAgg0
 z0:=Tryz.sizeOf0
 v0:=Tryz.zeroValue0
 t3:=Tryz.underlying3
 a3:=Tryz.isAgg3
 z3:=Tryz.sizeOf3
 v3:=Tryz.zeroValue3
 t4:=Tryz.underlying4
 a4:=Tryz.isAgg4
 z4:=Tryz.sizeOf4
 v4:=Tryz.zeroValue4
 t9:=Tryz.underlying9
 a9:=Tryz.isAgg9
 z9:=Tryz.sizeOf9
 v9:=Tryz.zeroValue9
 t20:=Tryz.underlying20
 a20:=Tryz.isAgg20
 z20:=Tryz.sizeOf20
 v20:=Tryz.zeroValue20
 t31:=Tryz.underlying67
 a31:=Tryz.isAgg67
 z31:=Tryz.sizeOf67
 v31:=Tryz.zeroValue67
 t37:=Tryz.underlying22
 a37:=Tryz.isAgg22
 z37:=Tryz.sizeOf22
 v37:=Tryz.zeroValue22
 t70:=Tryz.underlying254
 a70:=Tryz.isAgg254
 z70:=Tryz.sizeOf254
 v70:=Tryz.zeroValue254
 t72:=Tryz.underlying256
 a72:=Tryz.isAgg256
 z72:=Tryz.sizeOf256
 v72:=Tryz.zeroValue256
 t75:=Tryz.underlying258
 a75:=Tryz.isAgg258
 z75:=Tryz.sizeOf258
 v75:=Tryz.zeroValue258
 t76:=Tryz.underlying260
 a76:=Tryz.isAgg260
 z76:=Tryz.sizeOf260
 v76:=Tryz.zeroValue260
 t127:=Tryz.underlying373
 a127:=Tryz.isAgg373
 z127:=Tryz.sizeOf373
 v127:=Tryz.zeroValue373
 t164:=Tryz.underlying470
 a164:=Tryz.isAgg470
 z164:=Tryz.sizeOf470
 v164:=Tryz.zeroValue470 }
theorem Tryz.Builder_Extra_156:Builder.Extra Tryz.prog Tryz.lays156_ren:={
 sizeBuilder:=by kernel_rfl
 liesBuilder:=by kernel_rfl
 t5:=Tryz.underlying5
 a5:=Tryz.isAgg5
 z5:=Tryz.sizeOf5
 v5:=Tryz.zeroValue5
 infoByte:=by kernel_rfl
 cellsByte:=by kernel_rfl
 sizeByte:=by kernel_rfl
 neB5:=by decide }
open Go.RowKit in
theorem Tryz.strings_Join_none (a:Option Addr) (c:Nat) (sep:ByteArray) (w:World) :
  Calls Tryz.prog 267 #[.slice a 0 c,.string sep] w fun e w' => e = .returned (.string ⟨#[]⟩)∧w' = w:=Any.strings_Join_none Tryz.lays156 Tryz.Builder_Extra_156 a c sep w
open Go.RowKit in
theorem Tryz.strings_Join (bk o c:Nat) (xs:List ByteArray) (sep:ByteArray) (w:World) (hcells:∀ (j:Nat) x,xs[j]? = some x→w.cell? ⟨bk,o + j,none⟩=some (.string x)) (hbk:bk < w.heap.size) (hN:xs.length≤140737488355328) (hcap:xs.length≤c) (hlen:(Lib.join (xs.map (·.data.toList)) sep.data.toList).length≤140737488355328) :
  Calls Tryz.prog 267 #[.slice (some ⟨bk,o,none⟩) xs.length c,.string sep] w fun e w' => e = .returned (.string ⟨(Lib.join (xs.map (·.data.toList)) sep.data.toList).toArray⟩)∧Below w.heap.size w w':=Any.strings_Join Tryz.lays156 Tryz.Builder_Extra_156 bk o c xs sep w hcells hbk hN hcap hlen
def Tryz.lays137_ren:Go.Shelf.Ren:=⟨fun | 137 => 263 | 217 => 274 | 266 => 368 | n => n,fun | 9 => 9 | 5 => 5 | 3 => 3 | n => n,fun | n => n⟩
theorem Tryz.lays137:Go.Proofs.Lays.n137 Tryz.prog Tryz.lays137_ren:={
 mixed:=by kernel_rfl
 f137:=Tryz.func263.trans (congrArg some (by kernel_rfl))
 f217:=Tryz.func274.trans (congrArg some (by kernel_rfl))
 f266:=Tryz.func368.trans (congrArg some (by kernel_rfl))
 t3:=Tryz.underlying3
 a3:=Tryz.isAgg3
 z3:=Tryz.sizeOf3
 v3:=Tryz.zeroValue3
 t5:=Tryz.underlying5
 a5:=Tryz.isAgg5
 z5:=Tryz.sizeOf5
 v5:=Tryz.zeroValue5
 t9:=Tryz.underlying9
 a9:=Tryz.isAgg9
 z9:=Tryz.sizeOf9
 v9:=Tryz.zeroValue9 }
open Go.RowKit in
theorem Tryz.strings_IndexByte (s:ByteArray) (c:Int) (w:World) :
  Calls Tryz.prog 263 #[.string s,.int .u8 c] w fun e w' => e = .returned (.int .i64 (Lib.indexByte s.data.toList c.toNat.toUInt8))∧w' = w:=Any.strings_IndexByte Tryz.lays137 s c w
def Tryz.laysM171_ren:Go.Shelf.Ren:=⟨fun | 171 => 264 | 243 => 365 | 246 => 428 | 283 => 464 | 284 => 465 | 285 => 466 | 286 => 467 | 129 => 352 | 317 => 507 | 318 => 508 | 319 => 509 | 320 => 510 | 337 => 529 | 338 => 530 | n => n,fun | 3 => 3 | 9 => 9 | 2 => 2 | 4 => 4 | 171 => 694 | 0 => 0 | 53 => 558 | 37 => 22 | 5 => 5 | 173 => 696 | 212 => 725 | 51 => 556 | 20 => 20 | 213 => 726 | 46 => 418 | 232 => 744 | 233 => 745 | n => n,fun | 17 => 6 | 18 => 9 | 19 => 10 | n => n⟩
theorem Tryz.laysM171:Go.Proofs.LaysM.n171 Tryz.prog Tryz.laysM171_ren:={
 mixed:=by kernel_rfl
 f129:=Tryz.func352.trans (congrArg some (by kernel_rfl))
 f171:=Tryz.func264.trans (congrArg some (by kernel_rfl))
 f243:=Tryz.func365.trans (congrArg some (by kernel_rfl))
 f246:=Tryz.func428.trans (congrArg some (by kernel_rfl))
 f283:=Tryz.func464.trans (congrArg some (by kernel_rfl))
 f284:=Tryz.func465.trans (congrArg some (by kernel_rfl))
 f285:=Tryz.func466.trans (congrArg some (by kernel_rfl))
 f286:=Tryz.func467.trans (congrArg some (by kernel_rfl))
 f317:=Tryz.func507.trans (congrArg some (by kernel_rfl))
 f318:=Tryz.func508.trans (congrArg some (by kernel_rfl))
 f319:=Tryz.func509.trans (congrArg some (by kernel_rfl))
 f320:=Tryz.func510.trans (congrArg some (by kernel_rfl))
 f337:=Tryz.func529.trans (congrArg some (by kernel_rfl))
 f338:=Tryz.func530.trans (congrArg some (by kernel_rfl))
 t0:=Tryz.underlying0
 a0:=Tryz.isAgg0
 z0:=Tryz.sizeOf0
 v0:=Tryz.zeroValue0
 t2:=Tryz.underlying2
 a2:=Tryz.isAgg2
 z2:=Tryz.sizeOf2
 v2:=Tryz.zeroValue2
 t3:=Tryz.underlying3
 a3:=Tryz.isAgg3
 z3:=Tryz.sizeOf3
 v3:=Tryz.zeroValue3
 t4:=Tryz.underlying4
 a4:=Tryz.isAgg4
 z4:=Tryz.sizeOf4
 v4:=Tryz.zeroValue4
 t5:=Tryz.underlying5
 a5:=Tryz.isAgg5
 z5:=Tryz.sizeOf5
 v5:=Tryz.zeroValue5
 t9:=Tryz.underlying9
 a9:=Tryz.isAgg9
 z9:=Tryz.sizeOf9
 v9:=Tryz.zeroValue9
 t20:=Tryz.underlying20
 a20:=Tryz.isAgg20
 z20:=Tryz.sizeOf20
 v20:=Tryz.zeroValue20
 t37:=Tryz.underlying22
 a37:=Tryz.isAgg22
 z37:=Tryz.sizeOf22
 v37:=Tryz.zeroValue22
 t46:=Tryz.underlying418
 a46:=Tryz.isAgg418
 z46:=Tryz.sizeOf418
 v46:=Tryz.zeroValue418
 t51:=Tryz.underlying556
 a51:=Tryz.isAgg556
 z51:=Tryz.sizeOf556
 v51:=Tryz.zeroValue556
 t53:=Tryz.underlying558
 a53:=Tryz.isAgg558
 z53:=Tryz.sizeOf558
 v53:=Tryz.zeroValue558
 t171:=Tryz.underlying694
 a171:=Tryz.isAgg694
 z171:=Tryz.sizeOf694
 v171:=Tryz.zeroValue694
 t173:=Tryz.underlying696
 a173:=Tryz.isAgg696
 z173:=Tryz.sizeOf696
 v173:=Tryz.zeroValue696
 t212:=Tryz.underlying725
 a212:=Tryz.isAgg725
 z212:=Tryz.sizeOf725
 v212:=Tryz.zeroValue725
 t213:=Tryz.underlying726
 a213:=Tryz.isAgg726
 z213:=Tryz.sizeOf726
 t232:=Tryz.underlying744
 a232:=Tryz.isAgg744
 z232:=Tryz.sizeOf744
 v232:=Tryz.zeroValue744
 t233:=Tryz.underlying745
 a233:=Tryz.isAgg745
 z233:=Tryz.sizeOf745
 v233:=Tryz.zeroValue745
 g17:=by kernel_rfl
 g18:=by kernel_rfl
 g19:=by kernel_rfl
 i0:=by kernel_rfl
 i2:=by kernel_rfl
 i3:=by kernel_rfl
 i4:=by kernel_rfl
 i5:=by kernel_rfl
 i9:=by kernel_rfl
 i20:=by kernel_rfl
 i37:=by kernel_rfl
 i46:=by kernel_rfl
 i51:=by kernel_rfl
 i53:=by kernel_rfl
 i171:=by kernel_rfl
 i173:=by kernel_rfl
 i212:=by kernel_rfl
 i232:=by kernel_rfl
 i233:=by kernel_rfl
 m17:=by kernel_rfl
 m18:=by kernel_rfl
 m19:=by kernel_rfl }
open Go.RowKit Go.Sort Go.Lib in
theorem Tryz.strconv_Itoa (n:Int) (h0:-9223372036854775808≤n) (h1:n≤9223372036854775807) (w:World) (htab:Lib.TabIs Tryz.prog w "internal/strconv.uint64pow10" .u64 Lib.pow10Tab) :
  Calls Tryz.prog 264 #[.int .i64 n] w fun e w' => e = .returned (.string ⟨(Lib.itoa n).toArray⟩)∧∃ k os,w' = grow (w.drewN k) os:=Any.strconv_Itoa Tryz.laysM171 n h0 h1 w htab
def Tryz.lays146_ren:Go.Shelf.Ren:=⟨fun | 146 => 23 | 221 => 59 | 268 => 124 | 138 => 125 | 143 => 126 | 195 => 201 | 197 => 202 | 218 => 203 | 219 => 204 | 260 => 273 | 217 => 274 | 225 => 275 | 224 => 276 | 267 => 277 | 266 => 368 | 314 => 369 | n => n,fun | 9 => 9 | 31 => 67 | 3 => 3 | 4 => 4 | 0 => 0 | 105 => 369 | 21 => 21 | 5 => 5 | 46 => 418 | 119 => 577 | 139 => 580 | 138 => 579 | 146 => 581 | 51 => 556 | n => n,fun | 1 => 0 | 3 => 1 | 4 => 2 | n => n⟩
theorem Tryz.lays146:Go.Proofs.Lays.n146 Tryz.prog Tryz.lays146_ren:={
 mixed:=by kernel_rfl
 f138:=Tryz.func125.trans (congrArg some (by kernel_rfl))
 f143:=Tryz.func126.trans (congrArg some (by kernel_rfl))
 f146:=Tryz.func23.trans (congrArg some (by kernel_rfl))
 f195:=Tryz.func201.trans (congrArg some (by kernel_rfl))
 f197:=Tryz.func202.trans (congrArg some (by kernel_rfl))
 f217:=Tryz.func274.trans (congrArg some (by kernel_rfl))
 f218:=Tryz.func203.trans (congrArg some (by kernel_rfl))
 f219:=Tryz.func204.trans (congrArg some (by kernel_rfl))
 f221:=Tryz.func59.trans (congrArg some (by kernel_rfl))
 f224:=Tryz.func276.trans (congrArg some (by kernel_rfl))
 f225:=Tryz.func275.trans (congrArg some (by kernel_rfl))
 f260:=Tryz.func273.trans (congrArg some (by kernel_rfl))
 f266:=Tryz.func368.trans (congrArg some (by kernel_rfl))
 f267:=Tryz.func277.trans (congrArg some (by kernel_rfl))
 f268:=Tryz.func124.trans (congrArg some (by kernel_rfl))
 f314:=Tryz.func369.trans (congrArg some (by kernel_rfl))
 t0:=Tryz.underlying0
 a0:=Tryz.isAgg0
 z0:=Tryz.sizeOf0
 v0:=Tryz.zeroValue0
 t3:=Tryz.underlying3
 a3:=Tryz.isAgg3
 z3:=Tryz.sizeOf3
 v3:=Tryz.zeroValue3
 t4:=Tryz.underlying4
 a4:=Tryz.isAgg4
 z4:=Tryz.sizeOf4
 v4:=Tryz.zeroValue4
 t5:=Tryz.underlying5
 a5:=Tryz.isAgg5
 z5:=Tryz.sizeOf5
 v5:=Tryz.zeroValue5
 t9:=Tryz.underlying9
 a9:=Tryz.isAgg9
 z9:=Tryz.sizeOf9
 v9:=Tryz.zeroValue9
 t21:=Tryz.underlying21
 a21:=Tryz.isAgg21
 z21:=Tryz.sizeOf21
 v21:=Tryz.zeroValue21
 t31:=Tryz.underlying67
 a31:=Tryz.isAgg67
 z31:=Tryz.sizeOf67
 v31:=Tryz.zeroValue67
 t46:=Tryz.underlying418
 a46:=Tryz.isAgg418
 z46:=Tryz.sizeOf418
 v46:=Tryz.zeroValue418
 t51:=Tryz.underlying556
 a51:=Tryz.isAgg556
 z51:=Tryz.sizeOf556
 v51:=Tryz.zeroValue556
 t105:=Tryz.underlying369
 a105:=Tryz.isAgg369
 z105:=Tryz.sizeOf369
 v105:=Tryz.zeroValue369
 t119:=Tryz.underlying577
 a119:=Tryz.isAgg577
 z119:=Tryz.sizeOf577
 t138:=Tryz.underlying579
 a138:=Tryz.isAgg579
 z138:=Tryz.sizeOf579
 v138:=Tryz.zeroValue579
 t139:=Tryz.underlying580
 a139:=Tryz.isAgg580
 z139:=Tryz.sizeOf580
 v139:=Tryz.zeroValue580
 t146:=Tryz.underlying581
 a146:=Tryz.isAgg581
 z146:=Tryz.sizeOf581
 v146:=Tryz.zeroValue581
 g1:=by kernel_rfl
 g3:=by kernel_rfl
 g4:=by kernel_rfl }
open Go.RowKit Go.Lib in
theorem Tryz.strings_Split (s sep:ByteArray) (m:Int) (w:World) (hs:s.size < 4294967281) (hm:w.cell? ⟨0,0,none⟩=some (.int .i64 m)) (h1:1≤sep.size) :
  Calls Tryz.prog 23 #[.string s,.string sep] w fun e w' =>
   e = .returned (.slice (some ⟨w.heap.size,0,none⟩) (Lib.countB s sep + 1) (Lib.countB s sep + 1))∧w' = w.alloc (.cells ((Lib.splitB sep 0 (Lib.countB s sep) s).map Value.string).toArray 9):=Any.strings_Split Tryz.lays146 (by kernel_rfl) s sep m w hs hm h1
end Go.Proofs
namespace Go.Proofs.YtdncjmehhahidaaGreatDoor
open Go.RowKit (Below)
set_option linter.unusedVariables false
set_option linter.unusedSimpArgs false
section rules
variable {X:Pt}{E:Env}{H:List Seg}{ops:Array Oper}{os:List Oper}{k:List Item}{ds:List Deferred}{d:Nat}{ty:TypeId}{pos:String}{after:Array Edge}{g:Option (Nat×Bool)}
end rules
section calls
variable {P:Program}{f:FuncId}{args:List Value}{w0:World}{base:Nat}{H:List Seg}
theorem SCalls.of_belowX {Q:Value→Prop}(h:∀ w,Sep w0 base w H→Calls P f args.toArray w fun e w' => ∃ v,e = .returned v∧Q v∧Below w.heap.size w w'):SCalls P f args w0 base H (fun u H' => Q u∧H' = H) :=
 fun w S => (h w S).mono fun e w' ⟨v,he,hq,hw⟩ => ⟨v,H,he,⟨hq,rfl⟩,S.kept hw⟩
end calls
end Go.Proofs.YtdncjmehhahidaaGreatDoor
namespace Go.Proofs.YtdncjmehhahidaaGreatDoor
set_option linter.unusedVariables false
set_option linter.unusedSimpArgs false
set_option maxRecDepth 100000
structure Tab10 (w0:World) (base:Nat):Prop where
  lt:6 < base
  var:Lib.TabIs Tryz.prog w0 "internal/strconv.uint64pow10" .u64 Lib.pow10Tab
theorem Tab10.below {w0:World}{base:Nat}{w:World}(T:Tab10 w0 base) (B:Go.RowKit.Below base w0 w):Lib.TabIs Tryz.prog w "internal/strconv.uint64pow10" .u64 Lib.pow10Tab:=by
 have h:=T.var
 have hg:Tryz.prog.globalNamed "internal/strconv.uint64pow10" = some 6:=by kernel_rfl
 have hb:=B.block _ T.lt
 unfold Lib.TabIs World.var? at h ⊢
 rw [hg] at h ⊢
 simp only [Option.bind_some] at h ⊢
 rw [hb]; exact h
theorem Tab10.at {w0:World}{base:Nat}{w:World}{H:List Seg}(T:Tab10 w0 base) (S:Sep w0 base w H):Lib.TabIs Tryz.prog w "internal/strconv.uint64pow10" .u64 Lib.pow10Tab:=T.below S.below
theorem Tab10.cell {w0:World}{base:Nat}{w:World}(T:Tab10 w0 base) (B:Go.RowKit.Below base w0 w) {o:Nat}(ho:o < 20):w.cell? ⟨6,o,none⟩=some (.int .u64 ((10 ^ o:Nat):Int)):=by
 have:=Lib.TabIs.cell (T.below B) (g:=6) (by kernel_rfl) o (by rw [Lib.pow10Tab_length]; exact ho)
 rwa [Lib.pow10Tab_at o ho] at this
theorem Tab10.now {w0:World}{base:Nat}{w:World}{H:List Seg}(T:Tab10 w0 base) (S:Sep w0 base w H):Tab10 w w.heap.size:=⟨Nat.lt_of_lt_of_le T.lt S.base_le,T.at S⟩
theorem below_grow {w:World}{k:Nat}{os:Array Obj}:Go.RowKit.Below w.heap.size w (Go.Sort.grow (w.drewN k) os) :=
 ⟨rfl,rfl,rfl,by simp [Go.Sort.grow],fun j hj => by
  show (w.heap++os)[j]? = _
  rw [Array.getElem?_append_left hj]⟩
theorem zfS {w0:World}{base:Nat}{H:List Seg}{n:Int}(h0:-9223372036854775808≤n) (h1:n≤9223372036854775807) (T:Tab10 w0 base):SCalls Tryz.prog 264 [int n] w0 base H (fun v H' => v=str (Lib.itoa n)∧H' = H):=by
 refine SCalls.of_below fun w S => ?_
 refine (Tryz.strconv_Itoa n h0 h1 w (T.at S)).mono ?_
 rintro e w' ⟨he,k,os,rfl⟩
 exact ⟨he,below_grow⟩
theorem zfv {w0:World}{base:Nat}{H:List Seg}{D:Option Addr}{C:Nat}{ls:List (List UInt8)}{sep:List UInt8}(h:Rd tyS w0 base H D C ls) (hn:ls.length≤1000000) (hl:(Lib.join ls sep).length≤1000000) :
  SCalls Tryz.prog 267 [.slice D ls.length C,str sep] w0 base H (fun v H' => v=str (Lib.join ls sep)∧H' = H):=by
 have hle:=h.le
 refine SCalls.of_below fun w S => ?_
 cases ls with
 | nil => exact (Tryz.strings_Join_none D C ⟨⟨sep⟩⟩ w).mono fun e w' ⟨he,hw⟩ => ⟨he,hw ▸ Go.RowKit.Below.refl _ _⟩
 | cons x r =>
  obtain ⟨b,off,rfl,hc⟩:=h.cells (by simp)
  have key:∀ (ls:List (List UInt8)) (j:Nat) (s:List UInt8),ls[j]? = some s→(tyS.cells ls)[j]? = some (str s):=by
   intro ls
   induction ls with
   | nil => intro j s hs; simp at hs
   | cons a r ih =>
    intro j s hs
    have e:tyS.cells (a::r)=str a::tyS.cells r:=rfl
    rw [e]
    cases j with
    | zero => simp at hs; subst hs; rfl
    | succ j => simpa using ih j s (by simpa using hs)
  have c0:=hc w S 0 _ (key _ 0 x rfl)
  have hb:b < w.heap.size:=by
   refine Classical.byContradiction fun hb => ?_
   have:w.heap[b]? = none:=Array.getElem?_eq_none (by omega)
   simp [World.cell?,this] at c0
  have hmap:∀ r:List (List UInt8),(r.map fun s => (⟨⟨s⟩⟩:ByteArray)).map (·.data.toList)=r:=fun r => by
   induction r with
   | nil => rfl
   | cons a r ih => rw [List.map_cons,List.map_cons,ih]
  have:=Tryz.strings_Join b off C ((x::r).map fun s => (⟨⟨s⟩⟩:ByteArray)) ⟨⟨sep⟩⟩ w (fun j y hy => by
   rw [List.getElem?_map] at hy
   cases hq:(x::r)[j]? with
   | none => rw [hq] at hy; cases hy
   | some s => rw [hq] at hy; cases hy; exact hc w S j _ (key _ j s hq)) hb (by rw [List.length_map]; omega) (by rw [List.length_map]; exact hle) (by rw [hmap]; show (Lib.join (x::r) sep).length≤_; omega)
  rw [hmap,List.length_map] at this
  exact this
end Go.Proofs.YtdncjmehhahidaaGreatDoor
namespace Go.Proofs.YtdncjmehhahidaaGreatDoor
set_option linter.unusedVariables false
set_option linter.unusedSimpArgs false
set_option maxRecDepth 100000
def mark (i:Nat):UInt8:=UInt8.ofNat (160 + i % 90)
end Go.Proofs.YtdncjmehhahidaaGreatDoor
namespace Go.Proofs.YtdncjmehhahidaaGreatDoor
open Go.RowKit (Below)
set_option linter.unusedVariables false
set_option linter.unusedSimpArgs false
set_option linter.unusedSectionVars false
structure Ky (κ:Type) where
  val:κ→Value
  kd:TypeDesc→Bool
  same:∀ d a b,kd d=true→∃ t:Bool,Instr.sameNow d (val a) (val b)=some t∧(t=true↔a=b)
  plain:∀ d,kd d=true→(match d with | .interface _ => false | .array _ _ => false | .struct _ => false | _ => true)=true
def kyS:Ky (List UInt8) where
  val:=str
  kd d:=match d with | .string => true | _ => false
  same d a b h:=by
    cases d <;> first | (cases h; done) | skip
    refine ⟨(ByteArray.mk ⟨a⟩ == ByteArray.mk ⟨b⟩),rfl,?_⟩
    show ((Array.mk a) == (Array.mk b))=true↔a=b
    simp
  plain d h:=by cases d <;> first | (cases h; done) | rfl
section
variable {κ β:Type}(Q:Ky κ) (tv:β→Value)
def mapE:Nat→List (κ×β)→List MapEntry
 | _,[] => []
 | n,p::r => ⟨Q.val p.1,tv p.2,n⟩::mapE (n + 1) r
def mapO (kvs:List (κ×β)):Obj:=.map (mapE Q tv 0 kvs).toArray kvs.length
end
def atK {κ β:Type} [DecidableEq κ] (a:κ):List (κ×β)→Option β
 | [] => none
 | p::r => if a=p.1 then some p.2 else atK a r
section
variable {κ β:Type} [DecidableEq κ] {Q:Ky κ}{tv:β→Value}
theorem mapE_snoc (n:Nat) (kvs:List (κ×β)) (a:κ) (v:β):mapE Q tv n (kvs++[(a,v)])=mapE Q tv n kvs++[⟨Q.val a,tv v,n + kvs.length⟩]:=by
 induction kvs generalizing n with
 | nil => rfl
 | cons p r ih => simp only [List.cons_append,mapE,ih,List.length_cons]; rw [show n + 1 + r.length=n + (r.length + 1) by omega]
theorem zfh {d:TypeDesc}(hd:Q.kd d=true) (a:κ) (kvs:List (κ×β)) (n i:Nat):∃ r,Instr.findNow d (Q.val a) (mapE Q tv n kvs) i=some r∧r.map (·.2)=(atK a kvs).map tv:=by
 induction kvs generalizing n i with
 | nil => exact ⟨none,rfl,rfl⟩
 | cons p r ih =>
  obtain ⟨t,ht,hab⟩:=Q.same d a p.1 hd
  rw [mapE,Instr.findNow]
  simp only [ht]
  cases t with
  | true => exact ⟨_,rfl,by rw [atK,if_pos (hab.1 rfl)]; rfl⟩
  | false =>
   obtain ⟨q,h1,h2⟩:=ih (n + 1) (i + 1)
   have:¬ a=p.1:=fun h => by have:=hab.2 h; cases this
   exact ⟨q,h1,by rw [atK,if_neg this]; exact h2⟩
theorem zbZ {P:Program}{w:World}{t:TypeId}{d:TypeDesc}(hu:P.underlying t=some d) (hd:Q.kd d=true) (a:κ) (e:Bool):(Instr.checkKey e 10000 t (Q.val a)).run P w = .ok () w:=by
 have hp:=Q.plain d hd
 show (Instr.checkKey e (9999 + 1) t (Q.val a)).run P w=_
 unfold Instr.checkKey
 simp only [run_underlying hu,Sem.run_bind,Result.andThen_ok]
 cases d <;> first | (cases hp; done) | rfl
end
section
variable {X:Pt}{k:List Item}{E:Env}{ds:List Deferred}{H:List Seg}{ops:Array Oper}{os:List Oper}
  {d:Nat}{ty:TypeId}{pos:String}{after:Array Edge}{g:Option (Nat×Bool)}{κ β:Type} [DecidableEq κ] {Q:Ky κ}{tv:β→Value}
theorem Do.makeMap (Q:Ky κ) (tv:β→Value) {t:TypeId}:Does X E H (.makeMap t none) (fun v H' => ∃ b,v = .map (some b)∧H' = [(b,mapO Q tv ([]:List (κ×β)))]::H) :=
 Does.core rfl fun dst ty pos after g ρ w hρ S => ⟨.map (some w.heap.size),w.alloc (.map #[] 0),_,by
  simp [execOp,Instr.makeMap,newObj,Sem.run],S.alloc _,w.heap.size,rfl,rfl⟩
theorem AtL.makeMap (Q:Ky κ) (tv:β→Value) {t:TypeId}(hg:Wd X ops E g) (hd:Nat.blt d X.n=true) (hk:∀ b,AtL X ops os k ((d,.map (some b))::E) ds ([(b,mapO Q tv ([]:List (κ×β)))]::H)) :
  AtL X ops (⟨some d,.makeMap t none,ty,pos,after,g⟩::os) k E ds H :=
 AtL.of (Do.makeMap Q tv) hg hd fun _ _ ⟨b,hv,hH⟩ => by subst hv; subst hH; exact hk b
theorem zfM {P:Program}{w:World}{t kt et:TypeId}{dd:TypeDesc}{b:Nat}{kvs:List (κ×β)}{a:κ}{v:β}(hu:P.underlying t=some (.map kt et)) (hk:P.underlying kt=some dd) (hd:Q.kd dd=true) (hb:w.heap[b]? = some (mapO Q tv kvs)) (hno:atK a kvs=none) :
  (Instr.mapUpdate t (.map (some b)) (Q.val a) (tv v)).run P w = .ok () { w with heap:=w.heap.setIfInBounds b (mapO Q tv (kvs++[(a,v)])) }:=by
 obtain ⟨r,h1,h2⟩:=zfh (tv:=tv) hd a kvs 0 0
 rw [hno] at h2
 obtain rfl:r=none:=by cases r with | none => rfl | some q => cases h2
 have hg:(getObj b).run P w = .ok (mapO Q tv kvs) w:=zbi hb rfl
 have hs:∀ o,(setObj b o).run P w = .ok () { w with heap:=w.heap.setIfInBounds b o }:=fun o => zaH hb rfl
 unfold Instr.mapUpdate
 simp only [run_underlying hu,Sem.run_bind,Result.andThen_ok,hg,mapO,zbZ hk hd,Instr.findKey,run_underlying hk,h1,Sem.run_pure,hs]
 simp only [mapE_snoc,Nat.zero_add,List.push_toArray,List.length_append,List.length_singleton]
theorem Do.insert {t kt et:TypeId}{dd:TypeDesc}{x y z:Operand}{b:Nat}{kvs:List (κ×β)}{a:κ}{v:β}{s:Seg}{H' : List Seg}(i j:Nat) (hu:X.P.underlying t=some (.map kt et)) (hk:X.P.underlying kt=some dd) (hd:Q.kd dd=true)
  (hi:H[i]? = some s) (hj:s[j]? = some (b,mapO Q tv kvs)) (hno:atK a kvs=none) (hx:ev E x=some (.map (some b))) (hy:ev E y=some (Q.val a)) (hz:ev E z=some (tv v)) (hH:H.set i (s.set j (b,mapO Q tv (kvs++[(a,v)])))=H'):Does X E H (.insert t x y z) (Is undef H') :=
 Does.coreU rfl fun dst ty pos after g ρ w hρ S => by
  have hb:=(S.at_ hi hj).1
  refine ⟨_,H',?_,hH ▸ S.setObj hi hj _,rfl,rfl⟩
  have:=zfM (P:=X.P) hu hk hd hb hno (v:=v)
  simp [execOp,hρ _ _ hx,hρ _ _ hy,hρ _ _ hz,this]
theorem AtL.insert {t kt et:TypeId}{dd:TypeDesc}{x y z:Operand}{b:Nat}{kvs:List (κ×β)}{a:κ}{v:β}{s:Seg}{H' : List Seg}(i j:Nat) (hu:X.P.underlying t=some (.map kt et)) (hk:X.P.underlying kt=some dd) (hd:Q.kd dd=true) (hg:Wd X ops E g)
  (hi:H[i]? = some s) (hj:s[j]? = some (b,mapO Q tv kvs)) (hno:atK a kvs=none) (hx:ev E x=some (.map (some b))) (hy:ev E y=some (Q.val a)) (hz:ev E z=some (tv v)) (hH:H.set i (s.set j (b,mapO Q tv (kvs++[(a,v)])))=H') (hk2:AtL X ops os k E ds H') :
  AtL X ops (⟨none,.insert t x y z,ty,pos,after,g⟩::os) k E ds H :=
 AtL.of (Do.insert i j hu hk hd hi hj hno hx hy hz hH) hg rfl fun _ _ ⟨hv,hH⟩ => by subst hv; subst hH; exact hk2
theorem lookup_run {P:Program}{w:World}{t kt et:TypeId}{dd:TypeDesc}{b:Nat}{kvs:List (κ×β)}{a:κ}{z:Value}(ok:Bool) (hu:P.underlying t=some (.map kt et)) (hk:P.underlying kt=some dd) (hd:Q.kd dd=true) (hb:w.heap[b]? = some (mapO Q tv kvs)) (hz:zeroV P et=some z) :
  (Instr.lookup t (.map (some b)) (Q.val a) ok).run P w = .ok (if ok then .tuple #[((atK a kvs).map tv).getD z,.bool (atK a kvs).isSome] else ((atK a kvs).map tv).getD z) w:=by
 obtain ⟨r,h1,h2⟩:=zfh (tv:=tv) hd a kvs 0 0
 have hg:(getObj b).run P w = .ok (mapO Q tv kvs) w:=zbi hb rfl
 unfold Instr.lookup
 simp only [run_underlying hu,Sem.run_bind,Result.andThen_ok,hg,mapO,Sem.run_pure,zbZ hk hd,Instr.findKey,run_underlying hk,h1]
 cases r with
 | none =>
  have h3:atK a kvs=none:=by cases h:atK a kvs with | none => rfl | some q => rw [h] at h2; cases h2
  simp only [zcr hz,Sem.run_bind,Result.andThen_ok,Sem.run_pure,h3,Option.map_none,Option.getD_none,Option.isSome_none]
 | some q =>
  obtain ⟨q1,q2⟩:=q
  cases h3:atK a kvs with
  | none => rw [h3] at h2; cases h2
  | some u =>
   rw [h3] at h2
   simp only [Option.map_some,Option.some.injEq] at h2
   subst h2
   cases ok <;> rfl
theorem Do.lookup {t kt et:TypeId}{dd:TypeDesc}{x y:Operand}{b:Nat}{kvs:List (κ×β)}{a:κ}{z:Value}{s:Seg}{v:Value}(ok:Bool) (i j:Nat) (hu:X.P.underlying t=some (.map kt et)) (hk:X.P.underlying kt=some dd) (hd:Q.kd dd=true) (hz:zeroV X.P et=some z)
  (hi:H[i]? = some s) (hj:s[j]? = some (b,mapO Q tv kvs)) (hx:ev E x=some (.map (some b))) (hy:ev E y=some (Q.val a)) (hv:(if ok then .tuple #[((atK a kvs).map tv).getD z,.bool (atK a kvs).isSome] else ((atK a kvs).map tv).getD z)=v):Does X E H (.lookup t x y ok) (Is v H) :=
 Does.core rfl fun dst ty pos after g ρ w hρ S => ⟨v,w,H,by
  have:=lookup_run (P:=X.P) (a:=a) ok hu hk hd (S.at_ hi hj).1 hz
  simp [execOp,hρ _ _ hx,hρ _ _ hy,this,hv],S,rfl,rfl⟩
theorem AtL.lookup {t kt et:TypeId}{dd:TypeDesc}{x y:Operand}{b:Nat}{kvs:List (κ×β)}{a:κ}{z:Value}{s:Seg}{v:Value}{ok:Bool}(i j:Nat) (hu:X.P.underlying t=some (.map kt et)) (hk:X.P.underlying kt=some dd) (hd:Q.kd dd=true) (hz:zeroV X.P et=some z) (hg:Wd X ops E g) (hd2:Nat.blt d X.n=true)
  (hi:H[i]? = some s) (hj:s[j]? = some (b,mapO Q tv kvs)) (hx:ev E x=some (.map (some b))) (hy:ev E y=some (Q.val a)) (hv:(if ok then .tuple #[((atK a kvs).map tv).getD z,.bool (atK a kvs).isSome] else ((atK a kvs).map tv).getD z)=v) (hk2:AtL X ops os k ((d,v)::E) ds H) :
  AtL X ops (⟨some d,.lookup t x y ok,ty,pos,after,g⟩::os) k E ds H:=AtL.ofIs (Do.lookup ok i j hu hk hd hz hi hj hx hy hv) hg hd2 hk2
end
end Go.Proofs.YtdncjmehhahidaaGreatDoor
namespace Go.Proofs.YtdncjmehhahidaaGreatDoor
set_option linter.unusedVariables false
set_option linter.unusedSimpArgs false
set_option maxRecDepth 100000
def flL (ls:List (List UInt8)):List UInt8:=ls.flatMap fun l => UInt8.ofNat l.length::l
def nmL (ls:List (List UInt8)):List UInt8:=flL ls++[0]
def LsOk (ls:List (List UInt8)):Prop:=∀ l ∈ ls,1≤l.length∧l.length≤63
def NmOk (n:List UInt8):Prop:=∃ ls,LsOk ls∧n=nmL ls∧n.length≤255
theorem zdv (l:List UInt8) (ls:List (List UInt8)):flL (l::ls)=UInt8.ofNat l.length::(l++flL ls):=by simp [flL]
theorem zfX (a b:List (List UInt8)):flL (a++b)=flL a++flL b:=by simp [flL]
theorem zc0 (a:List (List UInt8)) (l:List UInt8):flL (a++[l])=flL a++(UInt8.ofNat l.length::l):=by simp [flL]
theorem zfJ:nmL []=[0]:=rfl
theorem zaD (l:List UInt8) (ls:List (List UInt8)):nmL (l::ls)=UInt8.ofNat l.length::(l++nmL ls):=by simp [nmL,zdv]
theorem nmL_app (a b:List (List UInt8)):nmL (a++b)=flL a++nmL b:=by simp [nmL,zfX]
theorem zeu (ls:List (List UInt8)):0 < (nmL ls).length:=by simp [nmL]
theorem LsOk.nil:LsOk []:=fun _ h => by cases h
theorem LsOk.snoc {a:List (List UInt8)}{l:List UInt8}(h:LsOk a) (hl:1≤l.length∧l.length≤63):LsOk (a++[l]):=fun x hx => by
 rcases List.mem_append.1 hx with hx | hx
 ·exact h x hx
 ·rw [List.mem_singleton.1 hx]; exact hl
theorem LsOk.app {a b:List (List UInt8)}(h:LsOk a) (hb:LsOk b):LsOk (a++b):=fun x hx => (List.mem_append.1 hx).elim (h x) (hb x)
theorem LsOk.left {a b:List (List UInt8)}(h:LsOk (a++b)):LsOk a:=fun x hx => h x (List.mem_append_left _ hx)
theorem LsOk.right {a b:List (List UInt8)}(h:LsOk (a++b)):LsOk b:=fun x hx => h x (List.mem_append_right _ hx)
theorem zbU {n:Nat}(h:n≤255):(UInt8.ofNat n).toNat=n:=by
 rw [UInt8.toNat_ofNat']; omega
theorem nm_head {l:List UInt8}{ls:List (List UInt8)}(h:l.length≤63):((nmL (l::ls)).getD 0 0).toNat=l.length:=by
 rw [zaD]; show (UInt8.ofNat l.length).toNat=_; exact zbU (by omega)
theorem nm_len {l:List UInt8}{ls:List (List UInt8)}:(nmL (l::ls)).length=1 + l.length + (nmL ls).length:=by
 rw [zaD]; simp; omega
theorem nm_drop {l:List UInt8}{ls:List (List UInt8)}:subl (nmL (l::ls)) (1 + l.length) (nmL (l::ls)).length=nmL ls:=by
 rw [zcv,zaD,show 1 + l.length=l.length + 1 from by omega,List.drop_succ_cons,List.drop_left]
theorem nm_step {y:List UInt8}(hl:0 < y.length) (h63:(y.getD 0 0).toNat≤63) (hlt:(y.getD 0 0).toNat < y.length):∃ l,l=subl y 1 (1 + (y.getD 0 0).toNat)∧l.length=(y.getD 0 0).toNat∧y=UInt8.ofNat l.length::(l++subl y (1 + (y.getD 0 0).toNat) y.length):=by
 cases y with
 | nil => cases hl
 | cons c r =>
  have hc:((c::r).getD 0 0)=c:=rfl
  rw [hc] at h63 hlt ⊢
  have hr:c.toNat≤r.length:=by simp at hlt; omega
  have e:(subl (c::r) 1 (1 + c.toNat))=r.take c.toNat:=by simp [subl]
  refine ⟨_,rfl,by rw [e,List.length_take]; omega,?_⟩
  rw [zcv,e,List.length_take,Nat.min_eq_left hr,show 1 + c.toNat=c.toNat + 1 from by omega,List.drop_succ_cons,List.take_append_drop]
  congr 1
  exact (UInt8.ofNat_toNat).symm
theorem nm_open {ls:List (List UInt8)}(h:LsOk ls) (hne:nmL ls≠[0]):∃ l r,ls=l::r∧1≤l.length∧l.length≤63:=by
 cases ls with
 | nil => exact absurd rfl hne
 | cons l r => exact ⟨l,r,rfl,h l (List.mem_cons_self ..)⟩
theorem nm_more {l y:List UInt8}{pre:List (List UInt8)}(hp:1≤l.length∧l.length≤63) (h:∃ ls,LsOk ls∧UInt8.ofNat l.length::(l++y)=nmL ls):∃ ls,LsOk ls∧y=nmL ls:=by
 obtain ⟨ls,h1,h2⟩:=h
 have hne:nmL ls≠[0]:=by rw [← h2]; intro h9; have:=congrArg List.length h9; simp only [List.length_cons,List.length_append,List.length_nil] at this; omega
 obtain ⟨m,r,rfl,h3,h4⟩:=nm_open h1 hne
 rw [zaD] at h2
 injection h2 with h5 h6
 have h7:l.length=m.length:=by have:=congrArg UInt8.toNat h5; rwa [zbU (by omega),zbU (by omega)] at this
 have h8:=List.append_inj h6 h7
 exact ⟨r,fun x hx => h1 x (List.mem_cons_of_mem _ hx),h8.2⟩
theorem nm_back {y:List UInt8}{pre:List (List UInt8)}(hp:LsOk pre) (h:∃ ls,LsOk ls∧flL pre++y=nmL ls):∃ ls,LsOk ls∧y=nmL ls:=by
 induction pre with
 | nil => exact h
 | cons l pre ih =>
  refine ih (fun x hx => hp x (List.mem_cons_of_mem _ hx)) ?_
  rw [zdv,List.cons_append,List.append_assoc] at h
  exact nm_more (pre:=[]) (hp l (List.mem_cons_self ..)) h
theorem nm_bad {y:List UInt8}(hne:y≠[0]) (hb:y.length=0∨(y.getD 0 0).toNat=0∨63 < (y.getD 0 0).toNat∨y.length≤(y.getD 0 0).toNat):¬ ∃ ls,LsOk ls∧y=nmL ls:=by
 rintro ⟨ls,h1,rfl⟩
 obtain ⟨l,r,rfl,h3,h4⟩:=nm_open h1 hne
 rw [nm_head h4,nm_len] at hb
 have:=zeu r
 omega
def Stands (b:List UInt8) (i:Nat) (s:List UInt8):Prop:=subl b i (i + s.length)=s∧i + s.length≤b.length
theorem zcR (a s c:List UInt8):Stands (a++s++c) a.length s:=by
 refine ⟨?_,by simp⟩
 simp [subl,List.append_assoc]
theorem zca (a s:List UInt8):Stands (a++s) a.length s:=by
 have:=zcR a s []
 rwa [List.append_nil] at this
theorem Stands.app {b:List UInt8}{i:Nat}{s:List UInt8}(h:Stands b i s) (c:List UInt8):Stands (b++c) i s:=by
 refine ⟨?_,by have:=h.2; simp; omega⟩
 rw [subl,List.drop_append_of_le_length (by have:=h.2; omega),List.take_append_of_le_length (by rw [List.length_drop]; have:=h.2; omega)]
 exact h.1
theorem zb9 {b:List UInt8}{i:Nat}{s:List UInt8}:Stands b i s↔∃ a c,a.length=i∧b=a++s++c:=by
 constructor
 ·rintro ⟨h1,h2⟩
  refine ⟨b.take i,b.drop (i + s.length),by rw [List.length_take]; omega,?_⟩
  have e:b.drop (i + s.length)=(b.drop i).drop s.length:=by rw [List.drop_drop]
  have e2:(b.drop i).take s.length=s:=by have:=h1; rwa [subl,show i + s.length - i=s.length from by omega] at this
  rw [e,List.append_assoc]
  conv => rhs; rhs; lhs; rw [← e2]
  rw [List.take_append_drop,List.take_append_drop]
 ·rintro ⟨a,c,rfl,rfl⟩
  exact zcR a s c
theorem Stands.left {b:List UInt8}{i:Nat}{s t:List UInt8}(h:Stands b i (s++t)):Stands b i s:=by
 obtain ⟨a,c,h1,rfl⟩:=zb9.1 h
 exact zb9.2 ⟨a,t++c,h1,by simp⟩
theorem Stands.right {b:List UInt8}{i:Nat}{s t:List UInt8}(h:Stands b i (s++t)):Stands b (i + s.length) t:=by
 obtain ⟨a,c,h1,rfl⟩:=zb9.1 h
 exact zb9.2 ⟨a++s,c,by simp [h1],by simp⟩
theorem Stands.getD {b:List UInt8}{i:Nat}{s:List UInt8}(h:Stands b i s) {j:Nat}(hj:j < s.length):b.getD (i + j) 0=s.getD j 0:=by
 obtain ⟨a,c,rfl,rfl⟩:=zb9.1 h
 rw [List.append_assoc,List.getD_eq_getElem?_getD,List.getElem?_append_right (by omega),show a.length + j - a.length=j from by omega,List.getElem?_append_left hj,List.getD_eq_getElem?_getD]
def be2 (n:Int):List UInt8:=[UInt8.ofInt (n / 256),UInt8.ofInt n]
def be4 (n:Int):List UInt8:=[UInt8.ofInt (n / 16777216),UInt8.ofInt (n / 65536),UInt8.ofInt (n / 256),UInt8.ofInt n]
theorem zae (n:Int):(be2 n).length=2:=rfl
inductive Rn (b:List UInt8):Nat→Nat→List UInt8→Nat→Nat→Prop
  | zero {part i:Nat}(h:Stands b i [0]):Rn b part i [0] (i + 1) 0
  | lab {part i nx k:Nat}{l n:List UInt8}(hl:1≤l.length∧l.length≤63) (hs:Stands b i (UInt8.ofNat l.length::l)) (h:Rn b part (i + (1 + l.length)) n nx k):Rn b part i (UInt8.ofNat l.length::(l++n)) nx (k + 1)
  | ptr {part i p nx k:Nat}{n:List UInt8}(hp:p < part) (h14:p < 16384) (hs:Stands b i (be2 ((49152 + p:Nat):Int))) (h:Rn b p p n nx k):Rn b part i n (i + 2) (k + 1)
theorem Rn.inv {b:List UInt8}{part i nx k:Nat}{n:List UInt8}(h:Rn b part i n nx k):(n=[0]∧nx=i + 1∧Stands b i [0]) ∨
  (∃ l r k',k=k' + 1∧n=UInt8.ofNat l.length::(l++r)∧(1≤l.length∧l.length≤63)∧Stands b i (UInt8.ofNat l.length::l)∧Rn b part (i + (1 + l.length)) r nx k') ∨
  (∃ p nx' k',k=k' + 1∧nx=i + 2∧p < part∧p < 16384∧Stands b i (be2 ((49152 + p:Nat):Int))∧Rn b p p n nx' k'):=by
 cases h with
 | zero h => exact .inl ⟨rfl,rfl,h⟩
 | lab hl hs h => exact .inr (.inl ⟨_,_,_,rfl,rfl,hl,hs,h⟩)
 | ptr hp h14 hs h => exact .inr (.inr ⟨_,_,_,rfl,rfl,hp,h14,hs,h⟩)
theorem Rn.app {b:List UInt8}{part i nx k:Nat}{n:List UInt8}(h:Rn b part i n nx k) (c:List UInt8):Rn (b++c) part i n nx k:=by
 induction h with
 | zero h => exact .zero (h.app c)
 | lab hl hs _ ih => exact .lab hl (hs.app c) ih
 | ptr hp h14 hs _ ih => exact .ptr hp h14 (hs.app c) ih
theorem Rn.part {b:List UInt8}{part i nx k:Nat}{n:List UInt8}(h:Rn b part i n nx k) {q:Nat}(hq:part≤q):Rn b q i n nx k:=by
 induction h generalizing q with
 | zero h => exact .zero h
 | lab hl hs _ ih => exact .lab hl hs (ih hq)
 | ptr hp h14 hs h _ => exact .ptr (by omega) h14 hs h
theorem Rn.flat {b:List UInt8}{part nx k:Nat}{n:List UInt8}:∀ (ls:List (List UInt8)) {i:Nat},LsOk ls→Stands b i (flL ls)→Rn b part (i + (flL ls).length) n nx k→∃ k',Rn b part i (flL ls++n) nx k'
 | [],i,_,_,h => ⟨k,h⟩
 | l::ls,i,ho,hs,h => by
  rw [zdv] at hs h ⊢
  have hs2:Stands b i ((UInt8.ofNat l.length::l)++flL ls):=by simpa using hs
  have hr:=hs2.right
  have el:(UInt8.ofNat l.length::l).length=1 + l.length:=by simp; omega
  rw [el] at hr
  obtain ⟨k',hk⟩:=Rn.flat (n:=n) (nx:=nx) (k:=k) ls (i:=i + (1 + l.length)) (fun x hx => ho x (List.mem_cons_of_mem _ hx)) hr (by
   have e:(UInt8.ofNat l.length::(l++flL ls)).length=(1 + l.length) + (flL ls).length:=by simp; omega
   rw [e] at h
   rwa [Nat.add_assoc])
  refine ⟨k' + 1,?_⟩
  have:=Rn.lab (ho l (List.mem_cons_self ..)) hs2.left hk
  simpa using this
def PkE {β:Type}(B:β→List UInt8) (n:Nat) (q:List UInt8) (u:Int):Prop:=0≤u∧u < 16384∧u.toNat < n∧∀ z,∃ nx k,Rn (B z) u.toNat u.toNat q nx k
def PkOk {β:Type}(B:β→List UInt8) (n:Nat) (T:List (List UInt8×Int×Nat)):Prop:=∀ e ∈ T,PkE B n e.1 e.2.1
theorem PkOk.app {β:Type}{B:β→List UInt8}{n:Nat}{T:List (List UInt8×Int×Nat)}(h:PkOk B n T) (c:List UInt8):PkOk (fun z => B z++c) (n + c.length) T:=fun e he => by
 obtain ⟨h1,h2,h3,h4⟩:=h e he
 exact ⟨h1,h2,by omega,fun z => by obtain ⟨nx,k,h5⟩:=h4 z; exact ⟨nx,k,h5.app c⟩⟩
theorem PkOk.nil {β:Type}(B:β→List UInt8) (n:Nat):PkOk B n []:=fun _ h => by cases h
theorem PkOk.at_ {β:Type}{B:β→List UInt8}{n m:Nat}{T:List (List UInt8×Int×Nat)}(h:PkOk B n T) (z:β) (hm:n=m):PkOk (fun _:Unit => B z) m T:=fun e he => by
 subst hm
 obtain ⟨h1,h2,h3,h4⟩:=h e he
 exact ⟨h1,h2,h3,fun _ => h4 z⟩
theorem PkOk.any {β:Type}{b:List UInt8}{n m:Nat}{T:List (List UInt8×Int×Nat)}(h:PkOk (fun _:Unit => b) n T) (c:β→List UInt8) (hm:n≤m):PkOk (fun z => b++c z) m T:=fun e he => by
 obtain ⟨h1,h2,h3,h4⟩:=h e he
 exact ⟨h1,h2,by omega,fun z => by obtain ⟨nx,k,h5⟩:=h4 (); exact ⟨nx,k,h5.app _⟩⟩
def FrOk (at_:Nat) (d r:List (List UInt8)) (F:List (List UInt8×Int×Nat)):Prop:=∀ e ∈ F,∃ d1 d2,d=d1++d2∧e.1=flL d2++nmL r∧e.2.1=((at_ + (flL d1).length:Nat):Int)∧e.2.1 < 16384
theorem FrOk.nil (at_:Nat) (d r:List (List UInt8)):FrOk at_ d r []:=fun _ h => by cases h
theorem FrOk.step {at_:Nat}{d r:List (List UInt8)}{l:List UInt8}{F:List (List UInt8×Int×Nat)}(h:FrOk at_ d (l::r) F):FrOk at_ (d++[l]) r F:=fun e he => by
 obtain ⟨d1,d2,rfl,h2,h3,h4⟩:=h e he
 exact ⟨d1,d2++[l],by simp,by rw [h2,zaD,zc0]; simp,h3,h4⟩
theorem name_end {b:List UInt8}{d r:List (List UInt8)}{w:List UInt8}{F:List (List UInt8×Int×Nat)}{nx k:Nat}(hd:LsOk d) (hF:FrOk b.length d r F) (hw:0 < w.length)
  (h:∀ q,b.length≤q→Rn (b++(flL d++w)) q (b.length + (flL d).length) (nmL r) nx k):(∃ k',Rn (b++(flL d++w)) b.length b.length (nmL (d++r)) nx k')∧∀ e ∈ F,0≤e.2.1∧e.2.1 < 16384∧e.2.1.toNat < b.length + (flL d++w).length∧∃ nx k,Rn (b++(flL d++w)) e.2.1.toNat e.2.1.toNat e.1 nx k:=by
 have hs:Stands (b++(flL d++w)) b.length (flL d):=by
  rw [← List.append_assoc]; exact zcR b (flL d) w
 constructor
 ·rw [nmL_app]
  exact Rn.flat d hd hs (h _ (Nat.le_refl _))
 ·intro e he
  obtain ⟨d1,d2,rfl,h2,h3,h4⟩:=hF e he
  rw [zfX] at hs h
  have hr:=hs.right
  have hlen:b.length + (flL (d1++d2)++w).length=b.length + (flL d1).length + (flL d2).length + w.length:=by rw [zfX]; simp; omega
  have e5:e.2.1.toNat=b.length + (flL d1).length:=by omega
  rw [e5,h2]
  refine ⟨by omega,h4,by rw [hlen]; omega,nx,?_⟩
  have h9:=h (b.length + (flL d1).length) (by omega)
  rw [List.length_append,← Nat.add_assoc] at h9
  have:=Rn.flat d2 hd.right hr h9
  rwa [zfX]
end Go.Proofs.YtdncjmehhahidaaGreatDoor
namespace Go.Proofs.YtdncjmehhahidaaGreatDoor
set_option linter.unusedVariables false
set_option linter.unusedSimpArgs false
set_option maxRecDepth 100000
theorem y_in {P:Program}{lp:Nat}{args:List Value}{w0:World}{base:Nat}{s:Seg}{Hc T:List Seg}{B:Bool→List Seg→Prop}
  (h:∀ T',YCalls P lp args w0 base (Hc++T') (fun v H' => ∃ (b:Bool) (Hc' : List Seg),v = .bool b∧H' = Hc'++T'∧B b Hc')):YCalls P lp args w0 base (s::(Hc++T)) (fun v H' => ∃ (b:Bool) (Hc' : List Seg),v = .bool b∧H' = s::(Hc'++T)∧B b Hc') :=
 (YCalls.perm (perm1 s Hc T) (h (s::T))).permR fun v H1 ⟨b,Hc',e,eH,hA⟩ => ⟨_,eH ▸ (perm1 s Hc' T).symm,b,Hc',e,rfl,hA⟩
theorem zfW {ls:List (List UInt8)}(h:LsOk ls):2 * ls.length≤(flL ls).length:=by
 induction ls with
 | nil => simp
 | cons l r ih =>
  have h1:=h l (List.mem_cons_self ..)
  have h2:=ih fun x hx => h x (List.mem_cons_of_mem _ hx)
  rw [zdv]
  simp only [List.length_cons,List.length_append]
  omega
theorem all1_ok {w0:World}{base:Nat}{T Hc:List Seg}{lp bn:Nat}{n:List UInt8}{J:List (List UInt8)→List Seg→Prop}{K:List Seg→Prop}(hn:n.length≤4398046511104)
  (hY:∀ u acc Hc,(1≤u.length∧u.length≤63)→acc.length < 2199023255553→J acc Hc→∀ T',YCalls Tryz.prog lp [str u,.bool true] w0 base (Hc++T') (fun v H' => ∃ (b:Bool) (Hc' : List Seg),v = .bool b∧H' = Hc'++T'∧(b=true∧J (acc++[u]) Hc')))
  (hF:∀ acc Hc,J acc Hc→∀ T',YCalls Tryz.prog lp [str [],.bool false] w0 base (Hc++T') (fun v H' => ∃ (b:Bool) (Hc' : List Seg),v = .bool b∧H' = Hc'++T'∧(b=false∧K Hc')))
  (h0:J [] Hc) :
  SCalls Tryz.prog 367 [.func (.yield lp) #[] #[],.pointer (some ⟨bn,0,none⟩)] w0 base ([(bn,.cells #[str n] 9 (0,0))]::(Hc++T)) (fun v H' => ∃ (acc:List (List UInt8)) (y:List UInt8) (Hc' : List Seg),LsOk acc∧n=flL acc++y∧((y=[0]∧J acc Hc')∨((¬ ∃ ls,LsOk ls∧y=nmL ls)∧K Hc'))∧v = .tuple #[]∧H' = [(bn,.cells #[str y] 9 (0,0))]::(Hc'++T)):=by
 refine SCalls.of_walk (n:=43) Tryz.func367 rfl rfl rfl fun cs => ?_
 refine At.block<|At.loop3 (fun (y:List UInt8) (acc:List (List UInt8)) (Hc2:List Seg) => [(0,.func (.yield lp) #[] #[]),(1,.pointer (some ⟨bn,0,none⟩))]) (fun (y:List UInt8) (acc:List (List UInt8)) (Hc2:List Seg) => [(bn,.cells #[str y] 9 (0,0))]::(Hc2++T)) (fun (y:List UInt8) (acc:List (List UInt8)) (Hc2:List Seg) => n=flL acc++y∧LsOk acc∧J acc Hc2) (fun (y:List UInt8) (acc:List (List UInt8)) (Hc2:List Seg) => y.length) n [] Hc (⟨rfl,LsOk.nil,h0⟩) ⟨rfl,rfl,trivial⟩ rfl ?_
 rintro y acc Hc2 ⟨hsp,hls,hJ⟩ ihL1
 have hyn:(flL acc).length + y.length=n.length:=by rw [hsp,List.length_append]
 have hacc:acc.length < 2199023255553:=by have:=zfW hls; omega
 refine At.block<|At.seq<|At.seq<|At.region<|AtL.load zad zg0 rfl rfl (Cell.own 0 0 rfl rfl rfl)<|AtL.eqs (a:=y) (b:=[0]) zg0 rfl rfl rfl ?_
 refine AtL.done<|At.condD rfl ?_ ?_
 ·intro hc1
  exact At.ret Tryz.func367 rfl rfl (⟨acc,[0],Hc2,hls,(by rw [hsp,hc1]),.inl ⟨rfl,hJ⟩,rfl,(by rw [hc1])⟩)
 ·intro hc1
  refine At.skip<|At.seq<|At.seq ?_
  rcases Nat.eq_zero_or_pos y.length with hl0 | hl0
  ·refine At.draw (es:=[]) (pv:=[(0,str y),(1,.int .i64 (y.length:Int)),(2,.bool true),(3,.bool true),(4,undef),(5,undef),(6,undef),(7,.bool true),(8,.bool true),(9,undef),(10,undef),(11,undef),(12,.bool true),(13,.bool true),(14,undef),(15,undef),(16,undef),(17,undef),(18,undef),(19,undef),(20,.bool true)]) zaj (by kernel_rfl) (by kernel_rfl) (by kernel_rfl) ?_
   refine ⟨⟨zpr rfl rfl rfl (Do.load zad rfl (Cell.own 0 0 rfl rfl rfl)),zpr rfl rfl rfl (Do.lenS (l:=y) Tryz.underlying9 rfl),zpr rfl rfl rfl (Do.asBool (Do.eqi rfl rfl) (decide_eq_true (by omega))),zpr rfl rfl rfl (Do.move rfl),.inr ⟨_,rfl,rfl,.inr ⟨⟨_,_,_,rfl,rfl,rfl,rfl⟩,rfl⟩⟩,.inr ⟨_,rfl,rfl,.inr ⟨⟨_,_,_,rfl,rfl,rfl,rfl⟩,rfl⟩⟩,.inr ⟨_,rfl,rfl,.inr ⟨⟨_,_,_,rfl,rfl,rfl,rfl⟩,rfl⟩⟩,zpr rfl rfl rfl (Do.pickT rfl rfl),zpr rfl rfl rfl (Do.move rfl),.inr ⟨_,rfl,rfl,.inr ⟨⟨_,_,_,rfl,rfl,rfl,rfl⟩,rfl⟩⟩,.inr ⟨_,rfl,rfl,.inr ⟨⟨_,_,_,rfl,rfl,rfl,rfl⟩,rfl⟩⟩,.inr ⟨_,rfl,rfl,.inr ⟨⟨_,_,_,rfl,rfl,rfl,rfl⟩,rfl⟩⟩,zpr rfl rfl rfl (Do.pickT rfl rfl),zpr rfl rfl rfl (Do.move rfl),.inr ⟨_,rfl,rfl,.inr ⟨⟨_,_,_,rfl,rfl,rfl,rfl⟩,rfl⟩⟩,.inr ⟨_,rfl,rfl,.inr ⟨⟨_,_,_,rfl,rfl,rfl,rfl⟩,rfl⟩⟩,.inr ⟨_,rfl,rfl,.inr ⟨⟨_,_,_,rfl,rfl,rfl,rfl⟩,rfl⟩⟩,.inr ⟨_,rfl,rfl,.inr ⟨⟨_,_,_,rfl,rfl,rfl,rfl⟩,rfl⟩⟩,.inr ⟨_,rfl,rfl,.inr ⟨⟨_,_,_,rfl,rfl,rfl,rfl⟩,rfl⟩⟩,.inr ⟨_,rfl,rfl,.inr ⟨⟨_,_,_,rfl,rfl,rfl,rfl⟩,rfl⟩⟩,zpr rfl rfl rfl (Do.pickT rfl rfl),trivial⟩,by kernel_rfl,?_⟩
   refine At.mono (E':=[(0,.func (.yield lp) #[] #[]),(1,.pointer (some ⟨bn,0,none⟩)),(25,.bool true)]) ⟨rfl,rfl,rfl,trivial⟩<|At.condT rfl<|At.seq<|At.region<|AtL.move zg0 rfl rfl<|AtL.yield zg0 rfl rfl rfl (y_in (fun T' => hF acc Hc2 hJ T')) ?_
   rintro _ _ ⟨_,Hc3,rfl,rfl,rfl,hK3⟩
   refine AtL.done ?_
   exact At.ret Tryz.func367 rfl rfl (⟨acc,y,Hc3,hls,hsp,.inr ⟨nm_bad hc1 (.inl hl0),hK3⟩,rfl,rfl⟩)
  ·have hu0:=(y.getD 0 0).toNat_lt
   rcases Decidable.em ((y.getD 0 0).toNat=0) with hz | hz
   ·refine At.draw (es:=[]) (pv:=[(0,str y),(1,.int .i64 (y.length:Int)),(2,.bool false),(3,.bool false),(4,str y),(5,.int .u8 ((y.getD 0 0).toNat:Int)),(6,.bool true),(7,.bool true),(8,.bool true),(9,undef),(10,undef),(11,undef),(12,.bool true),(13,.bool true),(14,undef),(15,undef),(16,undef),(17,undef),(18,undef),(19,undef),(20,.bool true)]) zaj (by kernel_rfl) (by kernel_rfl) (by kernel_rfl) ?_
    refine ⟨⟨zpr rfl rfl rfl (Do.load zad rfl (Cell.own 0 0 rfl rfl rfl)),zpr rfl rfl rfl (Do.lenS (l:=y) Tryz.underlying9 rfl),zpr rfl rfl rfl (Do.asBool (Do.eqi rfl rfl) (decide_eq_false (by omega))),zpr rfl rfl rfl (Do.move rfl),zpr rfl rfl ⟨_,_,_,rfl,rfl,rfl,rfl⟩ (Do.load zad rfl (Cell.own 0 0 rfl rfl rfl)),zpr rfl rfl ⟨_,_,_,rfl,rfl,rfl,rfl⟩ (Do.indexS (l:=y) 0 rfl (by omega) Tryz.underlying9 rfl rfl),zpr rfl rfl ⟨_,_,_,rfl,rfl,rfl,rfl⟩ (Do.asBool (Do.eqi rfl rfl) (decide_eq_true (by omega))),zpr rfl rfl rfl (Do.pickF rfl rfl),zpr rfl rfl rfl (Do.move rfl),.inr ⟨_,rfl,rfl,.inr ⟨⟨_,_,_,rfl,rfl,rfl,rfl⟩,rfl⟩⟩,.inr ⟨_,rfl,rfl,.inr ⟨⟨_,_,_,rfl,rfl,rfl,rfl⟩,rfl⟩⟩,.inr ⟨_,rfl,rfl,.inr ⟨⟨_,_,_,rfl,rfl,rfl,rfl⟩,rfl⟩⟩,zpr rfl rfl rfl (Do.pickT rfl rfl),zpr rfl rfl rfl (Do.move rfl),.inr ⟨_,rfl,rfl,.inr ⟨⟨_,_,_,rfl,rfl,rfl,rfl⟩,rfl⟩⟩,.inr ⟨_,rfl,rfl,.inr ⟨⟨_,_,_,rfl,rfl,rfl,rfl⟩,rfl⟩⟩,.inr ⟨_,rfl,rfl,.inr ⟨⟨_,_,_,rfl,rfl,rfl,rfl⟩,rfl⟩⟩,.inr ⟨_,rfl,rfl,.inr ⟨⟨_,_,_,rfl,rfl,rfl,rfl⟩,rfl⟩⟩,.inr ⟨_,rfl,rfl,.inr ⟨⟨_,_,_,rfl,rfl,rfl,rfl⟩,rfl⟩⟩,.inr ⟨_,rfl,rfl,.inr ⟨⟨_,_,_,rfl,rfl,rfl,rfl⟩,rfl⟩⟩,zpr rfl rfl rfl (Do.pickT rfl rfl),trivial⟩,by kernel_rfl,?_⟩
    refine At.mono (E':=[(0,.func (.yield lp) #[] #[]),(1,.pointer (some ⟨bn,0,none⟩)),(25,.bool true)]) ⟨rfl,rfl,rfl,trivial⟩<|At.condT rfl<|At.seq<|At.region<|AtL.move zg0 rfl rfl<|AtL.yield zg0 rfl rfl rfl (y_in (fun T' => hF acc Hc2 hJ T')) ?_
    rintro _ _ ⟨_,Hc3,rfl,rfl,rfl,hK3⟩
    refine AtL.done ?_
    exact At.ret Tryz.func367 rfl rfl (⟨acc,y,Hc3,hls,hsp,.inr ⟨nm_bad hc1 (.inr (.inl hz)),hK3⟩,rfl,rfl⟩)
   ·rcases Decidable.em (63 < (y.getD 0 0).toNat) with hm | hm
    ·refine At.draw (es:=[]) (pv:=[(0,str y),(1,.int .i64 (y.length:Int)),(2,.bool false),(3,.bool false),(4,str y),(5,.int .u8 ((y.getD 0 0).toNat:Int)),(6,.bool false),(7,.bool false),(8,.bool false),(9,str y),(10,.int .u8 ((y.getD 0 0).toNat:Int)),(11,.bool true),(12,.bool true),(13,.bool true),(14,undef),(15,undef),(16,undef),(17,undef),(18,undef),(19,undef),(20,.bool true)]) zaj (by kernel_rfl) (by kernel_rfl) (by kernel_rfl) ?_
     refine ⟨⟨zpr rfl rfl rfl (Do.load zad rfl (Cell.own 0 0 rfl rfl rfl)),zpr rfl rfl rfl (Do.lenS (l:=y) Tryz.underlying9 rfl),zpr rfl rfl rfl (Do.asBool (Do.eqi rfl rfl) (decide_eq_false (by omega))),zpr rfl rfl rfl (Do.move rfl),zpr rfl rfl ⟨_,_,_,rfl,rfl,rfl,rfl⟩ (Do.load zad rfl (Cell.own 0 0 rfl rfl rfl)),zpr rfl rfl ⟨_,_,_,rfl,rfl,rfl,rfl⟩ (Do.indexS (l:=y) 0 rfl (by omega) Tryz.underlying9 rfl rfl),zpr rfl rfl ⟨_,_,_,rfl,rfl,rfl,rfl⟩ (Do.asBool (Do.eqi rfl rfl) (decide_eq_false (by omega))),zpr rfl rfl rfl (Do.pickF rfl rfl),zpr rfl rfl rfl (Do.move rfl),zpr rfl rfl ⟨_,_,_,rfl,rfl,rfl,rfl⟩ (Do.load zad rfl (Cell.own 0 0 rfl rfl rfl)),zpr rfl rfl ⟨_,_,_,rfl,rfl,rfl,rfl⟩ (Do.indexS (l:=y) 0 rfl (by omega) Tryz.underlying9 rfl rfl),zpr rfl rfl ⟨_,_,_,rfl,rfl,rfl,rfl⟩ (Do.asBool (Do.gtr rfl rfl) (decide_eq_true (by omega))),zpr rfl rfl rfl (Do.pickF rfl rfl),zpr rfl rfl rfl (Do.move rfl),.inr ⟨_,rfl,rfl,.inr ⟨⟨_,_,_,rfl,rfl,rfl,rfl⟩,rfl⟩⟩,.inr ⟨_,rfl,rfl,.inr ⟨⟨_,_,_,rfl,rfl,rfl,rfl⟩,rfl⟩⟩,.inr ⟨_,rfl,rfl,.inr ⟨⟨_,_,_,rfl,rfl,rfl,rfl⟩,rfl⟩⟩,.inr ⟨_,rfl,rfl,.inr ⟨⟨_,_,_,rfl,rfl,rfl,rfl⟩,rfl⟩⟩,.inr ⟨_,rfl,rfl,.inr ⟨⟨_,_,_,rfl,rfl,rfl,rfl⟩,rfl⟩⟩,.inr ⟨_,rfl,rfl,.inr ⟨⟨_,_,_,rfl,rfl,rfl,rfl⟩,rfl⟩⟩,zpr rfl rfl rfl (Do.pickT rfl rfl),trivial⟩,by kernel_rfl,?_⟩
     refine At.mono (E':=[(0,.func (.yield lp) #[] #[]),(1,.pointer (some ⟨bn,0,none⟩)),(25,.bool true)]) ⟨rfl,rfl,rfl,trivial⟩<|At.condT rfl<|At.seq<|At.region<|AtL.move zg0 rfl rfl<|AtL.yield zg0 rfl rfl rfl (y_in (fun T' => hF acc Hc2 hJ T')) ?_
     rintro _ _ ⟨_,Hc3,rfl,rfl,rfl,hK3⟩
     refine AtL.done ?_
     exact At.ret Tryz.func367 rfl rfl (⟨acc,y,Hc3,hls,hsp,.inr ⟨nm_bad hc1 (.inr (.inr (.inl hm))),hK3⟩,rfl,rfl⟩)
    ·have hB1:=u8_le (y.getD 0 0)
     refine At.draw (es:=[]) (pv:=[(0,str y),(1,.int .i64 (y.length:Int)),(2,.bool false),(3,.bool false),(4,str y),(5,.int .u8 ((y.getD 0 0).toNat:Int)),(6,.bool false),(7,.bool false),(8,.bool false),(9,str y),(10,.int .u8 ((y.getD 0 0).toNat:Int)),(11,.bool false),(12,.bool false),(13,.bool false),(14,str y),(15,.int .u8 ((y.getD 0 0).toNat:Int)),(16,.int .i64 ((y.getD 0 0).toNat:Int)),(17,str y),(18,.int .i64 (y.length:Int)),(19,.bool (decide ((y.length:Int)≤((y.getD 0 0).toNat:Int)))),(20,.bool (decide ((y.length:Int)≤((y.getD 0 0).toNat:Int))))]) zaj (by kernel_rfl) (by kernel_rfl) (by kernel_rfl) ?_
     refine ⟨⟨zpr rfl rfl rfl (Do.load zad rfl (Cell.own 0 0 rfl rfl rfl)),zpr rfl rfl rfl (Do.lenS (l:=y) Tryz.underlying9 rfl),zpr rfl rfl rfl (Do.asBool (Do.eqi rfl rfl) (decide_eq_false (by omega))),zpr rfl rfl rfl (Do.move rfl),zpr rfl rfl ⟨_,_,_,rfl,rfl,rfl,rfl⟩ (Do.load zad rfl (Cell.own 0 0 rfl rfl rfl)),zpr rfl rfl ⟨_,_,_,rfl,rfl,rfl,rfl⟩ (Do.indexS (l:=y) 0 rfl (by omega) Tryz.underlying9 rfl rfl),zpr rfl rfl ⟨_,_,_,rfl,rfl,rfl,rfl⟩ (Do.asBool (Do.eqi rfl rfl) (decide_eq_false (by omega))),zpr rfl rfl rfl (Do.pickF rfl rfl),zpr rfl rfl rfl (Do.move rfl),zpr rfl rfl ⟨_,_,_,rfl,rfl,rfl,rfl⟩ (Do.load zad rfl (Cell.own 0 0 rfl rfl rfl)),zpr rfl rfl ⟨_,_,_,rfl,rfl,rfl,rfl⟩ (Do.indexS (l:=y) 0 rfl (by omega) Tryz.underlying9 rfl rfl),zpr rfl rfl ⟨_,_,_,rfl,rfl,rfl,rfl⟩ (Do.asBool (Do.gtr rfl rfl) (decide_eq_false (by omega))),zpr rfl rfl rfl (Do.pickF rfl rfl),zpr rfl rfl rfl (Do.move rfl),zpr rfl rfl ⟨_,_,_,rfl,rfl,rfl,rfl⟩ (Do.load zad rfl (Cell.own 0 0 rfl rfl rfl)),zpr rfl rfl ⟨_,_,_,rfl,rfl,rfl,rfl⟩ (Do.indexS (l:=y) 0 rfl (by omega) Tryz.underlying9 rfl rfl),zpr rfl rfl ⟨_,_,_,rfl,rfl,rfl,rfl⟩ (Do.convInt (z:=((y.getD 0 0).toNat:Int)) Tryz.underlying5 Tryz.underlying3 rfl (zbK _)),zpr rfl rfl ⟨_,_,_,rfl,rfl,rfl,rfl⟩ (Do.load zad rfl (Cell.own 0 0 rfl rfl rfl)),zpr rfl rfl ⟨_,_,_,rfl,rfl,rfl,rfl⟩ (Do.lenS (l:=y) Tryz.underlying9 rfl),zpr rfl rfl ⟨_,_,_,rfl,rfl,rfl,rfl⟩ (Do.geq rfl rfl),zpr rfl rfl rfl (Do.pickF rfl rfl),trivial⟩,by kernel_rfl,?_⟩
     refine At.mono (E':=[(0,.func (.yield lp) #[] #[]),(1,.pointer (some ⟨bn,0,none⟩)),(25,.bool (decide ((y.length:Int)≤((y.getD 0 0).toNat:Int))))]) ⟨rfl,rfl,rfl,trivial⟩<|At.condD rfl ?_ ?_
     ·intro hc2
      refine At.seq<|At.region<|AtL.move zg0 rfl rfl<|AtL.yield zg0 rfl rfl rfl (y_in (fun T' => hF acc Hc2 hJ T')) ?_
      rintro _ _ ⟨_,Hc3,rfl,rfl,rfl,hK3⟩
      refine AtL.done ?_
      exact At.ret Tryz.func367 rfl rfl (⟨acc,y,Hc3,hls,hsp,.inr ⟨nm_bad hc1 (.inr (.inr (.inr (by omega)))),hK3⟩,rfl,rfl⟩)
     ·intro hc2
      refine At.skip<|At.seq<|At.seq ?_
      have hB2:=u8_le (y.getD 0 0)
      refine At.draw (es:=[7]) (pv:=[(0,.func (.yield lp) #[] #[]),(1,str y),(2,str y),(3,.int .u8 ((y.getD 0 0).toNat:Int)),(4,.int .i64 ((y.getD 0 0).toNat:Int)),(5,.int .i64 (1 + ((y.getD 0 0).toNat:Int))),(6,str (subl y 1 (1 + ((y.getD 0 0).toNat))))]) zaj (by kernel_rfl) (by kernel_rfl) (by kernel_rfl) ?_
      refine ⟨⟨zpr rfl rfl rfl (Do.move rfl),zpr rfl rfl rfl (Do.load zad rfl (Cell.own 0 0 rfl rfl rfl)),zpr rfl rfl rfl (Do.load zad rfl (Cell.own 0 0 rfl rfl rfl)),zpr rfl rfl rfl (Do.indexS (l:=y) 0 rfl (by omega) Tryz.underlying9 rfl rfl),zpr rfl rfl rfl (Do.convInt (z:=((y.getD 0 0).toNat:Int)) Tryz.underlying5 Tryz.underlying3 rfl (zbK _)),zpr rfl rfl rfl (Do.add (z:=1 + ((y.getD 0 0).toNat:Int)) rfl rfl (w64 (by omega) (by omega))),zpr rfl rfl rfl (Do.sliceS (l:=y) 1 (1 + ((y.getD 0 0).toNat)) (zap rfl rfl) (zap rfl rfl) (by omega) (by omega) Tryz.underlying9 rfl),trivial⟩,rfl,rfl,by kernel_rfl,_,rfl,rfl,rfl,_,Do.yield rfl rfl (y_in (fun T' => hY (subl y 1 (1 + ((y.getD 0 0).toNat))) acc Hc2 ⟨by rw [zaA (by omega)]; omega,by rw [zaA (by omega)]; omega⟩ hacc hJ T')),?_⟩
      rintro _ _ ⟨_,Hc3,rfl,rfl,rfl,hJ3⟩
      refine ⟨[(8,.bool false)],rfl,?_⟩
      refine ⟨⟨zpr rfl rfl rfl (Do.not (b:=true) rfl),.inl (by kernel_rfl),.inl (by kernel_rfl),.inl (by kernel_rfl),.inl (by kernel_rfl),.inl (by kernel_rfl),.inl (by kernel_rfl),.inl (by kernel_rfl),trivial⟩,by kernel_rfl,?_⟩
      refine At.mono (E':=[(0,.func (.yield lp) #[] #[]),(1,.pointer (some ⟨bn,0,none⟩)),(36,.bool false)]) ⟨rfl,rfl,rfl,trivial⟩<|At.condF rfl<|At.skip ?_
      have hB3:=u8_le (y.getD 0 0)
      refine At.draw (es:=[6]) (pv:=[(0,str y),(1,str y),(2,.int .u8 ((y.getD 0 0).toNat:Int)),(3,.int .i64 ((y.getD 0 0).toNat:Int)),(4,.int .i64 (1 + ((y.getD 0 0).toNat:Int))),(5,str (subl y (1 + ((y.getD 0 0).toNat)) y.length))]) zaj (by kernel_rfl) (by kernel_rfl) (by kernel_rfl) ?_
      refine ⟨⟨zpr rfl rfl rfl (Do.load zad rfl (Cell.own 0 0 rfl rfl rfl)),zpr rfl rfl rfl (Do.load zad rfl (Cell.own 0 0 rfl rfl rfl)),zpr rfl rfl rfl (Do.indexS (l:=y) 0 rfl (by omega) Tryz.underlying9 rfl rfl),zpr rfl rfl rfl (Do.convInt (z:=((y.getD 0 0).toNat:Int)) Tryz.underlying5 Tryz.underlying3 rfl (zbK _)),zpr rfl rfl rfl (Do.add (z:=1 + ((y.getD 0 0).toNat:Int)) rfl rfl (w64 (by omega) (by omega))),zpr rfl rfl rfl (Do.sliceS (l:=y) (1 + ((y.getD 0 0).toNat)) y.length (zap rfl rfl) rfl (by omega) (by omega) Tryz.underlying9 rfl),trivial⟩,rfl,rfl,by kernel_rfl,_,rfl,rfl,rfl,_,Do.store (H':=[(bn,.cells #[str (subl y (1 + ((y.getD 0 0).toNat)) y.length)] 9 (0,0))]::(Hc3++T)) 0 0 zaE rfl rfl rfl rfl rfl rfl rfl rfl rfl,?_⟩
      rintro _ _ ⟨rfl,rfl⟩
      refine ⟨[],rfl,?_⟩
      refine ⟨⟨.inl (by kernel_rfl),.inl (by kernel_rfl),.inl (by kernel_rfl),.inl (by kernel_rfl),.inl (by kernel_rfl),.inl (by kernel_rfl),trivial⟩,by kernel_rfl,?_⟩
      refine At.mono (E':=[(0,.func (.yield lp) #[] #[]),(1,.pointer (some ⟨bn,0,none⟩))]) ⟨rfl,rfl,trivial⟩<|At.inBlock ?_
      refine ihL1 (subl y (1 + ((y.getD 0 0).toNat)) y.length) (acc++[subl y 1 (1 + (y.getD 0 0).toNat)]) Hc3 (⟨by obtain ⟨l,hl1,hl2,hl3⟩:=nm_step hl0 (by omega) (by omega); rw [hsp,zc0,← hl1,List.append_assoc]; exact congrArg (flL acc++·) hl3,hls.snoc (by rw [zaA (by omega)]; omega),hJ3⟩) (by rw [zaA (by omega)]; omega) _ ?_
      exact ⟨rfl,rfl,trivial⟩
theorem all_ok6 {w0:World}{base:Nat}{H:List Seg}(n:List UInt8) :
  SCalls Tryz.prog 269 [str n] w0 base (H) (fun v H' => ∃ bn:Nat,v = .func (.func 367) #[] #[.pointer (some ⟨bn,0,none⟩)]∧H' = [(bn,.cells #[str n] 9 (0,0))]::H):=by
 refine SCalls.of_walk (n:=4) Tryz.func269 rfl rfl rfl fun cs => ?_
 refine At.seq<|At.region<|AtL.box (cs:=#[str n]) rfl zg0 rfl rfl ?_
 intro b1
 refine AtL.assign zg0 rfl rfl<|AtL.done<|At.seq<|At.region<|AtL.makeFunc zg0 rfl rfl rfl<|AtL.assign zg0 rfl rfl ?_
 refine AtL.done ?_
 exact At.ret Tryz.func269 rfl rfl (⟨b1,rfl,rfl⟩)
theorem labels_ok {w0:World}{base:Nat}{H:List Seg}(n:List UInt8) (hn:n.length≤4398046511104) :
  SCalls Tryz.prog 197 [str n] w0 base (H) (fun v H' => (∃ (A:Option Addr) (C:Nat) (ls:List (List UInt8)) (so:Seg),Own tyS 9 A C ls so∧LsOk ls∧n=nmL ls∧n.length≤255∧v = .tuple #[.slice A ls.length C,int 0]∧H' = so::H)∨(∃ e:Int,e≠0∧¬ NmOk n∧v = .tuple #[.slice none 0 0,int e]∧H' = H)):=by
 refine SCalls.of_walk (n:=21) Tryz.func197 rfl rfl rfl fun cs => ?_
 refine At.seq<|At.region<|AtL.alloc tf_zero67 (cs:=#[.slice none 0 0]) rfl zg0 rfl ?_
 intro b1
 refine AtL.alloc zef (cs:=#[.int .i64 0]) rfl zg0 rfl ?_
 intro b2
 refine AtL.done<|At.seq<|At.region<|AtL.alloc tf_zero67 (cs:=#[.slice none 0 0]) rfl zg0 rfl ?_
 intro b3
 refine AtL.done<|At.seq<|At.seq<|At.region<|AtL.move zg0 rfl rfl<|AtL.call tf_body269 zg0 rfl rfl (all_ok6 n) ?_
 rintro _ _ ⟨bn4,rfl,rfl⟩
 refine AtL.done<|At.block<|At.nil<|At.pick (H':=[(bn4,.cells #[str n] 9 (0,0))]::[]::[(b3,.cells #[.slice none 0 0] 67 (0,0))]::[(b1,.cells #[.slice none 0 0] 67 (0,0))]::[(b2,.cells #[.int .i64 0] 54 (0,0))]::H) [1,0,2,4,3] 5 rfl rfl ?_
 refine At.rangeF (R:=(fun L lp rr v H' => ∃ (y:List UInt8) (A:Option Addr) (C:Nat) (l:List (List UInt8)) (so:Seg) (L' : Loop) (e:Int),Own tyS 9 A C l so∧((L' = L∧e=0∧(LsOk l∧n=nmL l))∨(L' = leftL L .ret∧e=4∧¬ ∃ ls,LsOk ls∧n=nmL ls))∧H' = [(bn4,.cells #[str y] 9 (0,0))]::[(lp,.loop L')]::[(rr,.deferred (some []))]::so::[(b3,.cells #[.slice A l.length C] 67 (0,0))]::[(b1,.cells #[.slice none 0 0] 67 (0,0))]::[(b2,.cells #[.int .i64 e] 54 (0,0))]::H)) rfl tf_body367 rfl (fun lp => rfl) (fun L lp rr hL => ?_) (fun L lp rr v H1 hL hR => ?_)
 ·refine SCalls.pick (H':=[(bn4,.cells #[str n] 9 (0,0))]::[(lp,.loop L)]::[(rr,.deferred (some []))]::[]::[(b3,.cells #[.slice none 0 0] 67 (0,0))]::[(b1,.cells #[.slice none 0 0] 67 (0,0))]::[(b2,.cells #[.int .i64 0] 54 (0,0))]::H) [2,0,1,3,4,5,6] 7 rfl rfl ?_
  refine SCalls.mono (all1_ok (n:=n) (T:=H) (Hc:=[[(lp,.loop L)],[(rr,.deferred (some []))],[],[(b3,.cells #[.slice none 0 0] 67 (0,0))],[(b1,.cells #[.slice none 0 0] 67 (0,0))],[(b2,.cells #[.int .i64 0] 54 (0,0))]]) (J:=(fun l Hc => ∃ (A:Option Addr) (C:Nat) (so:Seg),Own tyS 9 A C l so∧Hc=[[(lp,.loop L)],[(rr,.deferred (some []))],so,[(b3,.cells #[.slice A l.length C] 67 (0,0))],[(b1,.cells #[.slice none 0 0] 67 (0,0))],[(b2,.cells #[.int .i64 0] 54 (0,0))]])) (K:=(fun Hc => ∃ (A:Option Addr) (C:Nat) (l:List (List UInt8)) (so:Seg),Own tyS 9 A C l so∧Hc=[[(lp,.loop (leftL L .ret))],[(rr,.deferred (some []))],so,[(b3,.cells #[.slice A l.length C] 67 (0,0))],[(b1,.cells #[.slice none 0 0] 67 (0,0))],[(b2,.cells #[.int .i64 4] 54 (0,0))]])) hn (fun u l Hc hul hacc hJ T' => ?_) (fun l Hc hJ T' => ?_) ⟨none,0,[],Own.nil tyS 9,rfl⟩) (fun v H' hp => ?_)
  ·obtain ⟨A,C,so,o,rfl⟩:=hJ
   have hcapo:=Own.cap_le o
   refine YCalls.walkL hL (i:=0) (j:=0) rfl rfl rfl rfl rfl (fun c cs => ?_)
   refine At.seq<|At.region<|AtL.assign zg0 rfl rfl<|AtL.done<|At.region<|AtL.assign zg0 rfl rfl ?_
   refine AtL.done<|At.beginL 0 0 hL rfl rfl rfl rfl<|At.block<|At.seq<|At.seq<|At.region ?_
   refine AtL.move zg0 rfl rfl<|AtL.not zg0 rfl rfl<|AtL.done<|At.condF rfl<|At.skip<|At.region ?_
   refine AtL.load zbu zg0 rfl rfl (Cell.own 3 0 rfl rfl rfl)<|AtL.move zg0 rfl rfl<|AtL.buildSlice (cs:=[str u]) Tryz.underlying67 za0 zaE rfl rfl zg0 rfl rfl rfl ?_
   intro b5
   refine AtL.own1 tyS (l:=([u]:List (List UInt8))) rfl rfl (by first | decide | simp) ?_
   intro s6 o7
   refine AtL.append (l:=l) (news:=[u]) 3 zbN rfl o (o7.rd (i:=0) rfl) (by first | omega | (simp only [List.length_append,List.length_cons,List.length_nil]; omega) | (simp; done) | (simp; omega)) zg0 rfl rfl rfl ?_
   intro A8 C9 s10 o11
   refine AtL.store (H':=s6::[(lp,.loop (busyL L))]::[(rr,.deferred (some []))]::s10::[(b3,.cells #[.slice A8 (l++[u]).length C9] 67 (0,0))]::[(b1,.cells #[.slice none 0 0] 67 (0,0))]::[(b2,.cells #[.int .i64 0] 54 (0,0))]::T') 4 0 zeg zg0 rfl rfl rfl rfl rfl rfl rfl rfl rfl<|AtL.done<|At.inBlock<|At.pick [1,2,3,4,5,6] 7 rfl rfl ?_
   exact At.roundEndL 0 0 hL rfl rfl rfl (⟨true,[[(lp,.loop L)],[(rr,.deferred (some []))],s10,[(b3,.cells #[.slice A8 (l++[u]).length C9] 67 (0,0))],[(b1,.cells #[.slice none 0 0] 67 (0,0))],[(b2,.cells #[.int .i64 0] 54 (0,0))]],rfl,rfl,rfl,_,_,_,o11,rfl⟩)
  ·obtain ⟨A,C,so,o,rfl⟩:=hJ
   have hcapo:=Own.cap_le o
   refine YCalls.walkL hL (i:=0) (j:=0) rfl rfl rfl rfl rfl (fun c cs => ?_)
   refine At.seq<|At.region<|AtL.assign zg0 rfl rfl<|AtL.done<|At.region<|AtL.assign zg0 rfl rfl ?_
   refine AtL.done<|At.beginL 0 0 hL rfl rfl rfl rfl<|At.block<|At.seq<|At.seq<|At.region ?_
   refine AtL.move zg0 rfl rfl<|AtL.not zg0 rfl rfl<|AtL.done<|At.condT rfl<|At.seq<|At.region ?_
   refine AtL.store (H':=[(lp,.loop (busyL L))]::[(rr,.deferred (some []))]::so::[(b3,.cells #[.slice A l.length C] 67 (0,0))]::[(b1,.cells #[.slice none 0 0] 67 (0,0))]::[(b2,.cells #[.int .i64 0] 54 (0,0))]::T') 4 0 zeg zg0 rfl rfl rfl rfl rfl rfl rfl rfl rfl<|AtL.store (H':=[(lp,.loop (busyL L))]::[(rr,.deferred (some []))]::so::[(b3,.cells #[.slice A l.length C] 67 (0,0))]::[(b1,.cells #[.slice none 0 0] 67 (0,0))]::[(b2,.cells #[.int .i64 4] 54 (0,0))]::T') 5 0 zch zg0 rfl rfl rfl rfl rfl rfl rfl rfl rfl<|AtL.done ?_
   exact At.roundRetL 0 0 rfl rfl rfl (⟨false,[[(lp,.loop (leftL L .ret))],[(rr,.deferred (some []))],so,[(b3,.cells #[.slice A l.length C] 67 (0,0))],[(b1,.cells #[.slice none 0 0] 67 (0,0))],[(b2,.cells #[.int .i64 4] 54 (0,0))]],rfl,rfl,rfl,_,_,_,_,o,rfl⟩)
  ·obtain ⟨acc,y,Hc',hls,hsp,h1,rfl,rfl⟩:=hp
   rcases h1 with ⟨rfl,A,C,so,o,rfl⟩ | ⟨hbad,A,C,l,so,o,rfl⟩
   ·exact ⟨[0],A,C,acc,so,L,0,o,.inl ⟨rfl,rfl,hls,hsp⟩,rfl⟩
   ·exact ⟨y,A,C,l,so,leftL L .ret,4,o,.inr ⟨rfl,rfl,fun h9 => hbad (nm_back hls (by rw [← hsp]; exact h9))⟩,rfl⟩
 ·obtain ⟨y,A,C,l,so,L',e,o,h1,rfl⟩:=hR
  rcases h1 with ⟨rfl,rfl,hgood⟩ | ⟨rfl,rfl,hbad⟩
  ·refine ⟨1,0,_,_,_,rfl,rfl,loop_ready hL,rfl,?_⟩
   rw [loop_dry hL]
   refine At.inBlock<|At.seq<|At.seq<|At.region<|AtL.move zg0 rfl rfl<|AtL.lenS (l:=n) Tryz.underlying9 zg0 rfl rfl ?_
   refine AtL.gtr zg0 rfl rfl rfl<|AtL.done<|At.condD rfl ?_ ?_
   ·intro hc2
    refine At.seq<|At.region<|AtL.store (H':=[(bn4,.cells #[str y] 9 (0,0))]::[(lp,.loop (overL L'))]::[(rr,.deferred (some []))]::so::[(b3,.cells #[.slice A l.length C] 67 (0,0))]::[(b1,.cells #[.slice none 0 0] 67 (0,0))]::[(b2,.cells #[.int .i64 0] 54 (0,0))]::H) 5 0 zeg zg0 rfl rfl rfl rfl rfl rfl rfl rfl rfl<|AtL.store (H':=[(bn4,.cells #[str y] 9 (0,0))]::[(lp,.loop (overL L'))]::[(rr,.deferred (some []))]::so::[(b3,.cells #[.slice A l.length C] 67 (0,0))]::[(b1,.cells #[.slice none 0 0] 67 (0,0))]::[(b2,.cells #[.int .i64 3] 54 (0,0))]::H) 6 0 zch zg0 rfl rfl rfl rfl rfl rfl rfl rfl rfl<|AtL.done<|At.retU rfl ?_
    refine Un.collected (i:=2) (j:=0) rfl rfl rfl rfl ?_
    exact Un.leftP (vs:=[.slice none 0 0,.int .i64 3]) [] 7 rfl rfl Tryz.func197 rfl ⟨⟨_,rfl,LoadsTo.flat zbu (Cell.own 5 0 rfl rfl rfl)⟩,⟨_,rfl,LoadsTo.flat zak (Cell.own 6 0 rfl rfl rfl)⟩,trivial⟩ (.inr ⟨_,by decide,fun h => by obtain ⟨ls,h1,h2,h3⟩:=h; omega,rfl,rfl⟩)
   ·intro hc2
    refine At.skip<|At.seq<|At.region<|AtL.load zbu zg0 rfl rfl (Cell.own 4 0 rfl rfl rfl)<|AtL.store (H':=[(bn4,.cells #[str y] 9 (0,0))]::[(lp,.loop (overL L'))]::[(rr,.deferred (some []))]::so::[(b3,.cells #[.slice A l.length C] 67 (0,0))]::[(b1,.cells #[.slice A l.length C] 67 (0,0))]::[(b2,.cells #[.int .i64 0] 54 (0,0))]::H) 5 0 zeg zg0 rfl rfl rfl rfl rfl rfl rfl rfl rfl<|AtL.store (H':=[(bn4,.cells #[str y] 9 (0,0))]::[(lp,.loop (overL L'))]::[(rr,.deferred (some []))]::so::[(b3,.cells #[.slice A l.length C] 67 (0,0))]::[(b1,.cells #[.slice A l.length C] 67 (0,0))]::[(b2,.cells #[.int .i64 0] 54 (0,0))]::H) 6 0 zch zg0 rfl rfl rfl rfl rfl rfl rfl rfl rfl ?_
    refine AtL.done<|At.retU rfl<|Un.collected (i:=2) (j:=0) rfl rfl rfl rfl ?_
    exact Un.leftP (vs:=[.slice A l.length C,.int .i64 0]) [3] 7 rfl rfl Tryz.func197 rfl ⟨⟨_,rfl,LoadsTo.flat zbu (Cell.own 5 0 rfl rfl rfl)⟩,⟨_,rfl,LoadsTo.flat zak (Cell.own 6 0 rfl rfl rfl)⟩,trivial⟩ (.inl ⟨_,_,_,_,o,hgood.1,hgood.2,by omega,rfl,rfl⟩)
  ·refine ⟨1,0,_,_,_,rfl,rfl,loop_left,rfl,?_⟩
   show At _ (.code .ret::_) _ _ _
   refine At.retU rfl<|Un.collected (i:=2) (j:=0) rfl rfl rfl rfl ?_
   exact Un.leftP (vs:=[.slice none 0 0,.int .i64 4]) [] 7 rfl rfl Tryz.func197 rfl ⟨⟨_,rfl,LoadsTo.flat zbu (Cell.own 5 0 rfl rfl rfl)⟩,⟨_,rfl,LoadsTo.flat zak (Cell.own 6 0 rfl rfl rfl)⟩,trivial⟩ (.inr ⟨_,by decide,fun h => hbad (by obtain ⟨ls,h1,h2,_⟩:=h; exact ⟨ls,h1,h2⟩),rfl,rfl⟩)
theorem ncheck_ok {w0:World}{base:Nat}{H:List Seg}(n:List UInt8) (hn:n.length≤4398046511104) :
  SCalls Tryz.prog 115 [str n] w0 base (H) (fun v H' => ∃ e:Int,(e=0↔NmOk n)∧v=int e∧H' = H):=by
 refine SCalls.of_walk (n:=11) Tryz.func115 rfl rfl rfl fun cs => ?_
 refine At.seq<|At.region<|AtL.assign zg0 rfl rfl<|AtL.done<|At.seq<|At.region ?_
 refine AtL.move zg0 rfl rfl ?_
 refine AtL.call zeV zg0 rfl rfl (labels_ok n (by omega)) ?_
 rintro _ _ (⟨A2,C3,ls4,s5,o6,hlb71,hlb72,hlb73,rfl,rfl⟩ | ⟨e1,hlb74,hlb75,rfl,rfl⟩)
 ·refine AtL.move zg0 rfl rfl<|AtL.extract zg0 rfl rfl rfl<|AtL.extract zg0 rfl rfl rfl<|AtL.assign zg0 rfl rfl<|AtL.assign zg0 rfl rfl<|AtL.done ?_
  refine At.seq<|At.region<|AtL.move zg0 rfl rfl<|AtL.assign zg0 rfl rfl<|AtL.done<|At.pick [] 1 rfl rfl ?_
  exact At.ret Tryz.func115 rfl rfl (⟨_,⟨fun _ => ⟨_,hlb71,hlb72,hlb73⟩,fun _ => rfl⟩,rfl,rfl⟩)
 ·refine AtL.move zg0 rfl rfl<|AtL.extract zg0 rfl rfl rfl<|AtL.extract zg0 rfl rfl rfl<|AtL.assign zg0 rfl rfl<|AtL.assign zg0 rfl rfl<|AtL.done ?_
  refine At.seq<|At.region<|AtL.move zg0 rfl rfl<|AtL.assign zg0 rfl rfl<|AtL.done ?_
  exact At.ret Tryz.func115 rfl rfl (⟨_,⟨fun h => absurd h hlb74,fun h => absurd h hlb75⟩,rfl,rfl⟩)
end Go.Proofs.YtdncjmehhahidaaGreatDoor
namespace Go.Proofs.YtdncjmehhahidaaGreatDoor
set_option linter.unusedVariables false
set_option linter.unusedSimpArgs false
set_option maxRecDepth 100000
def letF (c:UInt8):List UInt8:=if c=46∨c=92 then [92,c] else if c < 33∨126 < c then [92,48 + c / 100,48 + c / 10 % 10,48 + c % 10] else [c]
def labT (s:List UInt8):List UInt8:=s.flatMap letF
def textF (ls:List (List UInt8)):List UInt8:=if ls=[] then [46] else ls.flatMap fun s => labT s++[46]
theorem all8 {P:UInt8→Prop}(h:∀ n:_root_.Fin 256,P (UInt8.ofNat n.val)) (c:UInt8):P c:=by
 have:=h ⟨c.toNat,c.toNat_lt⟩
 rwa [UInt8.ofNat_toNat] at this
theorem letF_vis (c:UInt8):∀ x ∈ letF c,33≤x∧x≤126:=all8 (P:=fun c => ∀ x ∈ letF c,33≤x∧x≤126) (by decide) c
theorem letF_ne (c:UInt8):letF c≠[]:=all8 (P:=fun c => letF c≠[]) (by decide) c
theorem letF_len (c:UInt8):(letF c).length≤4:=all8 (P:=fun c => (letF c).length≤4) (by decide) c
theorem labT_vis (s:List UInt8):∀ x ∈ labT s,33≤x∧x≤126:=by
 intro x hx
 obtain ⟨c,_,h⟩:=List.mem_flatMap.1 hx
 exact letF_vis c x h
theorem textF_vis (ls:List (List UInt8)):∀ x ∈ textF ls,33≤x∧x≤126:=by
 intro x hx
 unfold textF at hx
 split at hx
 ·cases hx with
  | head => decide
  | tail _ h => cases h
 ·obtain ⟨c,_,h⟩:=List.mem_flatMap.1 hx
  rcases List.mem_append.1 h with h | h
  ·exact labT_vis c x h
  ·cases h with
   | head => decide
   | tail _ h => cases h
theorem zfV {α β:Type}(f:α→List β) {ls:List α}{k:Nat}(d:α) (hk:k < ls.length):(ls.take (k + 1)).flatMap f=(ls.take k).flatMap f++f (ls.getD k d):=by
 rw [List.take_succ_eq_append_getElem hk,List.flatMap_append]
 simp [List.getD,hk]
theorem u8q100 (c:UInt8):IntKind.u8.wrap ((c.toNat:Int).tdiv 100)=((c / 100).toNat:Int):=all8 (P:=fun c => IntKind.u8.wrap ((c.toNat:Int).tdiv 100)=((c / 100).toNat:Int)) (by decide) c
theorem u8q10 (c:UInt8):IntKind.u8.wrap ((c.toNat:Int).tdiv 10)=((c / 10).toNat:Int):=all8 (P:=fun c => IntKind.u8.wrap ((c.toNat:Int).tdiv 10)=((c / 10).toNat:Int)) (by decide) c
theorem u8q16 (c:UInt8):IntKind.u8.wrap ((c.toNat:Int).tdiv 16)=((c / 16).toNat:Int):=all8 (P:=fun c => IntKind.u8.wrap ((c.toNat:Int).tdiv 16)=((c / 16).toNat:Int)) (by decide) c
theorem u8r10 (c:UInt8):((c.toNat:Int).tmod 10)=((c % 10).toNat:Int):=all8 (P:=fun c => ((c.toNat:Int).tmod 10)=((c % 10).toNat:Int)) (by decide) c
theorem u8r16 (c:UInt8):((c.toNat:Int).tmod 16)=((c % 16).toNat:Int):=all8 (P:=fun c => ((c.toNat:Int).tmod 16)=((c % 16).toNat:Int)) (by decide) c
theorem u8a48 (c:UInt8):IntKind.u8.wrap (48 + (c.toNat:Int))=((48 + c).toNat:Int):=all8 (P:=fun c => IntKind.u8.wrap (48 + (c.toNat:Int))=((48 + c).toNat:Int)) (by decide) c
def dgF (c:UInt8):List UInt8:=[c / 100,c / 10 % 10,c % 10]
theorem letF_pt {c:UInt8}(h:(c.toNat:Int)=46∨(c.toNat:Int)=92):letF c=[92]++[c]:=by
 have h2:c=46∨c=92:=h.imp (fun h => UInt8.toNat_inj.1 (show c.toNat=46 by omega)) (fun h => UInt8.toNat_inj.1 (show c.toNat=92 by omega))
 rw [letF,if_pos h2]; rfl
theorem letF_dg {c:UInt8}(h:¬ ((c.toNat:Int)=46∨(c.toNat:Int)=92)) (h2:(c.toNat:Int) < 33∨126 < (c.toNat:Int)):letF c=[92]++(dgF c).map (48 + ·):=by
 have h1:¬ (c=46∨c=92):=fun h3 => h (h3.imp (fun e => by rw [e]; decide) (fun e => by rw [e]; decide))
 have h4:c < 33∨126 < c:=h2.imp (fun h => UInt8.lt_iff_toNat_lt.2 (show c.toNat < 33 by omega)) (fun h => UInt8.lt_iff_toNat_lt.2 (show 126 < c.toNat by omega))
 rw [letF,if_neg h1,if_pos h4]; rfl
theorem letF_one {c:UInt8}(h:¬ ((c.toNat:Int)=46∨(c.toNat:Int)=92)) (h2:¬ ((c.toNat:Int) < 33∨126 < (c.toNat:Int))):letF c=[c]:=by
 have h1:¬ (c=46∨c=92):=fun h3 => h (h3.imp (fun e => by rw [e]; decide) (fun e => by rw [e]; decide))
 have h4:¬ (c < 33∨126 < c):=fun h3 => h2 (h3.imp (fun h => by have:=UInt8.lt_iff_toNat_lt.1 h; have e:(33:UInt8).toNat=33:=rfl; omega) (fun h => by have:=UInt8.lt_iff_toNat_lt.1 h; have e:(126:UInt8).toNat=126:=rfl; omega))
 rw [letF,if_neg h1,if_neg h4]
theorem labT_len (s:List UInt8):(labT s).length≤4 * s.length:=by
 induction s with
 | nil => simp [labT]
 | cons a r ih => have:=letF_len a; simp only [labT,List.flatMap_cons,List.length_append,List.length_cons] at ih ⊢; omega
def labP (s:List UInt8):List UInt8:=labT s++[46]
theorem zd0 {ls:List (List UInt8)}(h:ls≠[]):textF ls=ls.flatMap labP:=by rw [textF,if_neg h]; rfl
theorem nmL_inj:∀ {a b:List (List UInt8)},LsOk a→LsOk b→nmL a=nmL b→a=b
 | [],[],_,_,_ => rfl
 | [],l::r,_,hb,h => by
  have h1:=hb l (List.mem_cons_self ..)
  rw [zaD,zfJ] at h
  injection h with h _
  have:=congrArg UInt8.toNat h
  rw [UInt8.toNat_ofNat'] at this
  have e:(0:UInt8).toNat=0:=rfl
  omega
 | l::r,[],ha,_,h => by
  have h1:=ha l (List.mem_cons_self ..)
  rw [zaD,zfJ] at h
  injection h with h _
  have:=congrArg UInt8.toNat h
  rw [UInt8.toNat_ofNat'] at this
  have e:(0:UInt8).toNat=0:=rfl
  omega
 | l::r,m::s,ha,hb,h => by
  have h1:=ha l (List.mem_cons_self ..)
  have h2:=hb m (List.mem_cons_self ..)
  rw [zaD,zaD] at h
  injection h with h h3
  have:=congrArg UInt8.toNat h
  rw [UInt8.toNat_ofNat',UInt8.toNat_ofNat'] at this
  obtain ⟨rfl,h4⟩:=List.append_inj h3 (by omega)
  rw [nmL_inj (fun x hx => ha x (List.mem_cons_of_mem _ hx)) (fun x hx => hb x (List.mem_cons_of_mem _ hx)) h4]
open Classical in
noncomputable def labOf (n:List UInt8):List (List UInt8):=if h:∃ ls,LsOk ls∧n=nmL ls then h.choose else []
theorem labOf_eq {n:List UInt8}{ls:List (List UInt8)}(h:LsOk ls) (hn:n=nmL ls):labOf n=ls:=by
 have hx:∃ ls,LsOk ls∧n=nmL ls:=⟨ls,h,hn⟩
 unfold labOf
 rw [dif_pos hx]
 exact nmL_inj hx.choose_spec.1 h (by rw [← hx.choose_spec.2,hn])
theorem NmOk.labels {n:List UInt8}(h:NmOk n):LsOk (labOf n)∧n=nmL (labOf n):=by
 obtain ⟨ls,h1,h2,_⟩:=h
 rw [labOf_eq h1 h2]; exact ⟨h1,h2⟩
theorem nmP_L:∀ ls:List (List UInt8),nmP ls=nmL ls
 | [] => rfl
 | s::r => by rw [nmP,zaD,nmP_L r]
theorem zbC {s l:List UInt8}{a:Nat}(h:s.drop a=l) (k:Nat):s.getD (a + k) 0=l.getD k 0:=by
 rw [← h]; simp [List.getD,List.getElem?_drop]
theorem zb8 {t:List UInt8}{j:Nat}(h:j < t.length):t.take (j + 1)=t.take j++[t.getD j 0]:=by
 rw [List.take_succ_eq_append_getElem h]; simp [List.getD,h]
theorem drop_cons8 {t:List UInt8}{j:Nat}(h:j < t.length):t.drop j=t.getD j 0::t.drop (j + 1):=by
 rw [List.drop_eq_getElem_cons h]; simp [List.getD,h]
theorem labT_app (a b:List UInt8):labT (a++b)=labT a++labT b:=by simp [labT]
theorem zex (a:UInt8) (b:List UInt8):labT (a::b)=letF a++labT b:=by simp [labT]
theorem zew {t:List UInt8}{j:Nat}(h:j < t.length):(labT (t.take (j + 1))).length=(labT (t.take j)).length + (letF (t.getD j 0)).length:=by
 rw [zb8 h,labT_app,List.length_append,zex]; simp [labT]
theorem lab_drop {s t r:List UInt8}{i j a:Nat}(hs:s.drop i=labT t++46::r) (ha:a=i + (labT (t.take j)).length):s.drop a=labT (t.drop j)++46::r:=by
 subst ha
 have e:labT t=labT (t.take j)++labT (t.drop j):=by rw [← labT_app,List.take_append_drop]
 rw [← List.drop_drop,hs,e,List.append_assoc,List.drop_left]
theorem lab_next {s t r:List UInt8}{j a:Nat}(h:s.drop a=labT (t.drop j)++46::r) (hj:j < t.length):s.drop a=letF (t.getD j 0)++(labT (t.drop (j + 1))++46::r):=by
 rw [h,drop_cons8 hj,zex,List.append_assoc]
theorem lab_end {s t r:List UInt8}{j a:Nat}(h:s.drop a=labT (t.drop j)++46::r) (hj:t.length≤j):s.getD a 0=46:=by
 have:=zbC h 0
 rw [List.drop_eq_nil_of_le hj] at this
 exact this
theorem letF_hd (c:UInt8):((letF c).getD 0 0).toNat≠46∧33≤((letF c).getD 0 0).toNat∧((letF c).getD 0 0).toNat≤126:=all8 (P:=fun c => ((letF c).getD 0 0).toNat≠46∧33≤((letF c).getD 0 0).toNat∧((letF c).getD 0 0).toNat≤126) (by decide) c
theorem lab_head {s t r:List UInt8}{j a:Nat}(h:s.drop a=labT (t.drop j)++46::r) (hj:j < t.length):(s.getD a 0).toNat≠46∧33≤(s.getD a 0).toNat∧(s.getD a 0).toNat≤126:=by
 have h1:=zbC (lab_next h hj) 0
 rw [Nat.add_zero] at h1
 have h2:(letF (t.getD j 0)++(labT (t.drop (j + 1))++46::r)).getD 0 0=(letF (t.getD j 0)).getD 0 0:=by
  cases hl:letF (t.getD j 0) with
  | nil => exact absurd hl (letF_ne _)
  | cons x l => rfl
 rw [h1,h2]; exact letF_hd _
theorem lab_len {s t r:List UInt8}{j a:Nat}(h:s.drop a=labT (t.drop j)++46::r):a < s.length:=by
 have:=congrArg List.length h
 rw [List.length_drop,List.length_append,List.length_cons] at this
 omega
theorem letF_cases (c:UInt8):(letF c=[c]∧c.toNat≠92)∨(letF c=[92,c]∧(c.toNat=46∨c.toNat=92))∨letF c=[92,48 + c / 100,48 + c / 10 % 10,48 + c % 10]:=by
 by_cases h:(c.toNat:Int)=46∨(c.toNat:Int)=92
 ·exact .inr (.inl ⟨letF_pt h,by omega⟩)
 ·by_cases h2:(c.toNat:Int) < 33∨126 < (c.toNat:Int)
  ·exact .inr (.inr (letF_dg h h2))
  ·exact .inl ⟨letF_one h h2,by omega⟩
theorem dg_is (c:UInt8):(48≤(48 + c / 100).toNat∧(48 + c / 100).toNat≤57)∧(48≤(48 + c / 10 % 10).toNat∧(48 + c / 10 % 10).toNat≤57)∧(48≤(48 + c % 10).toNat∧(48 + c % 10).toNat≤57):=all8 (P:=fun c => (48≤(48 + c / 100).toNat∧(48 + c / 100).toNat≤57)∧(48≤(48 + c / 10 % 10).toNat∧(48 + c / 10 % 10).toNat≤57)∧(48≤(48 + c % 10).toNat∧(48 + c % 10).toNat≤57)) (by decide) c
theorem dg_sum (c:UInt8):100 * ((c / 100).toNat:Int) + 10 * ((c / 10 % 10).toNat:Int) + ((c % 10).toNat:Int)=(c.toNat:Int):=all8 (P:=fun c => 100 * ((c / 100).toNat:Int) + 10 * ((c / 10 % 10).toNat:Int) + ((c % 10).toNat:Int)=(c.toNat:Int)) (by decide) c
theorem dg_s1 (c:UInt8):IntKind.u8.wrap (((48 + c / 100).toNat:Int) - 48)=((c / 100).toNat:Int):=all8 (P:=fun c => IntKind.u8.wrap (((48 + c / 100).toNat:Int) - 48)=((c / 100).toNat:Int)) (by decide) c
theorem dg_s2 (c:UInt8):IntKind.u8.wrap (((48 + c / 10 % 10).toNat:Int) - 48)=((c / 10 % 10).toNat:Int):=all8 (P:=fun c => IntKind.u8.wrap (((48 + c / 10 % 10).toNat:Int) - 48)=((c / 10 % 10).toNat:Int)) (by decide) c
theorem dg_s3 (c:UInt8):IntKind.u8.wrap (((48 + c % 10).toNat:Int) - 48)=((c % 10).toNat:Int):=all8 (P:=fun c => IntKind.u8.wrap (((48 + c % 10).toNat:Int) - 48)=((c % 10).toNat:Int)) (by decide) c
theorem zd1 {s:List UInt8}{i k:Nat}:(subl s i s.length).getD k 0=s.getD (i + k) 0:=by
 unfold subl
 by_cases h:i + k < s.length
 ·simp [List.getD,List.getElem?_take,List.getElem?_drop,show k < s.length - i by omega,h]
 ·simp [List.getD,List.getElem?_take,List.getElem?_drop,List.getElem?_eq_none (show s.length≤i + k by omega)]
theorem labP_len (s:List UInt8):(labP s).length≤4 * (s.length + 1)∧1≤(labP s).length:=by
 have:=labT_len s
 simp only [labP,List.length_append,List.length_cons,List.length_nil]
 omega
theorem txt_len (ls:List (List UInt8)):(ls.flatMap labP).length≤4 * (flL ls).length:=by
 induction ls with
 | nil => simp
 | cons a r ih => have:=labP_len a; rw [List.flatMap_cons,zdv,List.length_append,List.length_cons,List.length_append]; omega
theorem txt_step {ls:List (List UInt8)}{k:Nat}(h:k < ls.length):((ls.take (k + 1)).flatMap labP).length=((ls.take k).flatMap labP).length + ((labT (ls.getD k [])).length + 1):=by
 rw [zfV labP [] h,List.length_append,labP,List.length_append]; rfl
theorem txt_drop {s:List UInt8}{ls:List (List UInt8)}{k a:Nat}(hs:s=ls.flatMap labP) (ha:a=((ls.take k).flatMap labP).length):s.drop a=(ls.drop k).flatMap labP:=by
 subst hs ha
 conv => lhs; rhs; rw [← List.take_append_drop k ls]
 rw [List.flatMap_append,List.drop_left]
theorem txt_next {s:List UInt8}{ls:List (List UInt8)}{k a:Nat}(hs:s=ls.flatMap labP) (ha:a=((ls.take k).flatMap labP).length) (h:k < ls.length):s.drop a=labT (ls.getD k [])++46::(ls.drop (k + 1)).flatMap labP:=by
 rw [txt_drop hs ha,List.drop_eq_getElem_cons h,List.flatMap_cons,labP,List.append_assoc]
 simp [List.getD,h]
theorem txt_more {s:List UInt8}{ls:List (List UInt8)}{k a:Nat}(hs:s=ls.flatMap labP) (ha:a=((ls.take k).flatMap labP).length) (hk:k≤ls.length):a < s.length↔k < ls.length:=by
 have h1:=congrArg List.length (txt_drop hs ha)
 rw [List.length_drop] at h1
 constructor
 ·intro h
  refine Classical.byContradiction fun h2 => ?_
  rw [List.drop_eq_nil_of_le (by omega)] at h1
  simp at h1; omega
 ·intro h
  have h2:=congrArg List.length (txt_next hs ha h)
  rw [List.length_drop,List.length_append,List.length_cons] at h2
  omega
theorem textF_dot {ls:List (List UInt8)}(h:LsOk ls) (e:textF ls=[46]):ls=[]:=by
 cases ls with
 | nil => rfl
 | cons a r =>
  rw [zd0 (by simp),List.flatMap_cons] at e
  have h1:=h a (List.mem_cons_self ..)
  cases a with
  | nil => simp at h1
  | cons b t =>
   have h2:=congrArg List.length e
   have h3:=letF_ne b
   have h4:1≤(letF b).length:=List.length_pos_iff.2 h3
   rw [List.length_append,labP,zex,List.length_append,List.length_append] at h2
   simp only [List.length_cons,List.length_nil] at h2
   omega
def HEX:List UInt8:=[48,49,50,51,52,53,54,55,56,57,97,98,99,100,101,102]
def hexB (c:UInt8):List UInt8:=[HEX.getD (c / 16).toNat 0,HEX.getD (c % 16).toNat 0]
def hexF (x:List UInt8):List UInt8:=x.flatMap hexB
theorem u8lt16 (c:UInt8):(c / 16).toNat < 16∧(c % 16).toNat < 16:=all8 (P:=fun c => (c / 16).toNat < 16∧(c % 16).toNat < 16) (by decide) c
theorem zdt (x:List UInt8):(hexF x).length=2 * x.length:=by
 induction x with
 | nil => rfl
 | cons a r ih => rw [hexF,List.flatMap_cons,List.length_append,← hexF,ih,List.length_cons]; show 2 + _=_; omega
theorem hexF_at {x:List UInt8}{k:Nat}(h:k < x.length):(hexF x).getD (2 * k) 0=HEX.getD (x.getD k 0 / 16).toNat 0∧(hexF x).getD (2 * k + 1) 0=HEX.getD (x.getD k 0 % 16).toNat 0:=by
 induction x generalizing k with
 | nil => simp at h
 | cons a r ih =>
  cases k with
  | zero => exact ⟨rfl,rfl⟩
  | succ k =>
   have:=ih (k:=k) (by simpa using h)
   have e:hexF (a::r)=HEX.getD (a / 16).toNat 0::HEX.getD (a % 16).toNat 0::hexF r:=rfl
   rw [e,show 2 * (k + 1)=2 * k + 1 + 1 by omega]
   simpa using this
theorem ix_hex {d:Nat}(h:d < 16):Lib.indexByte HEX (HEX.getD d 0)=(d:Int):=by
 have:∀ d:_root_.Fin 16,Lib.indexByte HEX (HEX.getD d.val 0)=(d.val:Int):=by decide
 exact this ⟨d,h⟩
theorem or16 (c:UInt8):IntKind.i64.wrap ((BitVec.ofInt IntKind.i64.bits (((c / 16).toNat:Int) * 16) ||| BitVec.ofInt IntKind.i64.bits ((c % 16).toNat:Int)).toNat:Int)=(c.toNat:Int):=all8 (P:=fun c => IntKind.i64.wrap ((BitVec.ofInt IntKind.i64.bits (((c / 16).toNat:Int) * 16) ||| BitVec.ofInt IntKind.i64.bits ((c % 16).toNat:Int)).toNat:Int)=(c.toNat:Int)) (by decide) c
theorem hexF_vis (x:List UInt8):∀ c ∈ hexF x,c≠32:=by
 intro c hc
 obtain ⟨a,_,h⟩:=List.mem_flatMap.1 hc
 exact all8 (P:=fun a => ∀ c ∈ hexB a,c≠32) (by decide) a c h
theorem dec_vis (n:Nat):∀ c ∈ Lib.decDigits n,c≠32:=by
 induction n using Nat.strongRecOn with
 | _ n ih =>
  intro c hc
  rw [Lib.decDigits] at hc
  have key:∀ d,d < 10→UInt8.ofNat (48 + d)≠32:=by
   intro d hd e
   have:=congrArg UInt8.toNat e
   rw [UInt8.toNat_ofNat'] at this
   have e2:(32:UInt8).toNat=32:=rfl
   omega
  split at hc
  ·rename_i h
   rw [List.mem_singleton.1 hc]; exact key n h
  ·rcases List.mem_append.1 hc with h | h
   ·exact ih (n / 10) (by omega) c h
   ·rw [List.mem_singleton.1 h]; exact key (n % 10) (by omega)
theorem itoa_vis (n:Int):∀ c ∈ Lib.itoa n,c≠32:=by
 intro c hc
 unfold Lib.itoa at hc
 split at hc
 ·rcases List.mem_cons.1 hc with rfl | h
  ·decide
  ·exact dec_vis _ c h
 ·exact dec_vis _ c hc
theorem join4 (a b c d:List UInt8):Lib.join [a,b,c,d] [32]=a++[32]++b++[32]++c++[32]++d:=by
 simp [Lib.join,List.intercalate,List.intersperse]
end Go.Proofs.YtdncjmehhahidaaGreatDoor
namespace Go.Proofs.YtdncjmehhahidaaGreatDoor
set_option linter.unusedVariables false
set_option linter.unusedSimpArgs false
set_option maxRecDepth 100000
theorem lhex_ok {w0:World}{base:Nat}{H:List Seg}{D:Option Addr}{C:Nat}{b:List UInt8}(h:Rd tyB w0 base H D C b) (hb:b.length≤1000000) :
  SCalls Tryz.prog 22 [.slice D b.length C] w0 base (H) (fun v H' => v=str (hexF b)∧H' = H):=by
 have hle0:=h.le
 have hcap0:=h.cap
 refine SCalls.of_walk (n:=28) Tryz.func22 rfl rfl rfl fun cs => ?_
 refine At.seq<|At.region<|AtL.assign zg0 rfl rfl<|AtL.done<|At.seq<|At.region ?_
 refine AtL.assign zg0 rfl rfl<|AtL.done<|At.seq<|At.seq<|At.region<|AtL.assign zg0 rfl rfl ?_
 refine AtL.done<|At.block<|At.nil<|At.loop2 (fun (k:Nat) (x:Sl tyB 5) => [(0,.slice D b.length C),(3,.slice x.A x.l.length x.C),(4,.int .i64 (k:Int))]) (fun (k:Nat) (x:Sl tyB 5) => x.s::H) (fun (k:Nat) (x:Sl tyB 5) => k≤b.length∧x.l=hexF (b.take k)) (fun (k:Nat) (x:Sl tyB 5) => b.length - k) 0 Sl.nil (⟨Nat.zero_le _,rfl⟩) ⟨rfl,rfl,rfl,trivial⟩ rfl ?_
 rintro k x ⟨hk,hx⟩ ihL1
 have hxl:=congrArg List.length hx
 rw [zdt,List.length_take] at hxl
 have hcx:=Own.cap_le x.own
 refine At.seq<|At.seq<|At.region<|AtL.move zg0 rfl rfl<|AtL.move zg0 rfl rfl<|AtL.lenL Tryz.underlying22 zg0 rfl rfl ?_
 refine AtL.lss zg0 rfl rfl rfl<|AtL.done<|At.condD rfl ?_ ?_
 ·intro hc1
  refine At.skip<|At.seq<|At.block ?_
  have h16:=u8lt16 (b.getD k 0)
  refine At.draw (es:=[13,14]) (pv:=[(0,.slice x.A x.l.length x.C),(1,.slice D b.length C),(2,.int .i64 (k:Int)),(3,.pointer (some (eaddr D (k * tyB.sz)))),(4,.int .u8 ((b.getD k 0).toNat:Int)),(5,.int .u8 ((b.getD k 0 / 16).toNat:Int)),(6,.int .u8 ((([48,49,50,51,52,53,54,55,56,57,97,98,99,100,101,102]:List UInt8).getD ((b.getD k 0 / 16).toNat) 0).toNat:Int)),(7,.slice D b.length C),(8,.int .i64 (k:Int)),(9,.pointer (some (eaddr D (k * tyB.sz)))),(10,.int .u8 ((b.getD k 0).toNat:Int)),(11,.int .u8 ((b.getD k 0 % 16).toNat:Int)),(12,.int .u8 ((([48,49,50,51,52,53,54,55,56,57,97,98,99,100,101,102]:List UInt8).getD ((b.getD k 0 % 16).toNat) 0).toNat:Int))]) zaj (by kernel_rfl) (by kernel_rfl) (by kernel_rfl) ?_
  refine ⟨⟨zpr rfl rfl rfl (Do.move rfl),zpr rfl rfl rfl (Do.move rfl),zpr rfl rfl rfl (Do.move rfl),zpr rfl rfl rfl (Do.indexL k (Rd.skip 1 h) Tryz.underlying22 zaR rfl rfl rfl (by omega)),zpr rfl rfl rfl (Do.load (v:=.int .u8 ((b.getD k 0).toNat:Int)) zbV rfl (Rd.cell0 (Rd.skip 1 h) (getD_some 0 (by omega)) rfl)),zpr rfl rfl rfl (Do.quo (z:=((b.getD k 0 / 16).toNat:Int)) rfl rfl (by omega) (u8q16 (b.getD k 0))),zpr rfl rfl rfl (Do.indexS (l:=[48,49,50,51,52,53,54,55,56,57,97,98,99,100,101,102]) ((b.getD k 0 / 16).toNat) rfl (by show _ < 16; omega) Tryz.underlying9 rfl rfl),zpr rfl rfl rfl (Do.move rfl),zpr rfl rfl rfl (Do.move rfl),zpr rfl rfl rfl (Do.indexL k (Rd.skip 1 h) Tryz.underlying22 zaR rfl rfl rfl (by omega)),zpr rfl rfl rfl (Do.load (v:=.int .u8 ((b.getD k 0).toNat:Int)) zbV rfl (Rd.cell0 (Rd.skip 1 h) (getD_some 0 (by omega)) rfl)),zpr rfl rfl rfl (Do.rem (z:=((b.getD k 0 % 16).toNat:Int)) rfl rfl (by omega) (u8r16 (b.getD k 0))),zpr rfl rfl rfl (Do.indexS (l:=[48,49,50,51,52,53,54,55,56,57,97,98,99,100,101,102]) ((b.getD k 0 % 16).toNat) rfl (by show _ < 16; omega) Tryz.underlying9 rfl rfl),trivial⟩,rfl,rfl,by kernel_rfl,_,rfl,rfl,rfl,_,Do.own1 tyB (l:=([([48,49,50,51,52,53,54,55,56,57,97,98,99,100,101,102]:List UInt8).getD ((b.getD k 0 / 16).toNat) 0,([48,49,50,51,52,53,54,55,56,57,97,98,99,100,101,102]:List UInt8).getD ((b.getD k 0 % 16).toNat) 0]:List UInt8)) (Do.buildSlice (cs:=[.int .u8 ((([48,49,50,51,52,53,54,55,56,57,97,98,99,100,101,102]:List UInt8).getD ((b.getD k 0 / 16).toNat) 0).toNat:Int),.int .u8 ((([48,49,50,51,52,53,54,55,56,57,97,98,99,100,101,102]:List UInt8).getD ((b.getD k 0 % 16).toNat) 0).toNat:Int)]) Tryz.underlying22 zaQ zaR rfl rfl rfl rfl) rfl rfl (by first | decide | simp),?_⟩
  rintro _ _ ⟨b1,s2,o3,rfl,rfl⟩
  refine ⟨[],rfl,?_⟩
  refine ⟨⟨zpr rfl rfl rfl (Do.move rfl),.inl (by kernel_rfl),.inl (by kernel_rfl),.inl (by kernel_rfl),.inl (by kernel_rfl),.inl (by kernel_rfl),.inl (by kernel_rfl),.inl (by kernel_rfl),.inl (by kernel_rfl),.inl (by kernel_rfl),.inl (by kernel_rfl),.inl (by kernel_rfl),.inl (by kernel_rfl),trivial⟩,rfl,rfl,by kernel_rfl,_,rfl,rfl,rfl,_,Do.append (l:=x.l) (news:=[([48,49,50,51,52,53,54,55,56,57,97,98,99,100,101,102]:List UInt8).getD ((b.getD k 0 / 16).toNat) 0,([48,49,50,51,52,53,54,55,56,57,97,98,99,100,101,102]:List UInt8).getD ((b.getD k 0 % 16).toNat) 0]) 1 zas rfl x.own (o3.rd (i:=0) rfl) (by first | omega | (simp only [List.length_append,List.length_cons,List.length_nil]; omega) | (simp; done) | (simp; omega)) rfl rfl,?_⟩
  rintro _ _ ⟨A4,C5,s6,o7,rfl,rfl⟩
  refine ⟨[(15,.slice A4 (x.l++([([48,49,50,51,52,53,54,55,56,57,97,98,99,100,101,102]:List UInt8).getD ((b.getD k 0 / 16).toNat) 0,([48,49,50,51,52,53,54,55,56,57,97,98,99,100,101,102]:List UInt8).getD ((b.getD k 0 % 16).toNat) 0])).length C5)],rfl,?_⟩
  refine ⟨⟨zpr rfl rfl rfl (Do.assign rfl),.inl (by kernel_rfl),.inl (by kernel_rfl),.inl (by kernel_rfl),.inl (by kernel_rfl),.inl (by kernel_rfl),.inl (by kernel_rfl),.inl (by kernel_rfl),.inl (by kernel_rfl),.inl (by kernel_rfl),.inl (by kernel_rfl),.inl (by kernel_rfl),.inl (by kernel_rfl),.inl (by kernel_rfl),trivial⟩,by kernel_rfl,?_⟩
  refine At.mono (E':=[(0,.slice D b.length C),(3,.slice A4 (x.l++([([48,49,50,51,52,53,54,55,56,57,97,98,99,100,101,102]:List UInt8).getD ((b.getD k 0 / 16).toNat) 0,([48,49,50,51,52,53,54,55,56,57,97,98,99,100,101,102]:List UInt8).getD ((b.getD k 0 % 16).toNat) 0])).length C5),(4,.int .i64 (k:Int))]) ⟨rfl,rfl,rfl,trivial⟩<|At.inBlock<|At.region<|AtL.move zg0 rfl rfl ?_
  refine AtL.add (z:=(k:Int) + 1) zg0 rfl rfl rfl (w64 (by omega) (by omega))<|AtL.assign zg0 rfl rfl<|AtL.done<|At.pick (H':=s6::H) [1] 2 rfl rfl ?_
  refine ihL1 (k + 1) (⟨A4,C5,x.l++([([48,49,50,51,52,53,54,55,56,57,97,98,99,100,101,102]:List UInt8).getD ((b.getD k 0 / 16).toNat) 0,([48,49,50,51,52,53,54,55,56,57,97,98,99,100,101,102]:List UInt8).getD ((b.getD k 0 % 16).toNat) 0]),s6,o7⟩) (⟨by omega,by dsimp only; rw [hexF,zfV hexB 0 (by omega),← hexF,hx]; rfl⟩) (by omega) _ ?_
  exact ⟨rfl,(by first | rfl | exact slLen (by simp []) | exact intEq (by omega) | exact intEq (by simp []) | exact slLen (by simp []; omega)),(by first | rfl | exact slLen (by simp []) | exact intEq (by omega) | exact intEq (by simp []) | exact slLen (by simp []; omega)),trivial⟩
 ·intro hc1
  refine At.exit rfl<|At.seq<|At.region<|AtL.move zg0 rfl rfl<|AtL.strOf (x.own.rd (i:=0) rfl) Tryz.underlying22 Tryz.underlying5 Tryz.underlying9 zg0 rfl rfl<|AtL.assign zg0 rfl rfl ?_
  refine AtL.done<|At.pick [] 1 rfl rfl ?_
  exact At.ret Tryz.func22 rfl rfl (⟨congrArg str (by rw [hx,List.take_of_length_le (by omega)]),rfl⟩)
theorem ixb_ok {w0:World}{base:Nat}{H:List Seg}{s:List UInt8}{c:UInt8}{z:Int}(e:Lib.indexByte s c=z):SCalls Tryz.prog 263 [str s,.int .u8 (c.toNat:Int)] w0 base H (fun v H' => v=int z∧H' = H):=by
 refine SCalls.of_below fun w S => ?_
 refine (Tryz.strings_IndexByte ⟨⟨s⟩⟩ (c.toNat:Int) w).mono ?_
 rintro e2 w' ⟨he,hw⟩
 refine ⟨?_,hw ▸ Go.RowKit.Below.refl _ _⟩
 rw [he,← e]
 simp
theorem unhex_ok {w0:World}{base:Nat}{H:List Seg}{D:Option Addr}{C:Nat}{l:List (List UInt8)}{x:List UInt8}(h:Rd tyS w0 base H D C l) (hll:l.length=1) (hg:l.getD 0 []=hexF x) (h1:1≤x.length) (hx:x.length≤4096) :
  SCalls Tryz.prog 185 [.slice D l.length C] w0 base (H) (fun v H' => ∃ y:Sl tyB 5,y.l=x∧v = .tuple #[.slice y.A y.l.length y.C,.bool true]∧H' = y.s::H):=by
 have hle0:=h.le
 have hcap0:=h.cap
 have hgl:=congrArg List.length hg
 rw [zdt] at hgl
 refine SCalls.of_walk (n:=63) Tryz.func185 rfl rfl rfl fun cs => ?_
 refine At.seq<|At.region<|AtL.assign zg0 rfl rfl<|AtL.assign zg0 rfl rfl<|AtL.done<|At.seq ?_
 refine At.seq<|At.region<|AtL.move zg0 rfl rfl<|AtL.lenL Tryz.underlying67 zg0 rfl rfl<|AtL.eqi zg0 rfl rfl rfl<|AtL.done ?_
 refine At.condIs false rfl (decide_eq_false (by omega))<|At.skip<|At.seq<|At.region<|AtL.move zg0 rfl rfl<|AtL.move zg0 rfl rfl ?_
 refine AtL.lenL Tryz.underlying67 zg0 rfl rfl ?_
 refine AtL.sub (z:=(l.length:Int) - 1) zg0 rfl rfl rfl (w64 (by omega) (by omega)) ?_
 refine AtL.indexL 0 h Tryz.underlying67 zaE zg0 rfl rfl rfl (by omega) (by omega) ?_
 refine AtL.load (v:=str (l.getD 0 [])) zad zg0 rfl rfl (Rd.cell0 h (getD_some [] (by omega)) rfl)<|AtL.assign zg0 rfl rfl<|AtL.done<|At.seq<|At.seq<|At.region ?_
 refine AtL.move zg0 rfl rfl<|AtL.eqs (a:=(l.getD 0 [])) (b:=[45]) zg0 rfl rfl rfl<|AtL.done<|At.condIs false rfl (decide_eq_false (fun h9 => by have:=congrArg List.length h9; rw [hgl] at this; simp at this; omega))<|At.skip<|At.seq ?_
 refine At.seq<|At.region<|AtL.move zg0 rfl rfl<|AtL.lenS (l:=(l.getD 0 [])) Tryz.underlying9 zg0 rfl rfl ?_
 refine AtL.rem (z:=((l.getD 0 []).length:Int) % 2) zg0 rfl rfl rfl (by omega) (rem_eq (by omega))<|AtL.nei zg0 rfl rfl rfl<|AtL.move zg0 rfl rfl<|AtL.joinS 4 (E':=[(28,.bool (decide ((¬ ((((l.getD 0 []).length:Int) % 2)=0))∨(8192 < ((l.getD 0 []).length:Int))))),(4,str (l.getD 0 []))]) (fun J => ?_) ?_
 ·refine AtL.split (t:=24) rfl ?_ ?_
  ·intro hs24
   have hs24:¬ ((((l.getD 0 []).length:Int) % 2)=0):=of_decide_eq_false (zaX hs24)
   refine AtL.skipped rfl rfl rfl rfl rfl rfl<|AtL.skipped rfl rfl rfl rfl rfl rfl<|AtL.skipped rfl rfl rfl rfl rfl rfl<|AtL.pickT zg0 rfl rfl rfl ?_
   exact J _ (by exact ⟨(boolIs (by clear J; first | (simp [hs24]; done) | (simp_all; done) | grind)),rfl,trivial⟩)
  ·intro hs24
   have hs24:(((l.getD 0 []).length:Int) % 2)=0:=of_decide_eq_true (zaJ hs24)
   refine AtL.move (.inr ⟨_,_,_,rfl,rfl,rfl,rfl⟩) rfl rfl<|AtL.lenS (l:=(l.getD 0 [])) Tryz.underlying9 (.inr ⟨_,_,_,rfl,rfl,rfl,rfl⟩) rfl rfl<|AtL.gtr (.inr ⟨_,_,_,rfl,rfl,rfl,rfl⟩) rfl rfl rfl<|AtL.pickF zg0 rfl rfl rfl ?_
   exact J _ (by exact ⟨(boolIs (by clear J; first | (simp [hs24]; done) | (simp_all; done) | grind)),rfl,trivial⟩)
 ·refine AtL.move zg0 rfl rfl<|AtL.joinS 3 (E':=[(32,.bool (decide (((¬ ((((l.getD 0 []).length:Int) % 2)=0))∨(8192 < ((l.getD 0 []).length:Int)))∨((l.getD 0 [])=[])))),(4,str (l.getD 0 []))]) (fun J => ?_) ?_
  ·refine AtL.splitD (t:=29) rfl ?_ ?_
   ·intro hs29
    refine AtL.skipped rfl rfl rfl rfl rfl rfl<|AtL.skipped rfl rfl rfl rfl rfl rfl<|AtL.pickT zg0 rfl rfl rfl ?_
    exact J _ (by exact ⟨(boolIs (by clear J; first | (simp [hs29]; done) | (simp_all; done) | grind)),rfl,trivial⟩)
   ·intro hs29
    refine AtL.move (.inr ⟨_,_,_,rfl,rfl,rfl,rfl⟩) rfl rfl<|AtL.eqs (a:=(l.getD 0 [])) (b:=[]) (.inr ⟨_,_,_,rfl,rfl,rfl,rfl⟩) rfl rfl rfl<|AtL.pickF zg0 rfl rfl rfl ?_
    exact J _ (by exact ⟨(boolIs (by clear J; first | (simp [hs29]; done) | (simp_all; done) | grind)),rfl,trivial⟩)
  ·refine AtL.done ?_
   refine At.condIs false rfl (decide_eq_false (by intro h9; rcases h9 with (h9 | h9) | h9; omega; omega; rw [h9] at hgl; simp at hgl; omega))<|At.skip<|At.seq<|At.region<|AtL.assign zg0 rfl rfl<|AtL.done ?_
   refine At.seq<|At.seq<|At.region<|AtL.assign zg0 rfl rfl<|AtL.done<|At.block ?_
   refine At.nil<|At.loop3 (fun (k:Nat) (i:Nat) (y:Sl tyB 5) => [(4,str (l.getD 0 [])),(5,.slice y.A y.l.length y.C),(6,.int .i64 (i:Int))]) (fun (k:Nat) (i:Nat) (y:Sl tyB 5) => y.s::H) (fun (k:Nat) (i:Nat) (y:Sl tyB 5) => k≤x.length∧i=2 * k∧y.l=x.take k) (fun (k:Nat) (i:Nat) (y:Sl tyB 5) => x.length - k) 0 0 Sl.nil (⟨Nat.zero_le _,rfl,rfl⟩) ⟨rfl,rfl,rfl,trivial⟩ rfl ?_
   rintro k i y ⟨hk,hi,hy⟩ ihL1
   have hyl:=congrArg List.length hy
   rw [List.length_take] at hyl
   have hcy:=Own.cap_le y.own
   refine At.seq<|At.seq<|At.region<|AtL.move zg0 rfl rfl<|AtL.move zg0 rfl rfl<|AtL.lenS (l:=(l.getD 0 [])) Tryz.underlying9 zg0 rfl rfl ?_
   refine AtL.lss zg0 rfl rfl rfl<|AtL.done<|At.condD rfl ?_ ?_
   ·intro hc4
    refine At.skip<|At.seq<|At.block<|At.seq ?_
    have h16:=u8lt16 (x.getD k 0)
    obtain ⟨hx0,hx1⟩:=hexF_at (x:=x) (k:=k) (by omega)
    rw [← hg,← hi] at hx0 hx1
    refine At.draw (es:=[]) (pv:=[(0,str (l.getD 0 [])),(1,.int .i64 (i:Int)),(2,.int .u8 (((l.getD 0 []).getD i 0).toNat:Int)),(3,.int .i64 ((x.getD k 0 / 16).toNat:Int)),(4,str (l.getD 0 [])),(5,.int .i64 (i:Int)),(6,.int .i64 ((i:Int) + 1)),(7,.int .u8 (((l.getD 0 []).getD (i + 1) 0).toNat:Int)),(8,.int .i64 ((x.getD k 0 % 16).toNat:Int)),(9,.int .i64 ((x.getD k 0 / 16).toNat:Int)),(10,.int .i64 ((x.getD k 0 % 16).toNat:Int))]) zaj (by kernel_rfl) (by kernel_rfl) (by kernel_rfl) ?_
    refine ⟨⟨zpr rfl rfl rfl (Do.move rfl),zpr rfl rfl rfl (Do.move rfl),zpr rfl rfl rfl (Do.indexS (l:=(l.getD 0 [])) i rfl (by omega) Tryz.underlying9 rfl rfl),zpr rfl rfl rfl (Do.call zeR rfl (ixb_ok (s:=[48,49,50,51,52,53,54,55,56,57,97,98,99,100,101,102]) (c:=(l.getD 0 []).getD i 0) (z:=((x.getD k 0 / 16).toNat:Int)) (by rw [hx0]; exact ix_hex h16.1))),zpr rfl rfl rfl (Do.move rfl),zpr rfl rfl rfl (Do.move rfl),zpr rfl rfl rfl (Do.add (z:=(i:Int) + 1) rfl rfl (w64 (by omega) (by omega))),zpr rfl rfl rfl (Do.indexS (l:=(l.getD 0 [])) (i + 1) rfl (by omega) Tryz.underlying9 rfl rfl),zpr rfl rfl rfl (Do.call zeR rfl (ixb_ok (s:=[48,49,50,51,52,53,54,55,56,57,97,98,99,100,101,102]) (c:=(l.getD 0 []).getD (i + 1) 0) (z:=((x.getD k 0 % 16).toNat:Int)) (by rw [hx1]; exact ix_hex h16.2))),zpr rfl rfl rfl (Do.assign rfl),zpr rfl rfl rfl (Do.assign rfl),trivial⟩,by kernel_rfl,?_⟩
    refine At.mono (E':=[(4,str (l.getD 0 [])),(5,.slice y.A y.l.length y.C),(6,.int .i64 (i:Int)),(7,.int .i64 ((x.getD k 0 / 16).toNat:Int)),(8,.int .i64 ((x.getD k 0 % 16).toNat:Int))]) ⟨rfl,rfl,rfl,rfl,rfl,trivial⟩<|At.seq<|At.seq<|At.region<|AtL.move zg0 rfl rfl<|AtL.lss zg0 rfl rfl rfl ?_
    refine AtL.move zg0 rfl rfl<|AtL.joinS 3 (E':=[(53,.bool (decide ((((x.getD k 0 / 16).toNat:Int) < 0)∨(((x.getD k 0 % 16).toNat:Int) < 0)))),(4,str (l.getD 0 [])),(5,.slice y.A y.l.length y.C),(6,.int .i64 (i:Int)),(7,.int .i64 ((x.getD k 0 / 16).toNat:Int)),(8,.int .i64 ((x.getD k 0 % 16).toNat:Int))]) (fun J => ?_) ?_
    ·refine AtL.splitD (t:=50) rfl ?_ ?_
     ·intro hs50
      refine AtL.skipped rfl rfl rfl rfl rfl rfl<|AtL.skipped rfl rfl rfl rfl rfl rfl<|AtL.pickT zg0 rfl rfl rfl ?_
      exact J _ (by exact ⟨(boolIs (by clear J; first | (simp [hs50]; done) | (simp_all; done) | grind)),rfl,rfl,rfl,rfl,rfl,trivial⟩)
     ·intro hs50
      refine AtL.move (.inr ⟨_,_,_,rfl,rfl,rfl,rfl⟩) rfl rfl<|AtL.lss (.inr ⟨_,_,_,rfl,rfl,rfl,rfl⟩) rfl rfl rfl<|AtL.pickF zg0 rfl rfl rfl ?_
      exact J _ (by exact ⟨(boolIs (by clear J; first | (simp [hs50]; done) | (simp_all; done) | grind)),rfl,rfl,rfl,rfl,rfl,trivial⟩)
    ·refine AtL.done ?_
     refine At.condIs false rfl (decide_eq_false (by omega))<|At.skip ?_
     have hor:=or16 (x.getD k 0)
     refine At.region<|AtL.move zg0 rfl rfl<|AtL.move zg0 rfl rfl ?_
     refine AtL.shl (z:=((x.getD k 0 / 16).toNat:Int) * 16) zg0 rfl rfl rfl (by omega) (shl_eq _ _ 4 rfl (by decide) _ (by decide) (by omega) (by omega))<|AtL.move zg0 rfl rfl<|AtL.bor (z:=((x.getD k 0).toNat:Int)) zg0 rfl rfl rfl hor<|AtL.convInt (z:=((UInt8.ofInt ((x.getD k 0).toNat:Int)).toNat:Int)) Tryz.underlying3 Tryz.underlying5 zg0 rfl rfl (zee _)<|AtL.buildSlice (cs:=[.int .u8 ((UInt8.ofInt ((x.getD k 0).toNat:Int)).toNat:Int)]) Tryz.underlying22 zaQ zaR rfl rfl zg0 rfl rfl rfl ?_
     intro b1
     refine AtL.own1 tyB (l:=([(UInt8.ofInt ((x.getD k 0).toNat:Int))]:List UInt8)) rfl rfl (by first | decide | simp) ?_
     intro s2 o3
     refine AtL.append (l:=y.l) (news:=[(UInt8.ofInt ((x.getD k 0).toNat:Int))]) 1 zas rfl y.own (o3.rd (i:=0) rfl) (by first | omega | (simp only [List.length_append,List.length_cons,List.length_nil]; omega) | (simp; done) | (simp; omega)) zg0 rfl rfl rfl ?_
     intro A4 C5 s6 o7
     refine AtL.assign zg0 rfl rfl<|AtL.done<|At.inBlock<|At.region<|AtL.move zg0 rfl rfl ?_
     refine AtL.add (z:=(i:Int) + 2) zg0 rfl rfl rfl (w64 (by omega) (by omega))<|AtL.assign zg0 rfl rfl<|AtL.done<|At.pick (H':=s6::H) [1] 2 rfl rfl ?_
     refine ihL1 (k + 1) (i + 2) (⟨A4,C5,y.l++[(UInt8.ofInt ((x.getD k 0).toNat:Int))],s6,o7⟩) (⟨by omega,by omega,by dsimp only; rw [zb8 (by omega),hy,zes,UInt8.ofNat_toNat]⟩) (by omega) _ ?_
     exact ⟨rfl,(by first | rfl | exact slLen (by simp []) | exact intEq (by omega) | exact intEq (by simp []) | exact slLen (by simp []; omega)),(by first | rfl | exact slLen (by simp []) | exact intEq (by omega) | exact intEq (by simp []) | exact slLen (by simp []; omega)),trivial⟩
   ·intro hc4
    refine At.exit rfl<|At.seq<|At.region<|AtL.move zg0 rfl rfl<|AtL.assign zg0 rfl rfl<|AtL.assign zg0 rfl rfl ?_
    refine AtL.done ?_
    exact At.ret Tryz.func185 rfl rfl (⟨y,(by rw [hy,List.take_of_length_le (by omega)]),rfl,rfl⟩)
end Go.Proofs.YtdncjmehhahidaaGreatDoor
