/- The parts of the proof that this law needs, in the order of their texts: the logic of walks, the plain laws, the walks. -/
import Derived.Test.YtdncjmehhahidaaGreatDoorQE01
namespace Go.Proofs.YtdncjmehhahidaaGreatDoor
set_option maxHeartbeats 400000
open Go.RowKit (Below)
open Go.WideShapes Go.ChangeShapes
set_option linter.unusedVariables false
set_option linter.unusedSimpArgs false
open Go
theorem bulk_all {H:Type}:∀ {ds:List (DataW H)}{d:DataW H},d ∈ ds→Rows.uptoBulk d≤Rows.uptoBulkAll ds
 | d0::ds,d,hd => by
  simp only [Rows.uptoBulkAll]
  rcases List.mem_cons.1 hd with rfl | hd
  ·omega
  ·have:=bulk_all hd; omega
def RdsB (P:Program) (W:World) (t:TypeId) {α:Type}(T:Ty α) (Q:α→Prop):Prop :=
 ∀ {H:Type}(enc:TypeId×Value→H) (spare:Nat→Bool) (held:Bool) (fuel:Nat) (cs:List Value) (x:DataW H×List MemPlace),DataW.trod enc P W 0 spare held fuel t cs=some x→Rows.uptoBulk x.1≤1048576→∃ a,cs=(T.val a).cells.toList∧Q a
theorem RdsB.int {P:Program}{W:World}{t:TypeId}(ht:P.underlying t=some (.int .i64)):RdsB P W t tyI I64:=fun enc spare held fuel cs x h hw0 => by
 obtain ⟨n,rfl,_,hw⟩:=DataW.trod_int ht h
 refine ⟨n,rfl,?_⟩
 simpa [Lit.wf,IntKind.min,IntKind.max,IntKind.signed,IntKind.bits,I64] using hw
theorem RdsB.str {P:Program}{W:World}{t:TypeId}(ht:P.underlying t=some .string):RdsB P W t tyS (fun l => l.length≤1048576):=fun enc spare held fuel cs x h hw0 => by
 obtain ⟨s,rfl,hx,hs⟩:=DataW.trod_string ht h
 subst hx
 exact ⟨s.data.toList,rfl,by simp only [Rows.uptoBulk] at hw0; omega⟩
theorem RdsB.slice {P:Program}{W:World}{t e:TypeId}{α:Type}{T:Ty α}{Q:α→Prop}(ht:P.underlying t=some (.slice e)) (hc:P.cellsOf e=T.sz) (hz:0 < T.sz) (k:Nat) (hk:P.bytesOf e=k) (he:RdsB P W e T Q) :
  RdsB P W t (tyVs α) (fun v => Rd T W W.heap.size [] v.A v.C v.l∧∀ x ∈ v.l,Q x):=fun {H} enc spare held fuel cs x h hw0 => by
 rcases Deep.open_slice ht h with ⟨rfl,_⟩ | ⟨a,len,cap,m,n,D,Pl,rfl,hb,hl,hm,hmm,hxe,hx⟩
 ·exact ⟨⟨none,0,[]⟩,rfl,Rd.nil_,by simp⟩
 ·have hlm:len≤m:=by rw [hmm]; split <;> omega
  subst hxe
  have hw2:∀ i,i < len→Rows.uptoBulk (D i)≤1048576:=fun i hi => by
   have h1:=bulk_all (List.mem_map.2 ⟨i,List.mem_range.2 hi,rfl⟩:D i ∈ (List.range len).map D)
   simp only [Rows.uptoBulk] at hw0
   omega
  have hv:∀ i,∃ y:Option α,i < len→∃ z,y=some z∧Q z∧W.cells? 0 (a.add (i * T.sz)) T.sz=some (T.val z).cells.toList:=fun i => by
   by_cases hi:i < len
   ·obtain ⟨cs',h1,h2⟩:=hx i (by omega)
    obtain ⟨z,rfl,hq⟩:=he enc spare held n cs' _ h2 (hw2 i hi)
    exact ⟨some z,fun _ => ⟨z,rfl,hq,by rw [← hc]; exact h1⟩⟩
   ·exact ⟨none,fun hi2 => absurd hi2 hi⟩
  obtain ⟨f,hf⟩:=Classical.axiomOfChoice hv
  have hlist:∃ l:List α,l.length=len∧∀ i,i < len→∃ z,l[i]? = some z∧Q z∧W.cells? 0 (a.add (i * T.sz)) T.sz=some (T.val z).cells.toList:=by
   have:∀ k,k≤len→∃ l:List α,l.length=k∧∀ i,i < k→∃ z,l[i]? = some z∧Q z∧W.cells? 0 (a.add (i * T.sz)) T.sz=some (T.val z).cells.toList:=by
    intro k
    induction k with
    | zero => exact fun _ => ⟨[],rfl,fun i hi => absurd hi (Nat.not_lt_zero _)⟩
    | succ k ih =>
     intro hk
     obtain ⟨l,hl1,hl2⟩:=ih (by omega)
     obtain ⟨z,_,hq,hz⟩:=hf k (by omega)
     refine ⟨l++[z],by simp [hl1],fun i hi => ?_⟩
     by_cases hik:i < k
     ·obtain ⟨z',h1,h2⟩:=hl2 i hik
      exact ⟨z',by rw [List.getElem?_append_left (by omega)]; exact h1,h2⟩
     ·have:i=k:=by omega
      subst this
      exact ⟨z,by rw [List.getElem?_append_right (by omega),hl1]; simp,hq,hz⟩
   exact this len (Nat.le_refl _)
  obtain ⟨l,hlen,hall⟩:=hlist
  subst hlen
  refine ⟨⟨some a,cap,l⟩,rfl,⟨hl,by simp [maxLen] at hm; show cap≤_; omega,(fun hA => by cases hA),fun hne => ?_⟩,fun x hx => ?_⟩
  ·have h0:0 < l.length:=List.length_pos_iff.2 hne
   obtain ⟨z0,_,_,hz0⟩:=hall 0 h0
   have hs0:=(World.cells?_some hz0).2.2 0 hz
   rw [Nat.zero_mul] at hs0
   have hlt0:0 < (T.val z0).cells.toList.length:=by rw [Array.length_toList,T.ok]; exact hz
   rw [List.getElem?_eq_getElem hlt0] at hs0
   have haa:a.add 0=a:=by simp [Addr.add]
   rw [haa] at hs0
   have ha:=addr_at hs0
   refine ⟨a.block,a.off,by rw [← ha],fun w S j u hu => ?_⟩
   have hj:j < l.length * T.sz:=by have:=(List.getElem?_eq_some_iff.1 hu).1; rwa [Ty.cells_len] at this
   have hi:j / T.sz < l.length:=Nat.div_lt_of_lt_mul (by rw [Nat.mul_comm]; exact hj)
   obtain ⟨z,hz1,_,hz2⟩:=hall (j / T.sz) hi
   have hk:j % T.sz < T.sz:=Nat.mod_lt _ hz
   have h1:=(World.cells?_some hz2).2.2 (j % T.sz) hk
   have hlt:j % T.sz < (T.val z).cells.toList.length:=by rw [Array.length_toList,T.ok]; exact hk
   have e:j / T.sz * T.sz + j % T.sz=j:=by rw [Nat.mul_comm]; exact Nat.div_add_mod j T.sz
   have h2:=Ty.cells_get (T:=T) (j:=j % T.sz) hz1 (u:=(T.val z).cells.toList[j % T.sz]) (by rw [← Array.getElem?_toList]; exact List.getElem?_eq_getElem hlt)
   rw [e,hu] at h2
   rw [List.getElem?_eq_getElem hlt,← h2,Deep.add_add,e] at h1
   rw [ha,zai] at h1
   have hB:=zdz h1
   rw [S.below.cell hB]
   exact h1
  ·obtain ⟨i,hi⟩:=List.mem_iff_getElem?.1 hx
   obtain ⟨z,h1,h2,_⟩:=hall i (List.getElem?_eq_some_iff.1 hi).1
   rw [hi] at h1
   cases h1
   exact h2
def RdsFB (P:Program) (W:World) (tot off:Nat) (fs:List (TypeId×Nat)) {β:Type}(cells:β→List Value) (Q:β→Prop):Prop :=
 ∀ {H:Type}(enc:TypeId×Value→H) (spare:Nat→Bool) (held:Bool) (n:Nat) (cs:List Value) (xs:List (DataW H×List MemPlace)),cs.length=tot→xs.length=fs.length →
  (∀ (i:Nat) (f:TypeId×Nat),fs[i]? = some f→DataW.trod enc P W 0 spare held n f.1 ((cs.drop f.2).take (P.cellsOf f.1))=xs[i]?)→Rows.uptoBulkAll (xs.map (·.1))≤1048576→∃ b,cs.drop off=cells b∧Q b
theorem RdsFB.nil {P:Program}{W:World}(tot:Nat):RdsFB P W tot tot [] (fun (_:Unit) => []) (fun _ => True):=fun enc spare held n cs xs hl _ _ _ => ⟨(),by rw [List.drop_eq_nil_of_le (by omega)],trivial⟩
theorem RdsFB.cons {P:Program}{W:World}{tot:Nat}(off k t:Nat) {fs:List (TypeId×Nat)}{α β:Type}{T:Ty α}{cells:β→List Value}{Q1:α→Prop}{Q:β→Prop}(hk:P.cellsOf t=k) (h1:RdsB P W t T Q1) (h2:RdsFB P W tot (off + k) fs cells Q) :
  RdsFB P W tot off ((t,off)::fs) (fun (b:α×β) => (T.val b.1).cells.toList++cells b.2) (fun b => Q1 b.1∧Q b.2):=fun enc spare held n cs xs hl hxl hf hw => by
 cases xs with
 | nil => simp at hxl
 | cons x xs =>
  have h0:=hf 0 (t,off) rfl
  rw [hk] at h0
  obtain ⟨a,ha,qa⟩:=h1 enc spare held n _ x h0 (by simp only [List.map_cons,Rows.uptoBulkAll] at hw; omega)
  obtain ⟨b,hb,qb⟩:=h2 enc spare held n cs xs hl (by simpa using hxl) (fun i g hg => hf (i + 1) g (by simpa using hg)) (by simp only [List.map_cons,Rows.uptoBulkAll] at hw; omega)
  refine ⟨(a,b),?_,qa,qb⟩
  show cs.drop off=(T.val a).cells.toList++cells b
  rw [← ha,← hb,← List.drop_drop,List.take_append_drop]
theorem RdsB.struct {P:Program}{W:World}{t tot:Nat}{fs:Array Field}{fl:List (TypeId×Nat)}{β γ:Type}{cells:β→List Value}{Q:β→Prop}{T:Ty γ}{Q' : γ→Prop}(h:RdsFB P W tot 0 fl cells Q) (g:β→γ) (ht:P.underlying t=some (.struct fs)) (hfl:fs.toList.map (fun f => (f.type,f.offset))=fl) (hc:P.cellsOf t=tot)
  (hg:∀ b,cells b=(T.val (g b)).cells.toList) (hQ:∀ b,Q b→Q' (g b)):RdsB P W t T Q':=fun enc spare held fuel cs x hx hw => by
 obtain ⟨xs,n,_,rfl,hl,hxl,hf⟩:=DataW.trod_struct ht hx
 subst hfl
 obtain ⟨b,hb,qb⟩:=h enc spare held n cs xs (hl.trans hc) (by simpa using hxl) (fun i f hi => by
  rw [List.getElem?_map] at hi
  cases hfi:fs.toList[i]? with
  | none => rw [hfi] at hi; cases hi
  | some f0 =>
   rw [hfi] at hi
   cases hi
   exact hf i f0 (by simpa using hfi)) (by simp only [Rows.uptoBulk] at hw; omega)
 refine ⟨g b,?_,hQ b qb⟩
 rw [List.drop_zero] at hb
 rw [hb,hg]
theorem arg_sliceB {P:Program}{W:World}{t e:TypeId}{α:Type}{T:Ty α}{Q:α→Prop}(ht:P.underlying t=some (.slice e)) (hc:P.cellsOf e=T.sz) (hz:0 < T.sz) (k:Nat) (hk:P.bytesOf e=k) (he:RdsB P W e T Q) {r:Reach}{b0:Nat}{H:Type}{enc:TypeId×Value→H}{spare:Nat→Bool}{held:Bool}{v:Value}{d:DataW H}{ps:List MemPlace}(hval:Value.okWide P W r b0 t v) (h:DataW.Trod enc P W 0 spare held t v d ps) (hw:Rows.uptoBulk d≤1048576) :
  ∃ (A:Option Addr) (C:Nat) (l:List α),v = .slice A l.length C∧Rd T W W.heap.size [] A C l∧∀ x ∈ l,Q x:=by
 obtain ⟨fuel,hf⟩:=h
 obtain ⟨⟨A,C,l⟩,h1,h2⟩:=RdsB.slice ht hc hz k hk he enc spare held fuel _ _ hf hw
 obtain ⟨a,n,c,rfl⟩:=okWide_slice ht hval
 simp [Value.cells,tyVs] at h1
 exact ⟨A,C,l,by simp [h1],h2⟩
theorem arg_intB {P:Program}{W:World}{t:TypeId}(ht:P.underlying t=some (.int .i64)) {r:Reach}{b0:Nat}{H:Type}{enc:TypeId×Value→H}{spare:Nat→Bool}{held:Bool}{v:Value}{d:DataW H}{ps:List MemPlace}(hval:Value.okWide P W r b0 t v) (h:DataW.Trod enc P W 0 spare held t v d ps) (hw:Rows.uptoBulk d≤1048576):∃ n,v = .int .i64 n∧I64 n:=by
 obtain ⟨n,rfl⟩:=okWide_int ht hval
 obtain ⟨fuel,hf⟩:=h
 obtain ⟨m,h1,h2⟩:=RdsB.int ht enc spare held fuel _ _ hf hw
 simp [Value.cells,tyI] at h1
 exact ⟨n,rfl,h1 ▸ h2⟩
theorem returns_upto {H:Type}{enc:TypeId×Value→H}{a:Assume}{C:Checked}{os:Os}{f:FuncId}{fn:Func}{s:OpenSpec}{k:(H:Type)→List (DataW H)→Bool}(hk:s.cond=some k) {F:Stop.Interp}{conds:List PathCond}{apart fresh handsOn again:Bool}{X:World→Array Value→Prop}
  (hX:∀ (w w' : World) (args:Array Value),w.heap=w'.heap→X w args→X w' args) (own:ownKnob C.prog.godebug=none) (started:os.Started) (noInit:C.prog.inits.idxOf? f=none) (hfn:C.prog.funcs[f]? = some fn)
  (wit:∃ (w:World) (tape:Tape) (i:Input),w.os=os∧(w.forCall tape i).Shaped C.prog∧i.vars=[]∧Input.okWide C.prog (w.forCall tape i) .any w.heap.size f i ∧
   ((s.pre enc C.prog fn conds apart (w.forCall tape i).memory i.args∧X (w.forCall tape i).memory i.args)∧sizedMet enc C.prog fn s apart (w.forCall tape i).memory i.args)∧a.holds C.prog (lone (Frame.enter C.prog f i.args .normal) [] (w.forCall tape i)))
  (con:∀ (W:World) (base:Nat) (args:Array Value) (ds gs:List (DataW H)) (before:List MemPlace),(∀ (j:Nat) t v,fn.params[j]? = some t→args[j]? = some v→Value.okWide C.prog W .any base t v)→DataW.Whole enc C.prog fn.params.toList s.vars apart W args.toList ds gs before →
   conds.all (PathCond.test C.prog ⟨fn.params.toList,ds,s.bare.plain.varTypes C.prog,gs⟩)=true→k H (ds++gs)=true→X W args→W.ShapedOpen C.prog →
   Calls C.prog f args W fun e W' => ∃ v,e = .returned v∧(s.at F).post enc C.prog fn apart fresh handsOn again W args v W') :
  ReturnsInHanded a C os f .any (fun w args => (s.pre enc C.prog fn conds apart w args∧X w args)∧sizedMet enc C.prog fn s apart w args) ((s.at F).post enc C.prog fn apart fresh handsOn again):=by
 refine returnsInHanded_of_calls own started noInit wit ?_
 rintro w tape i _ hsh _ ⟨_,_,_,fn',hfn',_,_,_,_,hval⟩ ⟨⟨hp,hx⟩,hz⟩ _
 obtain rfl:fn' = fn:=Option.some.inj (hfn'.symm.trans hfn)
 obtain ⟨ds,gs,before,hw,hc,hkk⟩:=(OpenSpec.pre_some hk conds apart _ _).1 hp
 refine (con (w.forCall tape i) w.heap.size i.args ds gs before hval (DataW.Whole.of_heap (w':=w.forCall tape i) (by rfl) hw) hc hkk (hX _ _ _ (by rfl) hx) hsh).mono ?_
 rintro _ W' ⟨v,rfl,hp⟩
 exact ChangeSpec.post_blind hp
theorem witness_upto {H:Type}{enc:TypeId×Value→H}{C:Checked}{os:Os}{f:FuncId}{fn:Func}{s:OpenSpec}{k:(H:Type)→List (DataW H)→Bool}(hk:s.cond=some k) {conds:List PathCond}{apart:Bool}{X:World→Array Value→Prop}(modest:Bool) (w0:World) (args:Array Value) (fuel:Nat) (hos:w0.os=os)
  (hsh:(w0.forCall (fun _ _ => 0) ⟨#[],args,[]⟩).Shaped C.prog)
  (hok:Input.okWideB C.prog (w0.forCall (fun _ _ => 0) ⟨#[],args,[]⟩) f ⟨#[],args,[]⟩=true)
  {x:List (DataW H)×List (DataW H)×List MemPlace}(hx:DataW.whole enc C.prog (w0.forCall (fun _ _ => 0) ⟨#[],args,[]⟩).memory fn.params.toList s.vars apart args.toList fuel=some x)
  (hconds:conds.all (PathCond.test C.prog ⟨fn.params.toList,x.1,s.bare.plain.varTypes C.prog,x.2.1⟩)=true) (hkk:k H (x.1++x.2.1)=true)
  (hsz:s.bare.sizedB enc C.prog fn apart (w0.forCall (fun _ _ => 0) ⟨#[],args,[]⟩).memory args fuel=true)
  (hX:X (w0.forCall (fun _ _ => 0) ⟨#[],args,[]⟩).memory args) :
  ∃ (w:World) (tape:Tape) (i:Input),w.os=os∧(w.forCall tape i).Shaped C.prog∧i.vars=[]∧Input.okWide C.prog (w.forCall tape i) .any w.heap.size f i ∧
   ((s.pre enc C.prog fn conds apart (w.forCall tape i).memory i.args∧X (w.forCall tape i).memory i.args)∧sizedMet enc C.prog fn s apart (w.forCall tape i).memory i.args)∧({ modest:=modest }:Assume).holds C.prog (lone (Frame.enter C.prog f i.args .normal) [] (w.forCall tape i)) :=
 ⟨w0,fun _ _ => 0,⟨#[],args,[]⟩,hos,hsh,(Input.okWide_of_okWideB (base:=0) hok).1,(Input.okWide_of_okWideB hok).2,⟨⟨(OpenSpec.pre_some hk conds apart _ _).2 ⟨x.1,x.2.1,x.2.2,DataW.Whole_of_whole hx,hconds,hkk⟩,hX⟩,sizedMet_of_sizedB hsz⟩,by
  simp only [Assume.holds]
  exact ⟨by simp,by simp,fun _ => Modest.zero,by simp,by simp⟩⟩
end Go.Proofs.YtdncjmehhahidaaGreatDoor
