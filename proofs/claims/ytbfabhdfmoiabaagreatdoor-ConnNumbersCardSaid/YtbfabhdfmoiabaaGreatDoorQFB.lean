/- The parts of the proof that this law needs, in the order of their texts: the logic of walks, the plain laws, the walks. -/
import Derived.Test.YtbfabhdfmoiabaaGreatDoorQFA
namespace Go.Proofs.YtbfabhdfmoiabaaGreatDoor
set_option maxHeartbeats 400000
open Go.RowKit (Below)
open Go.WideShapes Go.ChangeShapes
set_option linter.unusedVariables false
set_option linter.unusedSimpArgs false
set_option linter.unusedSectionVars false
theorem zfv {W:World}{a:Addr}{v:Value}(h:W.cell? a=some v):a.block < W.heap.size:=by
 unfold World.cell? at h
 split at h
 ·rename_i hb
  exact (Array.getElem?_eq_some_iff.1 hb).1
 ·simp at h
theorem addr_at {a:Addr}{W:World}{v:Value}(h:W.cell? (a.add 0)=some v):a=⟨a.block,a.off,none⟩:=by
 have:a.add 0=a:=by simp [Addr.add]
 rw [this] at h
 have hs:=World.cell?_spot h
 cases a
 simp_all
def Reads (P:Program) (W:World) (t:TypeId) {α:Type}(T:Ty α) (Q:α→Prop):Prop :=
 ∀ {H:Type}(enc:TypeId×Value→H) (spare:Nat→Bool) (held:Bool) (fuel:Nat) (cs:List Value) (x:DataW H×List MemPlace),DataW.trod enc P W 0 spare held fuel t cs=some x→(∀ n ∈ x.1.weights P t,n≤140737488351232)→∃ a,cs=(T.val a).cells.toList∧Q a
def I64 (n:Int):Prop:=-9223372036854775808≤n∧n≤9223372036854775807
def tyBool:Ty Bool:={ val:=fun b => .bool b,sz:=1,ok:=fun _ => rfl,plain:=fun x c hc => by simp [Value.cells] at hc; subst hc; rfl }
theorem Reads.int {P:Program}{W:World}{t:TypeId}(ht:P.underlying t=some (.int .i64)):Reads P W t tyI I64:=fun enc spare held fuel cs x h hw0 => by
 obtain ⟨n,rfl,_,hw⟩:=DataW.trod_int ht h
 refine ⟨n,Z,?_⟩
 simpa [Lit.wf,IntKind.min,IntKind.max,IntKind.signed,IntKind.bits,I64] using hw
theorem Reads.bool {P:Program}{W:World}{t:TypeId}(ht:P.underlying t=some .bool):Reads P W t tyBool (fun _ => True):=fun enc spare held fuel cs x h hw0 => by
 obtain ⟨b,rfl,_⟩:=DataW.trod_bool ht h
 exact ⟨b,rfl,trivial⟩
theorem Reads.u8 {P:Program}{W:World}{t:TypeId}(ht:P.underlying t=some (.int .u8)):Reads P W t tyB (fun _ => True):=fun enc spare held fuel cs x h hw0 => by
 obtain ⟨n,rfl,_,hw⟩:=DataW.trod_int ht h
 have hw:0≤n∧n≤255:=by simpa [Lit.wf,IntKind.min,IntKind.max,IntKind.signed,IntKind.bits] using hw
 refine ⟨UInt8.ofNat n.toNat,?_,trivial⟩
 have e:((UInt8.ofNat n.toNat).toNat:Int)=n:=by
  rw [UInt8.toNat_ofNat_of_lt' (by show n.toNat < 256; omega)]; omega
 show [Value.int .u8 n]=[Value.int .u8 _]
 rw [e]
theorem Reads.str {P:Program}{W:World}{t:TypeId}(ht:P.underlying t=some .string):Reads P W t tyS (fun l => l.length≤140737488351232):=fun enc spare held fuel cs x h hw0 => by
 obtain ⟨s,rfl,hx,hs⟩:=DataW.trod_string ht h
 subst hx
 exact ⟨s.data.toList,rfl,hw0 _ (by simp [DataW.weights])⟩
theorem zd3 {H:Type}{P:Program}{e:TypeId}:∀ {ds:List (DataW H)}{d:DataW H},d ∈ ds→∀ n ∈ d.weights P e,n ∈ DataW.weightsAll P e ds
 | d0::ds,d,hd,n,hn => by
  simp only [DataW.weightsAll,List.mem_append]
  rcases List.mem_cons.1 hd with rfl | hd
  ·exact .inl hn
  ·exact .inr (zd3 hd n hn)
theorem Reads.slice {P:Program}{W:World}{t e:TypeId}{α:Type}{T:Ty α}{Q:α→Prop}(ht:P.underlying t=some (.slice e)) (hc:P.cellsOf e=T.sz) (hz:0 < T.sz) (k:Nat) (hk:P.bytesOf e=k) (he:Reads P W e T Q) :
  Reads P W t (tyVs α) (fun v => Rd T W W.heap.size [] v.A v.C v.l∧v.l.length * k≤140737488351232∧∀ x ∈ v.l,Q x):=fun {H} enc spare held fuel cs x h hw0 => by
 rcases Deep.open_slice ht h with ⟨rfl,_⟩ | ⟨a,len,cap,m,n,D,Pl,rfl,hb,hl,hm,hmm,hxe,hx⟩
 ·exact ⟨⟨none,0,[]⟩,Z,zbQ,by simp,by simp⟩
 ·have hlm:len≤m:=by rw [hmm]; split <;> omega
  subst hxe
  have hw1:len * k≤140737488351232:=by
   have:=hw0 _ (by simp only [DataW.weights,ht,List.length_map,List.length_range]; exact List.mem_cons_self ..)
   rw [hk] at this
   exact Nat.le_trans (Nat.mul_le_mul_right _ (by omega)) this
  have hw2:∀ i,i < len→∀ n ∈ (D i).weights P e,n≤140737488351232:=fun i hi n hn => hw0 n (by
   simp only [DataW.weights,ht]
   exact List.mem_cons_of_mem _ (List.mem_append_left _ (zd3 (List.mem_map.2 ⟨i,List.mem_range.2 hi,Z⟩) n hn)))
  have hv:∀ i,∃ y:Option α,i < len→∃ z,y=some z∧Q z∧W.cells? 0 (a.add (i * T.sz)) T.sz=some (T.val z).cells.toList:=fun i => by
   by_cases hi:i < len
   ·obtain ⟨cs',h1,h2⟩:=hx i (by omega)
    obtain ⟨z,rfl,hq⟩:=he enc spare held n cs' _ h2 (hw2 i hi)
    exact ⟨some z,fun _ => ⟨z,Z,hq,by rw [← hc]; exact h1⟩⟩
   ·exact ⟨none,fun hi2 => absurd hi2 hi⟩
  obtain ⟨f,hf⟩:=Classical.axiomOfChoice hv
  have hlist:∃ l:List α,l.length=len∧∀ i,i < len→∃ z,l[i]? = some z∧Q z∧W.cells? 0 (a.add (i * T.sz)) T.sz=some (T.val z).cells.toList:=by
   have:∀ k,k≤len→∃ l:List α,l.length=k∧∀ i,i < k→∃ z,l[i]? = some z∧Q z∧W.cells? 0 (a.add (i * T.sz)) T.sz=some (T.val z).cells.toList:=by
    intro k
    induction k with
    | zero => exact fun _ => ⟨[],rfl,fun i hi => absurd hi (Nat.not_lt_zero _)⟩
    | succ k ih =>
     intro hk
     obtain ⟨l,hl1,hl2⟩:=ih (by omega)
     obtain ⟨z,_,hq,hz⟩:=hf k (by omega)
     refine ⟨l++[z],by simp [hl1],fun i hi => ?_⟩
     by_cases hik:i < k
     ·obtain ⟨z',h1,h2⟩:=hl2 i hik
      exact ⟨z',by rw [List.getElem?_append_left (by omega)]; exact h1,h2⟩
     ·have:i=k:=by omega
      subst this
      exact ⟨z,by rw [List.getElem?_append_right (by omega),hl1]; simp,hq,hz⟩
   exact this len (Nat.le_refl _)
  obtain ⟨l,hlen,hall⟩:=hlist
  subst hlen
  refine ⟨⟨some a,cap,l⟩,Z,⟨hl,by simp [maxLen] at hm; show cap≤_; omega,(fun hA => by cases hA),fun hne => ?_⟩,hw1,fun x hx => ?_⟩
  ·have h0:0 < l.length:=List.length_pos_iff.2 hne
   obtain ⟨z0,_,_,hz0⟩:=hall 0 h0
   have hs0:=(World.cells?_some hz0).2.2 0 hz
   rw [Nat.zero_mul] at hs0
   have hlt0:0 < (T.val z0).cells.toList.length:=by rw [Array.length_toList,T.ok]; exact hz
   rw [List.getElem?_eq_getElem hlt0] at hs0
   have haa:a.add 0=a:=by simp [Addr.add]
   rw [haa] at hs0
   have ha:=addr_at hs0
   refine ⟨a.block,a.off,by rw [← ha],fun w S j u hu => ?_⟩
   have hj:j < l.length * T.sz:=by have:=(List.getElem?_eq_some_iff.1 hu).1; rwa [zal] at this
   have hi:j / T.sz < l.length:=Nat.div_lt_of_lt_mul (by rw [Nat.mul_comm]; exact hj)
   obtain ⟨z,hz1,_,hz2⟩:=hall (j / T.sz) hi
   have hk:j % T.sz < T.sz:=Nat.mod_lt _ hz
   have h1:=(World.cells?_some hz2).2.2 (j % T.sz) hk
   have hlt:j % T.sz < (T.val z).cells.toList.length:=by rw [Array.length_toList,T.ok]; exact hk
   have e:j / T.sz * T.sz + j % T.sz=j:=by rw [Nat.mul_comm]; exact Nat.div_add_mod j T.sz
   have h2:=zf9 (T:=T) (j:=j % T.sz) hz1 (u:=(T.val z).cells.toList[j % T.sz]) (by rw [← Array.getElem?_toList]; exact List.getElem?_eq_getElem hlt)
   rw [e,hu] at h2
   rw [List.getElem?_eq_getElem hlt,← h2,Deep.add_add,e] at h1
   rw [ha,zbj] at h1
   have hB:=zfv h1
   rw [S.below.cell hB]
   exact h1
  ·obtain ⟨i,hi⟩:=List.mem_iff_getElem?.1 hx
   obtain ⟨z,h1,h2,_⟩:=hall i (List.getElem?_eq_some_iff.1 hi).1
   rw [hi] at h1
   cases h1
   exact h2
def ReadsF (P:Program) (W:World) (tot off:Nat) (fs:List (TypeId×Nat)) {β:Type}(cells:β→List Value) (Q:β→Prop):Prop :=
 ∀ {H:Type}(enc:TypeId×Value→H) (spare:Nat→Bool) (held:Bool) (n:Nat) (cs:List Value) (xs:List (DataW H×List MemPlace)),cs.length=tot→xs.length=fs.length →
  (∀ (i:Nat) (f:TypeId×Nat),fs[i]? = some f→DataW.trod enc P W 0 spare held n f.1 ((cs.drop f.2).take (P.cellsOf f.1))=xs[i]?)→(∀ m ∈ DataW.weightsEach P (fs.map (·.1)) (xs.map (·.1)),m≤140737488351232)→∃ b,cs.drop off=cells b∧Q b
theorem ReadsF.nil {P:Program}{W:World}(tot:Nat):ReadsF P W tot tot [] (fun (_:Unit) => []) (fun _ => True):=fun enc spare held n cs xs hl _ _ _ => ⟨(),by rw [List.drop_eq_nil_of_le (by omega)],trivial⟩
theorem ReadsF.cons {P:Program}{W:World}{tot:Nat}(off k t:Nat) {fs:List (TypeId×Nat)}{α β:Type}{T:Ty α}{cells:β→List Value}{Q1:α→Prop}{Q:β→Prop}(hk:P.cellsOf t=k) (h1:Reads P W t T Q1) (h2:ReadsF P W tot (off + k) fs cells Q) :
  ReadsF P W tot off ((t,off)::fs) (fun (b:α×β) => (T.val b.1).cells.toList++cells b.2) (fun b => Q1 b.1∧Q b.2):=fun enc spare held n cs xs hl hxl hf hw => by
 cases xs with
 | nil => simp at hxl
 | cons x xs =>
  have h0:=hf 0 (t,off) rfl
  rw [hk] at h0
  obtain ⟨a,ha,qa⟩:=h1 enc spare held n _ x h0 (fun m hm => hw m (by simp only [List.map_cons,DataW.weightsEach,List.mem_append]; exact .inl hm))
  obtain ⟨b,hb,qb⟩:=h2 enc spare held n cs xs hl (by simpa using hxl) (fun i g hg => hf (i + 1) g (by simpa using hg)) (fun m hm => hw m (by simp only [List.map_cons,DataW.weightsEach,List.mem_append]; exact .inr hm))
  refine ⟨(a,b),?_,qa,qb⟩
  show cs.drop off=(T.val a).cells.toList++cells b
  rw [← ha,← hb,← List.drop_drop,List.take_append_drop]
theorem Reads.struct {P:Program}{W:World}{t tot:Nat}{fs:Array Field}{fl:List (TypeId×Nat)}{β γ:Type}{cells:β→List Value}{Q:β→Prop}{T:Ty γ}{Q' : γ→Prop}(h:ReadsF P W tot 0 fl cells Q) (g:β→γ) (ht:P.underlying t=some (.struct fs)) (hfl:fs.toList.map (fun f => (f.type,f.offset))=fl) (hc:P.cellsOf t=tot)
  (hg:∀ b,cells b=(T.val (g b)).cells.toList) (hQ:∀ b,Q b→Q' (g b)):Reads P W t T Q':=fun enc spare held fuel cs x hx hw => by
 obtain ⟨xs,n,_,rfl,hl,hxl,hf⟩:=DataW.trod_struct ht hx
 subst hfl
 obtain ⟨b,hb,qb⟩:=h enc spare held n cs xs (hl.trans hc) (by simpa using hxl) (fun i f hi => by
  rw [List.getElem?_map] at hi
  cases hfi:fs.toList[i]? with
  | none => rw [hfi] at hi; cases hi
  | some f0 =>
   rw [hfi] at hi
   cases hi
   exact hf i f0 (by simpa using hfi)) (fun m hm => hw m (by
  simp only [DataW.weights,ht]
  rw [List.map_map] at hm
  exact hm))
 refine ⟨g b,?_,hQ b qb⟩
 rw [List.drop_zero] at hb
 rw [hb,hg]
theorem arg_slice {P:Program}{W:World}{t e:TypeId}{α:Type}{T:Ty α}{Q:α→Prop}(ht:P.underlying t=some (.slice e)) (hc:P.cellsOf e=T.sz) (hz:0 < T.sz) (k:Nat) (hk:P.bytesOf e=k) (he:Reads P W e T Q) {r:Reach}{b0:Nat}{H:Type}{enc:TypeId×Value→H}{spare:Nat→Bool}{held:Bool}{v:Value}{d:DataW H}{ps:List MemPlace}(hval:Value.okWide P W r b0 t v) (h:DataW.Trod enc P W 0 spare held t v d ps) (hw:∀ n ∈ d.weights P t,n≤140737488351232) :
  ∃ (A:Option Addr) (C:Nat) (l:List α),v = .slice A l.length C∧Rd T W W.heap.size [] A C l∧l.length * k≤140737488351232∧∀ x ∈ l,Q x:=by
 obtain ⟨fuel,hf⟩:=h
 obtain ⟨⟨A,C,l⟩,h1,h2⟩:=Reads.slice ht hc hz k hk he enc spare held fuel _ _ hf hw
 obtain ⟨a,n,c,rfl⟩:=okWide_slice ht hval
 simp [Value.cells,tyVs] at h1
 exact ⟨A,C,l,by simp [h1],h2⟩
theorem zk1 {P:Program}{W:World}{t:TypeId}(ht:P.underlying t=some (.int .i64)) {r:Reach}{b0:Nat}{H:Type}{enc:TypeId×Value→H}{spare:Nat→Bool}{held:Bool}{v:Value}{d:DataW H}{ps:List MemPlace}(hval:Value.okWide P W r b0 t v) (h:DataW.Trod enc P W 0 spare held t v d ps) (hw:∀ n ∈ d.weights P t,n≤140737488351232):∃ n,v = .int .i64 n∧I64 n:=by
 obtain ⟨n,rfl⟩:=okWide_int ht hval
 obtain ⟨fuel,hf⟩:=h
 obtain ⟨m,h1,h2⟩:=Reads.int ht enc spare held fuel _ _ hf hw
 simp [Value.cells,tyI] at h1
 exact ⟨n,rfl,h1 ▸ h2⟩
theorem law_of {P:Program}{f:FuncId}{args:List Value}{W:World}(h:SCalls P f args W W.heap.size [] (fun v H' => v = .bool true∧H' = [])):Calls P f args.toArray W fun e W' => e = .returned (.bool true)∧Below W.heap.size W W' :=
 (h W (Sep.start W)).mono fun _ _ ⟨v,H',he,⟨hv,_⟩,S⟩ => ⟨by rw [he,hv],S.below⟩
theorem Sep.flat {w0:World}{base:Nat}{w:World}{H H' : List Seg}(S:Sep w0 base w H) (h:H.flatten.Perm H'.flatten):Sep w0 base w H' :=
 ⟨S.below,S.le,fun p hp => S.mem p (h.mem_iff.2 hp),(h.map _).nodup_iff.1 S.nodup⟩
section flats
variable {X:Pt}{k:List Item}{E:Env}{ds:List Deferred}{H H' : List Seg}{ops:Array Oper}{os:List Oper}
theorem At.flat (hp:H.flatten.Perm H'.flatten) (h:At X k E ds H'):At X k E ds H:=fun a w ha S => h a w ha (S.flat hp)
theorem AtL.flat (hp:H.flatten.Perm H'.flatten) (h:AtL X ops os k E ds H'):AtL X ops os k E ds H:=fun is hi a w ha S => h is hi a w ha (S.flat hp)
theorem zhq (h:H=H') (hk:At X k E ds H'):At X k E ds H:=by subst h; exact hk
theorem zlh (h:H=H') (hk:AtL X ops os k E ds H'):AtL X ops os k E ds H:=by subst h; exact hk
theorem SCalls.flat {P:Program}{f:FuncId}{args:List Value}{w0:World}{base:Nat}{R:Value→List Seg→Prop}(hp:H.flatten.Perm H'.flatten) (h:SCalls P f args w0 base H' R):SCalls P f args w0 base H R:=fun w S => h w (S.flat hp)
theorem SCalls.flatR {P:Program}{f:FuncId}{args:List Value}{w0:World}{base:Nat}{R R' : Value→List Seg→Prop}(h:SCalls P f args w0 base H R) (hr:∀ v H1,R v H1→∃ H2,H1.flatten.Perm H2.flatten∧R' v H2):SCalls P f args w0 base H R' :=
 fun w S cs => let ⟨e,w',fr,⟨v,H1,hv,hR,S'⟩,r⟩:=h w S cs; let ⟨H2,hp,hR'⟩:=hr v H1 hR; ⟨e,w',fr,⟨v,H2,hv,hR',S'.flat hp⟩,r⟩
end flats
theorem Does.pick {X:Pt}{E:Env}{H H' : List Seg}{op:Op}{R:Value→List Seg→Prop}(is:List Nat) (m:Nat) (hok:zdb is m=true) (hH:zbg H is m=H') (h:Does X E H' op R):Does X E H op R:=by
 intro dst ty pos after g ops i is' k ds a w ho hw ha S
 exact h dst ty pos after g ops i is' k ds a w ho hw ha (hH ▸ S.pick is m hok)
section views
variable {α:Type}{T:Ty α}{w0:World}{base:Nat}{H H' : List Seg}{A:Option Addr}{C:Nat}{l:List α}{e:TypeId}{s:Seg}
theorem Rd.flat (hp:H.flatten.Perm H'.flatten) (h:Rd T w0 base H' A C l):Rd T w0 base H A C l :=
 ⟨h.le,h.cap,h.nil,fun hl => let ⟨b,off,hA,hc⟩:=h.cells hl; ⟨b,off,hA,fun w S => hc w (S.flat hp)⟩⟩
theorem Rd.pick (is:List Nat) (m:Nat) (hok:zdb is m=true) (hH:zbg H is m=H') (h:Rd T w0 base H' A C l):Rd T w0 base H A C l :=
 ⟨h.le,h.cap,h.nil,fun hl => let ⟨b,off,hA,hc⟩:=h.cells hl; ⟨b,off,hA,fun w S => hc w (hH ▸ S.pick is m hok)⟩⟩
end views
theorem Does.quiet {X:Pt}{E:Env}{H H' : List Seg}{op:Op}{v:Value}(is:List Nat) (m:Nat) (hok:zdb is m=true) (hH:zbg H is m=H') (is2:List Nat) (hok2:zdb is2 m=true) (hH2:zbg H' is2 m=H) (h:Does X E H' op (Is v H')):Does X E H op (Is v H):=by
 intro dst ty pos after g ops i is' k ds a w ho hw ha S
 obtain ⟨v',H1,w',⟨h1,h2⟩,S',hs⟩:=h dst ty pos after g ops i is' k ds a w ho hw ha (hH ▸ S.pick is m hok)
 subst h2
 exact ⟨v',H,w',⟨h1,rfl⟩,hH2 ▸ S'.pick is2 m hok2,hs⟩
def zas {α:Type}{T:Ty α}{e:TypeId}(ys:List (Sl T e)):Seg:=(ys.map (·.s)).flatten
def Sl.v {α:Type}{T:Ty α}{e:TypeId}(y:Sl T e):Vs α:=⟨y.A,y.C,y.l⟩
section bundles
variable {α:Type}{T:Ty α}{w0:World}{base:Nat}{H:List Seg}{e:TypeId}
theorem segs_nil:zas ([]:List (Sl T e))=[]:=rfl
theorem zfi (y:Sl T e) (ys:List (Sl T e)):zas (y::ys)=y.s++zas ys:=by simp [zas]
theorem segs_app (xs ys:List (Sl T e)):zas (xs++ys)=zas xs++zas ys:=by simp [zas]
theorem flat_snoc (y:Sl T e) (ys:List (Sl T e)) (H:List Seg):(y.s::zas ys::H).flatten.Perm (zas (ys++[y])::H).flatten:=by
 simp only [List.flatten_cons,segs_app,zfi,segs_nil,List.append_nil,← List.append_assoc]
 exact List.Perm.append_right _ List.perm_append_comm
theorem flat_merge (s t:Seg) (H:List Seg):(s::t::H).flatten.Perm ((s++t)::H).flatten:=by simp
theorem flat_out {ys:List (Sl T e)}{i:Nat}{y:Sl T e}(h:ys[i]? = some y) (H:List Seg):(zas ys::H).flatten.Perm (y.s::zas (ys.eraseIdx i)::H).flatten:=by
 simp only [List.flatten_cons,← List.append_assoc]
 refine List.Perm.append_right _ ?_
 induction ys generalizing i with
 | nil => simp at h
 | cons z ys ih =>
  cases i with
  | zero =>
   simp only [List.getElem?_cons_zero,Option.some.injEq] at h
   subst h
   simp [zfi]
  | succ i =>
   rw [List.getElem?_cons_succ] at h
   rw [List.eraseIdx_cons_succ,zfi,zfi]
   refine ((ih h).append_left z.s).trans ?_
   rw [← List.append_assoc,← List.append_assoc]
   exact List.Perm.append_right _ List.perm_append_comm
theorem Sl.rd (y:Sl T e) {i:Nat}(hi:H[i]? = some y.s):Rd T w0 base H y.A y.C y.l:=y.own.rd hi
theorem Sl.rdIn {ys:List (Sl T e)}{y:Sl T e}(hy:y ∈ ys) {i:Nat}(hi:H[i]? = some (zas ys)):Rd T w0 base H y.A y.C y.l:=by
 obtain ⟨j,hj⟩:=List.mem_iff_getElem?.1 hy
 have hp:H.flatten.Perm (zas ys::H.eraseIdx i).flatten:=by
  clear hj hy
  induction H generalizing i with
  | nil => simp at hi
  | cons t H ih =>
   cases i with
   | zero => simp at hi; subst hi; simp
   | succ i =>
    rw [List.getElem?_cons_succ] at hi
    rw [List.eraseIdx_cons_succ]
    simp only [List.flatten_cons] at ih ⊢
    refine ((ih hi).append_left t).trans ?_
    rw [← List.append_assoc,← List.append_assoc]
    exact List.Perm.append_right _ List.perm_append_comm
 exact Rd.flat (hp.trans (flat_out hj _)) (y.own.rd (i:=0) Z)
theorem Sl.rdV {ys:List (Sl T e)}{l:List (Vs α)}(hl:l=ys.map Sl.v) {i:Nat}(hi:H[i]? = some (zas ys)):∀ x ∈ l,Rd T w0 base H x.A x.C x.l:=fun x hx => by
 subst hl
 obtain ⟨y,hy,rfl⟩:=List.mem_map.1 hx
 exact Sl.rdIn hy hi
end bundles
theorem zbh {α:Type}{l:List α}{i:Nat}{d:α}(h:i < l.length):l.getD i d ∈ l:=by
 have:l.getD i d=l[i]:=by simp [List.getD,h]
 rw [this]; exact List.getElem_mem h
section windows
variable {α:Type}{T:Ty α}{e:TypeId}{A:Option Addr}{C:Nat}{l:List α}{s:Seg}
theorem Own.grow (h:Own T e A C l s) {j:Nat}(hj:l.length≤j) (hm:j≤C):∃ r',r'.length=j - l.length∧Own T e (if C=0 then A else A.map (·.add (0 * T.sz))) C (l++r') s:=by
 obtain ⟨r,rfl,hR⟩:=h
 have h1:=hR.cut (i:=0) (j:=j) (m:=l.length + r.length) (Nat.zero_le _) hm (Nat.le_refl _)
 have e1:subl (l++r) 0 j=l++r.take (j - l.length):=by
  rw [zcp,List.take_append,List.take_of_length_le hj]
 refine ⟨r.take (j - l.length),by simp; omega,subl (l++r) j (l.length + r.length),?_,?_⟩
 ·rw [zP (by simp)]; simp; omega
 ·rw [← e1]; exact h1
theorem zkj (h:Own T e A C l s) (hA:A.isNone=true):l=[]:=by
 obtain ⟨r,rfl,h⟩:=h
 rcases h with ⟨_,h,_⟩ | ⟨g,_,_,_,h,_⟩
 ·exact h
 ·rw [h] at hA; cases hA
theorem zkp {X:Pt}{E:Env}{H:List Seg}{t t2:TypeId}{x y:Operand}{A' A2:Option Addr}{C' C2 n' m j:Nat}{news:List α}(i:Nat) (hu:X.P.underlying t=some (.slice e)) (hs:za5 X.P e T.sz=true) (hi:H[i]? = some s) (ho:Own T e A C l s)
  (hA:A' = (if m=j then A else A.map (·.add (j * T.sz)))) (hn:n'≤m - j) (hjn:j + n'≤l.length) (hr:Rd T X.w0 X.base H A2 C2 news) (hx:ev E x=some (.slice A' n' C')) (hy:ev E y=some (.slice A2 news.length C2)) :
  Does X E H (.call ⟨.builtin .copy,#[x,y],#[t,t2]⟩) (fun v H' => ∃ s',Own T e A C (l.take j++news.take n'++l.drop (j + min news.length n')) s'∧v=int ((min news.length n' : Nat):Int)∧H' = H.set i s') :=
 zax Z (fun dst ty pos after g ρ w hρ S => by
  have hf:=hr.first (P:=X.P) S (min news.length n') (Nat.min_le_left _ _)
  have hmin:Nat.min news.length n' = min news.length n':=rfl
  have hlen:(news.take (min news.length n')).length=min news.length n':=by rw [List.length_take]; omega
  have etake:news.take (min news.length n')=news.take n':=by
   rcases Nat.le_total news.length n' with h | h
   ·rw [Nat.min_eq_left h,List.take_of_length_le (Nat.le_refl _),List.take_of_length_le h]
   ·rw [Nat.min_eq_right h]
  by_cases h0:min news.length n' = 0
  ·have hset:H.set i s=H:=by
    apply List.ext_getElem?
    intro k
    rw [List.getElem?_set]
    split
    ·rename_i hk; subst hk; rw [hi]; simp [(List.getElem?_eq_some_iff.1 hi).1]
    ·rfl
   have e0:news.take n' = []:=by rw [← etake,h0]; rfl
   refine ⟨_,w,H,?_,S,s,?_,Z,hset.symm⟩
   ·rw [h0] at hf
    have ec:T.cells []=[]:=rfl
    simp [ec] at hf
    cases A' <;> simp [execOp,resolve,invoke,builtin,hρ _ _ hx,hρ _ _ hy,Builtin.copy_,run_underlying hu,zbU hs,Builtin.lenOf,hmin,h0,hf,goInt,zhr,int,ec]
   ·rw [e0,h0,List.append_nil,Nat.add_zero,List.take_append_drop]; exact ho
  ·cases A with
   | none =>
    obtain ⟨r,_,h⟩:=ho
    rcases h with ⟨_,h1,_,h2⟩ | ⟨_,_,_,_,h,_⟩
    ·subst h1; simp at hjn; omega
    ·cases h
   | some a =>
    have hA2:A' = some (a.add (j * T.sz)):=by rw [hA,if_neg (by omega)]; rfl
    subst hA2
    obtain ⟨r,rfl,hor⟩:=ho
    obtain ⟨s',w',hst,ho',S'⟩:=hor.over (P:=X.P) S hi rfl j (news.take (min news.length n')) (by rw [hlen]; omega)
    rw [hlen,etake] at ho'
    refine ⟨_,w',_,?_,S',s',⟨r,?_,ho'⟩,Z,Z⟩
    ·simp [execOp,resolve,invoke,builtin,hρ _ _ hx,hρ _ _ hy,Builtin.copy_,run_underlying hu,zbU hs,Builtin.lenOf,hmin,hf,hst,goInt]
    ·simp only [List.length_append,List.length_take,List.length_drop]; omega)
end windows
section loops
variable {X:Pt}{k:List Item}{E:Env}{ds:List Deferred}{H:List Seg}
end loops
def zbE:Ty (List UInt8×List UInt8):={ val:=fun x => .agg #[str x.1,str x.2],sz:=2,ok:=fun _ => rfl,plain:=fun x c hc => by simp [str,Value.cells] at hc; rcases hc with rfl | rfl <;> rfl }
section
variable {X:Pt}{k:List Item}{E:Env}{ds:List Deferred}{H:List Seg}{ops:Array Oper}{os:List Oper}
  {d:Nat}{ty:TypeId}{pos:String}{after:Array Edge}{g:Option (Nat×Bool)}{α:Type}{T:Ty α}
theorem zdv {e:TypeId}{z:Value}{l:List α}(T:Ty α) (hz:zbO X.P e=some z) (hcs:z.cells=(T.cells l).toArray) (hle:l.length≤9223372036854775807) (hg:Wd X ops E g) (hd:Nat.blt d X.n=true)
  (hk:∀ b s,Own T e (some ⟨b,0,none⟩) l.length l s→AtL X ops os k ((d,B b)::E) ds (s::H)) :
  AtL X ops (⟨some d,.alloc e,ty,pos,after,g⟩::os) k E ds H:=by
 refine AtL.alloc hz hcs hg hd fun b => ?_
 exact zaD T (l:=l) Z Z hle fun s o => hk b s o
theorem zld {t e n sz:Nat}{x ix:Operand}{a:Addr}{kk:IntKind}{i:Int}(j:Nat) (hu:X.P.underlying t=some (.array n e)) (hs:za5 X.P e sz=true) (hx:ev E x=some (.pointer (some a))) (hi:ev E ix=some (.int kk i)) (hij:i=(j:Int)) (hj:j < n) :
  Does X E H (.indexAddr t x ix) (Is (.pointer (some (za3 (some a) (j * sz)))) H) :=
 zan rfl (fun dst ty pos after g ρ w hρ => by
  subst hij
  simp [execOp,hρ _ _ hx,hρ _ _ hi,Instr.indexAt,Instr.sureAddr,asIntOf,run_underlying hu,hj,zbU hs,za3])
theorem zat {t e n sz:Nat}{x ix:Operand}{a:Addr}{kk:IntKind}{i:Int}(j:Nat) (hu:X.P.underlying t=some (.array n e)) (hs:za5 X.P e sz=true) (hg:Wd X ops E g) (hd:Nat.blt d X.n=true) (hx:ev E x=some (.pointer (some a))) (hi:ev E ix=some (.int kk i))
  (hij:i=(j:Int)) (hj:j < n) (hk:AtL X ops os k ((d,.pointer (some (za3 (some a) (j * sz))))::E) ds H) :
  AtL X ops (⟨some d,.indexAddr t x ix,ty,pos,after,g⟩::os) k E ds H :=
 zL (zld j hu hs hx hi hij hj) hg hd hk
theorem Rd.arr {w0:World}{base:Nat}{b C:Nat}{l:List α}(h:Rd T w0 base H (some ⟨b,0,none⟩) C l):∀ j v,(T.cells l)[j]? = some v→Cell w0 base H ((⟨b,0,none⟩:Addr).add j) v:=by
 intro j v hj w S
 obtain ⟨b',off,h1,hc⟩:=h.cells (by rintro rfl; simp [Ty.cells] at hj)
 cases h1
 rw [zbj]
 exact hc w S j v hj
theorem zhl {t n:Nat}{x:Operand}{b C:Nat}{l:List α}(hr:Rd T X.w0 X.base H (some ⟨b,0,none⟩) C l) (hf:aggN X.P t=some n) (hn:(T.cells l).length=n) (hg:Wd X ops E g) (hd:Nat.blt d X.n=true) (hx:ev E x=some (.pointer (some ⟨b,0,none⟩)))
  (hk:AtL X ops os k ((d,.agg (T.cells l).toArray)::E) ds H):AtL X ops (⟨some d,.load t x,ty,pos,after,g⟩::os) k E ds H :=
 zay hf hg hd hx hn hr.arr hk
theorem LoadsTo.arr {P:Program}{w0:World}{base:Nat}{t n:Nat}{b C:Nat}{l:List α}(hr:Rd T w0 base H (some ⟨b,0,none⟩) C l) (hf:aggN P t=some n) (hn:(T.cells l).length=n):LoadsTo P w0 base H t ⟨b,0,none⟩ (.agg (T.cells l).toArray) :=
 LoadsTo.agg hf hn hr.arr
theorem zk6 {t n:TypeId}{e:TypeId}{x y:Operand}{b C:Nat}{l l' : List α}{s:Seg}{v:Value}(i:Nat) (hsz:za5 X.P t n=true) (hi:H[i]? = some s) (ho:Own T e (some ⟨b,0,none⟩) C l s) (hl:l'.length=l.length) (hv:v.cells=(T.cells l').toArray) (hn:(T.cells l').length=n)
  (hx:ev E x=some (B b)) (hy:ev E y=some v):Does X E H (.store t x y) (fun v' H' => ∃ s',Own T e (some ⟨b,0,none⟩) C l' s'∧v' = undef∧H' = H.set i s') :=
 zeM Z (fun dst ty pos after g ρ w hρ S => by
  obtain ⟨r,rfl,hor⟩:=ho
  obtain ⟨s',w',hst,ho',S'⟩:=hor.over (P:=X.P) S hi rfl 0 l' (by omega)
  have hset:l.take 0++l'++l.drop (0 + l'.length)=l':=by
   rw [Nat.zero_add,hl,List.drop_of_length_le (Nat.le_refl _)]; simp
  rw [hset] at ho'
  refine ⟨w',_,?_,S',s',⟨r,by rw [hl],ho'⟩,Z,Z⟩
  have hst2:(storeCells (⟨b,0,none⟩:Addr) (T.cells l')).run X.P w = .ok () w':=by
   have h0:((⟨b,0,none⟩:Addr).add (0 * T.sz))=⟨b,0,none⟩:=by simp [zbj]
   rw [h0] at hst
   exact hst
  have hvs:v.cells.size=n:=by rw [hv]; simpa using hn
  simp [execOp,hρ _ _ hx,hρ _ _ hy,Instr.storeAt,Instr.sureAddr,storeVar,zbU hsz,hv,hn,hst2])
theorem zdu {t n:TypeId}{e:TypeId}{x y:Operand}{b C:Nat}{l l' : List α}{s:Seg}{v:Value}(i:Nat) (hsz:za5 X.P t n=true) (hi:H[i]? = some s) (ho:Own T e (some ⟨b,0,none⟩) C l s) (hl:l'.length=l.length) (hv:v.cells=(T.cells l').toArray) (hn:(T.cells l').length=n) (hg:Wd X ops E g)
  (hx:ev E x=some (.pointer (some ⟨b,0,none⟩))) (hy:ev E y=some v)
  (hk:∀ s',Own T e (some ⟨b,0,none⟩) C l' s'→AtL X ops os k E ds (H.set i s')) :
  AtL X ops (⟨none,.store t x y,ty,pos,after,g⟩::os) k E ds H :=
 zbm (zk6 i hsz hi ho hl hv hn hx hy) hg rfl fun _ _ ⟨s',h',hv,hH⟩ => by subst hv; subst hH; exact hk s' h'
end
set_option maxRecDepth 100000
theorem zo:zde Tryz.prog 3=true:=by kernel_rfl
theorem zaB:za5 Tryz.prog 3 1=true:=by kernel_rfl
theorem zeA:zbO Tryz.prog 3=some (.int .i64 0):=by kernel_rfl
theorem zR:zde Tryz.prog 4=true:=by kernel_rfl
theorem za0:za5 Tryz.prog 4 1=true:=by kernel_rfl
theorem tf_zero4:zbO Tryz.prog 4=some (.bool false):=by kernel_rfl
theorem zS:zde Tryz.prog 5=true:=by kernel_rfl
theorem zQ:za5 Tryz.prog 5 1=true:=by kernel_rfl
theorem zbf:zbO Tryz.prog 5=some (.int .u8 0):=by kernel_rfl
theorem zaK:zde Tryz.prog 9=true:=by kernel_rfl
theorem zbY:za5 Tryz.prog 9 1=true:=by kernel_rfl
theorem tf_zero9:zbO Tryz.prog 9=some (str []):=by kernel_rfl
theorem zgA:zde Tryz.prog 22=true:=by kernel_rfl
theorem tf_sz22:za5 Tryz.prog 22 1=true:=by kernel_rfl
theorem tf_zero22:zbO Tryz.prog 22=some (.slice none 0 0):=by kernel_rfl
theorem tf_el22:ElemOk Tryz.prog 22 34 tyL (⟨none,0,[]⟩:Bs) 24:=ElemOk.of Tryz.underlying22 (by kernel_rfl) (by kernel_rfl) rfl
theorem zji:zde Tryz.prog 23=true:=by kernel_rfl
theorem tf_sz23:za5 Tryz.prog 23 1=true:=by kernel_rfl
theorem zkA:ElemOk Tryz.prog 23 3 tyI (0:Int) 8:=ElemOk.of Tryz.underlying23 (by kernel_rfl) (by kernel_rfl) rfl
theorem zcn:zde Tryz.prog 24=true:=by kernel_rfl
theorem zim:za5 Tryz.prog 24 1=true:=by kernel_rfl
theorem zdB:zde Tryz.prog 26=true:=by kernel_rfl
theorem zil:za5 Tryz.prog 26 1=true:=by kernel_rfl
theorem tf_zero26:zbO Tryz.prog 26=some (.int .i64 0):=by kernel_rfl
theorem zcN:zde Tryz.prog 32=true:=by kernel_rfl
theorem zik:za5 Tryz.prog 32 1=true:=by kernel_rfl
theorem zE:zde Tryz.prog 34=true:=by kernel_rfl
theorem zaA:za5 Tryz.prog 34 1=true:=by kernel_rfl
theorem zbn:zbO Tryz.prog 34=some (.slice none 0 0):=by kernel_rfl
theorem zbq:ElemOk Tryz.prog 34 5 tyB (0:UInt8) 1:=ElemOk.of Tryz.underlying34 (by kernel_rfl) (by kernel_rfl) rfl
theorem zgz:zde Tryz.prog 40=true:=by kernel_rfl
theorem tf_sz40:za5 Tryz.prog 40 1=true:=by kernel_rfl
theorem tf_el40:ElemOk Tryz.prog 40 173 zbE (([],[]):List UInt8×List UInt8) 32:=ElemOk.of Tryz.underlying40 (by kernel_rfl) (by kernel_rfl) rfl
theorem zcm:za5 Tryz.prog 42 4=true:=by kernel_rfl
theorem zaU:aggN Tryz.prog 42=some 4:=by kernel_rfl
theorem ze5:zbO Tryz.prog 42=some (.agg #[str [],str [],.int .i64 0,.slice none 0 0]):=by kernel_rfl
theorem zb5:zdR Tryz.prog 42=some ([(0,1),(1,1),(2,1),(3,1)],[str [],str [],.int .i64 0,.slice none 0 0]):=by kernel_rfl
theorem tf_fo42_0:zK Tryz.prog 42 0=some 0:=by kernel_rfl
theorem zjh:zK Tryz.prog 42 2=some 2:=by kernel_rfl
theorem zfc:zK Tryz.prog 42 3=some 3:=by kernel_rfl
theorem zfO:za5 Tryz.prog 44 7=true:=by kernel_rfl
theorem zi6:zbO Tryz.prog 44=some (.agg #[.int .i64 0,.int .i64 0,str [],str [],.int .i64 0,.slice none 0 0,.slice none 0 0]):=by kernel_rfl
theorem tf_lay44:zdR Tryz.prog 44=some ([(0,1),(1,1),(2,4),(6,1)],[.int .i64 0,.int .i64 0,str [],str [],.int .i64 0,.slice none 0 0,.slice none 0 0]):=by kernel_rfl
theorem tf_fo44_0:zK Tryz.prog 44 0=some 0:=by kernel_rfl
theorem tf_fo44_1:zK Tryz.prog 44 1=some 1:=by kernel_rfl
theorem zjg:zK Tryz.prog 44 3=some 6:=by kernel_rfl
theorem zky:za5 Tryz.prog 59 9=true:=by kernel_rfl
theorem tf_agg59:aggN Tryz.prog 59=some 9:=by kernel_rfl
theorem tf_zero59:zbO Tryz.prog 59=some (.agg #[.int .i64 0,.int .i64 0,.int .i64 0,.bool false,.int .i64 0,.int .i64 0,.int .i64 0,.int .i64 0,.slice none 0 0]):=by kernel_rfl
theorem tf_fo59_0:zK Tryz.prog 59 0=some 0:=by kernel_rfl
theorem tf_fo59_1:zK Tryz.prog 59 1=some 1:=by kernel_rfl
theorem tf_fo59_2:zK Tryz.prog 59 2=some 2:=by kernel_rfl
theorem tf_fo59_3:zK Tryz.prog 59 3=some 3:=by kernel_rfl
theorem zao:zK Tryz.prog 59 4=some 4:=by kernel_rfl
theorem zjf:zK Tryz.prog 59 5=some 5:=by kernel_rfl
theorem zfb:zK Tryz.prog 59 6=some 6:=by kernel_rfl
theorem zc7:zK Tryz.prog 59 7=some 7:=by kernel_rfl
theorem zd5:zK Tryz.prog 59 8=some 8:=by kernel_rfl
theorem zaL:zde Tryz.prog 62=true:=by kernel_rfl
theorem tf_lay64:zdR Tryz.prog 64=some ([(0,1),(1,1),(2,1),(3,1),(4,1)],[.int .i64 0,.int .i64 0,.int .i64 0,.int .i64 0,.map none]):=by kernel_rfl
theorem zfa:zK Tryz.prog 64 0=some 0:=by kernel_rfl
theorem zje:zK Tryz.prog 64 1=some 1:=by kernel_rfl
theorem zjd:zK Tryz.prog 64 2=some 2:=by kernel_rfl
theorem zbT:zK Tryz.prog 64 3=some 3:=by kernel_rfl
theorem zaO:zK Tryz.prog 64 4=some 4:=by kernel_rfl
theorem zdP:za5 Tryz.prog 67 6=true:=by kernel_rfl
theorem zdk:aggN Tryz.prog 67=some 6:=by kernel_rfl
theorem zc5:zbO Tryz.prog 67=some (.agg #[.int .i64 0,.bool false,.int .i64 0,.int .i64 0,.int .i64 0,.bool false]):=by kernel_rfl
theorem zdj:zdR Tryz.prog 67=some ([(0,1),(1,1),(2,1),(3,1),(4,1),(5,1)],[.int .i64 0,.bool false,.int .i64 0,.int .i64 0,.int .i64 0,.bool false]):=by kernel_rfl
theorem ze9:zK Tryz.prog 67 0=some 0:=by kernel_rfl
theorem ze8:zK Tryz.prog 67 3=some 3:=by kernel_rfl
theorem zcM:zK Tryz.prog 67 4=some 4:=by kernel_rfl
theorem zcK:zbO Tryz.prog 77=some (.nilIface):=by kernel_rfl
theorem zeG:aggN Tryz.prog 80=some 8:=by kernel_rfl
theorem tf_lay80:zdR Tryz.prog 80=some ([(0,1),(1,1),(2,1),(3,1),(4,1),(5,1),(6,1),(7,1)],[.nilIface,.bool false,.int .i64 0,.int .i64 0,.int .i64 0,.slice none 0 0,.bool false,.bool false]):=by kernel_rfl
theorem zbI:zK Tryz.prog 80 0=some 0:=by kernel_rfl
theorem zb1:zK Tryz.prog 80 1=some 1:=by kernel_rfl
theorem zcL:zK Tryz.prog 80 2=some 2:=by kernel_rfl
theorem zb0:zK Tryz.prog 80 3=some 3:=by kernel_rfl
theorem zd4:zK Tryz.prog 80 4=some 4:=by kernel_rfl
theorem zaq:zK Tryz.prog 80 5=some 5:=by kernel_rfl
theorem zaS:zK Tryz.prog 80 6=some 6:=by kernel_rfl
theorem zaw:zK Tryz.prog 80 7=some 7:=by kernel_rfl
theorem tf_lay83:zdR Tryz.prog 83=some ([(0,1)],[.bool false]):=by kernel_rfl
theorem zjc:zK Tryz.prog 83 0=some 0:=by kernel_rfl
theorem zbz:zde Tryz.prog 85=true:=by kernel_rfl
theorem zdO:za5 Tryz.prog 85 1=true:=by kernel_rfl
theorem tf_zero85:zbO Tryz.prog 85=some (.slice none 0 0):=by kernel_rfl
theorem zkz:ElemOk Tryz.prog 85 5 tyB (0:UInt8) 1:=ElemOk.of Tryz.underlying85 (by kernel_rfl) (by kernel_rfl) rfl
theorem tf_lay87:zdR Tryz.prog 87=some ([(0,1),(1,1),(2,1),(3,1),(4,1),(5,1)],[.slice none 0 0,.bool false,.bool false,.bool false,.bool false,.bool false]):=by kernel_rfl
theorem zby:zK Tryz.prog 87 0=some 0:=by kernel_rfl
theorem zgy:zK Tryz.prog 87 1=some 1:=by kernel_rfl
theorem zc6:zK Tryz.prog 87 2=some 2:=by kernel_rfl
theorem zjb:zK Tryz.prog 87 3=some 3:=by kernel_rfl
theorem zja:zK Tryz.prog 87 4=some 4:=by kernel_rfl
theorem zgx:zK Tryz.prog 87 5=some 5:=by kernel_rfl
theorem zcd:zde Tryz.prog 103=true:=by kernel_rfl
theorem zi9:zdR Tryz.prog 108=some ([(0,8),(8,1)],[.nilIface,.bool false,.int .i64 0,.int .i64 0,.int .i64 0,.slice none 0 0,.bool false,.bool false,.pointer none]):=by kernel_rfl
theorem tf_fo108_1:zK Tryz.prog 108 1=some 8:=by kernel_rfl
theorem zcc:zde Tryz.prog 109=true:=by kernel_rfl
theorem zhJ:zde Tryz.prog 113=true:=by kernel_rfl
theorem zi8:zdR Tryz.prog 116=some ([(0,8),(8,1),(9,1),(10,1),(11,1)],[.nilIface,.bool false,.int .i64 0,.int .i64 0,.int .i64 0,.slice none 0 0,.bool false,.bool false,.pointer none,.pointer none,.int .i64 0,.int .i64 0]):=by kernel_rfl
theorem zhI:zK Tryz.prog 116 1=some 8:=by kernel_rfl
theorem zca:zK Tryz.prog 116 2=some 9:=by kernel_rfl
theorem zfQ:zK Tryz.prog 116 3=some 10:=by kernel_rfl
theorem zdA:zK Tryz.prog 116 4=some 11:=by kernel_rfl
theorem zgp:za5 Tryz.prog 121 1=true:=by kernel_rfl
theorem zaj:zK Tryz.prog 123 0=some 0:=by kernel_rfl
theorem zaX:zK Tryz.prog 123 1=some 1:=by kernel_rfl
theorem zeF:zK Tryz.prog 123 2=some 2:=by kernel_rfl
theorem tf_lay125:zdR Tryz.prog 125=some ([(0,1),(1,1),(2,3),(5,1)],[.int .i64 0,.bool false,.slice none 0 0,.int .i64 0,.int .i8 0,.int .i64 0]):=by kernel_rfl
theorem zhH:zK Tryz.prog 125 0=some 0:=by kernel_rfl
theorem zhG:zK Tryz.prog 125 1=some 1:=by kernel_rfl
theorem zc2:zK Tryz.prog 125 2=some 2:=by kernel_rfl
theorem zdz:zK Tryz.prog 125 3=some 5:=by kernel_rfl
theorem zcC:zde Tryz.prog 126=true:=by kernel_rfl
theorem tf_lay128:zdR Tryz.prog 128=some ([(0,1),(1,1),(2,1),(3,1)],[.int .i64 0,.int .i64 0,.int .i64 0,.map none]):=by kernel_rfl
theorem zfP:zK Tryz.prog 128 0=some 0:=by kernel_rfl
theorem zb9:zK Tryz.prog 128 1=some 1:=by kernel_rfl
theorem zdy:zK Tryz.prog 128 2=some 2:=by kernel_rfl
theorem zcB:zK Tryz.prog 128 3=some 3:=by kernel_rfl
theorem ze6:za5 Tryz.prog 130 7=true:=by kernel_rfl
theorem zjB:aggN Tryz.prog 130=some 7:=by kernel_rfl
theorem zfN:zbO Tryz.prog 130=some (.agg #[.int .i64 0,str [],str [],.int .i64 0,.slice none 0 0,.slice none 0 0,.bool false]):=by kernel_rfl
theorem zi7:zdR Tryz.prog 130=some ([(0,1),(1,4),(5,1),(6,1)],[.int .i64 0,str [],str [],.int .i64 0,.slice none 0 0,.slice none 0 0,.bool false]):=by kernel_rfl
theorem tf_fo130_0:zK Tryz.prog 130 0=some 0:=by kernel_rfl
theorem tf_fo130_1:zK Tryz.prog 130 1=some 1:=by kernel_rfl
theorem zhF:zK Tryz.prog 130 2=some 5:=by kernel_rfl
theorem tf_fo130_3:zK Tryz.prog 130 3=some 6:=by kernel_rfl
theorem zcb:zde Tryz.prog 131=true:=by kernel_rfl
theorem zdQ:za5 Tryz.prog 131 1=true:=by kernel_rfl
theorem tf_lay133:zdR Tryz.prog 133=some ([(0,1),(1,1),(2,1),(3,7),(10,1),(11,1),(12,1)],[.bool false,.slice none 0 0,.nilFunc,.int .i64 0,str [],str [],.int .i64 0,.slice none 0 0,.slice none 0 0,.bool false,.int .i64 0,.int .i64 0,.slice none 0 0]):=by kernel_rfl
theorem zeE:zK Tryz.prog 133 0=some 0:=by kernel_rfl
theorem zbb:zK Tryz.prog 133 1=some 1:=by kernel_rfl
theorem zba:zK Tryz.prog 133 2=some 2:=by kernel_rfl
theorem zeD:zK Tryz.prog 133 3=some 3:=by kernel_rfl
theorem zcA:zK Tryz.prog 133 4=some 10:=by kernel_rfl
theorem zeC:zK Tryz.prog 133 5=some 11:=by kernel_rfl
theorem za2:zK Tryz.prog 133 6=some 12:=by kernel_rfl
theorem tf_el161:ElemOk Tryz.prog 161 9 tyS ([]:List UInt8) 16:=ElemOk.of Tryz.underlying161 (by kernel_rfl) (by kernel_rfl) rfl
theorem zin:za5 Tryz.prog 173 2=true:=by kernel_rfl
theorem tf_agg173:aggN Tryz.prog 173=some 2:=by kernel_rfl
theorem zhC:zbO Tryz.prog 173=some (.agg #[str [],str []]):=by kernel_rfl
theorem tf_lay173:zdR Tryz.prog 173=some ([(0,1),(1,1)],[str [],str []]):=by kernel_rfl
theorem tf_fo173_0:zK Tryz.prog 173 0=some 0:=by kernel_rfl
theorem tf_fo173_1:zK Tryz.prog 173 1=some 1:=by kernel_rfl
theorem tf_sz195:za5 Tryz.prog 195 256=true:=by kernel_rfl
theorem zjA:aggN Tryz.prog 195=some 256:=by kernel_rfl
theorem zhB:zbO Tryz.prog 195=some (.agg (tyBool.cells (List.replicate 256 false)).toArray):=by kernel_rfl
theorem zhE:(Value.agg (tyBool.cells (List.replicate 256 false)).toArray).cells=(tyBool.cells (List.replicate 256 false)).toArray:=rfl
theorem tf_sz222:za5 Tryz.prog 222 256=true:=by kernel_rfl
theorem zjz:aggN Tryz.prog 222=some 256:=by kernel_rfl
theorem zhA:zbO Tryz.prog 222=some (.agg (tyBool.cells (List.replicate 256 false)).toArray):=by kernel_rfl
theorem zhD:(Value.agg (tyBool.cells (List.replicate 256 false)).toArray).cells=(tyBool.cells (List.replicate 256 false)).toArray:=rfl
theorem zbR:za5 Tryz.prog 240 2=true:=by kernel_rfl
theorem zc8:aggN Tryz.prog 240=some 2:=by kernel_rfl
theorem zcx:zbO Tryz.prog 240=some (.agg #[.int .u8 0,.int .u8 0]):=by kernel_rfl
theorem zcz:zK Tryz.prog 240 0=some 0:=by kernel_rfl
theorem zcy:zK Tryz.prog 240 1=some 1:=by kernel_rfl
theorem zff:aggN Tryz.prog 282=some 2:=by kernel_rfl
theorem tf_zero282:zbO Tryz.prog 282=some (.agg #[.int .u8 0,.int .u8 0]):=by kernel_rfl
theorem zeB:za5 Tryz.prog 284 2=true:=by kernel_rfl
theorem zea:aggN Tryz.prog 284=some 2:=by kernel_rfl
theorem zfM:zbO Tryz.prog 284=some (.agg #[.int .i64 0,.int .i64 0]):=by kernel_rfl
theorem ze7:zdR Tryz.prog 284=some ([(0,1),(1,1)],[.int .i64 0,.int .i64 0]):=by kernel_rfl
theorem tf_fo284_0:zK Tryz.prog 284 0=some 0:=by kernel_rfl
theorem zV:Tryz.prog.follows .mixedOrders=true:=by kernel_rfl
theorem tf_body5:Body Tryz.prog 5:=Body.of (by kernel_rfl)
theorem tf_body8:Body Tryz.prog 8:=Body.of (by kernel_rfl)
theorem zio:Body Tryz.prog 9:=Body.of (by kernel_rfl)
theorem zd9:Body Tryz.prog 10:=Body.of (by kernel_rfl)
theorem zjy:Body Tryz.prog 11:=Body.of (by kernel_rfl)
theorem zjx:Body Tryz.prog 12:=Body.of (by kernel_rfl)
theorem tf_body13:Body Tryz.prog 13:=Body.of (by kernel_rfl)
theorem zdG:Body Tryz.prog 14:=Body.of (by kernel_rfl)
theorem zgK:Body Tryz.prog 15:=Body.of (by kernel_rfl)
theorem zgJ:Body Tryz.prog 16:=Body.of (by kernel_rfl)
theorem zjw:Body Tryz.prog 18:=Body.of (by kernel_rfl)
theorem zfe:Body Tryz.prog 19:=Body.of (by kernel_rfl)
theorem zco:Body Tryz.prog 20:=Body.of (by kernel_rfl)
theorem zgI:Body Tryz.prog 21:=Body.of (by kernel_rfl)
theorem zjv:Body Tryz.prog 22:=Body.of (by kernel_rfl)
theorem zd8:Body Tryz.prog 23:=Body.of (by kernel_rfl)
theorem tf_body24:Body Tryz.prog 24:=Body.of (by kernel_rfl)
theorem tf_body25:Body Tryz.prog 25:=Body.of (by kernel_rfl)
theorem zju:Body Tryz.prog 26:=Body.of (by kernel_rfl)
theorem tf_body27:Body Tryz.prog 27:=Body.of (by kernel_rfl)
theorem za8:Body Tryz.prog 28:=Body.of (by kernel_rfl)
theorem zjt:Body Tryz.prog 29:=Body.of (by kernel_rfl)
theorem zgH:Body Tryz.prog 30:=Body.of (by kernel_rfl)
theorem zb2:Body Tryz.prog 31:=Body.of (by kernel_rfl)
theorem za7:Body Tryz.prog 32:=Body.of (by kernel_rfl)
theorem zjs:Body Tryz.prog 33:=Body.of (by kernel_rfl)
theorem zaM:Body Tryz.prog 34:=Body.of (by kernel_rfl)
theorem zav:Body Tryz.prog 35:=Body.of (by kernel_rfl)
theorem zfd:Body Tryz.prog 36:=Body.of (by kernel_rfl)
theorem zgG:Body Tryz.prog 37:=Body.of (by kernel_rfl)
theorem zd7:Body Tryz.prog 38:=Body.of (by kernel_rfl)
theorem tf_body39:Body Tryz.prog 39:=Body.of (by kernel_rfl)
theorem tf_body40:Body Tryz.prog 40:=Body.of (by kernel_rfl)
theorem zjr:Body Tryz.prog 41:=Body.of (by kernel_rfl)
theorem zjq:Body Tryz.prog 42:=Body.of (by kernel_rfl)
theorem zjp:Body Tryz.prog 43:=Body.of (by kernel_rfl)
theorem zdC:Body Tryz.prog 44:=Body.of (by kernel_rfl)
theorem tf_body45:Body Tryz.prog 45:=Body.of (by kernel_rfl)
theorem tf_body46:Body Tryz.prog 46:=Body.of (by kernel_rfl)
theorem tf_body47:Body Tryz.prog 47:=Body.of (by kernel_rfl)
theorem tf_body48:Body Tryz.prog 48:=Body.of (by kernel_rfl)
theorem zjo:Body Tryz.prog 49:=Body.of (by kernel_rfl)
theorem tf_body50:Body Tryz.prog 50:=Body.of (by kernel_rfl)
theorem zjn:Body Tryz.prog 53:=Body.of (by kernel_rfl)
theorem zd6:Body Tryz.prog 54:=Body.of (by kernel_rfl)
theorem zjm:Body Tryz.prog 55:=Body.of (by kernel_rfl)
theorem zgF:Body Tryz.prog 56:=Body.of (by kernel_rfl)
theorem tf_body57:Body Tryz.prog 57:=Body.of (by kernel_rfl)
theorem tf_body58:Body Tryz.prog 58:=Body.of (by kernel_rfl)
theorem tf_body59:Body Tryz.prog 59:=Body.of (by kernel_rfl)
theorem zjl:Body Tryz.prog 76:=Body.of (by kernel_rfl)
theorem tf_body77:Body Tryz.prog 77:=Body.of (by kernel_rfl)
theorem tf_body78:Body Tryz.prog 78:=Body.of (by kernel_rfl)
theorem zjk:Body Tryz.prog 79:=Body.of (by kernel_rfl)
theorem zjj:Body Tryz.prog 80:=Body.of (by kernel_rfl)
theorem tf_body81:Body Tryz.prog 81:=Body.of (by kernel_rfl)
theorem tf_body82:Body Tryz.prog 82:=Body.of (by kernel_rfl)
theorem zgE:Body Tryz.prog 83:=Body.of (by kernel_rfl)
theorem tf_body84:Body Tryz.prog 84:=Body.of (by kernel_rfl)
theorem tf_body85:Body Tryz.prog 85:=Body.of (by kernel_rfl)
theorem zgD:Body Tryz.prog 86:=Body.of (by kernel_rfl)
theorem tf_body87:Body Tryz.prog 87:=Body.of (by kernel_rfl)
theorem tf_body88:Body Tryz.prog 88:=Body.of (by kernel_rfl)
theorem zgC:Body Tryz.prog 89:=Body.of (by kernel_rfl)
theorem zgB:Body Tryz.prog 90:=Body.of (by kernel_rfl)
theorem tf_body99:Body Tryz.prog 99:=Body.of (by kernel_rfl)
theorem tf_body100:Body Tryz.prog 100:=Body.of (by kernel_rfl)
theorem tf_body102:Body Tryz.prog 102:=Body.of (by kernel_rfl)
theorem zhV:Body Tryz.prog 103:=Body.of (by kernel_rfl)
theorem zhU:Body Tryz.prog 112:=Body.of (by kernel_rfl)
theorem tf_body115:Body Tryz.prog 115:=Body.of (by kernel_rfl)
theorem tf_body117:Body Tryz.prog 117:=Body.of (by kernel_rfl)
theorem tf_body120:Body Tryz.prog 120:=Body.of (by kernel_rfl)
theorem tf_body131:Body Tryz.prog 131:=Body.of (by kernel_rfl)
theorem tf_body134:Body Tryz.prog 134:=Body.of (by kernel_rfl)
theorem tf_body135:Body Tryz.prog 135:=Body.of (by kernel_rfl)
theorem tf_body136:Body Tryz.prog 136:=Body.of (by kernel_rfl)
theorem tf_body137:Body Tryz.prog 137:=Body.of (by kernel_rfl)
theorem tf_body152:Body Tryz.prog 152:=Body.of (by kernel_rfl)
theorem tf_body187:Body Tryz.prog 187:=Body.of (by kernel_rfl)
theorem tf_body188:Body Tryz.prog 188:=Body.of (by kernel_rfl)
theorem tf_body190:Body Tryz.prog 190:=Body.of (by kernel_rfl)
theorem tf_body191:Body Tryz.prog 191:=Body.of (by kernel_rfl)
theorem tf_body193:Body Tryz.prog 193:=Body.of (by kernel_rfl)
theorem tf_body194:Body Tryz.prog 194:=Body.of (by kernel_rfl)
theorem tf_body196:Body Tryz.prog 196:=Body.of (by kernel_rfl)
theorem tf_body197:Body Tryz.prog 197:=Body.of (by kernel_rfl)
theorem zfU:Body Tryz.prog 198:=Body.of (by kernel_rfl)
theorem zhT:Body Tryz.prog 199:=Body.of (by kernel_rfl)
theorem tf_body200:Body Tryz.prog 200:=Body.of (by kernel_rfl)
theorem tf_body201:Body Tryz.prog 201:=Body.of (by kernel_rfl)
theorem tf_body202:Body Tryz.prog 202:=Body.of (by kernel_rfl)
theorem zfT:Body Tryz.prog 203:=Body.of (by kernel_rfl)
theorem tf_body204:Body Tryz.prog 204:=Body.of (by kernel_rfl)
theorem tf_body205:Body Tryz.prog 205:=Body.of (by kernel_rfl)
theorem tf_body206:Body Tryz.prog 206:=Body.of (by kernel_rfl)
theorem tf_body207:Body Tryz.prog 207:=Body.of (by kernel_rfl)
theorem tf_body208:Body Tryz.prog 208:=Body.of (by kernel_rfl)
theorem tf_body209:Body Tryz.prog 209:=Body.of (by kernel_rfl)
theorem tf_body210:Body Tryz.prog 210:=Body.of (by kernel_rfl)
theorem zhS:Body Tryz.prog 211:=Body.of (by kernel_rfl)
theorem zhR:Body Tryz.prog 212:=Body.of (by kernel_rfl)
theorem zaF:Body Tryz.prog 213:=Body.of (by kernel_rfl)
theorem tf_body216:Body Tryz.prog 216:=Body.of (by kernel_rfl)
theorem tf_body217:Body Tryz.prog 217:=Body.of (by kernel_rfl)
theorem tf_body218:Body Tryz.prog 218:=Body.of (by kernel_rfl)
theorem tf_body219:Body Tryz.prog 219:=Body.of (by kernel_rfl)
theorem zhQ:Body Tryz.prog 220:=Body.of (by kernel_rfl)
theorem zfS:Body Tryz.prog 221:=Body.of (by kernel_rfl)
theorem tf_body222:Body Tryz.prog 222:=Body.of (by kernel_rfl)
theorem tf_body223:Body Tryz.prog 223:=Body.of (by kernel_rfl)
theorem tf_body224:Body Tryz.prog 224:=Body.of (by kernel_rfl)
theorem zfR:Body Tryz.prog 225:=Body.of (by kernel_rfl)
theorem zhP:Body Tryz.prog 226:=Body.of (by kernel_rfl)
theorem zhO:Body Tryz.prog 227:=Body.of (by kernel_rfl)
theorem tf_body228:Body Tryz.prog 228:=Body.of (by kernel_rfl)
theorem zhN:Body Tryz.prog 229:=Body.of (by kernel_rfl)
theorem zdF:Body Tryz.prog 230:=Body.of (by kernel_rfl)
theorem tf_body231:Body Tryz.prog 231:=Body.of (by kernel_rfl)
theorem tf_body232:Body Tryz.prog 232:=Body.of (by kernel_rfl)
theorem zhM:Body Tryz.prog 234:=Body.of (by kernel_rfl)
theorem tf_body235:Body Tryz.prog 235:=Body.of (by kernel_rfl)
theorem tf_body236:Body Tryz.prog 236:=Body.of (by kernel_rfl)
theorem tf_body237:Body Tryz.prog 237:=Body.of (by kernel_rfl)
theorem zdE:Body Tryz.prog 238:=Body.of (by kernel_rfl)
theorem tf_body239:Body Tryz.prog 239:=Body.of (by kernel_rfl)
theorem tf_body240:Body Tryz.prog 240:=Body.of (by kernel_rfl)
theorem tf_body241:Body Tryz.prog 241:=Body.of (by kernel_rfl)
theorem zhL:Body Tryz.prog 242:=Body.of (by kernel_rfl)
theorem tf_body243:Body Tryz.prog 243:=Body.of (by kernel_rfl)
theorem zcD:Body Tryz.prog 244:=Body.of (by kernel_rfl)
theorem tf_body245:Body Tryz.prog 245:=Body.of (by kernel_rfl)
theorem zdD:Body Tryz.prog 246:=Body.of (by kernel_rfl)
theorem tf_body247:Body Tryz.prog 247:=Body.of (by kernel_rfl)
theorem zhK:Body Tryz.prog 248:=Body.of (by kernel_rfl)
theorem tf_body249:Body Tryz.prog 249:=Body.of (by kernel_rfl)
set_option maxRecDepth 100000
def pick (x n:Int):Int:=if n < 1 then 0 else x % n
theorem tmod_neg {x n:Int}(hn:1≤n) (h:x.tmod n < 0):x.tmod n + n=x % n:=by
 have h1:=Int.emod_nonneg x (show n≠0 by omega)
 have h2:=Int.emod_lt_of_pos x (show 0 < n by omega)
 rw [Int.tmod_eq_emod] at h ⊢
 split at h <;> rename_i hc
 ·omega
 ·rw [if_neg hc]; omega
theorem tmod_pos {x n:Int}(hn:1≤n) (h:0≤x.tmod n):x.tmod n=x % n:=by
 have h1:=Int.emod_nonneg x (show n≠0 by omega)
 have h2:=Int.emod_lt_of_pos x (show 0 < n by omega)
 rw [Int.tmod_eq_emod] at h ⊢
 split at h <;> rename_i hc
 ·rw [if_pos hc]; omega
 ·omega
theorem tmod_bd {x n:Int}(hn:1≤n):- n < x.tmod n∧x.tmod n < n:=by
 have h1:=Int.emod_nonneg x (show n≠0 by omega)
 have h2:=Int.emod_lt_of_pos x (show 0 < n by omega)
 rw [Int.tmod_eq_emod]
 split <;> omega
theorem same_ok {w0:World}{base:Nat}{H:List Seg}{A A2:Option Addr}{C C2:Nat}{l l2:List UInt8}(h:Rd tyB w0 base H A C l) (h2:Rd tyB w0 base H A2 C2 l2) :
  SCalls Tryz.prog 18 [.slice A l.length C,.slice A2 l2.length C2] w0 base (H) (fun v H' => v = .bool (decide (l=l2))∧H' = H):=by
 refine SCalls.of_walk (n:=10) Tryz.func18 Z Z Z fun cs => ?_
 refine zc<|za<|AtL.assign zg0 Z Z<|AtL.done<|zc<|za ?_
 refine zb zg0 Z Z<|zev h Tryz.underlying34 Tryz.underlying5 Tryz.underlying9 zg0 Z Z<|zb zg0 Z Z<|zev h2 Tryz.underlying34 Tryz.underlying5 Tryz.underlying9 zg0 Z Z<|zcT (a:=l) (b:=l2) zg0 Z Z Z<|AtL.assign zg0 Z Z ?_
 refine AtL.done ?_
 exact zt Tryz.func18 Z Z (⟨Z,Z⟩)
theorem pick_ok {w0:World}{base:Nat}{H:List Seg}(x n:Int) (hn:n≤4611686018427387904) :
  SCalls Tryz.prog 13 [V x,V n] w0 base (H) (fun v H' => v=int (pick x n)∧H' = H):=by
 refine SCalls.of_walk (n:=16) Tryz.func13 Z Z Z fun cs => ?_
 refine zc<|za<|AtL.assign zg0 Z Z<|AtL.done<|zc<|zc ?_
 refine za<|zb zg0 Z Z<|zA zg0 Z Z Z<|AtL.done<|zq Z ?_ ?_
 ·intro hc1
  refine zc<|za<|AtL.assign zg0 Z Z<|AtL.done ?_
  exact zt Tryz.func13 Z Z (⟨congrArg int (by rw [pick,if_pos hc1]),Z⟩)
 ·intro hc1
  refine zj<|zc<|za<|zb zg0 Z Z<|zb zg0 Z Z ?_
  refine AtL.rem (z:=x.tmod n) zg0 Z Z Z (by omega) Z<|AtL.assign zg0 Z Z<|AtL.done ?_
  have hb:=tmod_bd (x:=x) (n:=n) (by omega)
  refine zc<|zc<|za<|zb zg0 Z Z<|zA zg0 Z Z Z<|AtL.done ?_
  refine zq Z ?_ ?_
  ·intro hc2
   refine za<|zb zg0 Z Z<|zb zg0 Z Z ?_
   refine AtL.add (z:=(x.tmod n) + n) zg0 Z Z Z (w64 (by omega) (by omega))<|AtL.assign zg0 Z Z<|AtL.done<|zc<|za<|zb zg0 Z Z ?_
   refine AtL.assign zg0 Z Z<|AtL.done ?_
   exact zt Tryz.func13 Z Z (⟨congrArg int (by rw [tmod_neg (by omega) hc2,pick,if_neg hc1]),Z⟩)
  ·intro hc2
   refine zj<|zc<|za<|zb zg0 Z Z<|AtL.assign zg0 Z Z<|AtL.done ?_
   exact zt Tryz.func13 Z Z (⟨congrArg int (by rw [tmod_pos (by omega) (by omega),pick,if_neg hc1]),Z⟩)
set_option maxRecDepth 100000
theorem zcs (a:Int):UInt8.ofInt (a % 256)=UInt8.ofInt a:=by
 apply UInt8.toNat_inj.1
 rw [zdc,zdc,Int.emod_emod_of_dvd _ (Int.dvd_refl _)]
theorem put2_ok {w0:World}{base:Nat}{H:List Seg}(n:Int) (h0:0≤n) (h1:n≤65535) :
  SCalls Tryz.prog 208 [V n] w0 base (H) (fun v H' => ∃ A' C' s',Own tyB 5 A' C' [UInt8.ofInt (n / 256),UInt8.ofInt n] s'∧v = .tuple #[.slice A' 2 C',int 0]∧H' = s'::H):=by
 refine SCalls.of_walk (n:=36) Tryz.func208 Z Z Z fun cs => ?_
 refine zc<|za<|AtL.assign zg0 Z Z<|AtL.assign zg0 Z Z<|AtL.done<|zc ?_
 refine za<|AtL.alloc tf_zero282 (cs:=#[.int .u8 0,.int .u8 0]) Z zg0 Z ?_
 intro b1
 refine AtL.done<|zc<|zc<|za<|zb zg0 Z Z<|zA zg0 Z Z Z ?_
 refine zb zg0 Z Z<|zy 7 (E':=[(16,.bool (!(decide ((n / 65536:Int)=0)))),(0,V n),(4,B b1)]) (fun J => ?_) ?_
 ·refine zD (t:=9) Z ?_ ?_
  ·intro hs9
   exact absurd hs9 (by omega)
  ·intro hs9
   refine zb (.inr ⟨_,_,_,Z,Z,Z,Z⟩) Z Z<|zay (cs:=[.int .u8 0,.int .u8 0]) zff (.inr ⟨_,_,_,Z,Z,Z,Z⟩) Z Z Z (zad 0 0 0 Z Z Z)<|zb (.inr ⟨_,_,_,Z,Z,Z,Z⟩) Z Z ?_
   refine zhj (z:=16) (.inr ⟨_,_,_,Z,Z,Z,Z⟩) Z Z Z (by decide) ?_
   refine zcS (z:=n / 65536) (.inr ⟨_,_,_,Z,Z,Z,Z⟩) Z Z Z (by omega) (shr_eq _ _ 16 Z (by decide) _ (by decide))<|zT (.inr ⟨_,_,_,Z,Z,Z,Z⟩) Z Z Z<|zm zg0 Z Z Z ?_
   exact J _ (by exact ⟨(zw (by clear J; first | (simp [hs9]; done) | (simp_all; done) | grind)),Z,Z,trivial⟩)
 ·refine AtL.done ?_
  refine zU false Z (by simp; omega)<|zj<|zc<|za<|AtL.assign zg0 Z Z<|AtL.done ?_
  refine zc<|zc<|za<|zay (cs:=[.int .u8 0,.int .u8 0]) zff zg0 Z Z Z (zad 0 0 0 Z Z Z)<|zb zg0 Z Z<|zb zg0 Z Z ?_
  refine AtL.done<|At.block<|zbp<|zc<|za<|zA zg0 Z Z Z ?_
  refine AtL.done<|zc<|zX Z<|zj<|zc<|At.block ?_
  refine zc<|za<|zb zg0 Z Z<|AtL.assign zg0 Z Z<|AtL.done<|za ?_
  refine zb zg0 Z Z<|zb zg0 Z Z<|zay (cs:=[.int .u8 0,.int .u8 0]) zff zg0 Z Z Z (zad 0 0 0 Z Z Z)<|zb zg0 Z Z ?_
  refine AtL.sub (z:=1) zg0 Z Z Z (by decide)<|zb zg0 Z Z ?_
  refine AtL.sub (z:=1) zg0 Z Z Z (by decide) ?_
  refine zhj (z:=8) zg0 Z Z Z (by decide) ?_
  refine zcS (z:=n / 256) zg0 Z Z Z (by omega) (shr_eq _ _ 8 Z (by decide) _ (by decide))<|zN (z:=((UInt8.ofInt (n / 256)).toNat:Int)) Tryz.underlying3 Tryz.underlying5 zg0 Z Z (zeW _)<|zG (cs:=[.int .u8 ((UInt8.ofInt (n / 256)).toNat:Int)]) Tryz.underlying34 zbf zQ Z Z zg0 Z Z Z ?_
  intro b2
  refine zaD tyB (l:=([(UInt8.ofInt (n / 256))]:List UInt8)) Z Z (by first | decide | simp) ?_
  intro s3 o4
  refine AtL.nil ?_
  refine zam (l:=[]) (news:=[(UInt8.ofInt (n / 256))]) 0 zbq Z (Own.nil tyB 5) (o4.rd (i:=1) Z) (by first | omega | (simp only [List.length_append,List.length_cons,List.length_nil]; omega) | (simp; done) | (simp; omega)) zg0 Z Z Z ?_
  intro A5 C6 s7 o8
  refine AtL.assign zg0 Z Z<|AtL.done<|zp<|za ?_
  refine AtL.add (z:=1) zg0 Z Z Z (by decide)<|zb zg0 Z Z<|AtL.done<|zaN<|zc<|za ?_
  refine zA zg0 Z Z Z<|AtL.done<|zc<|zX Z<|zj<|zc ?_
  refine At.block<|zc<|za<|zb zg0 Z Z<|AtL.assign zg0 Z Z<|AtL.done ?_
  refine za<|zb zg0 Z Z<|zb zg0 Z Z<|zay (cs:=[.int .u8 0,.int .u8 0]) zff zg0 Z Z Z (zad 2 0 0 Z Z Z)<|zb zg0 Z Z ?_
  refine AtL.sub (z:=1) zg0 Z Z Z (by decide)<|zb zg0 Z Z ?_
  refine AtL.sub (z:=0) zg0 Z Z Z (by decide) ?_
  refine zhj (z:=0) zg0 Z Z Z (by decide) ?_
  refine zcS (z:=n / 1) zg0 Z Z Z (by omega) (shr_eq _ _ 0 Z (by decide) _ (by decide))<|zN (z:=((UInt8.ofInt (n / 1)).toNat:Int)) Tryz.underlying3 Tryz.underlying5 zg0 Z Z (zeW _)<|zG (cs:=[.int .u8 ((UInt8.ofInt (n / 1)).toNat:Int)]) Tryz.underlying34 zbf zQ Z Z zg0 Z Z Z ?_
  intro b9
  refine zaD tyB (l:=([(UInt8.ofInt (n / 1))]:List UInt8)) Z Z (by first | decide | simp) ?_
  intro s10 o11
  refine zam (l:=[]++[(UInt8.ofInt (n / 256))]) (news:=[(UInt8.ofInt (n / 1))]) 1 zbq Z o8 (o11.rd (i:=0) Z) (by first | omega | (simp only [List.length_append,List.length_cons,List.length_nil]; omega) | (simp; done) | (simp; omega)) zg0 Z Z Z ?_
  intro A12 C13 s14 o15
  refine AtL.assign zg0 Z Z<|AtL.done<|zp<|za ?_
  refine AtL.add (z:=2) zg0 Z Z Z (by decide)<|zb zg0 Z Z<|AtL.done<|zaN<|zc<|za ?_
  refine zA zg0 Z Z Z<|AtL.done<|zc<|zB Z<|zau Z<|zc ?_
  refine za<|zb zg0 Z Z<|AtL.assign zg0 Z Z<|AtL.assign zg0 Z Z<|AtL.done<|At.pick [1] 4 Z Z ?_
  exact zt Tryz.func208 Z Z (⟨_,_,_,by have h:=o15; rw [Int.ediv_one] at h; exact h,Z,Z⟩)
theorem ziy {w0:World}{base:Nat}{H:List Seg}(n:Int) (h0:0≤n) (h1:n≤65535) :
  SCalls Tryz.prog 203 [V n] w0 base (H) (fun v H' => ∃ A' C' s',Own tyB 5 A' C' [UInt8.ofInt (n / 256),UInt8.ofInt n] s'∧v = .tuple #[.slice A' 2 C',int 0]∧H' = s'::H):=by
 refine SCalls.of_walk (n:=8) Tryz.func203 Z Z Z fun cs => ?_
 refine zc<|za<|AtL.assign zg0 Z Z<|AtL.assign zg0 Z Z<|AtL.done<|zc ?_
 refine za<|zb zg0 Z Z ?_
 refine zk tf_body208 zg0 Z Z (put2_ok n (by omega) (by omega)) ?_
 rintro _ _ ⟨A1,C2,s3,o4,rfl,rfl⟩
 refine AtL.extract zg0 Z Z Z<|AtL.extract zg0 Z Z Z<|AtL.assign zg0 Z Z<|AtL.assign zg0 Z Z<|AtL.done ?_
 exact zt Tryz.func203 Z Z (⟨_,_,_,o4,Z,Z⟩)
theorem grow_ok {w0:World}{base:Nat}{H:List Seg}(n:Nat) (hn:n≤140737488355328) :
  SCalls Tryz.prog 49 [.slice none 0 0,V (n:Int)] w0 base (H) (fun v H' => ∃ A' C' s',Own tyB 5 A' C' [] s'∧v = .slice A' 0 C'∧H' = s'::H):=by
 refine SCalls.of_walk (n:=27) Tryz.func49 Z Z Z fun cs => ?_
 refine zc<|za<|AtL.assign zg0 Z Z<|AtL.done<|zc<|zc ?_
 refine za<|zb zg0 Z Z<|zA zg0 Z Z Z<|AtL.done ?_
 refine zU false Z (decide_eq_false (by omega))<|zj<|zc<|zc<|za<|zb zg0 Z Z ?_
 refine zb zg0 Z Z<|zc1 Tryz.underlying34 zg0 Z Z<|zb zg0 Z Z<|zC Tryz.underlying34 zg0 Z Z ?_
 refine AtL.sub (z:=0) zg0 Z Z Z (by decide) ?_
 refine AtL.sub (z:=(n:Int)) zg0 Z Z Z (w64 (by omega) (by omega))<|AtL.assign zg0 Z Z<|AtL.done<|zc<|za<|zb zg0 Z Z ?_
 refine zai zg0 Z Z Z<|AtL.done<|zq Z ?_ ?_
 ·intro hc2
  refine za<|zb zg0 Z Z<|zb zg0 Z Z<|zc1 Tryz.underlying34 zg0 Z Z<|zge Z (zI Z Z) Tryz.underlying34 zQ zg0 Z Z<|zb zg0 Z Z ?_
  refine AtL.nil ?_
  refine zdZ (l:=([]:List UInt8)) (m:=n) 0 zbq Tryz.underlying3 Z (Own.nil tyB 5) (by decide) (by omega) (by first | omega | (simp only [List.length_append,List.length_cons,List.length_nil]; omega) | (simp; done) | (simp; omega)) (by first | omega | (simp only [List.length_append,List.length_cons,List.length_nil]; omega) | (simp; done) | (simp; omega)) zg0 Z Z Z ?_
  intro A1 C2 s3 o4
  refine zb zg0 Z Z<|zC Tryz.underlying34 zg0 Z Z ?_
  have hleo7:=zab o4
  refine zbN 0 0 C2 o4 Z (zI Z Z) Z (by intro h; cases h) (by omega) (by omega) (by omega) (Nat.le_refl _) Tryz.underlying34 zQ zg0 Z Z ?_
  intro A5 C6 o7
  clear hleo7
  have hlo7:(subl (([]:List UInt8)++List.replicate n (0:UInt8)) 0 0).length=0 - 0:=zP (by omega)
  refine AtL.assign zg0 Z Z<|AtL.done<|zc<|za<|zb zg0 Z Z<|AtL.assign zg0 Z Z ?_
  refine AtL.done ?_
  exact zt Tryz.func49 Z Z (⟨_,_,_,o7,Z,Z⟩)
 ·intro hc2
  refine zj<|zc<|za<|zb zg0 Z Z<|AtL.assign zg0 Z Z<|AtL.done ?_
  refine At.nil ?_
  exact zt Tryz.func49 Z Z (⟨none,0,[],Own.nil tyB 5,Z,Z⟩)
set_option maxHeartbeats 1000000 in
theorem zkX {w0:World}{base:Nat}{H:List Seg}{b:Nat}{A0:Option Addr}{C0:Nat}{l0:List UInt8}(h0:Rd tyB w0 base H A0 C0 l0) {A1:Option Addr}{C1:Nat}{l1:List UInt8}(h1:Rd tyB w0 base H A1 C1 l1) (hl:l0.length + l1.length≤140737488355328) :
  SCalls Tryz.prog 44 [.slice (some ⟨b,0,none⟩) 2 2] w0 base ([(b,.cells #[.slice A0 l0.length C0,.slice A1 l1.length C1] 34 (0,0))]::H) (fun v H' => ∃ A' C' s',Own tyB 5 A' C' (l0++l1) s'∧v = .slice A' (l0++l1).length C'∧H' = s'::[(b,.cells #[.slice A0 l0.length C0,.slice A1 l1.length C1] 34 (0,0))]::H):=by
 refine SCalls.of_walk (n:=36) Tryz.func44 Z Z Z fun cs => ?_
 refine zc<|za<|AtL.assign zg0 Z Z<|AtL.done<|zc<|za ?_
 refine AtL.assign zg0 Z Z<|AtL.done<|zc<|zc<|za<|zb zg0 Z Z ?_
 refine zC Tryz.underlying22 zg0 Z Z<|zb zg0 Z Z<|AtL.done<|At.block<|zbp<|zc ?_
 refine za<|zA zg0 Z Z Z<|AtL.done<|zc<|zX Z<|zj ?_
 refine zc<|At.block<|zc<|za<|za6 0 Tryz.underlying22 zaA zg0 Z Z Z Z Z Z<|zh zE zg0 Z Z (Cell.own 0 0 Z Z Z) ?_
 refine AtL.assign zg0 Z Z<|AtL.done<|zc<|za<|zb zg0 Z Z<|zb zg0 Z Z ?_
 refine zC Tryz.underlying34 zg0 Z Z ?_
 refine AtL.add (z:=0 + (l0.length:Int)) zg0 Z Z Z (w64 (by omega) (by omega))<|AtL.assign zg0 Z Z<|AtL.done<|zc<|za<|zb zg0 Z Z ?_
 refine zA zg0 Z Z Z<|AtL.done ?_
 refine zU false Z (decide_eq_false (by omega))<|zj<|zp<|za ?_
 refine AtL.add (z:=1) zg0 Z Z Z (by decide)<|zb zg0 Z Z<|AtL.done<|zaN<|zc<|za ?_
 refine zA zg0 Z Z Z<|AtL.done<|zc<|zX Z<|zj<|zc ?_
 refine At.block<|zc<|za<|za6 1 Tryz.underlying22 zaA zg0 Z Z Z Z Z Z<|zh zE zg0 Z Z (Cell.own 0 0 Z Z Z)<|AtL.assign zg0 Z Z ?_
 refine AtL.done<|zc<|za<|zb zg0 Z Z<|zb zg0 Z Z<|zC Tryz.underlying34 zg0 Z Z ?_
 refine AtL.add (z:=(0 + (l0.length:Int)) + (l1.length:Int)) zg0 Z Z Z (w64 (by omega) (by omega))<|AtL.assign zg0 Z Z<|AtL.done<|zc<|za<|zb zg0 Z Z ?_
 refine zA zg0 Z Z Z<|AtL.done ?_
 refine zU false Z (decide_eq_false (by omega))<|zj<|zp<|za ?_
 refine AtL.add (z:=2) zg0 Z Z Z (by decide)<|zb zg0 Z Z<|AtL.done<|zaN<|zc<|za ?_
 refine zA zg0 Z Z Z<|AtL.done<|zc<|zB Z<|zau Z<|zc ?_
 refine za<|zb zg0 Z Z ?_
 refine zk zjo zg0 Z Z (grow_ok ((0 + l0.length) + l1.length) (by omega)) ?_
 rintro _ _ ⟨A1,C2,s3,o4,rfl,rfl⟩
 refine AtL.assign zg0 Z Z<|AtL.done<|zc<|zc<|za<|zb zg0 Z Z ?_
 refine zC Tryz.underlying22 zg0 Z Z<|zb zg0 Z Z<|AtL.done<|At.block<|zbp<|zc ?_
 refine za<|zA zg0 Z Z Z<|AtL.done<|zc<|zX Z<|zj ?_
 refine zc<|At.block<|zc<|za<|za6 0 Tryz.underlying22 zaA zg0 Z Z Z Z Z Z<|zh zE zg0 Z Z (Cell.own 1 0 Z Z Z) ?_
 refine AtL.assign zg0 Z Z<|AtL.done<|za<|zb zg0 Z Z<|zb zg0 Z Z ?_
 refine zam (l:=([]:List UInt8)) (news:=l0) 0 zbq Z o4 (Rd.skip 2 h0) (by first | omega | (simp only [List.length_append,List.length_cons,List.length_nil]; omega) | (simp; done) | (simp; omega)) zg0 Z Z Z ?_
 intro A5 C6 s7 o8
 refine AtL.assign zg0 Z Z<|AtL.done<|zp<|za ?_
 refine AtL.add (z:=1) zg0 Z Z Z (by decide)<|zb zg0 Z Z<|AtL.done<|zaN<|zc<|za ?_
 refine zA zg0 Z Z Z<|AtL.done<|zc<|zX Z<|zj<|zc ?_
 refine At.block<|zc<|za<|za6 1 Tryz.underlying22 zaA zg0 Z Z Z Z Z Z<|zh zE zg0 Z Z (Cell.own 1 0 Z Z Z)<|AtL.assign zg0 Z Z ?_
 refine AtL.done<|za<|zb zg0 Z Z<|zb zg0 Z Z ?_
 refine zam (l:=([]:List UInt8)++l0) (news:=l1) 0 zbq Z o8 (Rd.skip 2 h1) (by first | omega | (simp only [List.length_append,List.length_cons,List.length_nil]; omega) | (simp; done) | (simp; omega)) zg0 Z Z Z ?_
 intro A9 C10 s11 o12
 refine AtL.assign zg0 Z Z<|AtL.done<|zp<|za ?_
 refine AtL.add (z:=2) zg0 Z Z Z (by decide)<|zb zg0 Z Z<|AtL.done<|zaN<|zc<|za ?_
 refine zA zg0 Z Z Z<|AtL.done<|zc<|zB Z<|zau Z<|zc ?_
 refine za<|zb zg0 Z Z<|AtL.assign zg0 Z Z<|AtL.done ?_
 exact zt Tryz.func44 Z Z (⟨_,_,_,o12,Z,Z⟩)
set_option maxHeartbeats 1000000 in
theorem zkW {w0:World}{base:Nat}{H:List Seg}{b:Nat}{A0:Option Addr}{C0:Nat}{l0:List UInt8}(h0:Rd tyB w0 base H A0 C0 l0) {A1:Option Addr}{C1:Nat}{l1:List UInt8}(h1:Rd tyB w0 base H A1 C1 l1) {A2:Option Addr}{C2:Nat}{l2:List UInt8}(h2:Rd tyB w0 base H A2 C2 l2) (hl:l0.length + l1.length + l2.length≤140737488355328) :
  SCalls Tryz.prog 44 [.slice (some ⟨b,0,none⟩) 3 3] w0 base ([(b,.cells #[.slice A0 l0.length C0,.slice A1 l1.length C1,.slice A2 l2.length C2] 34 (0,0))]::H) (fun v H' => ∃ A' C' s',Own tyB 5 A' C' (l0++l1++l2) s'∧v = .slice A' (l0++l1++l2).length C'∧H' = s'::[(b,.cells #[.slice A0 l0.length C0,.slice A1 l1.length C1,.slice A2 l2.length C2] 34 (0,0))]::H):=by
 refine SCalls.of_walk (n:=36) Tryz.func44 Z Z Z fun cs => ?_
 refine zc<|za<|AtL.assign zg0 Z Z<|AtL.done<|zc<|za ?_
 refine AtL.assign zg0 Z Z<|AtL.done<|zc<|zc<|za<|zb zg0 Z Z ?_
 refine zC Tryz.underlying22 zg0 Z Z<|zb zg0 Z Z<|AtL.done<|At.block<|zbp<|zc ?_
 refine za<|zA zg0 Z Z Z<|AtL.done<|zc<|zX Z<|zj ?_
 refine zc<|At.block<|zc<|za<|za6 0 Tryz.underlying22 zaA zg0 Z Z Z Z Z Z<|zh zE zg0 Z Z (Cell.own 0 0 Z Z Z) ?_
 refine AtL.assign zg0 Z Z<|AtL.done<|zc<|za<|zb zg0 Z Z<|zb zg0 Z Z ?_
 refine zC Tryz.underlying34 zg0 Z Z ?_
 refine AtL.add (z:=0 + (l0.length:Int)) zg0 Z Z Z (w64 (by omega) (by omega))<|AtL.assign zg0 Z Z<|AtL.done<|zc<|za<|zb zg0 Z Z ?_
 refine zA zg0 Z Z Z<|AtL.done ?_
 refine zU false Z (decide_eq_false (by omega))<|zj<|zp<|za ?_
 refine AtL.add (z:=1) zg0 Z Z Z (by decide)<|zb zg0 Z Z<|AtL.done<|zaN<|zc<|za ?_
 refine zA zg0 Z Z Z<|AtL.done<|zc<|zX Z<|zj<|zc ?_
 refine At.block<|zc<|za<|za6 1 Tryz.underlying22 zaA zg0 Z Z Z Z Z Z<|zh zE zg0 Z Z (Cell.own 0 0 Z Z Z)<|AtL.assign zg0 Z Z ?_
 refine AtL.done<|zc<|za<|zb zg0 Z Z<|zb zg0 Z Z<|zC Tryz.underlying34 zg0 Z Z ?_
 refine AtL.add (z:=(0 + (l0.length:Int)) + (l1.length:Int)) zg0 Z Z Z (w64 (by omega) (by omega))<|AtL.assign zg0 Z Z<|AtL.done<|zc<|za<|zb zg0 Z Z ?_
 refine zA zg0 Z Z Z<|AtL.done ?_
 refine zU false Z (decide_eq_false (by omega))<|zj<|zp<|za ?_
 refine AtL.add (z:=2) zg0 Z Z Z (by decide)<|zb zg0 Z Z<|AtL.done<|zaN<|zc<|za ?_
 refine zA zg0 Z Z Z<|AtL.done<|zc<|zX Z<|zj<|zc ?_
 refine At.block<|zc<|za<|za6 2 Tryz.underlying22 zaA zg0 Z Z Z Z Z Z<|zh zE zg0 Z Z (Cell.own 0 0 Z Z Z)<|AtL.assign zg0 Z Z ?_
 refine AtL.done<|zc<|za<|zb zg0 Z Z<|zb zg0 Z Z<|zC Tryz.underlying34 zg0 Z Z ?_
 refine AtL.add (z:=((0 + (l0.length:Int)) + (l1.length:Int)) + (l2.length:Int)) zg0 Z Z Z (w64 (by omega) (by omega))<|AtL.assign zg0 Z Z<|AtL.done<|zc<|za<|zb zg0 Z Z ?_
 refine zA zg0 Z Z Z<|AtL.done ?_
 refine zU false Z (decide_eq_false (by omega))<|zj<|zp<|za ?_
 refine AtL.add (z:=3) zg0 Z Z Z (by decide)<|zb zg0 Z Z<|AtL.done<|zaN<|zc<|za ?_
 refine zA zg0 Z Z Z<|AtL.done<|zc<|zB Z<|zau Z<|zc ?_
 refine za<|zb zg0 Z Z ?_
 refine zk zjo zg0 Z Z (grow_ok (((0 + l0.length) + l1.length) + l2.length) (by omega)) ?_
 rintro _ _ ⟨A1,C2,s3,o4,rfl,rfl⟩
 refine AtL.assign zg0 Z Z<|AtL.done<|zc<|zc<|za<|zb zg0 Z Z ?_
 refine zC Tryz.underlying22 zg0 Z Z<|zb zg0 Z Z<|AtL.done<|At.block<|zbp<|zc ?_
 refine za<|zA zg0 Z Z Z<|AtL.done<|zc<|zX Z<|zj ?_
 refine zc<|At.block<|zc<|za<|za6 0 Tryz.underlying22 zaA zg0 Z Z Z Z Z Z<|zh zE zg0 Z Z (Cell.own 1 0 Z Z Z) ?_
 refine AtL.assign zg0 Z Z<|AtL.done<|za<|zb zg0 Z Z<|zb zg0 Z Z ?_
 refine zam (l:=([]:List UInt8)) (news:=l0) 0 zbq Z o4 (Rd.skip 2 h0) (by first | omega | (simp only [List.length_append,List.length_cons,List.length_nil]; omega) | (simp; done) | (simp; omega)) zg0 Z Z Z ?_
 intro A5 C6 s7 o8
 refine AtL.assign zg0 Z Z<|AtL.done<|zp<|za ?_
 refine AtL.add (z:=1) zg0 Z Z Z (by decide)<|zb zg0 Z Z<|AtL.done<|zaN<|zc<|za ?_
 refine zA zg0 Z Z Z<|AtL.done<|zc<|zX Z<|zj<|zc ?_
 refine At.block<|zc<|za<|za6 1 Tryz.underlying22 zaA zg0 Z Z Z Z Z Z<|zh zE zg0 Z Z (Cell.own 1 0 Z Z Z)<|AtL.assign zg0 Z Z ?_
 refine AtL.done<|za<|zb zg0 Z Z<|zb zg0 Z Z ?_
 refine zam (l:=([]:List UInt8)++l0) (news:=l1) 0 zbq Z o8 (Rd.skip 2 h1) (by first | omega | (simp only [List.length_append,List.length_cons,List.length_nil]; omega) | (simp; done) | (simp; omega)) zg0 Z Z Z ?_
 intro A9 C10 s11 o12
 refine AtL.assign zg0 Z Z<|AtL.done<|zp<|za ?_
 refine AtL.add (z:=2) zg0 Z Z Z (by decide)<|zb zg0 Z Z<|AtL.done<|zaN<|zc<|za ?_
 refine zA zg0 Z Z Z<|AtL.done<|zc<|zX Z<|zj<|zc ?_
 refine At.block<|zc<|za<|za6 2 Tryz.underlying22 zaA zg0 Z Z Z Z Z Z<|zh zE zg0 Z Z (Cell.own 1 0 Z Z Z)<|AtL.assign zg0 Z Z ?_
 refine AtL.done<|za<|zb zg0 Z Z<|zb zg0 Z Z ?_
 refine zam (l:=(([]:List UInt8)++l0)++l1) (news:=l2) 0 zbq Z o12 (Rd.skip 2 h2) (by first | omega | (simp only [List.length_append,List.length_cons,List.length_nil]; omega) | (simp; done) | (simp; omega)) zg0 Z Z Z ?_
 intro A13 C14 s15 o16
 refine AtL.assign zg0 Z Z<|AtL.done<|zp<|za ?_
 refine AtL.add (z:=3) zg0 Z Z Z (by decide)<|zb zg0 Z Z<|AtL.done<|zaN<|zc<|za ?_
 refine zA zg0 Z Z Z<|AtL.done<|zc<|zB Z<|zau Z<|zc ?_
 refine za<|zb zg0 Z Z<|AtL.assign zg0 Z Z<|AtL.done ?_
 exact zt Tryz.func44 Z Z (⟨_,_,_,o16,Z,Z⟩)
theorem rgrow_ok {w0:World}{base:Nat}{H:List Seg}(n:Nat) (hn:n≤140737488355328) :
  SCalls Tryz.prog 204 [.slice none 0 0,V (n:Int)] w0 base (H) (fun v H' => ∃ A' C' s',Own tyB 5 A' C' [] s'∧v = .slice A' 0 C'∧H' = s'::H):=by
 refine SCalls.of_walk (n:=27) Tryz.func204 Z Z Z fun cs => ?_
 refine zc<|za<|AtL.assign zg0 Z Z<|AtL.done<|zc<|zc ?_
 refine za<|zb zg0 Z Z<|zA zg0 Z Z Z<|AtL.done ?_
 refine zU false Z (decide_eq_false (by omega))<|zj<|zc<|zc<|za<|zb zg0 Z Z ?_
 refine zb zg0 Z Z<|zc1 Tryz.underlying85 zg0 Z Z<|zb zg0 Z Z<|zC Tryz.underlying85 zg0 Z Z ?_
 refine AtL.sub (z:=0) zg0 Z Z Z (by decide) ?_
 refine AtL.sub (z:=(n:Int)) zg0 Z Z Z (w64 (by omega) (by omega))<|AtL.assign zg0 Z Z<|AtL.done<|zc<|za<|zb zg0 Z Z ?_
 refine zai zg0 Z Z Z<|AtL.done<|zq Z ?_ ?_
 ·intro hc2
  refine za<|zb zg0 Z Z<|zb zg0 Z Z<|zc1 Tryz.underlying85 zg0 Z Z<|zge Z (zI Z Z) Tryz.underlying85 zQ zg0 Z Z<|zb zg0 Z Z ?_
  refine AtL.nil ?_
  refine zdZ (l:=([]:List UInt8)) (m:=n) 0 zkz Tryz.underlying3 Z (Own.nil tyB 5) (by decide) (by omega) (by first | omega | (simp only [List.length_append,List.length_cons,List.length_nil]; omega) | (simp; done) | (simp; omega)) (by first | omega | (simp only [List.length_append,List.length_cons,List.length_nil]; omega) | (simp; done) | (simp; omega)) zg0 Z Z Z ?_
  intro A1 C2 s3 o4
  refine zb zg0 Z Z<|zC Tryz.underlying85 zg0 Z Z ?_
  have hleo7:=zab o4
  refine zbN 0 0 C2 o4 Z (zI Z Z) Z (by intro h; cases h) (by omega) (by omega) (by omega) (Nat.le_refl _) Tryz.underlying85 zQ zg0 Z Z ?_
  intro A5 C6 o7
  clear hleo7
  have hlo7:(subl (([]:List UInt8)++List.replicate n (0:UInt8)) 0 0).length=0 - 0:=zP (by omega)
  refine AtL.assign zg0 Z Z<|AtL.done<|zc<|za<|zb zg0 Z Z<|AtL.assign zg0 Z Z ?_
  refine AtL.done ?_
  exact zt Tryz.func204 Z Z (⟨_,_,_,o7,Z,Z⟩)
 ·intro hc2
  refine zj<|zc<|za<|zb zg0 Z Z<|AtL.assign zg0 Z Z<|AtL.done ?_
  refine At.nil ?_
  exact zt Tryz.func204 Z Z (⟨none,0,[],Own.nil tyB 5,Z,Z⟩)
set_option maxHeartbeats 1000000 in
theorem rconcat2 {w0:World}{base:Nat}{H:List Seg}{b:Nat}{A0:Option Addr}{C0:Nat}{l0:List UInt8}(h0:Rd tyB w0 base H A0 C0 l0) {A1:Option Addr}{C1:Nat}{l1:List UInt8}(h1:Rd tyB w0 base H A1 C1 l1) (hl:l0.length + l1.length≤140737488355328) :
  SCalls Tryz.prog 200 [.slice (some ⟨b,0,none⟩) 2 2] w0 base ([(b,.cells #[.slice A0 l0.length C0,.slice A1 l1.length C1] 85 (0,0))]::H) (fun v H' => ∃ A' C' s',Own tyB 5 A' C' (l0++l1) s'∧v = .slice A' (l0++l1).length C'∧H' = s'::[(b,.cells #[.slice A0 l0.length C0,.slice A1 l1.length C1] 85 (0,0))]::H):=by
 refine SCalls.of_walk (n:=36) Tryz.func200 Z Z Z fun cs => ?_
 refine zc<|za<|AtL.assign zg0 Z Z<|AtL.done<|zc<|za ?_
 refine AtL.assign zg0 Z Z<|AtL.done<|zc<|zc<|za<|zb zg0 Z Z ?_
 refine zC Tryz.underlying278 zg0 Z Z<|zb zg0 Z Z<|AtL.done<|At.block<|zbp<|zc ?_
 refine za<|zA zg0 Z Z Z<|AtL.done<|zc<|zX Z<|zj ?_
 refine zc<|At.block<|zc<|za<|za6 0 Tryz.underlying278 zdO zg0 Z Z Z Z Z Z<|zh zbz zg0 Z Z (Cell.own 0 0 Z Z Z) ?_
 refine AtL.assign zg0 Z Z<|AtL.done<|zc<|za<|zb zg0 Z Z<|zb zg0 Z Z ?_
 refine zC Tryz.underlying85 zg0 Z Z ?_
 refine AtL.add (z:=0 + (l0.length:Int)) zg0 Z Z Z (w64 (by omega) (by omega))<|AtL.assign zg0 Z Z<|AtL.done<|zc<|za<|zb zg0 Z Z ?_
 refine zA zg0 Z Z Z<|AtL.done ?_
 refine zU false Z (decide_eq_false (by omega))<|zj<|zp<|za ?_
 refine AtL.add (z:=1) zg0 Z Z Z (by decide)<|zb zg0 Z Z<|AtL.done<|zaN<|zc<|za ?_
 refine zA zg0 Z Z Z<|AtL.done<|zc<|zX Z<|zj<|zc ?_
 refine At.block<|zc<|za<|za6 1 Tryz.underlying278 zdO zg0 Z Z Z Z Z Z<|zh zbz zg0 Z Z (Cell.own 0 0 Z Z Z)<|AtL.assign zg0 Z Z ?_
 refine AtL.done<|zc<|za<|zb zg0 Z Z<|zb zg0 Z Z<|zC Tryz.underlying85 zg0 Z Z ?_
 refine AtL.add (z:=(0 + (l0.length:Int)) + (l1.length:Int)) zg0 Z Z Z (w64 (by omega) (by omega))<|AtL.assign zg0 Z Z<|AtL.done<|zc<|za<|zb zg0 Z Z ?_
 refine zA zg0 Z Z Z<|AtL.done ?_
 refine zU false Z (decide_eq_false (by omega))<|zj<|zp<|za ?_
 refine AtL.add (z:=2) zg0 Z Z Z (by decide)<|zb zg0 Z Z<|AtL.done<|zaN<|zc<|za ?_
 refine zA zg0 Z Z Z<|AtL.done<|zc<|zB Z<|zau Z<|zc ?_
 refine za<|zb zg0 Z Z ?_
 refine zk tf_body204 zg0 Z Z (rgrow_ok ((0 + l0.length) + l1.length) (by omega)) ?_
 rintro _ _ ⟨A1,C2,s3,o4,rfl,rfl⟩
 refine AtL.assign zg0 Z Z<|AtL.done<|zc<|zc<|za<|zb zg0 Z Z ?_
 refine zC Tryz.underlying278 zg0 Z Z<|zb zg0 Z Z<|AtL.done<|At.block<|zbp<|zc ?_
 refine za<|zA zg0 Z Z Z<|AtL.done<|zc<|zX Z<|zj ?_
 refine zc<|At.block<|zc<|za<|za6 0 Tryz.underlying278 zdO zg0 Z Z Z Z Z Z<|zh zbz zg0 Z Z (Cell.own 1 0 Z Z Z) ?_
 refine AtL.assign zg0 Z Z<|AtL.done<|za<|zb zg0 Z Z<|zb zg0 Z Z ?_
 refine zam (l:=([]:List UInt8)) (news:=l0) 0 zkz Z o4 (Rd.skip 2 h0) (by first | omega | (simp only [List.length_append,List.length_cons,List.length_nil]; omega) | (simp; done) | (simp; omega)) zg0 Z Z Z ?_
 intro A5 C6 s7 o8
 refine AtL.assign zg0 Z Z<|AtL.done<|zp<|za ?_
 refine AtL.add (z:=1) zg0 Z Z Z (by decide)<|zb zg0 Z Z<|AtL.done<|zaN<|zc<|za ?_
 refine zA zg0 Z Z Z<|AtL.done<|zc<|zX Z<|zj<|zc ?_
 refine At.block<|zc<|za<|za6 1 Tryz.underlying278 zdO zg0 Z Z Z Z Z Z<|zh zbz zg0 Z Z (Cell.own 1 0 Z Z Z)<|AtL.assign zg0 Z Z ?_
 refine AtL.done<|za<|zb zg0 Z Z<|zb zg0 Z Z ?_
 refine zam (l:=([]:List UInt8)++l0) (news:=l1) 0 zkz Z o8 (Rd.skip 2 h1) (by first | omega | (simp only [List.length_append,List.length_cons,List.length_nil]; omega) | (simp; done) | (simp; omega)) zg0 Z Z Z ?_
 intro A9 C10 s11 o12
 refine AtL.assign zg0 Z Z<|AtL.done<|zp<|za ?_
 refine AtL.add (z:=2) zg0 Z Z Z (by decide)<|zb zg0 Z Z<|AtL.done<|zaN<|zc<|za ?_
 refine zA zg0 Z Z Z<|AtL.done<|zc<|zB Z<|zau Z<|zc ?_
 refine za<|zb zg0 Z Z<|AtL.assign zg0 Z Z<|AtL.done ?_
 exact zt Tryz.func200 Z Z (⟨_,_,_,o12,Z,Z⟩)
set_option maxRecDepth 100000
theorem at1_ret {w0:World}{base:Nat}{H:List Seg}{b:Nat}{x:Value} :
  DCalls Tryz.prog 212 [B b] w0 base ([(b,.cells #[x] 26 (0,0))]::H) .returning (fun m' H' => m' = .returning∧H' = [(b,.cells #[x] 26 (0,0))]::H):=by
 refine DCalls.of_walk (n:=14) Tryz.func212 Z Z Z fun fr cs => ?_
 refine zc<|za<|zew Z<|AtL.assign zg0 Z Z<|AtL.done<|zc ?_
 refine zc<|za<|zb zg0 Z Z<|zeT (u:=.tuple #[.nilIface,.bool false]) zg0 Z Z (fun w => by kernel_rfl)<|zb zg0 Z Z<|AtL.extract zg0 Z Z Z ?_
 refine AtL.extract zg0 Z Z Z<|AtL.assign zg0 Z Z<|AtL.assign zg0 Z Z<|AtL.done<|zc<|za ?_
 refine zb zg0 Z Z<|AtL.done<|zB Z<|zj<|zc<|za ?_
 refine zb zg0 Z Z<|zeU Tryz.underlying20 zg0 Z Z<|AtL.done<|zB Z<|zj<|zf2 Z ?_
 exact zdV (vs:=[]) Tryz.func212 Z trivial (⟨Z,Z⟩)
theorem at1_bad {w0:World}{base:Nat}{H:List Seg}{b:Nat}{x:Value}(i m:Int) (s:Bool) :
  DCalls Tryz.prog 212 [B b] w0 base ([(b,.cells #[x] 26 (0,0))]::H) (.panicking [{ v:=.iface Tryz.prog.rt.boundsError (.agg #[V i,V m,.bool s,.int .u8 0]),recovered:=false }]) (fun m' H' => m' = .returning∧H' = [(b,.cells #[int 4] 26 (0,0))]::H):=by
 refine DCalls.of_walk (n:=14) Tryz.func212 Z Z Z fun fr cs => ?_
 refine zc<|za<|zhi Z<|AtL.assign zg0 Z Z<|AtL.done<|zc ?_
 refine zc<|za<|zb zg0 Z Z<|zeT (u:=.tuple #[.iface Tryz.prog.rt.boundsError (.agg #[V i,V m,.bool s,.int .u8 0]),.bool true]) zg0 Z Z (fun w => by kernel_rfl)<|zb zg0 Z Z<|AtL.extract zg0 Z Z Z ?_
 refine AtL.extract zg0 Z Z Z<|AtL.assign zg0 Z Z<|AtL.assign zg0 Z Z<|AtL.done<|zc<|za ?_
 refine zb zg0 Z Z<|AtL.done<|zX Z<|zc<|za<|zr (H':=[(b,.cells #[V 4] 26 (0,0))]::H) 0 0 zil zg0 Z Z Z Z Z Z Z Z Z ?_
 refine AtL.done<|zaJ Z ?_
 exact zdV (vs:=[]) Tryz.func212 Z trivial (⟨Z,Z⟩)
def atF (l:List UInt8) (i:Int):UInt8×Int:=if 0≤i∧i < (l.length:Int) then (l.getD i.toNat 0,0) else (0,4)
theorem at_ok {w0:World}{base:Nat}{H:List Seg}{A:Option Addr}{C:Nat}{l:List UInt8}(h:Rd tyB w0 base H A C l) (i:Int) :
  SCalls Tryz.prog 211 [.slice A l.length C,V i] w0 base (H) (fun v H' => v = .tuple #[.int .u8 (atF l i).1.toNat,int (atF l i).2]∧H' = H):=by
 refine SCalls.of_walk (n:=11) Tryz.func211 Z Z Z fun cs => ?_
 refine zc<|za<|AtL.assign zg0 Z Z<|AtL.alloc tf_zero26 (cs:=#[V 0]) Z zg0 Z ?_
 intro b1
 refine AtL.done<|zc<|za<|zbD zg0 Z Z Z<|zb4 Z zg0 Z Z Z<|AtL.done ?_
 refine zc<|za<|zb zg0 Z Z<|zb zg0 Z Z ?_
 rcases Classical.em (0≤i∧i < (l.length:Int)) with hin | hin
 ·obtain ⟨j,hj⟩:∃ j:Nat,i=(j:Int):=⟨(i).toNat,by omega⟩
  refine zF j (Rd.skip 1 h) Tryz.underlying34 zQ zg0 Z Z Z hj (by omega) ?_
  refine zh (v:=.int .u8 ((l.getD j 0).toNat:Int)) zS zg0 Z Z (zH (Rd.skip 1 h) (zz 0 (by omega)) Z)<|AtL.assign zg0 Z Z<|zr (H':=[(b1,.cells #[V 0] 26 (0,0))]::H) 0 0 zil zg0 Z Z Z Z Z Z Z Z Z<|AtL.done<|zaJ Z<|zaH zhR Z Z at1_ret ?_
  rintro _ _ ⟨rfl,rfl⟩
  exact zap (vs:=[.int .u8 ((l.getD j 0).toNat:Int),V 0]) [] 1 Z Z Tryz.func211 Z ⟨Z,⟨_,Z,LoadsTo.flat zdB (Cell.own 0 0 Z Z Z)⟩,trivial⟩ (⟨by subst hj; rw [atF,if_pos hin]; rfl,Z⟩)
 ·refine zhm Tryz.underlying34 zg0 Z Z (by omega) ?_
  intro m s
  refine zaH zhR Z Z (at1_bad _ _ _) ?_
  rintro _ _ ⟨rfl,rfl⟩
  exact zap (vs:=[.int .u8 0,V 4]) [] 1 Z Z Tryz.func211 Z ⟨Z,⟨_,Z,LoadsTo.flat zdB (Cell.own 0 0 Z Z Z)⟩,trivial⟩ (⟨by rw [atF,if_neg hin]; rfl,Z⟩)
def za9 (l:List UInt8) (i:Nat):Int×Int×Int×Int :=
 if l.length < i + 2 then (0,0,if l.length < i then 5 else 4,if l.length < i then 0 else l.length) else (256 * (l.getD i 0).toNat + (l.getD (i + 1) 0).toNat,i + 2,0,0)
theorem get2_ok {w0:World}{base:Nat}{H:List Seg}{A:Option Addr}{C:Nat}{l:List UInt8}(h:Rd tyB w0 base H A C l) (i:Nat) (hi:i≤4611686018427387904) (hl:l.length≤4611686018427387904) :
  SCalls Tryz.prog 210 [.slice A l.length C,V (i:Int),V 2] w0 base (H) (fun v H' => v = .tuple #[int (za9 l i).1,int (za9 l i).2.1,.agg #[int (za9 l i).2.2.1,int (za9 l i).2.2.2]]∧H' = H):=by
 refine SCalls.of_walk (n:=51) Tryz.func210 Z Z Z fun cs => ?_
 refine zc<|za<|AtL.assign zg0 Z Z<|AtL.assign zg0 Z Z<|AtL.alloc zfM (cs:=#[V 0,V 0]) Z zg0 Z ?_
 intro b1
 refine AtL.done<|zc<|zc<|za<|zb zg0 Z Z<|zA zg0 Z Z Z ?_
 refine zb zg0 Z Z<|zy 5 (E':=[(20,.bool (decide ((l.length:Int) < (i:Int)))),(0,.slice A l.length C),(1,V (i:Int)),(2,V 2),(8,B b1)]) (fun J => ?_) ?_
 ·refine zD (t:=15) Z ?_ ?_
  ·intro hs15
   exact absurd hs15 (by omega)
  ·intro hs15
   refine zb (.inr ⟨_,_,_,Z,Z,Z,Z⟩) Z Z<|zb (.inr ⟨_,_,_,Z,Z,Z,Z⟩) Z Z<|zC Tryz.underlying34 (.inr ⟨_,_,_,Z,Z,Z,Z⟩) Z Z<|zai (.inr ⟨_,_,_,Z,Z,Z,Z⟩) Z Z Z<|zm zg0 Z Z Z ?_
   exact J _ (by exact ⟨(zw (by clear J; first | (simp [hs15]; done) | (simp_all; done) | grind)),Z,Z,Z,Z,trivial⟩)
 ·refine AtL.done<|zq Z ?_ ?_
  ·intro hc1
   refine zc<|za<|zaE (cs:=[V 5,V 0]) ze7 zg0 Z Z Z<|AtL.assign zg0 Z Z<|AtL.assign zg0 Z Z<|zr (H':=[(b1,.cells #[V 5,V 0] 284 (0,0))]::H) 0 0 zeB zg0 Z Z Z Z Z Z Z Z Z ?_
   refine AtL.done ?_
   exact zaZ (vs:=[V 0,V 0,.agg #[V 5,V 0]]) [] 1 Z Z Tryz.func210 Z ⟨Z,Z,⟨_,Z,LoadsTo.agg (cs:=[V 5,V 0]) zea Z (zad 0 0 0 Z Z Z)⟩,trivial⟩ (⟨by grind [zbr,za9,atF],Z⟩)
  ·intro hc1
   refine zj<|zc<|za<|AtL.assign zg0 Z Z<|AtL.done<|zc ?_
   refine zc<|za<|zb zg0 Z Z<|zb zg0 Z Z<|AtL.done<|At.block ?_
   refine zbp<|zc<|za<|zA zg0 Z Z Z<|AtL.done<|zc ?_
   refine zX Z<|zj<|zc<|At.block<|zc<|za ?_
   refine zb zg0 Z Z<|AtL.assign zg0 Z Z<|AtL.done<|zc<|za<|zb zg0 Z Z ?_
   refine zb zg0 Z Z<|zb zg0 Z Z ?_
   refine AtL.add (z:=(i:Int) + 0) zg0 Z Z Z (w64 (by omega) (by omega))<|zk zhS zg0 Z Z (at_ok (l:=l) (Rd.skip 1 h) ((i:Int) + 0)) ?_
   rintro _ _ ⟨rfl,rfl⟩
   refine zb zg0 Z Z<|AtL.extract zg0 Z Z Z<|AtL.extract zg0 Z Z Z<|AtL.assign zg0 Z Z<|AtL.assign zg0 Z Z<|AtL.done ?_
   have hB0:=(atF l (((i:Nat):Int) + 0)).1.toNat_lt
   refine zc<|zc<|za<|zb zg0 Z Z<|zT zg0 Z Z Z<|AtL.done ?_
   refine zae Z ?_ ?_
   ·intro hc3
    have hc3:¬ (((atF l ((i:Int) + 0)).2)=0):=of_decide_eq_false (zO hc3)
    refine zc<|za<|zb zg0 Z Z<|zb zg0 Z Z<|zC Tryz.underlying34 zg0 Z Z<|zaE (cs:=[V ((atF l ((i:Int) + 0)).2),V (l.length:Int)]) ze7 zg0 Z Z Z ?_
    refine AtL.assign zg0 Z Z<|AtL.assign zg0 Z Z<|zr (H':=[(b1,.cells #[V ((atF l ((i:Int) + 0)).2),V (l.length:Int)] 284 (0,0))]::H) 0 0 zeB zg0 Z Z Z Z Z Z Z Z Z<|AtL.done ?_
    exact zaZ (vs:=[V 0,V 0,.agg #[V ((atF l ((i:Int) + 0)).2),V (l.length:Int)]]) [] 1 Z Z Tryz.func210 Z ⟨Z,Z,⟨_,Z,LoadsTo.agg (cs:=[V ((atF l ((i:Int) + 0)).2),V (l.length:Int)]) zea Z (zad 0 0 0 Z Z Z)⟩,trivial⟩ (⟨by grind [zbr,za9,atF],Z⟩)
   ·intro hc3
    have hc3:((atF l ((i:Int) + 0)).2)=0:=of_decide_eq_true (zJ hc3)
    refine zj<|za<|zb zg0 Z Z ?_
    refine zbG (z:=0 * 256) zg0 Z Z Z (by omega) (shl_eq _ _ 8 Z (by decide) _ (by decide) (by omega) (by omega))<|zb zg0 Z Z ?_
    have hB2:=zbv (((atF l ((i:Int) + 0)).1))
    refine zN (z:=((atF l ((i:Int) + 0)).1.toNat:Int)) Tryz.underlying5 Tryz.underlying3 zg0 Z Z (zgv _) ?_
    refine zbH (z:=(0 * 256) + ((atF l ((i:Int) + 0)).1.toNat:Int)) zg0 Z Z Z (or_add 8 (Int.toNat 0) _ (by omega) Z (by omega) (by omega))<|AtL.assign zg0 Z Z<|AtL.done<|zp<|za ?_
    refine AtL.add (z:=1) zg0 Z Z Z (by decide)<|zb zg0 Z Z<|AtL.done<|zaN<|zc<|za ?_
    refine zA zg0 Z Z Z<|AtL.done<|zc<|zX Z<|zj<|zc ?_
    refine At.block<|zc<|za<|zb zg0 Z Z<|AtL.assign zg0 Z Z<|AtL.done ?_
    refine zc<|za<|zb zg0 Z Z<|zb zg0 Z Z<|zb zg0 Z Z ?_
    refine AtL.add (z:=(i:Int) + 1) zg0 Z Z Z (w64 (by omega) (by omega))<|zk zhS zg0 Z Z (at_ok (l:=l) (Rd.skip 1 h) ((i:Int) + 1)) ?_
    rintro _ _ ⟨rfl,rfl⟩
    refine zb zg0 Z Z<|AtL.extract zg0 Z Z Z<|AtL.extract zg0 Z Z Z<|AtL.assign zg0 Z Z<|AtL.assign zg0 Z Z<|AtL.done ?_
    have hB1:=(atF l (((i:Nat):Int) + 1)).1.toNat_lt
    refine zc<|zc<|za<|zb zg0 Z Z<|zT zg0 Z Z Z<|AtL.done ?_
    refine zae Z ?_ ?_
    ·intro hc3
     have hc3:¬ (((atF l ((i:Int) + 1)).2)=0):=of_decide_eq_false (zO hc3)
     refine zc<|za<|zb zg0 Z Z<|zb zg0 Z Z<|zC Tryz.underlying34 zg0 Z Z<|zaE (cs:=[V ((atF l ((i:Int) + 1)).2),V (l.length:Int)]) ze7 zg0 Z Z Z ?_
     refine AtL.assign zg0 Z Z<|AtL.assign zg0 Z Z<|zr (H':=[(b1,.cells #[V ((atF l ((i:Int) + 1)).2),V (l.length:Int)] 284 (0,0))]::H) 0 0 zeB zg0 Z Z Z Z Z Z Z Z Z<|AtL.done ?_
     exact zaZ (vs:=[V 0,V 0,.agg #[V ((atF l ((i:Int) + 1)).2),V (l.length:Int)]]) [] 1 Z Z Tryz.func210 Z ⟨Z,Z,⟨_,Z,LoadsTo.agg (cs:=[V ((atF l ((i:Int) + 1)).2),V (l.length:Int)]) zea Z (zad 0 0 0 Z Z Z)⟩,trivial⟩ (⟨by grind [zbr,za9,atF],Z⟩)
    ·intro hc3
     have hc3:((atF l ((i:Int) + 1)).2)=0:=of_decide_eq_true (zJ hc3)
     refine zj<|za<|zb zg0 Z Z ?_
     refine zbG (z:=((0 * 256) + ((atF l ((i:Int) + 0)).1.toNat:Int)) * 256) zg0 Z Z Z (by omega) (shl_eq _ _ 8 Z (by decide) _ (by decide) (by omega) (by omega))<|zb zg0 Z Z ?_
     have hB3:=zbv (((atF l ((i:Int) + 1)).1))
     refine zN (z:=((atF l ((i:Int) + 1)).1.toNat:Int)) Tryz.underlying5 Tryz.underlying3 zg0 Z Z (zgv _) ?_
     refine zbH (z:=(((0 * 256) + ((atF l ((i:Int) + 0)).1.toNat:Int)) * 256) + ((atF l ((i:Int) + 1)).1.toNat:Int)) zg0 Z Z Z (or_add 8 (Int.toNat ((0 * 256) + ((atF l ((i:Int) + 0)).1.toNat:Int))) _ (by omega) Z (by omega) (by omega))<|AtL.assign zg0 Z Z<|AtL.done<|zp<|za ?_
     refine AtL.add (z:=2) zg0 Z Z Z (by decide)<|zb zg0 Z Z<|AtL.done<|zaN<|zc<|za ?_
     refine zA zg0 Z Z Z<|AtL.done<|zc<|zB Z<|zau Z<|zc ?_
     refine za<|zb zg0 Z Z<|zb zg0 Z Z<|zb zg0 Z Z ?_
     refine AtL.add (z:=(i:Int) + 2) zg0 Z Z Z (w64 (by omega) (by omega))<|zaE (cs:=[V 0,V 0]) ze7 zg0 Z Z Z<|AtL.assign zg0 Z Z<|AtL.assign zg0 Z Z<|zr (H':=[(b1,.cells #[V 0,V 0] 284 (0,0))]::H) 0 0 zeB zg0 Z Z Z Z Z Z Z Z Z<|AtL.done ?_
     exact zaZ (vs:=[V ((((0 * 256) + ((atF l ((i:Int) + 0)).1.toNat:Int)) * 256) + ((atF l ((i:Int) + 1)).1.toNat:Int)),V ((i:Int) + 2),.agg #[V 0,V 0]]) [] 1 Z Z Tryz.func210 Z ⟨Z,Z,⟨_,Z,LoadsTo.agg (cs:=[V 0,V 0]) zea Z (zad 0 0 0 Z Z Z)⟩,trivial⟩ (⟨by grind [zbr,za9,atF],Z⟩)
theorem get16_ok {w0:World}{base:Nat}{H:List Seg}{A:Option Addr}{C:Nat}{l:List UInt8}(h:Rd tyB w0 base H A C l) (i:Nat) (hi:i≤4611686018427387904) (hl:l.length≤4611686018427387904) :
  SCalls Tryz.prog 209 [.slice A l.length C,V (i:Int)] w0 base (H) (fun v H' => v = .tuple #[int (za9 l i).1,int (za9 l i).2.1,.agg #[int (za9 l i).2.2.1,int (za9 l i).2.2.2]]∧H' = H):=by
 refine SCalls.of_walk (n:=13) Tryz.func209 Z Z Z fun cs => ?_
 refine zc<|za<|AtL.assign zg0 Z Z<|AtL.assign zg0 Z Z<|AtL.alloc zfM (cs:=#[V 0,V 0]) Z zg0 Z ?_
 intro b1
 refine AtL.done<|zc<|za<|zb zg0 Z Z<|zb zg0 Z Z ?_
 refine zk tf_body210 zg0 Z Z (get2_ok (l:=l) (Rd.skip 1 h) i (by omega) (by omega)) ?_
 rintro _ _ ⟨rfl,rfl⟩
 refine AtL.extract zg0 Z Z Z<|AtL.extract zg0 Z Z Z<|AtL.extract zg0 Z Z Z<|AtL.assign zg0 Z Z<|AtL.assign zg0 Z Z<|zr (H':=[(b1,.cells #[V ((za9 l i).2.2.1),V ((za9 l i).2.2.2)] 284 (0,0))]::H) 0 0 zeB zg0 Z Z Z Z Z Z Z Z Z ?_
 refine AtL.done ?_
 exact zaZ (vs:=[V ((za9 l i).1),V ((za9 l i).2.1),.agg #[V ((za9 l i).2.2.1),V ((za9 l i).2.2.2)]]) [] 1 Z Z Tryz.func209 Z ⟨Z,Z,⟨_,Z,LoadsTo.agg (cs:=[V ((za9 l i).2.2.1),V ((za9 l i).2.2.2)]) zea Z (zad 0 0 0 Z Z Z)⟩,trivial⟩ (⟨Z,Z⟩)
set_option maxRecDepth 100000
def recB (k:Int) (l:List UInt8):List UInt8:=[UInt8.ofInt k]++[UInt8.ofInt ((l.length:Int) / 256),UInt8.ofInt (l.length:Int)]++l
def recE (k:Int) (l:List UInt8):Int:=if k < 1∨3 < k∨(k=1∧l≠[1])∨(k=3∧0 < l.length) then 4 else if 1024 < l.length then 3 else 0
def recL (k:Int) (l:List UInt8):List UInt8:=if recE k l=0 then recB k l else []
theorem recL_data (l:List UInt8) (h:l.length≤1024):recL 2 l=recB 2 l:=by
 rw [recL,if_pos]
 rw [recE,if_neg (by omega),if_neg (by omega)]
theorem recL_hello:recL 1 [1]=[1,0,1,1]:=by decide
theorem recL_close:recL 3 []=[3,0,0]:=by decide
structure OneR where
  e:Int
  n:Nat
  x:List UInt8
  h:Bool
  off:Bool
def oneF (h:Bool) (l:List UInt8):OneR :=
 if l.length=0 then ⟨0,0,[],h,false⟩ else
 if (l.getD 0 0).toNat < 1∨3 < (l.getD 0 0).toNat∨decide (((l.getD 0 0).toNat:Int)=1)=h then ⟨4,0,[],h,false⟩ else
 if l.length < 3 then ⟨0,0,[],h,false⟩ else
 if ((l.getD 0 0).toNat=1∧256 * (l.getD 1 0).toNat + (l.getD 2 0).toNat≠1)∨((l.getD 0 0).toNat=3∧256 * (l.getD 1 0).toNat + (l.getD 2 0).toNat≠0) then ⟨4,0,[],h,false⟩ else
 if 1024 < 256 * (l.getD 1 0).toNat + (l.getD 2 0).toNat then ⟨3,0,[],h,false⟩ else
 if l.length < 3 + (256 * (l.getD 1 0).toNat + (l.getD 2 0).toNat) then ⟨0,0,[],h,false⟩ else
 if (l.getD 0 0).toNat=1 then (if (l.getD 3 0).toNat=1 then ⟨0,4,[],true,false⟩ else ⟨4,0,[],h,false⟩) else
 if (l.getD 0 0).toNat=3 then ⟨0,3,[],h,true⟩ else
 ⟨0,3 + (256 * (l.getD 1 0).toNat + (l.getD 2 0).toNat),subl l 3 (3 + (256 * (l.getD 1 0).toNat + (l.getD 2 0).toNat)),h,false⟩
theorem oneF_n (h:Bool) (l:List UInt8):(oneF h l).n≤l.length∧((oneF h l).n≠0→0 < l.length)∧((oneF h l).n=0→(oneF h l).x=[])∧(oneF h l).x.length≤(oneF h l).n:=by
 unfold oneF
 repeat' split
 all_goals simp [subl]
 all_goals grind
theorem zdI (l:List UInt8) (n:Nat):subl l n l.length=l.drop n:=by
 unfold subl
 rw [List.take_of_length_le (by simp)]
structure PushR where
  out:List UInt8
  e:Int
  rest:List UInt8
  h:Bool
  off:Bool
def zda (h:Bool) (l:List UInt8):PushR :=
 if (oneF h l).e≠0 then ⟨[],(oneF h l).e,[],h,false⟩
 else if (oneF h l).off then ⟨(oneF h l).x,0,[],(oneF h l).h,true⟩
 else if hn:(oneF h l).n=0 then ⟨[],0,l,(oneF h l).h,false⟩
 else ⟨(oneF h l).x++(zda (oneF h l).h (l.drop (oneF h l).n)).out,(zda (oneF h l).h (l.drop (oneF h l).n)).e,(zda (oneF h l).h (l.drop (oneF h l).n)).rest,(zda (oneF h l).h (l.drop (oneF h l).n)).h,(zda (oneF h l).h (l.drop (oneF h l).n)).off⟩
termination_by l.length
decreasing_by all_goals (have:=oneF_n h l; simp; omega)
def told (out:List UInt8) (h:Bool) (l:List UInt8):PushR:={ zda h l with out:=out++(zda h l).out }
theorem told_err {out:List UInt8}{h:Bool}{l:List UInt8}(he:(oneF h l).e≠0):told out h l=⟨out,(oneF h l).e,[],h,false⟩:=by
 rw [told,zda,if_pos he]
 simp
theorem told_off {out:List UInt8}{h:Bool}{l:List UInt8}(he:(oneF h l).e=0) (ho:(oneF h l).off=true):told out h l=⟨out++(oneF h l).x,0,[],(oneF h l).h,true⟩:=by
 rw [told,zda,if_neg (by omega),if_pos ho]
theorem told_none {out:List UInt8}{h:Bool}{l:List UInt8}(he:(oneF h l).e=0) (ho:(oneF h l).off=false) (hn:(oneF h l).n=0):told out h l=⟨out,0,l,(oneF h l).h,false⟩:=by
 rw [told,zda,if_neg (by omega),if_neg (by simp [ho]),dif_pos hn]
 simp
theorem told_more {out:List UInt8}{h:Bool}{l:List UInt8}(he:(oneF h l).e=0) (ho:(oneF h l).off=false) (hn:(oneF h l).n≠0):told out h l=told (out++(oneF h l).x) (oneF h l).h (l.drop (oneF h l).n):=by
 rw [told,zda,if_neg (by omega),if_neg (by simp [ho]),dif_neg hn]
 simp [told]
def recs (l:List UInt8):List UInt8:=if l=[] then [] else recB 2 (l.take 1024)++recs (l.drop 1024)
termination_by l.length
decreasing_by (simp; have:=List.length_pos_iff.2 ‹¬ l=[]›; omega)
def zcV (g:Bool):List UInt8:=if g then [] else [1,0,1,1]
def sendF (g shut:Bool) (l:List UInt8):List UInt8:=if shut∨l.length=0 then [] else zcV g++recs l
def ziP (se gr sh:Bool):Bool:=bif se then (if sh then gr else true) else gr
def closeF (g shut:Bool):List UInt8:=if shut then [] else zcV g++[3,0,0]
theorem rec_ok {w0:World}{base:Nat}{H:List Seg}{A:Option Addr}{C:Nat}{l:List UInt8}(h:Rd tyB w0 base H A C l) (hl:l.length≤140737488355000) (k:Int) :
  SCalls Tryz.prog 198 [V k,.slice A l.length C] w0 base (H) (fun v H' => ∃ A' C' s' l',Own tyB 5 A' C' l' s'∧l' = recL k l∧v = .tuple #[.slice A' l'.length C',int (recE k l)]∧H' = s'::H):=by
 refine SCalls.of_walk (n:=46) Tryz.func198 Z Z Z fun cs => ?_
 refine zc<|za<|AtL.assign zg0 Z Z<|AtL.assign zg0 Z Z<|AtL.done<|zc ?_
 refine At.block<|zc<|zc<|za<|zb zg0 Z Z<|zA zg0 Z Z Z ?_
 refine zb zg0 Z Z<|zy 3 (E':=[(14,.bool (decide (((k:Int) < 1)∨(3 < (k:Int))))),(0,V k),(1,.slice A l.length C)]) (fun J => ?_) ?_
 ·refine zD (t:=11) Z ?_ ?_
  ·intro hs11
   refine ze Z Z Z Z Z Z<|ze Z Z Z Z Z Z<|zn zg0 Z Z Z ?_
   exact J _ (by exact ⟨(zw (by clear J; first | (simp [hs11]; done) | (simp_all; done) | grind)),Z,Z,trivial⟩)
  ·intro hs11
   refine zb (.inr ⟨_,_,_,Z,Z,Z,Z⟩) Z Z<|zai (.inr ⟨_,_,_,Z,Z,Z,Z⟩) Z Z Z<|zm zg0 Z Z Z ?_
   exact J _ (by exact ⟨(zw (by clear J; first | (simp [hs11]; done) | (simp_all; done) | grind)),Z,Z,trivial⟩)
 ·refine AtL.assign zg0 Z Z<|AtL.done<|zq Z ?_ ?_
  ·intro hc1
   refine zj<|zq Z ?_ ?_
   ·intro hc3
    refine zc<|za<|AtL.assign zg0 Z Z<|AtL.assign zg0 Z Z<|AtL.done<|At.nil ?_
    exact zt Tryz.func198 Z Z (⟨_,_,_,_,(Own.nil tyB 5),by simp only [recL,recE,recB]; grind [zcs],by simp only [zbr,recE]; grind,Z⟩)
   ·intro hc3
    refine zc<|za<|zb zg0 Z Z<|zC Tryz.underlying34 zg0 Z Z<|zai zg0 Z Z Z<|AtL.assign zg0 Z Z ?_
    refine AtL.done<|zq Z ?_ ?_
    ·intro hc4
     refine zc<|za<|AtL.assign zg0 Z Z<|AtL.assign zg0 Z Z<|AtL.done<|At.nil ?_
     exact zt Tryz.func198 Z Z (⟨_,_,_,_,(Own.nil tyB 5),by simp only [recL,recE,recB]; grind [zcs],by simp only [zbr,recE]; grind,Z⟩)
    ·intro hc4
     refine zj<|zp<|zc<|za<|zb zg0 Z Z<|zC Tryz.underlying34 zg0 Z Z ?_
     refine zk zfT zg0 Z Z (ziy (l.length:Int) (by omega) (by omega)) ?_
     rintro _ _ ⟨A1,C2,s3,o4,rfl,rfl⟩
     refine zb zg0 Z Z<|AtL.extract zg0 Z Z Z<|AtL.extract zg0 Z Z Z<|AtL.assign zg0 Z Z<|AtL.assign zg0 Z Z<|AtL.done ?_
     refine zc<|za<|zb zg0 Z Z<|zN (z:=((UInt8.ofInt k).toNat:Int)) Tryz.underlying3 Tryz.underlying5 zg0 Z Z (zeW _)<|zG (cs:=[.int .u8 ((UInt8.ofInt k).toNat:Int)]) Tryz.underlying34 zbf zQ Z Z zg0 Z Z Z ?_
     intro b5
     refine zaD tyB (l:=([(UInt8.ofInt k)]:List UInt8)) Z Z (by first | decide | simp) ?_
     intro s6 o7
     refine zb zg0 Z Z<|zb zg0 Z Z<|zG (cs:=[.slice (some ⟨b5,0,none⟩) [(UInt8.ofInt k)].length 1,.slice A1 [UInt8.ofInt ((l.length:Int) / 256),UInt8.ofInt ((l.length:Int))].length C2,.slice A l.length C]) Tryz.underlying22 zbn zaA Z Z zg0 Z Z Z ?_
     intro b8
     refine zk zdC zg0 Z Z (zkW (o7.rd (i:=0) Z) (o4.rd (i:=1) Z) (Rd.skip 2 h) (by first | omega | (simp only [List.length_append,List.length_cons,List.length_nil]; omega) | (simp; done) | (simp; omega))) ?_
     rintro _ _ ⟨A9,C10,s11,o12,rfl,rfl⟩
     refine AtL.assign zg0 Z Z<|AtL.assign zg0 Z Z<|AtL.done<|At.pick [0] 4 Z Z ?_
     exact zt Tryz.func198 Z Z (⟨_,_,_,_,o12,by simp only [recL,recE,recB]; grind [zcs],by simp only [zbr,recE]; grind,Z⟩)
  ·intro hc1
   refine zc<|za<|zb zg0 Z Z<|zW zg0 Z Z Z<|zb zg0 Z Z<|zy 4 (E':=[(21,.bool (decide (((k:Int)=1)∧(¬ (l=[1]))))),(0,V k),(1,.slice A l.length C)]) (fun J => ?_) ?_
   ·refine zD (t:=17) Z ?_ ?_
    ·intro hs17
     refine zb (.inr ⟨_,_,_,Z,Z,Z,Z⟩) Z Z<|zev h Tryz.underlying34 Tryz.underlying5 Tryz.underlying9 (.inr ⟨_,_,_,Z,Z,Z,Z⟩) Z Z<|zf0 (a:=l) (b:=[1]) (.inr ⟨_,_,_,Z,Z,Z,Z⟩) Z Z Z<|zn zg0 Z Z Z ?_
     exact J _ (by exact ⟨(zw (by clear J; first | (simp [hs17]; done) | (simp_all; done) | grind)),Z,Z,trivial⟩)
    ·intro hs17
     refine ze Z Z Z Z Z Z<|ze Z Z Z Z Z Z<|ze Z Z Z Z Z Z<|zm zg0 Z Z Z ?_
     exact J _ (by exact ⟨(zw (by clear J; first | (simp [hs17]; done) | (simp_all; done) | grind)),Z,Z,trivial⟩)
   ·refine AtL.assign zg0 Z Z<|AtL.done<|zq Z ?_ ?_
    ·intro hc2
     refine zj<|zq Z ?_ ?_
     ·intro hc3
      refine zc<|za<|AtL.assign zg0 Z Z<|AtL.assign zg0 Z Z<|AtL.done<|At.nil ?_
      exact zt Tryz.func198 Z Z (⟨_,_,_,_,(Own.nil tyB 5),by simp only [recL,recE,recB]; grind [zcs],by simp only [zbr,recE]; grind,Z⟩)
     ·intro hc3
      refine zc<|za<|zb zg0 Z Z<|zC Tryz.underlying34 zg0 Z Z<|zai zg0 Z Z Z<|AtL.assign zg0 Z Z ?_
      refine AtL.done<|zq Z ?_ ?_
      ·intro hc4
       refine zc<|za<|AtL.assign zg0 Z Z<|AtL.assign zg0 Z Z<|AtL.done<|At.nil ?_
       exact zt Tryz.func198 Z Z (⟨_,_,_,_,(Own.nil tyB 5),by simp only [recL,recE,recB]; grind [zcs],by simp only [zbr,recE]; grind,Z⟩)
      ·intro hc4
       refine zj<|zp<|zc<|za<|zb zg0 Z Z<|zC Tryz.underlying34 zg0 Z Z ?_
       refine zk zfT zg0 Z Z (ziy (l.length:Int) (by omega) (by omega)) ?_
       rintro _ _ ⟨A13,C14,s15,o16,rfl,rfl⟩
       refine zb zg0 Z Z<|AtL.extract zg0 Z Z Z<|AtL.extract zg0 Z Z Z<|AtL.assign zg0 Z Z<|AtL.assign zg0 Z Z<|AtL.done ?_
       refine zc<|za<|zb zg0 Z Z<|zN (z:=((UInt8.ofInt k).toNat:Int)) Tryz.underlying3 Tryz.underlying5 zg0 Z Z (zeW _)<|zG (cs:=[.int .u8 ((UInt8.ofInt k).toNat:Int)]) Tryz.underlying34 zbf zQ Z Z zg0 Z Z Z ?_
       intro b17
       refine zaD tyB (l:=([(UInt8.ofInt k)]:List UInt8)) Z Z (by first | decide | simp) ?_
       intro s18 o19
       refine zb zg0 Z Z<|zb zg0 Z Z<|zG (cs:=[.slice (some ⟨b17,0,none⟩) [(UInt8.ofInt k)].length 1,.slice A13 [UInt8.ofInt ((l.length:Int) / 256),UInt8.ofInt ((l.length:Int))].length C14,.slice A l.length C]) Tryz.underlying22 zbn zaA Z Z zg0 Z Z Z ?_
       intro b20
       refine zk zdC zg0 Z Z (zkW (o19.rd (i:=0) Z) (o16.rd (i:=1) Z) (Rd.skip 2 h) (by first | omega | (simp only [List.length_append,List.length_cons,List.length_nil]; omega) | (simp; done) | (simp; omega))) ?_
       rintro _ _ ⟨A21,C22,s23,o24,rfl,rfl⟩
       refine AtL.assign zg0 Z Z<|AtL.assign zg0 Z Z<|AtL.done<|At.pick [0] 4 Z Z ?_
       exact zt Tryz.func198 Z Z (⟨_,_,_,_,o24,by simp only [recL,recE,recB]; grind [zcs],by simp only [zbr,recE]; grind,Z⟩)
    ·intro hc2
     refine za<|zb zg0 Z Z<|zW zg0 Z Z Z<|zb zg0 Z Z<|zy 4 (E':=[(28,.bool (decide (((k:Int)=3)∧(0 < (l.length:Int))))),(0,V k),(1,.slice A l.length C)]) (fun J => ?_) ?_
     ·refine zD (t:=24) Z ?_ ?_
      ·intro hs24
       refine zb (.inr ⟨_,_,_,Z,Z,Z,Z⟩) Z Z<|zC Tryz.underlying34 (.inr ⟨_,_,_,Z,Z,Z,Z⟩) Z Z<|zai (.inr ⟨_,_,_,Z,Z,Z,Z⟩) Z Z Z<|zn zg0 Z Z Z ?_
       exact J _ (by exact ⟨(zw (by clear J; first | (simp [hs24]; done) | (simp_all; done) | grind)),Z,Z,trivial⟩)
      ·intro hs24
       refine ze Z Z Z Z Z Z<|ze Z Z Z Z Z Z<|ze Z Z Z Z Z Z<|zm zg0 Z Z Z ?_
       exact J _ (by exact ⟨(zw (by clear J; first | (simp [hs24]; done) | (simp_all; done) | grind)),Z,Z,trivial⟩)
     ·refine AtL.assign zg0 Z Z<|AtL.done<|zq Z ?_ ?_
      ·intro hc3
       refine zc<|za<|AtL.assign zg0 Z Z<|AtL.assign zg0 Z Z<|AtL.done<|At.nil ?_
       exact zt Tryz.func198 Z Z (⟨_,_,_,_,(Own.nil tyB 5),by simp only [recL,recE,recB]; grind [zcs],by simp only [zbr,recE]; grind,Z⟩)
      ·intro hc3
       refine zc<|za<|zb zg0 Z Z<|zC Tryz.underlying34 zg0 Z Z<|zai zg0 Z Z Z<|AtL.assign zg0 Z Z ?_
       refine AtL.done<|zq Z ?_ ?_
       ·intro hc4
        refine zc<|za<|AtL.assign zg0 Z Z<|AtL.assign zg0 Z Z<|AtL.done<|At.nil ?_
        exact zt Tryz.func198 Z Z (⟨_,_,_,_,(Own.nil tyB 5),by simp only [recL,recE,recB]; grind [zcs],by simp only [zbr,recE]; grind,Z⟩)
       ·intro hc4
        refine zj<|zp<|zc<|za<|zb zg0 Z Z<|zC Tryz.underlying34 zg0 Z Z ?_
        refine zk zfT zg0 Z Z (ziy (l.length:Int) (by omega) (by omega)) ?_
        rintro _ _ ⟨A25,C26,s27,o28,rfl,rfl⟩
        refine zb zg0 Z Z<|AtL.extract zg0 Z Z Z<|AtL.extract zg0 Z Z Z<|AtL.assign zg0 Z Z<|AtL.assign zg0 Z Z<|AtL.done ?_
        refine zc<|za<|zb zg0 Z Z<|zN (z:=((UInt8.ofInt k).toNat:Int)) Tryz.underlying3 Tryz.underlying5 zg0 Z Z (zeW _)<|zG (cs:=[.int .u8 ((UInt8.ofInt k).toNat:Int)]) Tryz.underlying34 zbf zQ Z Z zg0 Z Z Z ?_
        intro b29
        refine zaD tyB (l:=([(UInt8.ofInt k)]:List UInt8)) Z Z (by first | decide | simp) ?_
        intro s30 o31
        refine zb zg0 Z Z<|zb zg0 Z Z<|zG (cs:=[.slice (some ⟨b29,0,none⟩) [(UInt8.ofInt k)].length 1,.slice A25 [UInt8.ofInt ((l.length:Int) / 256),UInt8.ofInt ((l.length:Int))].length C26,.slice A l.length C]) Tryz.underlying22 zbn zaA Z Z zg0 Z Z Z ?_
        intro b32
        refine zk zdC zg0 Z Z (zkW (o31.rd (i:=0) Z) (o28.rd (i:=1) Z) (Rd.skip 2 h) (by first | omega | (simp only [List.length_append,List.length_cons,List.length_nil]; omega) | (simp; done) | (simp; omega))) ?_
        rintro _ _ ⟨A33,C34,s35,o36,rfl,rfl⟩
        refine AtL.assign zg0 Z Z<|AtL.assign zg0 Z Z<|AtL.done<|At.pick [0] 4 Z Z ?_
        exact zt Tryz.func198 Z Z (⟨_,_,_,_,o36,by simp only [recL,recE,recB]; grind [zcs],by simp only [zbr,recE]; grind,Z⟩)
set_option maxRecDepth 100000
theorem kind_ok {w0:World}{base:Nat}{H:List Seg}{A:Option Addr}{C:Nat}{l:List UInt8}(h:Rd tyB w0 base H A C l) (hl:0 < l.length) :
  SCalls Tryz.prog 205 [.slice A l.length C] w0 base (H) (fun v H' => v=int (l.getD 0 0).toNat∧H' = H):=by
 refine SCalls.of_walk (n:=7) Tryz.func205 Z Z Z fun cs => ?_
 refine zc<|za<|AtL.assign zg0 Z Z<|AtL.done<|zc<|za ?_
 refine zb zg0 Z Z ?_
 refine zF 0 h Tryz.underlying85 zQ zg0 Z Z Z Z (by omega) ?_
 refine zh (v:=.int .u8 ((l.getD 0 0).toNat:Int)) zS zg0 Z Z (zH h (zz 0 (by omega)) Z) ?_
 have hB1:=zbv ((l.getD 0 0))
 refine zN (z:=((l.getD 0 0).toNat:Int)) Tryz.underlying5 Tryz.underlying3 zg0 Z Z (zgv _)<|AtL.assign zg0 Z Z<|AtL.done ?_
 exact zt Tryz.func205 Z Z (⟨Z,Z⟩)
theorem size_is (l:List UInt8):decide ((za9 l 1).2.2.1=0)=decide (3≤l.length):=by
 unfold za9
 by_cases h:l.length < 1 + 2
 ·rw [if_pos h,decide_eq_false (show ¬ 3≤l.length by omega)]
  by_cases h2:l.length < 1 <;> simp [h2]
 ·rw [if_neg h,decide_eq_true (show 3≤l.length by omega)]
  simp
theorem size_n (l:List UInt8):(za9 l 1).1=((if 3≤l.length then 256 * (l.getD 1 0).toNat + (l.getD 2 0).toNat else 0:Nat):Int):=by
 unfold za9
 by_cases h:l.length < 1 + 2
 ·rw [if_pos h,if_neg (show ¬ 3≤l.length by omega)]; rfl
 ·rw [if_neg h,if_pos (show 3≤l.length by omega)]; simp
theorem size_ok {w0:World}{base:Nat}{H:List Seg}{A:Option Addr}{C:Nat}{l:List UInt8}(h:Rd tyB w0 base H A C l) (hl:l.length≤140737488355000) :
  SCalls Tryz.prog 206 [.slice A l.length C] w0 base (H) (fun v H' => ∃ n:Nat,∃ z:Bool,z=decide (3≤l.length)∧n=(if 3≤l.length then 256 * (l.getD 1 0).toNat + (l.getD 2 0).toNat else 0)∧v = .tuple #[int (n:Int),.bool z]∧H' = H):=by
 refine SCalls.of_walk (n:=17) Tryz.func206 Z Z Z fun cs => ?_
 refine zc<|za<|AtL.assign zg0 Z Z<|AtL.assign zg0 Z Z<|AtL.done<|zc ?_
 refine za<|zb zg0 Z Z ?_
 refine zk tf_body209 zg0 Z Z (get16_ok (l:=l) h 1 (by omega) (by omega)) ?_
 rintro _ _ ⟨rfl,hHq⟩
 obtain rfl:=hHq.symm
 refine zb zg0 Z Z<|AtL.extract zg0 Z Z Z<|AtL.extract zg0 Z Z Z<|AtL.extract zg0 Z Z Z<|AtL.alloc zfM (cs:=#[V 0,V 0]) Z zg0 Z ?_
 intro b1
 refine AtL.assign zg0 Z Z<|AtL.assign zg0 Z Z<|zr (H':=[(b1,.cells #[V ((za9 l 1).2.2.1),V ((za9 l 1).2.2.2)] 284 (0,0))]::H) 0 0 zeB zg0 Z Z Z Z Z Z Z Z Z<|AtL.done<|zc ?_
 refine zac (es:=[]) (pv:=[(0,V ((za9 l 1).1)),(1,B b1),(2,V ((za9 l 1).2.2.1)),(3,.bool (decide (((za9 l 1).2.2.1:Int)=0))),(4,V ((za9 l 1).1)),(5,.bool (decide (((za9 l 1).2.2.1:Int)=0)))]) zV (by kernel_rfl) (by kernel_rfl) (by kernel_rfl) ?_
 refine ⟨⟨zpr Z Z Z (zi Z),zpr Z Z Z (zg tf_fo284_0 Z Z),zpr Z Z Z (zu zdB Z (Cell.own 0 0 Z Z Z)),zpr Z Z Z (zdg Z Z),zpr Z Z Z (Do.assign Z),zpr Z Z Z (Do.assign Z),trivial⟩,by kernel_rfl,?_⟩
 refine At.mono (E':=[(2,V ((za9 l 1).1)),(3,.bool (decide (((za9 l 1).2.2.1:Int)=0)))]) ⟨Z,Z,trivial⟩<|At.pick [] 1 Z Z ?_
 exact zt Tryz.func206 Z Z (⟨_,_,Z,Z,by rw [size_is,size_n]; rfl,Z⟩)
theorem one_ok {w0:World}{base:Nat}{H:List Seg}{b:Nat}{y:Sl tyB 5}{hello out gr sh:Bool}(hl:y.l.length≤140737488355000) :
  SCalls Tryz.prog 201 [B b] w0 base (y.s::O8 b y.A y.l.length y.C hello false out gr sh::H) (fun v H' => ∃ A' C',Rd tyB w0 base H' A' C' (oneF hello y.l).x∧v = .tuple #[.slice A' (oneF hello y.l).x.length C',int (oneF hello y.l).n,int (oneF hello y.l).e]∧H' = y.s::O8 b y.A y.l.length y.C ((oneF hello y.l).h) ((oneF hello y.l).off) out gr sh::H):=by
 refine SCalls.of_walk (n:=95) Tryz.func201 Z Z Z fun cs => ?_
 refine zc<|za<|AtL.assign zg0 Z Z<|AtL.assign zg0 Z Z<|AtL.assign zg0 Z Z<|AtL.done ?_
 refine zc<|zc<|za<|zb zg0 Z Z<|zf zg0 Z Z<|zd zby zg0 Z Z Z ?_
 refine zh zbz zg0 Z Z (Cell.own 1 0 Z Z Z)<|zC Tryz.underlying85 zg0 Z Z<|zW zg0 Z Z Z<|AtL.done<|zq Z ?_ ?_
 ·intro hc1
  refine zc<|za<|AtL.assign zg0 Z Z<|AtL.assign zg0 Z Z<|AtL.assign zg0 Z Z<|AtL.done ?_
  exact zt Tryz.func201 Z Z (⟨none,0,by rw [show (oneF hello y.l).x=[] from by grind [oneF]]; exact zbQ,by grind [oneF,zbr],by grind [oneF]⟩)
 ·intro hc1
  refine zj<|zc<|za<|zb zg0 Z Z<|zf zg0 Z Z<|zd zby zg0 Z Z Z ?_
  refine zh zbz zg0 Z Z (Cell.own 1 0 Z Z Z) ?_
  refine zk tf_body205 zg0 Z Z (kind_ok (l:=y.l) (y.own.rd (i:=0) Z) (by omega)) ?_
  rintro _ _ ⟨rfl,rfl⟩
  refine AtL.assign zg0 Z Z<|AtL.done<|zc<|zc<|za<|zb zg0 Z Z ?_
  refine zA zg0 Z Z Z<|zb zg0 Z Z<|zy 3 (E':=[(24,.bool (decide ((((y.l.getD 0 0).toNat:Int) < 1)∨(3 < ((y.l.getD 0 0).toNat:Int))))),(0,B b),(5,V ((y.l.getD 0 0).toNat:Int))]) (fun J => ?_) ?_
  ·refine zD (t:=21) Z ?_ ?_
   ·intro hs21
    refine ze Z Z Z Z Z Z<|ze Z Z Z Z Z Z<|zn zg0 Z Z Z ?_
    exact J _ (by exact ⟨(zw (by clear J; first | (simp [hs21]; done) | (simp_all; done) | grind)),Z,Z,trivial⟩)
   ·intro hs21
    refine zb (.inr ⟨_,_,_,Z,Z,Z,Z⟩) Z Z<|zai (.inr ⟨_,_,_,Z,Z,Z,Z⟩) Z Z Z<|zm zg0 Z Z Z ?_
    exact J _ (by exact ⟨(zw (by clear J; first | (simp [hs21]; done) | (simp_all; done) | grind)),Z,Z,trivial⟩)
  ·refine zb zg0 Z Z<|zy 8 (E':=[(33,.bool (decide (((((y.l.getD 0 0).toNat:Int) < 1)∨(3 < ((y.l.getD 0 0).toNat:Int)))∨(((decide (((y.l.getD 0 0).toNat:Int)=1)) == hello)=true)))),(0,B b),(5,V ((y.l.getD 0 0).toNat:Int))]) (fun J => ?_) ?_
   ·refine zD (t:=25) Z ?_ ?_
    ·intro hs25
     refine ze Z Z Z Z Z Z<|ze Z Z Z Z Z Z<|ze Z Z Z Z Z Z<|ze Z Z Z Z Z Z<|ze Z Z Z Z Z Z<|ze Z Z Z Z Z Z ?_
     refine ze Z Z Z Z Z Z<|zn zg0 Z Z Z ?_
     exact J _ (by exact ⟨(zw (by clear J; first | (simp [hs25]; done) | (simp_all; done) | grind)),Z,Z,trivial⟩)
    ·intro hs25
     refine zb (.inr ⟨_,_,_,Z,Z,Z,Z⟩) Z Z<|zW (.inr ⟨_,_,_,Z,Z,Z,Z⟩) Z Z Z<|zb (.inr ⟨_,_,_,Z,Z,Z,Z⟩) Z Z<|zf (.inr ⟨_,_,_,Z,Z,Z,Z⟩) Z Z<|zd zgy (.inr ⟨_,_,_,Z,Z,Z,Z⟩) Z Z Z<|zh zR (.inr ⟨_,_,_,Z,Z,Z,Z⟩) Z Z (Cell.own 1 0 Z Z Z) ?_
     refine AtL.eqb Tryz.underlying4 (.inr ⟨_,_,_,Z,Z,Z,Z⟩) Z Z Z<|zm zg0 Z Z Z ?_
     exact J _ (by exact ⟨(zw (by clear J; first | (simp [hs25]; done) | (simp_all; done) | grind)),Z,Z,trivial⟩)
   ·refine AtL.done<|zq Z ?_ ?_
    ·intro hc2
     refine zc<|za<|AtL.assign zg0 Z Z<|AtL.assign zg0 Z Z<|AtL.assign zg0 Z Z<|AtL.done ?_
     exact zt Tryz.func201 Z Z (⟨none,0,by rw [show (oneF hello y.l).x=[] from by grind [oneF]]; exact zbQ,by grind [oneF,zbr],by grind [oneF]⟩)
    ·intro hc2
     refine zj<|zc<|za<|zb zg0 Z Z<|zf zg0 Z Z<|zd zby zg0 Z Z Z ?_
     refine zh zbz zg0 Z Z (Cell.own 1 0 Z Z Z) ?_
     refine zk tf_body206 zg0 Z Z (size_ok (l:=y.l) (y.own.rd (i:=0) Z) (by omega)) ?_
     rintro _ _ ⟨n1,z2,hz3,hn4,rfl,rfl⟩
     refine zb zg0 Z Z<|AtL.extract zg0 Z Z Z<|AtL.extract zg0 Z Z Z<|AtL.assign zg0 Z Z<|AtL.assign zg0 Z Z<|AtL.done ?_
     refine zc<|At.block<|zc<|za<|zb zg0 Z Z<|zag zg0 Z Z ?_
     refine AtL.assign zg0 Z Z<|AtL.done<|zae Z ?_ ?_
     ·intro hc3
      have hc3:z2=false:=zO hc3
      refine zc<|za<|AtL.assign zg0 Z Z<|AtL.assign zg0 Z Z<|AtL.assign zg0 Z Z<|AtL.done ?_
      exact zt Tryz.func201 Z Z (⟨none,0,by rw [show (oneF hello y.l).x=[] from by grind [oneF]]; exact zbQ,by grind [oneF,zbr],by grind [oneF]⟩)
     ·intro hc3
      have hc3:z2=true:=zJ hc3
      refine zc<|zc<|za<|zb zg0 Z Z<|zW zg0 Z Z Z<|zb zg0 Z Z ?_
      refine zy 3 (E':=[(51,.bool (decide ((((y.l.getD 0 0).toNat:Int)=1)∧(¬ ((n1:Int)=1))))),(0,B b),(5,V ((y.l.getD 0 0).toNat:Int)),(6,V (n1:Int))]) (fun J => ?_) ?_
      ·refine zD (t:=48) Z ?_ ?_
       ·intro hs48
        refine zb (.inr ⟨_,_,_,Z,Z,Z,Z⟩) Z Z<|zT (.inr ⟨_,_,_,Z,Z,Z,Z⟩) Z Z Z<|zn zg0 Z Z Z ?_
        exact J _ (by exact ⟨(zw (by clear J; first | (simp [hs48]; done) | (simp_all; done) | grind)),Z,Z,Z,trivial⟩)
       ·intro hs48
        refine ze Z Z Z Z Z Z<|ze Z Z Z Z Z Z<|zm zg0 Z Z Z ?_
        exact J _ (by exact ⟨(zw (by clear J; first | (simp [hs48]; done) | (simp_all; done) | grind)),Z,Z,Z,trivial⟩)
      ·refine AtL.assign zg0 Z Z<|AtL.done<|zq Z ?_ ?_
       ·intro hc4
        refine zj<|zq Z ?_ ?_
        ·intro hc5
         refine zc<|za<|AtL.assign zg0 Z Z<|AtL.assign zg0 Z Z<|AtL.assign zg0 Z Z<|AtL.done ?_
         exact zt Tryz.func201 Z Z (⟨none,0,by rw [show (oneF hello y.l).x=[] from by grind [oneF]]; exact zbQ,by grind [oneF,zbr],by grind [oneF]⟩)
        ·intro hc5
         refine zc<|za<|zb zg0 Z Z<|zai zg0 Z Z Z<|AtL.assign zg0 Z Z<|AtL.done ?_
         refine zq Z ?_ ?_
         ·intro hc6
          refine zc<|za<|AtL.assign zg0 Z Z<|AtL.assign zg0 Z Z<|AtL.assign zg0 Z Z<|AtL.done ?_
          exact zt Tryz.func201 Z Z (⟨none,0,by rw [show (oneF hello y.l).x=[] from by grind [oneF]]; exact zbQ,by grind [oneF,zbr],by grind [oneF]⟩)
         ·intro hc6
          refine zc<|za<|zb zg0 Z Z<|zf zg0 Z Z<|zd zby zg0 Z Z Z<|zh zbz zg0 Z Z (Cell.own 1 0 Z Z Z) ?_
          refine zC Tryz.underlying85 zg0 Z Z<|zb zg0 Z Z ?_
          refine AtL.add (z:=3 + (n1:Int)) zg0 Z Z Z (w64 (by omega) (by omega))<|zA zg0 Z Z Z<|AtL.assign zg0 Z Z<|AtL.done<|zq Z ?_ ?_
          ·intro hc7
           refine zc<|za<|AtL.assign zg0 Z Z<|AtL.assign zg0 Z Z<|AtL.assign zg0 Z Z<|AtL.done ?_
           exact zt Tryz.func201 Z Z (⟨none,0,by rw [show (oneF hello y.l).x=[] from by grind [oneF]]; exact zbQ,by grind [oneF,zbr],by grind [oneF]⟩)
          ·intro hc7
           refine zj<|zp<|zc<|za<|zb zg0 Z Z<|zf zg0 Z Z ?_
           refine zd zby zg0 Z Z Z<|zh zbz zg0 Z Z (Cell.own 1 0 Z Z Z)<|zb zg0 Z Z ?_
           refine AtL.add (z:=3 + (n1:Int)) zg0 Z Z Z (w64 (by omega) (by omega)) ?_
           have hleo7:=zab y.own
           refine zbN 3 (3 + n1) y.C y.own (zI Z Z) (zI Z Z) Z (by intro h; cases h) (by omega) (by omega) (by omega) (Nat.le_refl _) Tryz.underlying85 zQ zg0 Z Z ?_
           intro A5 C6 o7
           clear hleo7
           have hlo7:(subl y.l 3 (3 + n1)).length=(3 + n1) - 3:=zP (by omega)
           refine AtL.assign zg0 Z Z<|AtL.done<|zc<|zc<|za<|zb zg0 Z Z ?_
           refine AtL.done<|At.block<|zc<|za<|zW zg0 Z Z Z<|AtL.assign zg0 Z Z ?_
           refine AtL.done<|zq Z ?_ ?_
           ·intro hc8
            refine zc<|zc<|za<|zb zg0 Z Z ?_
            refine zF 0 (o7.rd (i:=0) Z) Tryz.underlying34 zQ zg0 Z Z Z Z (by omega) ?_
            refine zh (v:=.int .u8 (((subl y.l 3 (3 + n1)).getD 0 0).toNat:Int)) zS zg0 Z Z (zH (o7.rd (i:=0) Z) (zz 0 (by omega)) Z)<|zT zg0 Z Z Z<|AtL.done<|zae Z ?_ ?_
            ·intro hc9
             have hc9:¬ ((((subl y.l 3 (3 + n1)).getD 0 0).toNat:Int)=1):=of_decide_eq_false (zO hc9)
             refine zc<|za<|AtL.assign zg0 Z Z<|AtL.assign zg0 Z Z<|AtL.assign zg0 Z Z<|AtL.done ?_
             have hg:=zdH (l:=y.l) (i:=3) (j:=3 + n1) (k:=0) (by omega)
             exact zt Tryz.func201 Z Z (⟨none,0,by rw [show (oneF hello y.l).x=[] from by grind [oneF]]; exact zbQ,by grind [oneF,zbr],by grind [oneF]⟩)
            ·intro hc9
             have hc9:(((subl y.l 3 (3 + n1)).getD 0 0).toNat:Int)=1:=of_decide_eq_true (zJ hc9)
             refine zj<|za<|zb zg0 Z Z<|zf zg0 Z Z<|zd zgy zg0 Z Z Z<|zr (H':=y.s::O8 b y.A y.l.length y.C true false out gr sh::H) 1 0 za0 zg0 Z Z Z Z Z Z Z Z Z ?_
             refine AtL.assign zg0 Z Z<|AtL.done<|zp<|zc<|za<|zb zg0 Z Z ?_
             refine zb zg0 Z Z ?_
             refine AtL.add (z:=3 + (n1:Int)) zg0 Z Z Z (w64 (by omega) (by omega))<|AtL.assign zg0 Z Z<|AtL.assign zg0 Z Z<|AtL.assign zg0 Z Z<|AtL.done ?_
             have hg:=zdH (l:=y.l) (i:=3) (j:=3 + n1) (k:=0) (by omega)
             exact zt Tryz.func201 Z Z (⟨none,0,by rw [show (oneF hello y.l).x=[] from by grind [oneF]]; exact zbQ,by grind [oneF,zbr],by grind [oneF]⟩)
           ·intro hc8
            refine zc<|za<|zW zg0 Z Z Z<|AtL.assign zg0 Z Z<|AtL.done<|zq Z ?_ ?_
            ·intro hc10
             refine za<|zb zg0 Z Z<|zf zg0 Z Z<|zd zc6 zg0 Z Z Z<|zr (H':=y.s::O8 b y.A y.l.length y.C hello true out gr sh::H) 1 0 za0 zg0 Z Z Z Z Z Z Z Z Z<|AtL.done ?_
             refine zp<|zc<|za<|zb zg0 Z Z<|zb zg0 Z Z ?_
             refine AtL.add (z:=3 + (n1:Int)) zg0 Z Z Z (w64 (by omega) (by omega))<|AtL.assign zg0 Z Z<|AtL.assign zg0 Z Z<|AtL.assign zg0 Z Z<|AtL.done ?_
             exact zt Tryz.func201 Z Z (⟨A5,C6,by rw [show (oneF hello y.l).x=subl y.l 3 (3 + n1) from by grind [oneF]]; exact (o7.rd (i:=0) Z),by grind [oneF,zbr],by grind [oneF]⟩)
            ·intro hc10
             refine zj<|zp<|zc<|za<|zb zg0 Z Z<|zb zg0 Z Z ?_
             refine AtL.add (z:=3 + (n1:Int)) zg0 Z Z Z (w64 (by omega) (by omega))<|AtL.assign zg0 Z Z<|AtL.assign zg0 Z Z<|AtL.assign zg0 Z Z<|AtL.done ?_
             exact zt Tryz.func201 Z Z (⟨A5,C6,by rw [show (oneF hello y.l).x=subl y.l 3 (3 + n1) from by grind [oneF]]; exact (o7.rd (i:=0) Z),by grind [oneF,zbr],by grind [oneF]⟩)
       ·intro hc4
        refine za<|zb zg0 Z Z<|zW zg0 Z Z Z<|zb zg0 Z Z<|zy 3 (E':=[(57,.bool (decide ((((y.l.getD 0 0).toNat:Int)=3)∧(¬ ((n1:Int)=0))))),(0,B b),(5,V ((y.l.getD 0 0).toNat:Int)),(6,V (n1:Int))]) (fun J => ?_) ?_
        ·refine zD (t:=54) Z ?_ ?_
         ·intro hs54
          refine zb (.inr ⟨_,_,_,Z,Z,Z,Z⟩) Z Z<|zT (.inr ⟨_,_,_,Z,Z,Z,Z⟩) Z Z Z<|zn zg0 Z Z Z ?_
          exact J _ (by exact ⟨(zw (by clear J; first | (simp [hs54]; done) | (simp_all; done) | grind)),Z,Z,Z,trivial⟩)
         ·intro hs54
          refine ze Z Z Z Z Z Z<|ze Z Z Z Z Z Z<|zm zg0 Z Z Z ?_
          exact J _ (by exact ⟨(zw (by clear J; first | (simp [hs54]; done) | (simp_all; done) | grind)),Z,Z,Z,trivial⟩)
        ·refine AtL.assign zg0 Z Z<|AtL.done<|zq Z ?_ ?_
         ·intro hc5
          refine zc<|za<|AtL.assign zg0 Z Z<|AtL.assign zg0 Z Z<|AtL.assign zg0 Z Z<|AtL.done ?_
          exact zt Tryz.func201 Z Z (⟨none,0,by rw [show (oneF hello y.l).x=[] from by grind [oneF]]; exact zbQ,by grind [oneF,zbr],by grind [oneF]⟩)
         ·intro hc5
          refine zc<|za<|zb zg0 Z Z<|zai zg0 Z Z Z<|AtL.assign zg0 Z Z<|AtL.done ?_
          refine zq Z ?_ ?_
          ·intro hc6
           refine zc<|za<|AtL.assign zg0 Z Z<|AtL.assign zg0 Z Z<|AtL.assign zg0 Z Z<|AtL.done ?_
           exact zt Tryz.func201 Z Z (⟨none,0,by rw [show (oneF hello y.l).x=[] from by grind [oneF]]; exact zbQ,by grind [oneF,zbr],by grind [oneF]⟩)
          ·intro hc6
           refine zc<|za<|zb zg0 Z Z<|zf zg0 Z Z<|zd zby zg0 Z Z Z<|zh zbz zg0 Z Z (Cell.own 1 0 Z Z Z) ?_
           refine zC Tryz.underlying85 zg0 Z Z<|zb zg0 Z Z ?_
           refine AtL.add (z:=3 + (n1:Int)) zg0 Z Z Z (w64 (by omega) (by omega))<|zA zg0 Z Z Z<|AtL.assign zg0 Z Z<|AtL.done<|zq Z ?_ ?_
           ·intro hc7
            refine zc<|za<|AtL.assign zg0 Z Z<|AtL.assign zg0 Z Z<|AtL.assign zg0 Z Z<|AtL.done ?_
            exact zt Tryz.func201 Z Z (⟨none,0,by rw [show (oneF hello y.l).x=[] from by grind [oneF]]; exact zbQ,by grind [oneF,zbr],by grind [oneF]⟩)
           ·intro hc7
            refine zj<|zp<|zc<|za<|zb zg0 Z Z<|zf zg0 Z Z ?_
            refine zd zby zg0 Z Z Z<|zh zbz zg0 Z Z (Cell.own 1 0 Z Z Z)<|zb zg0 Z Z ?_
            refine AtL.add (z:=3 + (n1:Int)) zg0 Z Z Z (w64 (by omega) (by omega)) ?_
            have hleo10:=zab y.own
            refine zbN 3 (3 + n1) y.C y.own (zI Z Z) (zI Z Z) Z (by intro h; cases h) (by omega) (by omega) (by omega) (Nat.le_refl _) Tryz.underlying85 zQ zg0 Z Z ?_
            intro A8 C9 o10
            clear hleo10
            have hlo10:(subl y.l 3 (3 + n1)).length=(3 + n1) - 3:=zP (by omega)
            refine AtL.assign zg0 Z Z<|AtL.done<|zc<|zc<|za<|zb zg0 Z Z ?_
            refine AtL.done<|At.block<|zc<|za<|zW zg0 Z Z Z<|AtL.assign zg0 Z Z ?_
            refine AtL.done<|zq Z ?_ ?_
            ·intro hc8
             refine zc<|zc<|za<|zb zg0 Z Z ?_
             refine zF 0 (o10.rd (i:=0) Z) Tryz.underlying34 zQ zg0 Z Z Z Z (by omega) ?_
             refine zh (v:=.int .u8 (((subl y.l 3 (3 + n1)).getD 0 0).toNat:Int)) zS zg0 Z Z (zH (o10.rd (i:=0) Z) (zz 0 (by omega)) Z)<|zT zg0 Z Z Z<|AtL.done<|zae Z ?_ ?_
             ·intro hc9
              have hc9:¬ ((((subl y.l 3 (3 + n1)).getD 0 0).toNat:Int)=1):=of_decide_eq_false (zO hc9)
              refine zc<|za<|AtL.assign zg0 Z Z<|AtL.assign zg0 Z Z<|AtL.assign zg0 Z Z<|AtL.done ?_
              have hg:=zdH (l:=y.l) (i:=3) (j:=3 + n1) (k:=0) (by omega)
              exact zt Tryz.func201 Z Z (⟨none,0,by rw [show (oneF hello y.l).x=[] from by grind [oneF]]; exact zbQ,by grind [oneF,zbr],by grind [oneF]⟩)
             ·intro hc9
              have hc9:(((subl y.l 3 (3 + n1)).getD 0 0).toNat:Int)=1:=of_decide_eq_true (zJ hc9)
              refine zj<|za<|zb zg0 Z Z<|zf zg0 Z Z<|zd zgy zg0 Z Z Z<|zr (H':=y.s::O8 b y.A y.l.length y.C true false out gr sh::H) 1 0 za0 zg0 Z Z Z Z Z Z Z Z Z ?_
              refine AtL.assign zg0 Z Z<|AtL.done<|zp<|zc<|za<|zb zg0 Z Z ?_
              refine zb zg0 Z Z ?_
              refine AtL.add (z:=3 + (n1:Int)) zg0 Z Z Z (w64 (by omega) (by omega))<|AtL.assign zg0 Z Z<|AtL.assign zg0 Z Z<|AtL.assign zg0 Z Z<|AtL.done ?_
              have hg:=zdH (l:=y.l) (i:=3) (j:=3 + n1) (k:=0) (by omega)
              exact zt Tryz.func201 Z Z (⟨none,0,by rw [show (oneF hello y.l).x=[] from by grind [oneF]]; exact zbQ,by grind [oneF,zbr],by grind [oneF]⟩)
            ·intro hc8
             refine zc<|za<|zW zg0 Z Z Z<|AtL.assign zg0 Z Z<|AtL.done<|zq Z ?_ ?_
             ·intro hc10
              refine za<|zb zg0 Z Z<|zf zg0 Z Z<|zd zc6 zg0 Z Z Z<|zr (H':=y.s::O8 b y.A y.l.length y.C hello true out gr sh::H) 1 0 za0 zg0 Z Z Z Z Z Z Z Z Z<|AtL.done ?_
              refine zp<|zc<|za<|zb zg0 Z Z<|zb zg0 Z Z ?_
              refine AtL.add (z:=3 + (n1:Int)) zg0 Z Z Z (w64 (by omega) (by omega))<|AtL.assign zg0 Z Z<|AtL.assign zg0 Z Z<|AtL.assign zg0 Z Z<|AtL.done ?_
              exact zt Tryz.func201 Z Z (⟨A8,C9,by rw [show (oneF hello y.l).x=subl y.l 3 (3 + n1) from by grind [oneF]]; exact (o10.rd (i:=0) Z),by grind [oneF,zbr],by grind [oneF]⟩)
             ·intro hc10
              refine zj<|zp<|zc<|za<|zb zg0 Z Z<|zb zg0 Z Z ?_
              refine AtL.add (z:=3 + (n1:Int)) zg0 Z Z Z (w64 (by omega) (by omega))<|AtL.assign zg0 Z Z<|AtL.assign zg0 Z Z<|AtL.assign zg0 Z Z<|AtL.done ?_
              exact zt Tryz.func201 Z Z (⟨A8,C9,by rw [show (oneF hello y.l).x=subl y.l 3 (3 + n1) from by grind [oneF]]; exact (o10.rd (i:=0) Z),by grind [oneF,zbr],by grind [oneF]⟩)
def zck (h off out:Bool) (k l:List UInt8):PushR:=if out=true∨off=true then ⟨[],9,k,h,off⟩ else zda h (k++l)
def zdq (h off out:Bool) (k l:List UInt8):Bool:=if out=true∨off=true then out else decide ((zda h (k++l)).e≠0)
theorem oneF_h {h:Bool}{l:List UInt8}(he:¬ (oneF h l).e=0):(oneF h l).h=h∧(oneF h l).off=false:=by
 revert he
 unfold oneF
 repeat' split
 all_goals simp
set_option maxHeartbeats 1000000 in
theorem push_ok {w0:World}{base:Nat}{H:List Seg}{b:Nat}{y:Sl tyB 5}{hello off out gr sh:Bool}{A:Option Addr}{C:Nat}{l:List UInt8}(h:Rd tyB w0 base H A C l) (hl:y.l.length + l.length≤140737488355000) :
  SCalls Tryz.prog 196 [B b,.slice A l.length C] w0 base (y.s::O8 b y.A y.l.length y.C hello off out gr sh::H) (fun v H' => ∃ x z:Sl tyB 5,x.l=(zck hello off out y.l l).out∧z.l=(zck hello off out y.l l).rest∧v = .tuple #[.slice x.A x.l.length x.C,int (zck hello off out y.l l).e]∧H' = x.s::z.s::O8 b z.A z.l.length z.C ((zck hello off out y.l l).h) ((zck hello off out y.l l).off) (zdq hello off out y.l l) gr sh::H):=by
 refine SCalls.of_walk (n:=74) Tryz.func196 Z Z Z fun cs => ?_
 refine zc<|za<|AtL.assign zg0 Z Z<|AtL.assign zg0 Z Z<|AtL.done<|zc ?_
 refine zc<|za<|zb zg0 Z Z<|zf zg0 Z Z<|zd zjb zg0 Z Z Z<|zh zR zg0 Z Z (Cell.own 1 0 Z Z Z) ?_
 refine zb zg0 Z Z<|zy 5 (E':=[(19,.bool (decide ((out=true)∨(off=true)))),(0,B b),(1,.slice A l.length C)]) (fun J => ?_) ?_
 ·refine zY (t:=14) Z ?_ ?_
  ·intro hs14
   have hs14:out=true:=hs14
   refine ze Z Z Z Z Z Z<|ze Z Z Z Z Z Z<|ze Z Z Z Z Z Z<|ze Z Z Z Z Z Z<|zn zg0 Z Z Z ?_
   exact J _ (by exact ⟨(zw (by clear J; first | (simp [hs14]; done) | (simp_all; done) | grind)),Z,Z,trivial⟩)
  ·intro hs14
   have hs14:out=false:=hs14
   refine zb (.inr ⟨_,_,_,Z,Z,Z,Z⟩) Z Z<|zf (.inr ⟨_,_,_,Z,Z,Z,Z⟩) Z Z<|zd zc6 (.inr ⟨_,_,_,Z,Z,Z,Z⟩) Z Z Z<|zh zR (.inr ⟨_,_,_,Z,Z,Z,Z⟩) Z Z (Cell.own 1 0 Z Z Z)<|zm zg0 Z Z Z ?_
   exact J _ (by exact ⟨(zw (by clear J; first | (simp [hs14]; done) | (simp_all; done) | grind)),Z,Z,trivial⟩)
 ·refine AtL.done<|zq Z ?_ ?_
  ·intro hc1
   refine zc<|za<|AtL.assign zg0 Z Z<|AtL.assign zg0 Z Z<|AtL.done<|At.nil ?_
   have hp:zck hello off out y.l l=⟨[],9,y.l,hello,off⟩:=by rw [zck,if_pos hc1]
   have hq:zdq hello off out y.l l=out:=by rw [zdq,if_pos hc1]
   rw [hp,hq]
   exact zt Tryz.func196 Z Z (⟨Sl.nil,y,Z,Z,Z,Z⟩)
  ·intro hc1
   refine zj<|zc<|za<|zb zg0 Z Z<|zb zg0 Z Z<|zf zg0 Z Z ?_
   refine zd zby zg0 Z Z Z<|zh zbz zg0 Z Z (Cell.own 1 0 Z Z Z)<|zb zg0 Z Z<|zG (cs:=[.slice y.A y.l.length y.C,.slice A l.length C]) Tryz.underlying278 tf_zero85 zdO Z Z zg0 Z Z Z ?_
   intro b1
   refine zk tf_body200 zg0 Z Z (rconcat2 (y.own.rd (i:=0) Z) (Rd.skip 2 h) (by first | omega | (simp only [List.length_append,List.length_cons,List.length_nil]; omega) | (simp; done) | (simp; omega))) ?_
   rintro _ _ ⟨A2,C3,s4,o5,rfl,rfl⟩
   refine zf zg0 Z Z<|zd zby zg0 Z Z Z<|zr (H':=s4::[(b1,.cells #[.slice y.A y.l.length y.C,.slice A l.length C] 85 (0,0))]::y.s::O6 b (.slice A2 (y.l++l).length C3) hello off out gr sh::H) 3 0 zdO zg0 Z Z Z Z Z Z Z Z Z<|AtL.done<|zc<|za ?_
   refine AtL.assign zg0 Z Z<|AtL.done<|At.block ?_
   obtain ⟨rfl,rfl⟩:off=false∧out=false:=by simpa [and_comm] using hc1
   refine At.nil<|At.pick (H':=[]::s4::O6 b (.slice A2 (y.l++l).length C3) hello false false gr sh::H) [0,1,4] 5 Z Z<|At.loop3 (fun (x:Sl tyB 5) (z:Sl tyB 5) (hh:Bool) => [(0,B b),(6,.slice x.A x.l.length x.C)]) (fun (x:Sl tyB 5) (z:Sl tyB 5) (hh:Bool) => x.s::z.s::O8 b z.A z.l.length z.C hh false false gr sh::H) (fun (x:Sl tyB 5) (z:Sl tyB 5) (hh:Bool) => told x.l hh z.l=zda hello (y.l++l)∧x.l.length + z.l.length≤y.l.length + l.length) (fun (x:Sl tyB 5) (z:Sl tyB 5) (hh:Bool) => z.l.length) Sl.nil (⟨A2,C3,y.l++l,s4,o5⟩) hello (⟨Z,by simp [Sl.nil]⟩) ⟨Z,Z,trivial⟩ Z ?_
   rintro x z hh ⟨hI,hlen⟩ ihL1
   have hn:=oneF_n hh z.l
   refine At.block<|zc<|za<|zb zg0 Z Z<|AtL.pick (H':=z.s::O8 b z.A z.l.length z.C hh false false gr sh::x.s::H) [1,2,0] 3 Z Z ?_
   refine zk tf_body201 zg0 Z Z (one_ok (y:=z) (by omega)) ?_
   rintro _ _ ⟨A6,C7,q8,rfl,rfl⟩
   refine zb zg0 Z Z<|AtL.extract zg0 Z Z Z<|AtL.extract zg0 Z Z Z<|AtL.extract zg0 Z Z Z<|AtL.assign zg0 Z Z<|AtL.assign zg0 Z Z ?_
   refine AtL.assign zg0 Z Z<|AtL.done<|zc<|zc<|za<|zb zg0 Z Z ?_
   refine zT zg0 Z Z Z<|AtL.done<|zae Z ?_ ?_
   ·intro hc2
    have hc2:¬ (((oneF hh z.l).e:Int)=0):=of_decide_eq_false (zO hc2)
    refine zc<|za<|zb zg0 Z Z<|zb zg0 Z Z<|zf zg0 Z Z<|zd zjb zg0 Z Z Z ?_
    refine zr (H':=z.s::O8 b z.A z.l.length z.C ((oneF hh z.l).h) ((oneF hh z.l).off) true gr sh::x.s::H) 1 0 za0 zg0 Z Z Z Z Z Z Z Z Z<|zf zg0 Z Z<|zd zby zg0 Z Z Z<|zr (H':=z.s::O8 b none 0 0 ((oneF hh z.l).h) ((oneF hh z.l).off) true gr sh::x.s::H) 1 0 zdO zg0 Z Z Z Z Z Z Z Z Z<|AtL.done<|zc ?_
    refine za<|zb zg0 Z Z<|zb zg0 Z Z<|AtL.assign zg0 Z Z<|AtL.assign zg0 Z Z<|AtL.done ?_
    refine At.nil<|At.pick (H':=x.s::[]::O8 b none 0 0 ((oneF hh z.l).h) ((oneF hh z.l).off) true gr sh::H) [3,0,2] 4 Z Z ?_
    have hp:zck hello false false y.l l=zda hello (y.l++l):=by rw [zck,if_neg (by simp)]
    have hq:zdq hello false false y.l l=decide ((zda hello (y.l++l)).e≠0):=by rw [zdq,if_neg (by simp)]
    rw [hp,hq,← hI,told_err hc2]
    exact zt Tryz.func196 Z Z (⟨x,Sl.nil,Z,Z,Z,by simp only [ne_eq,hc2,not_false_eq_true,decide_true,oneF_h hc2]; rfl⟩)
   ·intro hc2
    have hc2:((oneF hh z.l).e:Int)=0:=of_decide_eq_true (zJ hc2)
    refine zj<|zc<|za<|zb zg0 Z Z<|zb zg0 Z Z ?_
    refine zam (l:=x.l) (news:=(oneF hh z.l).x) 2 zbq Z x.own q8 (by first | omega | (simp only [List.length_append,List.length_cons,List.length_nil]; omega) | (simp; done) | (simp; omega)) zg0 Z Z Z ?_
    intro A9 C10 s11 o12
    refine AtL.assign zg0 Z Z<|AtL.done<|zc<|za<|zb zg0 Z Z<|zb zg0 Z Z ?_
    refine zf zg0 Z Z<|zd zby zg0 Z Z Z<|zh zbz zg0 Z Z (Cell.own 1 0 Z Z Z)<|zb zg0 Z Z ?_
    have hleo15:=zab z.own
    refine zbN ((oneF hh z.l).n) z.l.length z.C z.own (zI Z Z) Z Z (by intro h; cases h) (by omega) (by omega) (by omega) (Nat.le_refl _) Tryz.underlying85 zQ zg0 Z Z ?_
    intro A13 C14 o15
    clear hleo15
    have hlo15:(subl z.l ((oneF hh z.l).n) z.l.length).length=z.l.length - ((oneF hh z.l).n):=zP (by omega)
    refine zf zg0 Z Z<|zd zby zg0 Z Z Z<|zr (H':=z.s::O6 b (.slice A13 (subl z.l ((oneF hh z.l).n) z.l.length).length C14) ((oneF hh z.l).h) ((oneF hh z.l).off) false gr sh::s11::H) 1 0 zdO zg0 Z Z Z Z Z Z Z Z Z<|AtL.done<|zc<|zc ?_
    refine za<|zb zg0 Z Z<|zf zg0 Z Z<|zd zc6 zg0 Z Z Z<|zh zR zg0 Z Z (Cell.own 1 0 Z Z Z)<|AtL.done ?_
    refine zae Z ?_ ?_
    ·intro hc3
     have hc3:((oneF hh z.l).off)=true:=hc3
     refine za<|zb zg0 Z Z<|zf zg0 Z Z<|zd zby zg0 Z Z Z<|zr (H':=z.s::O8 b none 0 0 ((oneF hh z.l).h) ((oneF hh z.l).off) false gr sh::s11::H) 1 0 zdO zg0 Z Z Z Z Z Z Z Z Z<|AtL.done ?_
     refine zc<|za<|zb zg0 Z Z<|zW zg0 Z Z Z<|zb zg0 Z Z<|zy 5 (E':=[(72,.bool (decide ((((oneF hh z.l).n:Int)=0)∨(((oneF hh z.l).off)=true)))),(0,B b),(6,.slice A9 (x.l++((oneF hh z.l).x)).length C10)]) (fun J => ?_) ?_
     ·refine zD (t:=67) Z ?_ ?_
      ·intro hs67
       refine ze Z Z Z Z Z Z<|ze Z Z Z Z Z Z<|ze Z Z Z Z Z Z<|ze Z Z Z Z Z Z<|zn zg0 Z Z Z ?_
       exact J _ (by exact ⟨(zw (by clear J; first | (simp [hs67]; done) | (simp_all; done) | grind)),Z,Z,trivial⟩)
      ·intro hs67
       refine zb (.inr ⟨_,_,_,Z,Z,Z,Z⟩) Z Z<|zf (.inr ⟨_,_,_,Z,Z,Z,Z⟩) Z Z<|zd zc6 (.inr ⟨_,_,_,Z,Z,Z,Z⟩) Z Z Z<|zh zR (.inr ⟨_,_,_,Z,Z,Z,Z⟩) Z Z (Cell.own 1 0 Z Z Z)<|zm zg0 Z Z Z ?_
       exact J _ (by exact ⟨(zw (by clear J; first | (simp [hs67]; done) | (simp_all; done) | grind)),Z,Z,trivial⟩)
     ·refine AtL.done ?_
      refine zU true Z (by simp [hc3])<|zc<|za<|zb zg0 Z Z<|AtL.assign zg0 Z Z<|AtL.assign zg0 Z Z ?_
      refine AtL.done<|At.nil<|At.pick (H':=s11::[]::O8 b none 0 0 ((oneF hh z.l).h) ((oneF hh z.l).off) false gr sh::H) [3,0,2] 4 Z Z ?_
      have hp:zck hello false false y.l l=zda hello (y.l++l):=by rw [zck,if_neg (by simp)]
      have hq:zdq hello false false y.l l=decide ((zda hello (y.l++l)).e≠0):=by rw [zdq,if_neg (by simp)]
      rw [hp,hq,← hI,told_off (by omega) hc3]
      exact zt Tryz.func196 Z Z (⟨⟨A9,C10,x.l++((oneF hh z.l).x),s11,o12⟩,Sl.nil,Z,Z,Z,by rw [hc3]; rfl⟩)
    ·intro hc3
     have hc3:((oneF hh z.l).off)=false:=hc3
     rw [hc3]
     refine zj<|zc<|za<|zb zg0 Z Z<|zW zg0 Z Z Z<|zb zg0 Z Z ?_
     refine zy 5 (E':=[(72,.bool (decide (((oneF hh z.l).n:Int)=0))),(0,B b),(6,.slice A9 (x.l++((oneF hh z.l).x)).length C10)]) (fun J => ?_) ?_
     ·refine zD (t:=67) Z ?_ ?_
      ·intro hs67
       refine ze Z Z Z Z Z Z<|ze Z Z Z Z Z Z<|ze Z Z Z Z Z Z<|ze Z Z Z Z Z Z<|zn zg0 Z Z Z ?_
       exact J _ (by exact ⟨(zw (by clear J; first | (simp [hs67]; done) | (simp_all; done) | grind)),Z,Z,trivial⟩)
      ·intro hs67
       refine zb (.inr ⟨_,_,_,Z,Z,Z,Z⟩) Z Z<|zf (.inr ⟨_,_,_,Z,Z,Z,Z⟩) Z Z<|zd zc6 (.inr ⟨_,_,_,Z,Z,Z,Z⟩) Z Z Z<|zh zR (.inr ⟨_,_,_,Z,Z,Z,Z⟩) Z Z (Cell.own 1 0 Z Z Z)<|zm zg0 Z Z Z ?_
       exact J _ (by exact ⟨(zw (by clear J; first | (simp [hs67]; done) | (simp_all; done) | grind)),Z,Z,trivial⟩)
     ·refine AtL.done<|zq Z ?_ ?_
      ·intro hc4
       refine zc<|za<|zb zg0 Z Z<|AtL.assign zg0 Z Z<|AtL.assign zg0 Z Z<|AtL.done ?_
       refine At.pick (H':=s11::z.s::O6 b (.slice A13 (subl z.l ((oneF hh z.l).n) z.l.length).length C14) ((oneF hh z.l).h) false false gr sh::H) [2,0,1] 3 Z Z ?_
       have hp:zck hello false false y.l l=zda hello (y.l++l):=by rw [zck,if_neg (by simp)]
       have hq:zdq hello false false y.l l=decide ((zda hello (y.l++l)).e≠0):=by rw [zdq,if_neg (by simp)]
       have hn0:(oneF hh z.l).n=0:=by simpa [hc3] using hc4
       rw [hp,hq,← hI,told_none (by omega) hc3 hn0]
       exact zt Tryz.func196 Z Z (⟨⟨A9,C10,x.l++((oneF hh z.l).x),s11,o12⟩,⟨A13,C14,subl z.l ((oneF hh z.l).n) z.l.length,z.s,o15⟩,by show x.l++_=x.l; rw [hn.2.2.1 hn0,List.append_nil],by show subl _ _ _=z.l; rw [hn0,zdI]; rfl,Z,Z⟩)
      ·intro hc4
       refine zj<|zp<|At.pick (H':=s11::z.s::O6 b (.slice A13 (subl z.l ((oneF hh z.l).n) z.l.length).length C14) ((oneF hh z.l).h) false false gr sh::H) [2,0,1] 3 Z Z ?_
       refine ihL1 (⟨A9,C10,x.l++((oneF hh z.l).x),s11,o12⟩) (⟨A13,C14,subl z.l ((oneF hh z.l).n) z.l.length,z.s,o15⟩) ((oneF hh z.l).h) (⟨by rw [← hI,told_more hc2 hc3 (by omega)]; congr 1; exact zdI _ _,by simp [zdI]; omega⟩) (by simp [zdI]; omega) _ ?_
       exact ⟨Z,(by first | rfl | exact zaf (by simp []) | exact zah (by omega) | exact zah (by simp []) | exact zaf (by simp []; omega)),trivial⟩
set_option maxRecDepth 100000
theorem greet_ok {w0:World}{base:Nat}{H:List Seg}{b:Nat}{vb:Value}{hello off out gr sh:Bool} :
  SCalls Tryz.prog 199 [B b] w0 base (O6 b vb hello off out gr sh::H) (fun v H' => ∃ x:Sl tyB 5,x.l=zcV gr∧v = .slice x.A x.l.length x.C∧H' = x.s::O6 b vb hello off out true sh::H):=by
 refine SCalls.of_walk (n:=18) Tryz.func199 Z Z Z fun cs => ?_
 refine zc<|za<|AtL.assign zg0 Z Z<|AtL.done<|zc<|zc ?_
 refine za<|zb zg0 Z Z<|zf zg0 Z Z<|zd zja zg0 Z Z Z<|zh zR zg0 Z Z (Cell.own 0 0 Z Z Z)<|AtL.done ?_
 refine zae Z ?_ ?_
 ·intro hc1
  have hc1:gr=true:=hc1
  rw [hc1]
  refine zc<|za<|AtL.assign zg0 Z Z<|AtL.done<|At.nil ?_
  exact zt Tryz.func199 Z Z (⟨Sl.nil,Z,Z,Z⟩)
 ·intro hc1
  have hc1:gr=false:=hc1
  rw [hc1]
  refine zj<|zc<|za<|zb zg0 Z Z<|zf zg0 Z Z<|zd zja zg0 Z Z Z ?_
  refine zr (H':=O6 b vb hello off out true sh::H) 0 0 za0 zg0 Z Z Z Z Z Z Z Z Z<|AtL.done<|zc<|za<|zG (cs:=[.int .u8 1]) Tryz.underlying34 zbf zQ Z Z zg0 Z Z Z ?_
  intro b1
  refine zaD tyB (l:=([1]:List UInt8)) Z Z (by first | decide | simp) ?_
  intro s2 o3
  refine zk zfU zg0 Z Z (rec_ok (l:=[1]) (o3.rd (i:=0) Z) (by first | omega | (simp only [List.length_append,List.length_cons,List.length_nil]; omega) | (simp; done) | (simp; omega)) 1) ?_
  rintro _ _ ⟨A4,C5,s6,l8,o7,hl9,rfl,rfl⟩
  obtain rfl:[1,0,1,1]=l8:=(hl9.trans recL_hello).symm
  refine zb zg0 Z Z<|AtL.extract zg0 Z Z Z<|AtL.extract zg0 Z Z Z<|AtL.assign zg0 Z Z<|AtL.assign zg0 Z Z<|AtL.done ?_
  refine zc<|za<|zb zg0 Z Z<|AtL.assign zg0 Z Z<|AtL.done<|At.pick [0,2] 3 Z Z ?_
  exact zt Tryz.func199 Z Z (⟨⟨A4,C5,[1,0,1,1],s6,o7⟩,Z,Z,Z⟩)
theorem close_ok {w0:World}{base:Nat}{H:List Seg}{b:Nat}{vb:Value}{hello off out gr sh:Bool} :
  SCalls Tryz.prog 193 [B b] w0 base (O6 b vb hello off out gr sh::H) (fun v H' => ∃ x:Sl tyB 5,x.l=closeF gr sh∧v = .slice x.A x.l.length x.C∧H' = x.s::O6 b vb hello off out (ziP true gr sh) true::H):=by
 refine SCalls.of_walk (n:=21) Tryz.func193 Z Z Z fun cs => ?_
 refine zc<|za<|AtL.assign zg0 Z Z<|AtL.done<|zc<|zc ?_
 refine za<|zb zg0 Z Z<|zf zg0 Z Z<|zd zgx zg0 Z Z Z<|zh zR zg0 Z Z (Cell.own 0 0 Z Z Z)<|AtL.done ?_
 refine zae Z ?_ ?_
 ·intro hc1
  have hc1:sh=true:=hc1
  rw [hc1]
  refine zc<|za<|AtL.assign zg0 Z Z<|AtL.done<|At.nil ?_
  exact zt Tryz.func193 Z Z (⟨Sl.nil,Z,Z,Z⟩)
 ·intro hc1
  have hc1:sh=false:=hc1
  have hg:(zcV gr).length≤4:=by unfold zcV; split <;> simp
  rw [hc1]
  refine zj<|zc<|za<|zb zg0 Z Z<|zf zg0 Z Z<|zd zgx zg0 Z Z Z ?_
  refine zr (H':=O6 b vb hello off out gr true::H) 0 0 za0 zg0 Z Z Z Z Z Z Z Z Z<|AtL.done<|zc<|za ?_
  refine zk zfU zg0 Z Z (rec_ok (l:=[]) zbQ (by first | omega | (simp only [List.length_append,List.length_cons,List.length_nil]; omega) | (simp; done) | (simp; omega)) 3) ?_
  rintro _ _ ⟨A1,C2,s3,l5,o4,hl6,rfl,rfl⟩
  obtain rfl:[3,0,0]=l5:=(hl6.trans recL_close).symm
  refine zb zg0 Z Z<|AtL.extract zg0 Z Z Z<|AtL.extract zg0 Z Z Z<|AtL.assign zg0 Z Z<|AtL.assign zg0 Z Z<|AtL.done ?_
  refine zc<|za<|zb zg0 Z Z<|AtL.pick (H':=O6 b vb hello off out gr true::s3::H) [1,0] 2 Z Z<|zk zhT zg0 Z Z greet_ok ?_
  rintro _ _ ⟨⟨A9,C10,l11,s12,o13⟩,hx8,rfl,rfl⟩
  obtain rfl:zcV gr=l11:=hx8.symm
  refine zb zg0 Z Z<|zG (cs:=[.slice A9 (zcV gr).length C10,.slice A1 [3,0,0].length C2]) Tryz.underlying22 zbn zaA Z Z zg0 Z Z Z ?_
  intro b14
  refine zk zdC zg0 Z Z (zkX (o13.rd (i:=0) Z) (o4.rd (i:=2) Z) (by first | omega | (simp only [List.length_append,List.length_cons,List.length_nil]; omega) | (simp; done) | (simp; omega))) ?_
  rintro _ _ ⟨A15,C16,s17,o18,rfl,rfl⟩
  refine AtL.assign zg0 Z Z<|AtL.done<|At.pick [0,3] 5 Z Z ?_
  exact zt Tryz.func193 Z Z (⟨⟨A15,C16,(zcV gr)++[3,0,0],s17,o18⟩,Z,Z,Z⟩)
theorem ended_ok {w0:World}{base:Nat}{H:List Seg}{b:Nat}{vb:Value}{hello off out gr sh:Bool} :
  SCalls Tryz.prog 194 [B b] w0 base (O6 b vb hello off out gr sh::H) (fun v H' => v = .bool off∧H' = (O6 b vb hello off out gr sh)::H):=by
 refine SCalls.of_walk (n:=7) Tryz.func194 Z Z Z fun cs => ?_
 refine zc<|za<|AtL.assign zg0 Z Z<|AtL.done<|zc<|za ?_
 refine zb zg0 Z Z<|zf zg0 Z Z<|zd zc6 zg0 Z Z Z<|zh zR zg0 Z Z (Cell.own 0 0 Z Z Z)<|AtL.assign zg0 Z Z<|AtL.done ?_
 exact zt Tryz.func194 Z Z (⟨Z,Z⟩)
theorem sealed_ok {w0:World}{base:Nat}{H:List Seg}  :
  SCalls Tryz.prog 12 [] w0 base (H) (fun v H' => ∃ b:Nat,v = .iface 84 (B b)∧H' = (O8 b none 0 0 false false false false false)::H):=by
 refine SCalls.of_walk (n:=4) Tryz.func12 Z Z Z fun cs => ?_
 refine zc<|za<|AtL.assign zg0 Z Z<|AtL.done<|zc<|za ?_
 refine zaE (cs:=[.slice none 0 0,.bool false,.bool false,.bool false,.bool false,.bool false]) tf_lay87 zg0 Z Z Z<|zbe (cs:=#[.slice none 0 0,.bool false,.bool false,.bool false,.bool false,.bool false]) Z zg0 Z Z ?_
 intro b1
 refine zc0 Tryz.underlying84 Z zg0 Z Z<|AtL.assign zg0 Z Z<|AtL.done ?_
 exact zt Tryz.func12 Z Z (⟨_,Z,Z⟩)
theorem plain_ok {w0:World}{base:Nat}{H:List Seg}  :
  SCalls Tryz.prog 11 [] w0 base (H) (fun v H' => ∃ b:Nat,v = .iface 81 (B b)∧H' = [(b,.cells #[.bool false] 83 (0,0))]::H):=by
 refine SCalls.of_walk (n:=4) Tryz.func11 Z Z Z fun cs => ?_
 refine zc<|za<|AtL.assign zg0 Z Z<|AtL.done<|zc<|za ?_
 refine zaE (cs:=[.bool false]) tf_lay83 zg0 Z Z Z<|zbe (cs:=#[.bool false]) Z zg0 Z Z ?_
 intro b1
 refine zc0 Tryz.underlying81 Z zg0 Z Z<|AtL.assign zg0 Z Z<|AtL.done ?_
 exact zt Tryz.func11 Z Z (⟨_,Z,Z⟩)
theorem pended_ok {w0:World}{base:Nat}{H:List Seg}{b:Nat} :
  SCalls Tryz.prog 188 [B b] w0 base (H) (fun v H' => v = .bool false∧H' = H):=by
 refine SCalls.of_walk (n:=3) Tryz.func188 Z Z Z fun cs => ?_
 refine zc<|za<|AtL.assign zg0 Z Z<|AtL.done<|zc<|za ?_
 refine AtL.assign zg0 Z Z<|AtL.done ?_
 exact zt Tryz.func188 Z Z (⟨Z,Z⟩)
theorem pclose_ok {w0:World}{base:Nat}{H:List Seg}{b:Nat}{sh:Bool} :
  SCalls Tryz.prog 187 [B b] w0 base ([(b,.cells #[.bool sh] 83 (0,0))]::H) (fun v H' => v = .slice none 0 0∧H' = [(b,.cells #[.bool true] 83 (0,0))]::H):=by
 refine SCalls.of_walk (n:=6) Tryz.func187 Z Z Z fun cs => ?_
 refine zc<|za<|AtL.assign zg0 Z Z<|AtL.done<|zc<|za ?_
 refine zb zg0 Z Z<|zf zg0 Z Z<|zd zjc zg0 Z Z Z<|zr (H':=[(b,.cells #[.bool true] 83 (0,0))]::H) 0 0 za0 zg0 Z Z Z Z Z Z Z Z Z<|AtL.done<|zc ?_
 refine za<|AtL.assign zg0 Z Z<|AtL.done ?_
 exact zt Tryz.func187 Z Z (⟨Z,Z⟩)
set_option maxRecDepth 100000
theorem zfu {w0:World}{base:Nat}{H:List Seg}{A:Option Addr}{C:Nat}{l:List UInt8}(h:Rd tyB w0 base H A C l) (hl:l.length≤140737488355000) :
  SCalls Tryz.prog 38 [.slice A l.length C] w0 base (H) (fun v H' => ∃ x:Sl tyB 5,x.l=l∧v = .slice x.A x.l.length x.C∧H' = x.s::H):=by
 refine SCalls.of_walk (n:=8) Tryz.func38 Z Z Z fun cs => ?_
 refine zc<|za<|AtL.assign zg0 Z Z<|AtL.done<|zc<|zc ?_
 refine za<|zb zg0 Z Z<|zb3 Tryz.underlying34 zg0 Z Z Z<|AtL.done<|zae Z ?_ ?_
 ·intro hc1
  have hc1:A.isNone=true:=hc1
  have hA:A=none:=by simpa using hc1
  have hl0:l=[]:=List.eq_nil_of_length_eq_zero (by have:=h.le; have:=h.nil hA; omega)
  refine zc<|za<|AtL.assign zg0 Z Z<|AtL.done<|At.nil ?_
  exact zt Tryz.func38 Z Z (⟨Sl.nil,hl0.symm,Z,Z⟩)
 ·intro hc1
  have hc1:A.isNone=false:=hc1
  refine zj<|zc<|za<|zG (cs:=[]) Tryz.underlying34 zbf zQ Z Z zg0 Z Z Z ?_
  intro b1
  refine zaD tyB (l:=([]:List UInt8)) Z Z (by first | decide | simp) ?_
  intro s2 o3
  refine zb zg0 Z Z ?_
  refine zam (l:=[]) (news:=l) 0 zbq Z o3 (Rd.skip 1 h) (by first | omega | (simp only [List.length_append,List.length_cons,List.length_nil]; omega) | (simp; done) | (simp; omega)) zg0 Z Z Z ?_
  intro A4 C5 s6 o7
  refine AtL.assign zg0 Z Z<|AtL.done ?_
  exact zt Tryz.func38 Z Z (⟨⟨A4,C5,[]++l,s6,o7⟩,Z,Z,Z⟩)
theorem ppush_ok {w0:World}{base:Nat}{H:List Seg}{b:Nat}{A:Option Addr}{C:Nat}{l:List UInt8}(h:Rd tyB w0 base H A C l) (hl:l.length≤140737488355000) :
  SCalls Tryz.prog 190 [B b,.slice A l.length C] w0 base (H) (fun v H' => ∃ x:Sl tyB 5,x.l=l∧v = .tuple #[.slice x.A x.l.length x.C,int 0]∧H' = x.s::H):=by
 refine SCalls.of_walk (n:=8) Tryz.func190 Z Z Z fun cs => ?_
 refine zc<|za<|AtL.assign zg0 Z Z<|AtL.assign zg0 Z Z<|AtL.done<|zc ?_
 refine za<|zb zg0 Z Z ?_
 refine zk zd7 zg0 Z Z (zfu (l:=l) h (by first | omega | (simp only [List.length_append,List.length_cons,List.length_nil]; omega) | (simp; done) | (simp; omega))) ?_
 rintro _ _ ⟨⟨A1,C2,l3,s4,o5⟩,hx6,rfl,rfl⟩
 obtain rfl:l=l3:=hx6.symm
 refine AtL.assign zg0 Z Z<|AtL.assign zg0 Z Z<|AtL.done ?_
 exact zt Tryz.func190 Z Z (⟨⟨A1,C2,l,s4,o5⟩,Z,Z,Z⟩)
def zhW (sh:Bool) (l:List UInt8):List UInt8:=if sh=true∨l.length=0 then [] else l
theorem psend_ok {w0:World}{base:Nat}{H:List Seg}{b:Nat}{sh:Bool}{A:Option Addr}{C:Nat}{l:List UInt8}(h:Rd tyB w0 base H A C l) (hl:l.length≤140737488355000) :
  SCalls Tryz.prog 191 [B b,.slice A l.length C] w0 base ([(b,.cells #[.bool sh] 83 (0,0))]::H) (fun v H' => ∃ x:Sl tyB 5,x.l=zhW sh l∧v = .slice x.A x.l.length x.C∧H' = x.s::[(b,.cells #[.bool sh] 83 (0,0))]::H):=by
 refine SCalls.of_walk (n:=16) Tryz.func191 Z Z Z fun cs => ?_
 refine zc<|za<|AtL.assign zg0 Z Z<|AtL.done<|zc<|zc ?_
 refine za<|zb zg0 Z Z<|zf zg0 Z Z<|zd zjc zg0 Z Z Z<|zh zR zg0 Z Z (Cell.own 0 0 Z Z Z)<|zb zg0 Z Z ?_
 refine zy 4 (E':=[(13,.bool (decide ((sh=true)∨((l.length:Int)=0)))),(1,.slice A l.length C)]) (fun J => ?_) ?_
 ·refine zY (t:=9) Z ?_ ?_
  ·intro hs9
   have hs9:sh=true:=hs9
   refine ze Z Z Z Z Z Z<|ze Z Z Z Z Z Z<|ze Z Z Z Z Z Z<|zn zg0 Z Z Z ?_
   exact J _ (by exact ⟨(zw (by clear J; first | (simp [hs9]; done) | (simp_all; done) | grind)),Z,trivial⟩)
  ·intro hs9
   have hs9:sh=false:=hs9
   refine zb (.inr ⟨_,_,_,Z,Z,Z,Z⟩) Z Z<|zC Tryz.underlying34 (.inr ⟨_,_,_,Z,Z,Z,Z⟩) Z Z<|zW (.inr ⟨_,_,_,Z,Z,Z,Z⟩) Z Z Z<|zm zg0 Z Z Z ?_
   exact J _ (by exact ⟨(zw (by clear J; first | (simp [hs9]; done) | (simp_all; done) | grind)),Z,trivial⟩)
 ·refine AtL.done<|zq Z ?_ ?_
  ·intro hc1
   refine zc<|za<|AtL.assign zg0 Z Z<|AtL.done<|At.nil ?_
   exact zt Tryz.func191 Z Z (⟨Sl.nil,(by rw [zhW,if_pos (by simpa using hc1)]; rfl),Z,Z⟩)
  ·intro hc1
   refine zj<|zc<|za<|zb zg0 Z Z ?_
   refine zk zd7 zg0 Z Z (zfu (l:=l) (Rd.skip 1 h) (by first | omega | (simp only [List.length_append,List.length_cons,List.length_nil]; omega) | (simp; done) | (simp; omega))) ?_
   rintro _ _ ⟨⟨A1,C2,l3,s4,o5⟩,hx6,rfl,rfl⟩
   obtain rfl:l=l3:=hx6.symm
   refine AtL.assign zg0 Z Z<|AtL.done ?_
   exact zt Tryz.func191 Z Z (⟨⟨A1,C2,l,s4,o5⟩,(by rw [zhW,if_neg (by simpa using hc1)]),Z,Z⟩)
theorem zjZ (g:Bool):(zcV g).length≤4:=by cases g <;> decide
set_option maxRecDepth 100000
def sentF (se gr sh:Bool) (l:List UInt8):Bool:=if se=true∧sh=false∧0 < l.length then true else gr
theorem recs_nil:recs []=[]:=by rw [recs,if_pos rfl]
theorem zjJ {l:List UInt8}(h:0 < l.length):recs l=recB 2 (l.take 1024)++recs (l.drop 1024):=by
 rw [recs,if_neg (by intro h2; subst h2; simp at h)]
theorem zdm (k:Int) (l:List UInt8):(recB k l).length=3 + l.length:=by simp [recB]; omega
theorem recs_len (l:List UInt8):(recs l).length≤4 * l.length:=by
 induction l using (measure List.length).wf.induction with
 | _ l ih =>
  by_cases h:0 < l.length
  ·rw [zjJ h,List.length_append,zdm]
   have:=ih (l.drop 1024) (show (List.drop _ _).length < _ by simp; omega)
   simp at this ⊢
   omega
  ·have:l=[]:=List.eq_nil_of_length_eq_zero (by omega)
   subst this
   rw [recs_nil]; simp
theorem recs_cut {x y l:List UInt8}(n:Nat) (hn:n=min l.length 1024) (h:0 < l.length) (hI:x++recs l=y):(x++recB 2 (subl l 0 n))++recs (subl l n l.length)=y:=by
 rw [← hI,zjJ h,zcp,zdI,List.append_assoc]
 by_cases h2:1024≤l.length
 ·rw [show n=1024 by omega]
 ·rw [show n=l.length by omega,List.take_of_length_le (Nat.le_refl _),List.take_of_length_le (show l.length≤1024 by omega),List.drop_eq_nil_of_le (Nat.le_refl _),List.drop_eq_nil_of_le (show l.length≤1024 by omega)]
set_option maxRecDepth 100000
theorem chunk_ok {w0:World}{base:Nat}{H:List Seg}{A:Option Addr}{C:Nat}{l:List UInt8}(n:Nat) (hn:1≤n) :
  SCalls Tryz.prog 202 [.slice A l.length C,V (n:Int)] w0 base (H) (fun v H' => ∃ bs bn:Nat,v = .func (.func 207) #[] #[B bs,B bn]∧H' = (O15 bn (n:Int))::[(bs,.cells #[.slice A l.length C] 34 (0,0))]::H):=by
 refine SCalls.of_walk (n:=9) Tryz.func202 Z Z Z fun cs => ?_
 refine zc<|za<|zbe (cs:=#[.slice A l.length C]) Z zg0 Z Z ?_
 intro b1
 refine zbe (cs:=#[V (n:Int)]) Z zg0 Z Z ?_
 intro b2
 refine AtL.assign zg0 Z Z<|AtL.done<|zc<|zc<|za<|zh zo zg0 Z Z (Cell.own 0 0 Z Z Z) ?_
 refine zA zg0 Z Z Z<|AtL.done ?_
 refine zU false Z (decide_eq_false (by omega))<|zj<|zc<|za<|zbD zg0 Z Z Z<|AtL.assign zg0 Z Z ?_
 refine AtL.done ?_
 exact zt Tryz.func202 Z Z (⟨_,_,Z,Z⟩)
theorem chunkit_ok {w0:World}{base:Nat}{T Hc:List Seg}{A:Option Addr}{C:Nat}{l:List UInt8}(h:Rd tyB w0 base T A C l) (hl:l.length≤140737488355000) (n:Nat) (hn:1≤n) (hn2:n≤1073741824) {lp bs bn:Nat}{J:Nat→List Seg→Prop}
  (hY:∀ i Hc,i < l.length→J i Hc→∀ T' A' C',Rd tyB w0 base T' A' C' (subl l i (i + min n (l.length - i)))→YCalls Tryz.prog lp [.slice A' (subl l i (i + min n (l.length - i))).length C'] w0 base (Hc++T') (fun v H' => v = .bool true∧∃ Hc',H' = Hc'++T'∧J (i + min n (l.length - i)) Hc'))
  (h0:J 0 Hc) :
  SCalls Tryz.prog 207 [.func (.yield lp) #[] #[],B bs,B bn] w0 base ([(bs,.cells #[.slice A l.length C] 34 (0,0))]::O15 bn (n:Int)::(Hc++T)) (fun v H' => v = .tuple #[]∧∃ Hc',H' = [(bs,.cells #[.slice A l.length C] 34 (0,0))]::O15 bn (n:Int)::(Hc'++T)∧J l.length Hc'):=by
 have hv:Rd tyB w0 base (Hc++T) A C l:=Rd.skip Hc.length (by rw [List.drop_left]; exact h)
 refine SCalls.of_walk (n:=31) Tryz.func207 Z Z Z fun cs => ?_
 refine zc<|za<|AtL.assign zg0 Z Z<|AtL.done<|At.block<|zcI (fun (i:Nat) (Hc2:List Seg) => [(0,.func (.yield lp) #[] #[]),(1,B bs),(2,B bn),(4,V (i:Int))]) (fun (i:Nat) (Hc2:List Seg) => [(bs,.cells #[.slice A l.length C] 34 (0,0))]::O15 bn (n:Int)::(Hc2++T)) (fun (i:Nat) (Hc2:List Seg) => i≤l.length + n∧J (min i l.length) Hc2) (fun (i:Nat) (Hc2:List Seg) => l.length + n - i) 0 Hc (⟨by omega,by rw [Nat.zero_min]; exact h0⟩) ⟨Z,Z,Z,Z,trivial⟩ Z ?_
 rintro i Hc2 ⟨hi,hJ⟩ ihL1
 have hv2:Rd tyB w0 base (Hc2++T) A C l:=Rd.skip Hc2.length (by rw [List.drop_left]; exact h)
 refine zc<|zc<|za<|zb zg0 Z Z<|zh zE zg0 Z Z (Cell.own 0 0 Z Z Z)<|zC Tryz.underlying34 zg0 Z Z ?_
 refine zA zg0 Z Z Z<|AtL.done<|zq Z ?_ ?_
 ·intro hc1
  refine zj<|zc<|At.block<|zc ?_
  have hleo3:=Rd.le hv2
  obtain ⟨A1,eA1⟩:∃ A1:Option Addr,A1=(if C=i then A else Option.map (fun a => a.add (i * tyB.sz)) A):=⟨_,rfl⟩
  obtain ⟨C2,eC2⟩:∃ C2:Nat,C2=C - i:=⟨_,rfl⟩
  have o3:Rd tyB w0 base (Hc2++T) A1 C2 (subl l i l.length):=by rw [eA1,eC2]; exact Rd.cut hv2 (by omega) (by omega) (by omega) (by omega)
  refine zac (es:=[]) (pv:=[(0,V (n:Int)),(1,.slice A l.length C),(2,V (i:Int)),(3,.slice A1 (subl l i l.length).length C2),(4,V ((subl l i l.length).length:Int)),(5,V ((min n (l.length - i):Nat):Int)),(6,V ((min n (l.length - i):Nat):Int))]) zV (by kernel_rfl) (by kernel_rfl) (by kernel_rfl) ?_
  refine ⟨⟨zpr Z Z Z (zu zo Z (Cell.own 1 0 Z Z Z)),zpr Z Z Z (zu zE Z (Cell.own 0 0 Z Z Z)),zpr Z Z Z (zi Z),zpr Z Z Z (zaC (T:=tyB) (l:=l) i l.length C (zI Z Z) Z Z (by intro h; cases h) (by omega) (by omega) (Nat.le_refl _) Tryz.underlying34 zQ Z eA1 (zP (l:=l) (i:=i) (j:=l.length) (by omega)) eC2),zpr Z Z Z (zbt Tryz.underlying34 Z),zpr Z Z Z (Do.asInt (Do.minZ (z:=((min n ((subl l i l.length).length):Nat):Int)) Z Z (by omega)) (by rw [zP (Nat.le_refl _)])),zpr Z Z Z (Do.assign Z),trivial⟩,by kernel_rfl,?_⟩
  refine At.mono (E':=[(0,.func (.yield lp) #[] #[]),(1,B bs),(2,B bn),(4,V (i:Int)),(5,V ((min n (l.length - i):Nat):Int))]) ⟨Z,Z,Z,Z,Z,trivial⟩<|zc<|za<|zb zg0 Z Z<|zh zE zg0 Z Z (Cell.own 0 0 Z Z Z)<|zb zg0 Z Z ?_
  refine zb zg0 Z Z<|zb zg0 Z Z ?_
  refine AtL.add (z:=(i:Int) + ((min n (l.length - i):Nat):Int)) zg0 Z Z Z (w64 (by omega) (by omega))<|zb zg0 Z Z<|zb zg0 Z Z ?_
  refine AtL.add (z:=(i:Int) + ((min n (l.length - i):Nat):Int)) zg0 Z Z Z (w64 (by omega) (by omega)) ?_
  have hle3:=Rd.le h
  obtain ⟨A3,eA3⟩:∃ A3:Option Addr,A3=(if (i + min n (l.length - i))=i then A else Option.map (fun a => a.add (i * tyB.sz)) A):=⟨_,rfl⟩
  obtain ⟨C3,eC3⟩:∃ C3:Nat,C3=(i + min n (l.length - i)) - i:=⟨_,rfl⟩
  have q3:Rd tyB w0 base T A3 C3 (subl l i (i + min n (l.length - i))):=by rw [eA3,eC3]; exact Rd.cut h (by omega) (by omega) (by omega) (by omega)
  refine zL (zaC (T:=tyB) (l:=l) i (i + min n (l.length - i)) (i + min n (l.length - i)) (zI Z Z) (zI Z Z) (zI Z Z) (fun _ => Z) (by omega) (by omega) (by omega) Tryz.underlying34 zQ Z eA3 (zP (l:=l) (i:=i) (j:=i + min n (l.length - i)) (by omega)) eC3) zg0 Z ?_
  refine zeu zg0 Z Z Z (YCalls.perm (perm2 [(bs,.cells #[.slice A l.length C] 34 (0,0))] (O15 bn (n:Int)) Hc2 T) (hY i Hc2 (by omega) (by rw [show min i l.length=i by omega] at hJ; exact hJ) ([(bs,.cells #[.slice A l.length C] 34 (0,0))]::O15 bn (n:Int)::T) A3 C3 (Rd.skip 2 q3))) ?_
  rintro _ _ ⟨rfl,Hc3,rfl,hJ3⟩
  refine AtL.perm (perm2 _ _ Hc3 T).symm<|zag zg0 Z Z<|AtL.done<|zB Z<|zj<|zp ?_
  refine za<|zb zg0 Z Z<|zh zo zg0 Z Z (Cell.own 1 0 Z Z Z) ?_
  refine AtL.add (z:=(i:Int) + (n:Int)) zg0 Z Z Z (w64 (by omega) (by omega))<|AtL.assign zg0 Z Z<|AtL.done ?_
  refine ihL1 (i + n) Hc3 (⟨by omega,by rw [show min (i + n) l.length=i + min n (l.length - i) by omega]; exact hJ3⟩) (by omega) _ ?_
  exact ⟨Z,Z,Z,(by first | rfl | exact zaf (by simp []) | exact zah (by omega) | exact zah (by simp []) | exact zaf (by simp []; omega)),trivial⟩
 ·intro hc1
  refine zau Z ?_
  exact zbX Tryz.func207 Z Z (⟨Z,_,Z,by rw [show min i l.length=l.length by omega] at hJ; exact hJ⟩)
set_option maxRecDepth 100000
theorem recs_cut2 {x y l:List UInt8}(i n:Nat) (hn:n=i + min 1024 (l.length - i)) (h:i < l.length) (hI:x++recs (l.drop i)=y):(x++recB 2 (subl l i n))++recs (l.drop n)=y:=by
 have:=recs_cut (l:=l.drop i) (min (l.drop i).length 1024) rfl (by simp; omega) hI
 rw [zdI,List.drop_drop] at this
 rw [show subl l i n=subl (l.drop i) 0 (min (l.drop i).length 1024) from by simp only [subl,List.drop_zero,List.length_drop]; congr 1; omega]
 rw [show n=i + min (l.drop i).length 1024 from by simp; omega]
 exact this
theorem send_ok {w0:World}{base:Nat}{H:List Seg}{b:Nat}{vb:Value}{hello off out gr sh:Bool}{A:Option Addr}{C:Nat}{l:List UInt8}(h:Rd tyB w0 base H A C l) (hl:l.length≤140737488355) :
  SCalls Tryz.prog 197 [B b,.slice A l.length C] w0 base (O6 b vb hello off out gr sh::H) (fun v H' => ∃ x:Sl tyB 5,x.l=sendF gr sh l∧v = .slice x.A x.l.length x.C∧H' = x.s::O6 b vb hello off out (sentF true gr sh l) sh::H):=by
 refine SCalls.of_walk (n:=32) Tryz.func197 Z Z Z fun cs => ?_
 refine zc<|za<|AtL.assign zg0 Z Z<|AtL.done<|zc<|zc ?_
 refine za<|zb zg0 Z Z<|zf zg0 Z Z<|zd zgx zg0 Z Z Z<|zh zR zg0 Z Z (Cell.own 0 0 Z Z Z)<|zb zg0 Z Z ?_
 refine zy 4 (E':=[(17,.bool (decide ((sh=true)∨((l.length:Int)=0)))),(0,B b),(1,.slice A l.length C)]) (fun J => ?_) ?_
 ·refine zY (t:=13) Z ?_ ?_
  ·intro hs13
   have hs13:sh=true:=hs13
   refine ze Z Z Z Z Z Z<|ze Z Z Z Z Z Z<|ze Z Z Z Z Z Z<|zn zg0 Z Z Z ?_
   exact J _ (by exact ⟨(zw (by clear J; first | (simp [hs13]; done) | (simp_all; done) | grind)),Z,Z,trivial⟩)
  ·intro hs13
   have hs13:sh=false:=hs13
   refine zb (.inr ⟨_,_,_,Z,Z,Z,Z⟩) Z Z<|zC Tryz.underlying34 (.inr ⟨_,_,_,Z,Z,Z,Z⟩) Z Z<|zW (.inr ⟨_,_,_,Z,Z,Z,Z⟩) Z Z Z<|zm zg0 Z Z Z ?_
   exact J _ (by exact ⟨(zw (by clear J; first | (simp [hs13]; done) | (simp_all; done) | grind)),Z,Z,trivial⟩)
 ·refine AtL.done<|zq Z ?_ ?_
  ·intro hc1
   refine zc<|za<|AtL.assign zg0 Z Z<|AtL.done<|At.nil ?_
   exact zt Tryz.func197 Z Z (⟨Sl.nil,by rw [sendF,if_pos (by grind)]; rfl,Z,by rw [sentF,if_neg (by grind)]; rfl⟩)
  ·intro hc1
   refine zj<|zc<|za<|zb zg0 Z Z<|zk zhT zg0 Z Z greet_ok ?_
   rintro _ _ ⟨⟨A3,C4,l5,s6,o7⟩,hx2,rfl,rfl⟩
   obtain rfl:zcV gr=l5:=hx2.symm
   refine AtL.alloc zbn (cs:=#[.slice none 0 0]) Z zg0 Z ?_
   intro b8
   refine zr (H':=[(b8,.cells #[.slice A3 (zcV gr).length C4] 34 (0,0))]::s6::O6 b vb hello off out true sh::H) 0 0 zaA zg0 Z Z Z Z Z Z Z Z Z<|AtL.done<|zc<|zc<|za<|zb zg0 Z Z ?_
   refine zk tf_body202 zg0 Z Z (chunk_ok (l:=l) 1024 (by omega)) ?_
   rintro _ _ ⟨bs9,bn10,rfl,rfl⟩
   refine AtL.done<|At.block ?_
   refine zfI (R:=fun L lp rr v H' => ∃ x:Sl tyB 5,x.l=zcV gr++recs l∧H' = [(bs9,.cells #[.slice A l.length C] 34 (0,0))]::O15 bn10 1024::[(lp,.loop L)]::[(rr,.deferred (some []))]::x.s::[(b8,.cells #[.slice x.A x.l.length x.C] 34 (0,0))]::O6 b vb hello off out true sh::H) Z tf_body207 Z (fun lp => Z) (fun L lp rr hL => ?_) (fun L lp rr v H1 hL hR => ?_)
   ·refine SCalls.pick (H':=[(bs9,.cells #[.slice A l.length C] 34 (0,0))]::O15 bn10 1024::[(lp,.loop L)]::[(rr,.deferred (some []))]::s6::[(b8,.cells #[.slice A3 (zcV gr).length C4] 34 (0,0))]::O6 b vb hello off out true sh::H) [3,2,0,1,5,4,6] 7 Z Z ?_
    refine SCalls.mono (chunkit_ok (T:=H) (Hc:=[[(lp,.loop L)],[(rr,.deferred (some []))],s6,[(b8,.cells #[.slice A3 (zcV gr).length C4] 34 (0,0))],(O6 b vb hello off out true sh)]) (J:=(fun i Hc => ∃ x:Sl tyB 5,x.l++recs (l.drop i)=zcV gr++recs l∧x.l.length≤4 + 4 * i∧Hc=[[(lp,.loop L)],[(rr,.deferred (some []))],x.s,[(b8,.cells #[.slice x.A x.l.length x.C] 34 (0,0))],(O6 b vb hello off out true sh)])) h (by omega) 1024 (by omega) (by omega) (fun i Hc hi hJ T' A' C' rd => ?_) ⟨⟨A3,C4,zcV gr,s6,o7⟩,Z,(by have:=zjZ gr; simp; omega),Z⟩) (fun v H' hp => ?_)
    ·obtain ⟨x,hI,hlen,rfl⟩:=hJ
     have hln:(subl l i (i + min 1024 (l.length - i))).length=min 1024 (l.length - i):=by rw [zP (by omega)]; omega
     refine zdt hL (i:=0) (j:=0) Z Z Z Z Z (fun c cs => ?_)
     refine za<|AtL.assign zg0 Z Z<|AtL.done<|zfK 0 0 hL Z Z Z Z<|At.block<|zc ?_
     refine za<|zb zg0 Z Z ?_
     refine zk zfU zg0 Z Z (rec_ok (l:=subl l i (i + min 1024 (l.length - i))) (Rd.skip 5 rd) (by first | omega | (simp only [List.length_append,List.length_cons,List.length_nil,zdm,hln]; omega) | (simp [zdm,hln]; done) | (simp [zdm,hln]; omega)) 2) ?_
     rintro _ _ ⟨A11,C12,s13,l15,o14,hl16,rfl,rfl⟩
     obtain rfl:recB 2 (subl l i (i + min 1024 (l.length - i)))=l15:=(hl16.trans (recL_data _ (by rw [hln]; omega))).symm
     refine zb zg0 Z Z<|AtL.extract zg0 Z Z Z<|AtL.extract zg0 Z Z Z<|AtL.assign zg0 Z Z<|AtL.assign zg0 Z Z<|AtL.done ?_
     refine za<|zh zE zg0 Z Z (Cell.own 4 0 Z Z Z)<|zb zg0 Z Z ?_
     refine zam (l:=x.l) (news:=recB 2 (subl l i (i + min 1024 (l.length - i)))) 3 zbq Z x.own (o14.rd (i:=0) Z) (by first | omega | (simp only [List.length_append,List.length_cons,List.length_nil,zdm,hln]; omega) | (simp [zdm,hln]; done) | (simp [zdm,hln]; omega)) zg0 Z Z Z ?_
     intro A17 C18 s19 o20
     refine zr (H':=s13::[(lp,.loop (zgi L))]::[(rr,.deferred (some []))]::s19::[(b8,.cells #[.slice A17 (x.l++(recB 2 (subl l i (i + min 1024 (l.length - i))))).length C18] 34 (0,0))]::O6 b vb hello off out true sh::T') 4 0 zaA zg0 Z Z Z Z Z Z Z Z Z<|AtL.done<|zp<|At.pick [1,2,3,4,5] 6 Z Z ?_
     exact zcQ 0 0 hL Z Z Z (⟨Z,[[(lp,.loop L)],[(rr,.deferred (some []))],s19,[(b8,.cells #[.slice A17 (x.l++(recB 2 (subl l i (i + min 1024 (l.length - i))))).length C18] 34 (0,0))],(O6 b vb hello off out true sh)],Z,⟨A17,C18,x.l++(recB 2 (subl l i (i + min 1024 (l.length - i)))),s19,o20⟩,recs_cut2 i _ Z hi hI,by simp only [List.length_append,zdm,hln]; omega,Z⟩)
    ·obtain ⟨rfl,Hc',rfl,x,hI,hlen,rfl⟩:=hp
     exact ⟨x,by rw [← hI,List.drop_length,recs_nil,List.append_nil],Z⟩
   ·obtain ⟨x,hI,rfl⟩:=hR
    refine ⟨2,0,_,L,_,Z,Z,zeI hL,Z,?_⟩
    rw [zgr hL]
    refine zp<|zc<|za<|zh zE zg0 Z Z (Cell.own 5 0 Z Z Z)<|AtL.assign zg0 Z Z<|AtL.done ?_
    refine zaJ Z<|zcg (i:=3) (j:=0) Z Z Z Z ?_
    exact zap (vs:=[.slice x.A x.l.length x.C]) (H2:=x.s::O6 b vb hello off out true sh::H) [4,6] 7 Z Z Tryz.func197 Z ⟨Z,trivial⟩ (⟨x,by rw [sendF,if_neg (by grind)]; exact hI,Z,by rw [sentF,if_pos (by grind)]⟩)
section
variable {X:Pt}{k:List Item}{E:Env}{ds:List Deferred}{H:List Seg}
theorem At.loopD {b:Code}{ι:Type}(Ei:ι→Env) (Hi:ι→List Seg) (Di:ι→List Deferred) (I:ι→Prop) (μ:ι→Nat) (x0:ι) (h0:I x0) (hE:Sub (Ei x0) E) (hH:Hi x0=H) (hD:Di x0=ds)
  (hr:∀ x,I x→(∀ x',I x'→μ x' < μ x→∀ E',Sub (Ei x') E'→At X (.inLoop b::k) E' (Di x') (Hi x'))→At X (.code b::.inLoop b::k) (Ei x) (Di x) (Hi x)):At X (.code (.loop b)::k) E ds H:=by
 have key:∀ n x,μ x=n→I x→At X (.code b::.inLoop b::k) (Ei x) (Di x) (Hi x):=by
  intro n
  induction n using Nat.strongRecOn with
  | _ n ih =>
   intro x hx hI
   refine hr x hI fun x' hI' hlt E' hE' => ?_
   exact fun a w ha S => .step zgY (ih (μ x') (hx ▸ hlt) x' Z hI' a w (ha.sub hE') S)
 subst hH
 subst hD
 exact fun a w ha S => .step zkO (key _ x0 Z h0 a w (ha.sub hE) S)
theorem At.loopD3 {b:Code}{α β γ:Type}(Ei:α→β→γ→Env) (Hi:α→β→γ→List Seg) (Di:α→β→γ→List Deferred) (I:α→β→γ→Prop) (μ:α→β→γ→Nat) (x:α) (y:β) (z:γ) (h0:I x y z) (hE:Sub (Ei x y z) E) (hH:Hi x y z=H) (hD:Di x y z=ds)
  (hr:∀ x y z,I x y z→(∀ x' y' z',I x' y' z'→μ x' y' z' < μ x y z→∀ E',Sub (Ei x' y' z') E'→At X (.inLoop b::k) E' (Di x' y' z') (Hi x' y' z'))→At X (.code b::.inLoop b::k) (Ei x y z) (Di x y z) (Hi x y z)):At X (.code (.loop b)::k) E ds H :=
 At.loopD (ι:=α×β×γ) (fun p => Ei p.1 p.2.1 p.2.2) (fun p => Hi p.1 p.2.1 p.2.2) (fun p => Di p.1 p.2.1 p.2.2) (fun p => I p.1 p.2.1 p.2.2) (fun p => μ p.1 p.2.1 p.2.2) (x,y,z) h0 hE hH hD
  fun p hI ih => hr p.1 p.2.1 p.2.2 hI fun x' y' z' => ih (x',y',z')
def colsOf (rs:List Nat):List Deferred:=rs.map fun r => { target:=.collected r,args:=#[] }
def zdK (rs:List Nat):Seg:=rs.map fun r => (r,.deferred (some []))
theorem ziV {m:FrameMode}{rs:List Nat}(hm:(match m with | .run => false | _ => true)=true):∀ {H:List Seg}{i:Nat}{pre:Seg},H[i]? = some (pre++zdK rs)→(∀ s',Un X m E ds (H.set i s'))→Un X m E (colsOf rs++ds) H:=by
 induction rs with
 | nil =>
  intro H i pre hi h
  have e:H.set i (pre++zdK [])=H:=by
   apply List.ext_getElem?
   intro j
   rw [List.getElem?_set]
   split
   ·rename_i e
    subst e
    rw [hi]
    simp [(List.getElem?_eq_some_iff.1 hi).1]
   ·rfl
  have:=h (pre++zdK [])
  rw [e] at this
  exact this
 | cons r rs ih =>
  intro H i pre hi h
  refine zcg (i:=i) (j:=pre.length) (ds0:=[]) hm hi (by simp [zdK]) Z ?_
  have hlt:=(List.getElem?_eq_some_iff.1 hi).1
  refine ih (H:=_) (i:=i) (pre:=pre++[(r,.deferred none)]) ?_ (fun s' => ?_)
  ·rw [List.getElem?_set_self hlt]
   congr 1
   simp [zdK]
  ·rw [List.set_set]
   exact h s'
theorem zfz {m:FrameMode}{rs:List Nat}{H:List Seg}{i:Nat}(hm:(match m with | .run => false | _ => true)=true) (hi:H[i]? = some (zdK rs)) (h:∀ s',Un X m E [] (H.set i s')):Un X m E (colsOf rs) H:=by
 have:=ziV (X:=X) (E:=E) (ds:=[]) (m:=m) (rs:=rs) hm (H:=H) (i:=i) (pre:=[]) hi h
 rwa [List.append_nil] at this
end
theorem Do.own1 {X:Pt}{E:Env}{H:List Seg}{op:Op}{α:Type}(T:Ty α) {e n:Nat}{l:List α}{cs:Array Value}(hd:Does X E H op (fun v H' => ∃ b,v = .slice (some ⟨b,0,none⟩) n n∧H' = [(b,.cells cs e (0,0))]::H)) (hcs:cs=(T.cells l).toArray) (hn:n=l.length) (hle:l.length≤9223372036854775807) :
  Does X E H op (fun v H' => ∃ b s,Own T e (some ⟨b,0,none⟩) n l s∧v = .slice (some ⟨b,0,none⟩) n n∧H' = s::H):=by
 refine hd.mono ?_
 rintro v H' ⟨b,rfl,rfl⟩
 obtain ⟨s,hs,ho⟩:=zkG T e b l n _ rfl hn hle
 exact ⟨b,s,ho,Z,by rw [hs,hcs]⟩
section fields
variable {X:Pt}{k:List Item}{E:Env}{ds:List Deferred}{H:List Seg}{ops:Array Oper}{os:List Oper}
  {d:Nat}{ty:TypeId}{pos:String}{after:Array Edge}{g:Option (Nat×Bool)}
end fields
theorem Sep.drewN {w0:World}{base:Nat}{w:World}{H:List Seg}(S:Sep w0 base w H) (n:Nat):Sep w0 base (w.drewN n) H:=S.same rfl rfl rfl rfl
theorem Sep.kept {w0:World}{base:Nat}{w w' : World}{H:List Seg}(S:Sep w0 base w H) (h:Below w.heap.size w w'):Sep w0 base w' H:=by
 refine ⟨⟨h.os.trans S.below.os,h.tape.trans S.below.tape,h.output.trans S.below.output,Nat.le_trans S.below.size h.size,fun k hk => (h.block k (Nat.lt_of_lt_of_le hk S.base_le)).trans (S.below.block k hk)⟩,S.le,fun p hp => ⟨(S.mem p hp).1,(h.block p.1 (S.lt hp)).trans (S.mem p hp).2⟩,S.nodup⟩
section calls
variable {P:Program}{f:FuncId}{args:List Value}{w0:World}{base:Nat}{H:List Seg}
theorem zeq {v:Value}(h:∀ w,Sep w0 base w H→Calls P f args.toArray w fun e w' => e = .returned v∧∃ n,w' = w.drewN n):SCalls P f args w0 base H (fun u H' => u=v∧H' = H) :=
 fun w S => (h w S).mono fun e w' ⟨he,n,hw⟩ => ⟨v,H,he,⟨Z,Z⟩,hw ▸ S.drewN n⟩
theorem zeS {v:Value}(h:∀ w,Sep w0 base w H→Calls P f args.toArray w fun e w' => e = .returned v∧w' = w):SCalls P f args w0 base H (fun u H' => u=v∧H' = H) :=
 fun w S => (h w S).mono fun e w' ⟨he,hw⟩ => ⟨v,H,he,⟨Z,Z⟩,hw ▸ S⟩
theorem zer {v:Value}(h:∀ w,Sep w0 base w H→Calls P f args.toArray w fun e w' => e = .returned v∧Below w.heap.size w w'):SCalls P f args w0 base H (fun u H' => u=v∧H' = H) :=
 fun w S => (h w S).mono fun e w' ⟨he,hw⟩ => ⟨v,H,he,⟨Z,Z⟩,S.kept hw⟩
theorem zhc {v:Nat→Value}{o:Obj}(h:∀ w,Sep w0 base w H→Calls P f args.toArray w fun e w' => e = .returned (v w.heap.size)∧∃ n,w' = (w.alloc o).drewN n):SCalls P f args w0 base H (fun u H' => ∃ b,u=v b∧H' = [(b,o)]::H) :=
 fun w S => (h w S).mono fun e w' ⟨he,n,hw⟩ => ⟨_,_,he,⟨w.heap.size,Z,Z⟩,hw ▸ (S.alloc o).drewN n⟩
theorem Sep.cellBelow {w:World}(S:Sep w0 base w H) {b o:Nat}{v:Value}(hb:b < base) (h:w0.cell? ⟨b,o,none⟩=some v):w.cell? ⟨b,o,none⟩=some v:=by
 have h2:=S.below.block b hb
 rw [← h]
 simp only [World.cell?,h2]
end calls
section
variable {X:Pt}{k:List Item}{E:Env}{ds:List Deferred}{H:List Seg}{ops:Array Oper}{os:List Oper}
  {d:Nat}{ty:TypeId}{pos:String}{after:Array Edge}{g:Option (Nat×Bool)}
theorem Do.rangeS {t:TypeId}{x:Operand}{l:List UInt8}(hu:X.P.underlying t=some .string) (hx:ev E x=some (str l)):Does X E H (.range t x) (fun v H' => ∃ b,v = .pointer (some ⟨b,0,none⟩)∧H' = [(b,.stringIter ⟨⟨l⟩⟩ 0)]::H) :=
 zax rfl fun dst ty pos after g ρ w hρ S => ⟨.pointer (some ⟨w.heap.size,0,none⟩),w.alloc (.stringIter ⟨⟨l⟩⟩ 0),_,by
  simp only [execOp,hρ _ _ hx,Instr.range,str,Sem.run_bind,run_underlying hu,Result.andThen_ok,Sem.run_pure,run_newObj_alloc],S.alloc _,_,rfl,rfl⟩
theorem zfZ {t:TypeId}{x:Operand}{l:List UInt8}(hu:X.P.underlying t=some .string) (hg:Wd X ops E g) (hd:Nat.blt d X.n=true) (hx:ev E x=some (str l)) (hk:∀ b,AtL X ops os k ((d,.pointer (some ⟨b,0,none⟩))::E) ds ([(b,.stringIter ⟨⟨l⟩⟩ 0)]::H)) :
  AtL X ops (⟨some d,.range t x,ty,pos,after,g⟩::os) k E ds H:=zbm (Do.rangeS hu hx) hg hd fun _ _ ⟨b,hv,hH⟩ => by subst hv; subst hH; exact hk b
theorem zbK {P:Program}{w:World}{b:Nat}{o:Obj}(h:w.heap[b]? = some o) (hc:isCellsO o=false):(getObj b).run P w = .ok o w:=by
 cases o <;> first | (cases hc; done) | simp [getObj,Sem.run,h]
theorem Do.nextS {x:Operand}{l:List UInt8}{b p i j c n:Nat}{s:Seg}{H' : List Seg}(hx:ev E x=some (B b)) (hi:H[i]? = some s) (hj:s[j]? = some (b,.stringIter ⟨⟨l⟩⟩ p)) (hp:Nat.blt p l.length=true)
  (hc:Utf8.decode ⟨⟨l⟩⟩ p=(c,n)) (hH:H.set i (s.set j (b,.stringIter ⟨⟨l⟩⟩ (p + n)))=H'):Does X E H (.next x true) (Is (.tuple #[.bool true,int (p:Int),.int .i32 (c:Int)]) H') :=
 zax Z fun dst ty pos after g ρ w hρ S => by
  have hb:=(S.at_ hi hj).1
  have hp' : p < (ByteArray.mk ⟨l⟩).size:=zdf hp
  refine ⟨_,{ w with heap:=w.heap.setIfInBounds b (.stringIter ⟨⟨l⟩⟩ (p + n)) },H',?_,hH ▸ S.setObj hi hj _,Z,Z⟩
  simp only [execOp,hρ _ _ hx,Instr.next,Sem.run_bind,zbK hb rfl,Result.andThen_ok,if_pos hp',hc]
  rw [zce hb rfl]
  rfl
theorem zdN {x:Operand}{l:List UInt8}{b p c n:Nat}{s:Seg}{H' : List Seg}(i j:Nat) (hg:Wd X ops E g) (hd:Nat.blt d X.n=true) (hx:ev E x=some (.pointer (some ⟨b,0,none⟩))) (hi:H[i]? = some s) (hj:s[j]? = some (b,.stringIter ⟨⟨l⟩⟩ p)) (hp:Nat.blt p l.length=true)
  (hc:Utf8.decode ⟨⟨l⟩⟩ p=(c,n)) (hH:H.set i (s.set j (b,.stringIter ⟨⟨l⟩⟩ (p + n)))=H') (hk:AtL X ops os k ((d,.tuple #[.bool true,int (p:Int),.int .i32 (c:Int)])::E) ds H') :
  AtL X ops (⟨some d,.next x true,ty,pos,after,g⟩::os) k E ds H:=zbm (Do.nextS hx hi hj hp hc hH) hg hd fun _ _ ⟨hv,hH⟩ => by subst hv; subst hH; exact hk
theorem zk8 {x:Operand}{l:List UInt8}{b p i j:Nat}{s:Seg}(hx:ev E x=some (B b)) (hi:H[i]? = some s) (hj:s[j]? = some (b,.stringIter ⟨⟨l⟩⟩ p)) (hp:Nat.ble l.length p=true) :
  Does X E H (.next x true) (Is (.tuple #[.bool false]) H) :=
 zax Z fun dst ty pos after g ρ w hρ S => by
  have hb:=(S.at_ hi hj).1
  have hp' : ¬ p < (ByteArray.mk ⟨l⟩).size:=by have:=Nat.le_of_ble_eq_true hp; show ¬ p < l.length; omega
  refine ⟨_,w,H,?_,S,Z,Z⟩
  simp only [execOp,hρ _ _ hx,Instr.next,Sem.run_bind,zbK hb rfl,Result.andThen_ok,if_neg hp',Sem.run_pure]
theorem zex {x:Operand}{l:List UInt8}{b p:Nat}{s:Seg}(i j:Nat) (hg:Wd X ops E g) (hd:Nat.blt d X.n=true) (hx:ev E x=some (.pointer (some ⟨b,0,none⟩))) (hi:H[i]? = some s) (hj:s[j]? = some (b,.stringIter ⟨⟨l⟩⟩ p)) (hp:Nat.ble l.length p=true)
  (hk:AtL X ops os k ((d,.tuple #[.bool false])::E) ds H):AtL X ops (⟨some d,.next x true,ty,pos,after,g⟩::os) k E ds H:=zL (zk8 hx hi hj hp) hg hd hk
def encL (r:Int):List UInt8:=(Utf8.encode r).data.toList
theorem enc_no (r:Int):encL r≠[13,10]:=by
 unfold encL Utf8.encode
 simp only []
 generalize (if Utf8.valid r then r.toNat else Utf8.runeError)=c
 split
 ·intro h; simpa using congrArg List.length h
 ·split
  ·rename_i h1 h2
   intro h
   simp only [List.cons.injEq] at h
   have:=congrArg UInt8.toNat h.1
   rw [UInt8.toNat_ofNat'] at this
   have h3:(192 + c / 64) % 2 ^ 8=192 + c / 64:=Nat.mod_eq_of_lt (by omega)
   rw [h3] at this
   have h4:(13:UInt8).toNat=13:=rfl
   omega
  ·split <;> (intro h; simpa using congrArg List.length h)
theorem enc_long {r:Int}(h:2048≤r):3≤(encL r).length∧(encL r).length≤4:=by
 unfold encL Utf8.encode
 simp only []
 have hc:2048≤(if Utf8.valid r then r.toNat else Utf8.runeError):=by
  split
  ·omega
  ·decide
 revert hc
 generalize (if Utf8.valid r then r.toNat else Utf8.runeError)=c
 intro hc
 rw [if_neg (by omega),if_neg (by omega)]
 split <;> simp
theorem enc3 {r:Int}(h:2048≤r) (h2:r≤65535):(encL r).length=3:=by
 unfold encL Utf8.encode
 simp only []
 have hc:2048≤(if Utf8.valid r then r.toNat else Utf8.runeError)∧(if Utf8.valid r then r.toNat else Utf8.runeError) < 65536:=by
  split
  ·omega
  ·decide
 revert hc
 generalize (if Utf8.valid r then r.toNat else Utf8.runeError)=c
 intro hc
 rw [if_neg (by omega),if_neg (by omega),if_pos (by omega)]
 rfl
theorem zlf {src dst:TypeId}{x:Operand}{kk:IntKind}{r:Int}(h1:X.P.underlying src=some (.int kk)) (h2:X.P.underlying dst=some .string) (hx:ev E x=some (.int kk r)):Does X E H (.convert src dst x) (Is (str (encL r)) H) :=
 zan rfl fun d ty pos after g ρ w hρ => by
  have e:Value.string (Utf8.encode r)=str (encL r):=rfl
  simp only [execOp,hρ _ _ hx,convert,Sem.run_bind,run_underlying h1,run_underlying h2,Result.andThen_ok]
  simp [Conv.intToString,e]
theorem zgh {src dst:TypeId}{x:Operand}{kk:IntKind}{r:Int}(h1:X.P.underlying src=some (.int kk)) (h2:X.P.underlying dst=some .string) (hg:Wd X ops E g) (hd:Nat.blt d X.n=true) (hx:ev E x=some (.int kk r))
  (hk:AtL X ops os k ((d,str (encL r))::E) ds H):AtL X ops (⟨some d,.convert src dst x,ty,pos,after,g⟩::os) k E ds H:=zL (zlf h1 h2 hx) hg hd hk
theorem Do.callX {f:FuncId}{xs:Array Operand}{ts:Array TypeId}{args:List Value}{v:Value}(hx:evs E xs.toList=some args) (hr:∀ w,Sep X.w0 X.base w H→(callFunc f args.toArray).run X.P w = .ok (.value v) w):Does X E H (.call ⟨.value (.func f),xs,ts⟩) (Is v H) :=
 zax rfl fun dst ty pos after g ρ w hρ S => ⟨v,w,H,by
  have hf:ρ (.func f) = .func (.func f) #[] #[]:=hρ _ _ rfl
  simp only [execOp,resolve,hf,Deferred.ofValue,zel hρ hx,invoke,Sem.run_bind,Sem.run_pure,Result.andThen_ok]
  simpa using hr w S,S,rfl,rfl⟩
theorem zho {f:FuncId}{xs:Array Operand}{ts:Array TypeId}{args:List Value}{v:Value}(hr:∀ w,Sep X.w0 X.base w H→(callFunc f args.toArray).run X.P w = .ok (.value v) w) (hg:Wd X ops E g) (hd:Nat.blt d X.n=true) (hx:evs E xs.toList=some args) 
  (hk:AtL X ops os k ((d,v)::E) ds H):AtL X ops (⟨some d,.call ⟨.value (.func f),xs,ts⟩,ty,pos,after,g⟩::os) k E ds H:=zL (Do.callX hx hr) hg hd hk
theorem zhn {t e:TypeId}{x:Operand}{b n:Nat}{cs:Array Value}{l:List UInt8}(i:Nat) (ht:X.P.underlying t=some (.slice e)) (he:X.P.underlying e=some (.int .u8)) (hi:H[i]? = some [(b,.cells cs e (0,0))]) (hcs:cs=(tyB.cells l).toArray) (hn:n=l.length) (hle:l.length≤9223372036854775807)
  (hg:Wd X ops E g) (hd:Nat.blt d X.n=true) (hx:ev E x=some (.slice (some ⟨b,0,none⟩) n n)) 
  (hk:∀ s,Own tyB e (some ⟨b,0,none⟩) n l s→AtL X ops os k ((d,.slice (some ⟨b,0,none⟩) n n)::E) ds (H.set i s)):AtL X ops (⟨some d,.convert t t x,ty,pos,after,g⟩::os) k E ds H:=by
 refine zbm (R:=fun v H' => v = .slice (some ⟨b,0,none⟩) n n∧H' = H.set i [(b,.cells cs e (cs.size,cs.size + 1))]) (zax Z fun dst ty pos after g ρ w hρ S => ?_) hg hd ?_
 ·have hb:=(S.at_ hi (j:=0) rfl).1
  have hw:=S.write hi (j:=0) rfl (.cells cs e (cs.size,cs.size + 1)) (w':=w.freeze ⟨b,cs.size,none⟩ 1) rfl rfl rfl (by simp [World.freeze]) (by simp only [World.freeze]; rw [if_neg (by omega),Array.getElem?_modify,hb]; simp) (fun k hk => by
   simp only [World.freeze]
   rw [if_neg (by omega)]
   simp [Array.getElem?_modify,Ne.symm hk])
  refine ⟨_,w.freeze ⟨b,cs.size,none⟩ 1,_,?_,hw,Z,Z⟩
  have hsh:w.shape? b=some (e,cs.size):=by simp only [World.shape?,hb]
  simp [execOp,hρ _ _ hx,convert,run_underlying ht,run_underlying he,markStringish,hsh]
 ·rintro v H' ⟨rfl,rfl⟩
  refine hk _ ⟨[],by simp [hn],.inr ⟨b,[],[],(cs.size,cs.size + 1),by simp,by rw [hcs]; simp,?_,by simpa using hle⟩⟩
  intro j hj
  rw [Bool.and_eq_false_iff,decide_eq_false_iff_not]
  left
  rw [hcs]
  simp [zal] at hj ⊢
  omega
theorem Cell.below {w0:World}{base b o:Nat}{v:Value}(hb:b < base) (h:w0.cell? ⟨b,o,none⟩=some v):Cell w0 base H ⟨b,o,none⟩ v:=fun w S => S.cellBelow hb h
theorem Cell.tab {w0:World}{base b j:Nat}{v:Value}(hb:b < base) (h:w0.cell? ⟨b,j,none⟩=some v):Cell w0 base H (za3 (some ⟨b,0,none⟩) (j * 1)) v:=by
 have e:za3 (some ⟨b,0,none⟩) (j * 1)=⟨b,j,none⟩:=by simp [za3,zbj]
 rw [e]
 exact Cell.below hb h
theorem w32i {z:Int}(h1:-2147483648≤z) (h2:z≤2147483647):IntKind.i32.wrap z=z:=by
 simp only [IntKind.wrap,IntKind.bits,IntKind.signed]
 simp
 omega
theorem and8 {a b:Int}(k:Nat) (hb:b=2 ^ k - 1) (h1:0≤a) (h2:a < 256):IntKind.u8.wrap ((BitVec.ofInt IntKind.u8.bits a &&& BitVec.ofInt IntKind.u8.bits b).toNat:Int)=a % 2 ^ k:=by
 subst hb
 obtain ⟨n,rfl⟩:=Int.eq_ofNat_of_zero_le h1
 have h3:(2:Int) ^ k - 1=((2 ^ k - 1:Nat):Int):=by
  have:0 < (2:Nat) ^ k:=Nat.pow_pos (by omega)
  rw [Int.natCast_sub (by omega)]
  push_cast
  rfl
 rw [h3]
 show IntKind.u8.wrap ((BitVec.ofInt 8 _ &&& BitVec.ofInt 8 _).toNat:Int)=_
 rw [BitVec.toNat_and,BitVec.toNat_ofInt,BitVec.toNat_ofInt]
 have h4:(((n:Int) % (2 ^ 8:Nat)).toNat)=n:=by
  rw [Int.emod_eq_of_lt (by omega) (by omega)]; omega
 have h5:((((2 ^ k - 1:Nat):Int) % (2 ^ 8:Nat)).toNat)=(2 ^ k - 1) % 2 ^ 8:=by omega
 rw [h4,h5]
 have h6:n &&& (2 ^ k - 1) % 2 ^ 8=n % 2 ^ k:=by
  rw [← Nat.and_two_pow_sub_one_eq_mod n k]
  apply Nat.eq_of_testBit_eq
  intro i
  simp only [Nat.testBit_and,Nat.testBit_mod_two_pow,Nat.testBit_two_pow_sub_one]
  by_cases hi:i < 8
  ·simp [hi]
  ·have:n.testBit i=false:=Nat.testBit_lt_two_pow (Nat.lt_of_lt_of_le (show n < 2 ^ 8 by omega) (Nat.pow_le_pow_right (by omega) (by omega)))
   simp [this]
 rw [h6]
 have h7:n % 2 ^ k≤n:=Nat.mod_le _ _
 rw [w8 (by omega) (by omega)]
 push_cast
 rfl
theorem or32 {a b:Int}(k:Nat) (hk:k≤31) (h1:0≤a) (h2:a < 2 ^ k) (h3:0≤b) (h4:b < 2 ^ k):∃ z:Int,IntKind.i32.wrap ((BitVec.ofInt IntKind.i32.bits a ||| BitVec.ofInt IntKind.i32.bits b).toNat:Int)=z∧a≤z∧b≤z∧z < 2 ^ k:=by
 have hk2:(2:Nat) ^ k≤2 ^ 31:=Nat.pow_le_pow_right (by omega) hk
 obtain ⟨n,rfl⟩:=Int.eq_ofNat_of_zero_le h1
 obtain ⟨m,rfl⟩:=Int.eq_ofNat_of_zero_le h3
 have e:(BitVec.ofInt IntKind.i32.bits (n:Int) ||| BitVec.ofInt IntKind.i32.bits (m:Int)).toNat=n ||| m:=by
  show (BitVec.ofInt 32 _ ||| BitVec.ofInt 32 _).toNat=_
  have h2' : n < 2 ^ k:=by exact_mod_cast h2
  have h4' : m < 2 ^ k:=by exact_mod_cast h4
  rw [BitVec.toNat_or,BitVec.toNat_ofInt,BitVec.toNat_ofInt]
  congr 1 <;> omega
 rw [e]
 have h5' : n ||| m < 2 ^ k:=Nat.or_lt_two_pow (by exact_mod_cast h2) (by exact_mod_cast h4)
 have h5:n ||| m < 2 ^ 31:=by omega
 have h6:n≤n ||| m:=Nat.left_le_or
 have h7:m≤n ||| m:=Nat.right_le_or
 exact ⟨((n ||| m:Nat):Int),w32i (by omega) (by omega),by omega,by omega,by exact_mod_cast h5'⟩
theorem zbw (a b:Int) (c:Nat) (hb:b=(c:Int)) (hc:c≤31) (d:Int) (hd:(2:Int) ^ c=d) (h1:-2147483648≤a * d) (h2:a * d≤2147483647):IntKind.i32.wrap (a * 2 ^ (min b.toNat IntKind.i32.bits))=a * d:=by
 subst hb
 rw [show min ((c:Int).toNat) IntKind.i32.bits=c from by simp [IntKind.bits]; omega,hd]
 exact w32i h1 h2
theorem Do.bandnot {kk:IntKind}{tx tz:TypeId}{x y:Operand}{a b z:Int}(hx:ev E x=some (.int kk a)) (hy:ev E y=some (.int kk b)) (hz:kk.wrap ((BitVec.ofInt kk.bits a &&& ~~~ BitVec.ofInt kk.bits b).toNat:Int)=z):Does X E H (.binOp .andNot tx x y tz) (Is (.int kk z) H) :=
 zci hx hy (fun w => by rw [← hz]; simp [eqGuard,binOp,Op.intBits])
theorem zli {kk:IntKind}{tx tz:TypeId}{x y:Operand}{a b z:Int}(hg:Wd X ops E g) (hd:Nat.blt d X.n=true) (hx:ev E x=some (.int kk a)) (hy:ev E y=some (.int kk b)) (hz:kk.wrap ((BitVec.ofInt kk.bits a &&& ~~~ BitVec.ofInt kk.bits b).toNat:Int)=z) (hk:AtL X ops os k ((d,.int kk z)::E) ds H) :
  AtL X ops (⟨some d,.binOp .andNot tx x y tz,ty,pos,after,g⟩::os) k E ds H :=
 zL (Do.bandnot hx hy hz) hg hd hk
theorem zk5 (a:Int):IntKind.i32.wrap ((BitVec.ofInt IntKind.i32.bits a &&& ~~~ BitVec.ofInt IntKind.i32.bits (-1)).toNat:Int)=0:=by
 have:(~~~ BitVec.ofInt IntKind.i32.bits (-1))=0#IntKind.i32.bits:=by decide
 rw [this]
 simp
 rfl
end
structure Ky (κ:Type) where
  val:κ→Value
  kd:TypeDesc→Bool
  same:∀ d a b,kd d=true→∃ t:Bool,Instr.sameNow d (val a) (val b)=some t∧(t=true↔a=b)
  plain:∀ d,kd d=true→(match d with | .interface _ => false | .array _ _ => false | .struct _ => false | _ => true)=true
def kyI:Ky Int where
  val:=int
  kd d:=match d with | .int _ => true | _ => false
  same d a b h:=by
    cases d <;> first | (cases h; done) | exact ⟨a == b,by simp [Instr.sameNow,int],by simp⟩
  plain d h:=by cases d <;> first | (cases h; done) | rfl
section
variable {κ β:Type}(Q:Ky κ) (tv:β→Value)
def mapE:Nat→List (κ×β)→List MapEntry
 | _,[] => []
 | n,p::r => ⟨Q.val p.1,tv p.2,n⟩::mapE (n + 1) r
def mapO (kvs:List (κ×β)):Obj:=.map (mapE Q tv 0 kvs).toArray kvs.length
end
def atK {κ β:Type} [DecidableEq κ] (a:κ):List (κ×β)→Option β
 | [] => none
 | p::r => if a=p.1 then some p.2 else atK a r
section
variable {κ β:Type} [DecidableEq κ] {Q:Ky κ}{tv:β→Value}
theorem findNow_at {d:TypeDesc}(hd:Q.kd d=true) (a:κ) (kvs:List (κ×β)) (n i:Nat):∃ r,Instr.findNow d (Q.val a) (mapE Q tv n kvs) i=some r∧r.map (·.2)=(atK a kvs).map tv:=by
 induction kvs generalizing n i with
 | nil => exact ⟨none,rfl,rfl⟩
 | cons p r ih =>
  obtain ⟨t,ht,hab⟩:=Q.same d a p.1 hd
  rw [mapE,Instr.findNow]
  simp only [ht]
  cases t with
  | true => exact ⟨_,rfl,by rw [atK,if_pos (hab.1 rfl)]; rfl⟩
  | false =>
   obtain ⟨q,h1,h2⟩:=ih (n + 1) (i + 1)
   have:¬ a=p.1:=fun h => by have:=hab.2 h; cases this
   exact ⟨q,h1,by rw [atK,if_neg this]; exact h2⟩
theorem zdp {P:Program}{w:World}{t:TypeId}{d:TypeDesc}(hu:P.underlying t=some d) (hd:Q.kd d=true) (a:κ) (e:Bool):(Instr.checkKey e 10000 t (Q.val a)).run P w = .ok () w:=by
 have hp:=Q.plain d hd
 show (Instr.checkKey e (9999 + 1) t (Q.val a)).run P w=_
 unfold Instr.checkKey
 simp only [run_underlying hu,Sem.run_bind,Result.andThen_ok]
 cases d <;> first | (cases hp; done) | rfl
end
section
variable {X:Pt}{k:List Item}{E:Env}{ds:List Deferred}{H:List Seg}{ops:Array Oper}{os:List Oper}
  {d:Nat}{ty:TypeId}{pos:String}{after:Array Edge}{g:Option (Nat×Bool)}{κ β:Type} [DecidableEq κ] {Q:Ky κ}{tv:β→Value}
theorem zif (Q:Ky κ) (tv:β→Value) {t:TypeId}:Does X E H (.makeMap t none) (fun v H' => ∃ b,v = .map (some b)∧H' = [(b,mapO Q tv ([]:List (κ×β)))]::H) :=
 zax rfl fun dst ty pos after g ρ w hρ S => ⟨.map (some w.heap.size),w.alloc (.map #[] 0),_,by
  simp [execOp,Instr.makeMap,newObj,Sem.run],S.alloc _,w.heap.size,rfl,rfl⟩
theorem AtL.makeMap (Q:Ky κ) (tv:β→Value) {t:TypeId}(hg:Wd X ops E g) (hd:Nat.blt d X.n=true) (hk:∀ b,AtL X ops os k ((d,.map (some b))::E) ds ([(b,mapO Q tv ([]:List (κ×β)))]::H)) :
  AtL X ops (⟨some d,.makeMap t none,ty,pos,after,g⟩::os) k E ds H :=
 zbm (zif Q tv) hg hd fun _ _ ⟨b,hv,hH⟩ => by subst hv; subst hH; exact hk b
theorem lookup_run {P:Program}{w:World}{t kt et:TypeId}{dd:TypeDesc}{b:Nat}{kvs:List (κ×β)}{a:κ}{z:Value}(ok:Bool) (hu:P.underlying t=some (.map kt et)) (hk:P.underlying kt=some dd) (hd:Q.kd dd=true) (hb:w.heap[b]? = some (mapO Q tv kvs)) (hz:zbO P et=some z) :
  (Instr.lookup t (.map (some b)) (Q.val a) ok).run P w = .ok (if ok then .tuple #[((atK a kvs).map tv).getD z,.bool (atK a kvs).isSome] else ((atK a kvs).map tv).getD z) w:=by
 obtain ⟨r,h1,h2⟩:=findNow_at (tv:=tv) hd a kvs 0 0
 have hg:(getObj b).run P w = .ok (mapO Q tv kvs) w:=zbK hb rfl
 unfold Instr.lookup
 simp only [run_underlying hu,Sem.run_bind,Result.andThen_ok,hg,mapO,Sem.run_pure,zdp hk hd,Instr.findKey,run_underlying hk,h1]
 cases r with
 | none =>
  have h3:atK a kvs=none:=by cases h:atK a kvs with | none => rfl | some q => rw [h] at h2; cases h2
  simp only [zd0 hz,Sem.run_bind,Result.andThen_ok,Sem.run_pure,h3,Option.map_none,Option.getD_none,Option.isSome_none]
 | some q =>
  obtain ⟨q1,q2⟩:=q
  cases h3:atK a kvs with
  | none => rw [h3] at h2; cases h2
  | some u =>
   rw [h3] at h2
   simp only [Option.map_some,Option.some.injEq] at h2
   subst h2
   cases ok <;> rfl
theorem Do.lookup {t kt et:TypeId}{dd:TypeDesc}{x y:Operand}{b:Nat}{kvs:List (κ×β)}{a:κ}{z:Value}{s:Seg}{v:Value}(ok:Bool) (i j:Nat) (hu:X.P.underlying t=some (.map kt et)) (hk:X.P.underlying kt=some dd) (hd:Q.kd dd=true) (hz:zbO X.P et=some z)
  (hi:H[i]? = some s) (hj:s[j]? = some (b,mapO Q tv kvs)) (hx:ev E x=some (.map (some b))) (hy:ev E y=some (Q.val a)) (hv:(if ok then .tuple #[((atK a kvs).map tv).getD z,.bool (atK a kvs).isSome] else ((atK a kvs).map tv).getD z)=v):Does X E H (.lookup t x y ok) (Is v H) :=
 zax rfl fun dst ty pos after g ρ w hρ S => ⟨v,w,H,by
  have:=lookup_run (P:=X.P) (a:=a) ok hu hk hd (S.at_ hi hj).1 hz
  simp [execOp,hρ _ _ hx,hρ _ _ hy,this,hv],S,rfl,rfl⟩
theorem AtL.lookup {t kt et:TypeId}{dd:TypeDesc}{x y:Operand}{b:Nat}{kvs:List (κ×β)}{a:κ}{z:Value}{s:Seg}{v:Value}{ok:Bool}(i j:Nat) (hu:X.P.underlying t=some (.map kt et)) (hk:X.P.underlying kt=some dd) (hd:Q.kd dd=true) (hz:zbO X.P et=some z) (hg:Wd X ops E g) (hd2:Nat.blt d X.n=true)
  (hi:H[i]? = some s) (hj:s[j]? = some (b,mapO Q tv kvs)) (hx:ev E x=some (.map (some b))) (hy:ev E y=some (Q.val a)) (hv:(if ok then .tuple #[((atK a kvs).map tv).getD z,.bool (atK a kvs).isSome] else ((atK a kvs).map tv).getD z)=v) (hk2:AtL X ops os k ((d,v)::E) ds H) :
  AtL X ops (⟨some d,.lookup t x y ok,ty,pos,after,g⟩::os) k E ds H:=zL (Do.lookup ok i j hu hk hd hz hi hj hx hy hv) hg hd2 hk2
end
end Go.Proofs.YtbfabhdfmoiabaaGreatDoor
