/- Parts of the proof. -/
import Derived.Test.YtjmnjkoekabioaaGreatDoorQC06
namespace Go.Proofs.YtjmnjkoekabioaaGreatDoor
set_option maxHeartbeats 4000000
set_option linter.unusedVariables false
set_option linter.unusedSimpArgs false
open Go.RowKit (Below)
variable {ps:Array (Nat×Operand)}{xs:Array Operand}{ts:Array TypeId}{cs:Array Value}{op:BinOp}{c ok:Bool}{h:LH}{lo lo':LO}{a b lv:LV}{es:List (LV×LV)}{l:List LV}{H:List Seg}{news vs:List Value}{C d i m n o s sz y:Nat}{obj:Obj}{ix x:Operand}{A:Option Addr}{P:Program}{α β:Type}{e t:TypeId}{u va vb zv:Value}{w:World}
noncomputable section
inductive AI where
  | code (c:Code)
  | blk (id:Nat)
  | lp (b:Code)
  | scp (b:Code)
  | reg (all rest:List Oper)
  | rng (l:Nat)
  | endr (l:Nat)
  | beg
structure SF where
  g:FuncId
  ds:List AD
  dfd:Bool
  rd:Option Nat
inductive AF where
  | run (s:SF) (f:Fr) (k:List AI)
  | ret (s:SF) (f:Fr)
  | pan (s:SF) (f:Fr) (ch:List (LV×Bool))
inductive Res where
  | bad (why:Nat)
  | done (v:LV) (nx:Nat) (h:LH)
abbrev Run:=AF→List AF→Nat→LH→Res
abbrev Stp:=Run→SF→Fr→List AI→List AF→Nat→LH→Res
def gF (f:Fr):SlF:=fun t => Tr.get .undef f t
def pF (d:Option Nat) (v:LV) (f:Fr) (c:Fr→β):β:=match d with
 | none => c f
 | some d => Tr.put .undef v f d c
def znZ (id:Nat):List AI→Option (List AI)
 | [] => none
 | .blk j::k => match Nat.beq j id with
  | true => some k
  | false => znZ id k
 | _::k => znZ id k
def znU (l:Nat):List AI→Option (List AI)
 | [] => none
 | .scp b::k => match findLabel b l with
  | some r => some (.code r::.scp b::k)
  | none => znU l k
 | _::k => znU l k
def asB (w:Bool) (v:LV):Option Bool:=match v with
 | .bool b => some (match w with | true => b | false => !b)
 | .tup [] => some false
 | _ => none
def zAg (all:List Oper) (j:Nat):Option Nat:=match all[j]? with
 | some o => o.dst
 | none => none
def ziA (all:List Oper) (g:Option (Nat×Bool)) (f:SlF):Option Bool:=match g with
 | none => some true
 | some (j,w) => match zAg all j with
  | some t => asB w (f t)
  | none => none
def zxt {β:Type}(c:Fr→β):List LV→Nat→Fr→β
 | [],_,f => c f
 | v::l,i,f => Tr.put .undef v f i fun f => frN (fun i => zxt c l i f) (Nat.succ i)
def zsa {β:Type}(c:Fr→β):List Nat→List LV→Fr→β
 | t::ts,v::vs,f => Tr.put .undef v f t fun f => zsa c ts vs f
 | _,_,f => c f
def oneE (l:List LV):LV:=match l with
 | [v] => v
 | vs => .tup vs
section
variable (cx:Cx)
def resE (h:LH) (f:Fr):List ResultVar→Option (List LV)
 | [] => some []
 | .tmp t::l => match resE h f l with
  | some vs => some (gF f t::vs)
  | none => none
 | .cell a t::l => match resE h f l with
  | some vs => match (loadE cx t).go (gF f a) h with
   | .ok v => some (v::vs)
   | _ => none
  | none => none
def finK (v:LV) (s:SF) (f:Fr) (k:List AI) (c:AF→Res):Res:=match k with
 | .reg all (o::os)::k => pF o.dst v f fun f => c (.run s f (.reg all os::k))
 | .rng l::k => c (.run s f (.endr l::k))
 | _ => .bad 180
def finA (v:LV) (a:AF) (c:AF→Res):Res:=match a with
 | .run s f k => finK v s f k c
 | _ => .bad 181
def zoV (a:AF) (ch:List (LV×Bool)):AF:=match a with
 | .run s f _ => .pan s f ch
 | .ret s f => .pan s f ch
 | .pan s f old => .pan s f (ch++old)
def zm2 (a:AF):AF:=match a with
 | .pan s f ((_,true)::_) => .ret s f
 | a => a
def zhT (g:FuncId) (dfd:Bool) (args:List LV) (c:AF→Res):Res:=match cx.fn g with
 | none => .bad (2000 * 4096 + g)
 | some fn => match fn.body with
  | none => .bad (2001 * 4096 + g)
  | some b => match Nat.ble args.length fn.ntmps with
   | true => zxt (fun f => c (.run ⟨g,[],dfd,none⟩ f [.code b])) args 0 .e
   | false => .bad 182
inductive Cl where
  | none
  | fn (g:FuncId) (args:List LV)
  | round (l:Nat) (args:List LV)
def clV (v:LV) (args:List LV):Cl:=match v with
 | .fn g u cs => .fn g (u++(args++cs))
 | .yield l => .round l args
 | _ => .none
def clF (g:FuncId) (v:Q) (args:List LV):Cl:=match v with
 | .ok v => .fn g (v::args)
 | .bad _ => .none
def clM (m:Option Mw) (v:LV) (args:List LV) (h:LH):Cl:=match m with
 | some (.plain g) => .fn g (v::args)
 | some (.loads g e) => clF g ((loadE cx e).go v h) args
 | some (.fields g o) => clF g (addP v o) args
 | none => .none
def clI (m:String) (v:LV) (args:List LV) (h:LH):Cl:=match v with
 | .ifc t v => clM cx (cx.mt t m) v args h
 | _ => .none
def zem (c:Callee) (xs:List Operand):W (SlF→LH→Cl):=match c with
 | .value (.func g) => .mk fun f _ => evC .none (fun l => .fn g l) (evL xs f)
 | .value x => .mk fun f _ => evC .none (fun l => clV (evO x f) l) (evL xs f)
 | .invoke r m => .mk fun f h => evC .none (fun l => clI cx m (evO r f) l h) (evL xs f)
 | .builtin _ => .mk fun _ _ => .none
def zb6 (kn:Nat) (i:Nat):Bool:=Nat.testBit kn i
def addK (kn:Nat) (i:Nat):Nat:=Nat.lor kn (Nat.pow 2 i)
def isQ (o:Oper):Bool:=match opK cx o.op with
 | .q => true
 | _ => false
def zhH:List Oper→Nat→Nat→List (Nat×Oper)×Nat
 | [],_,kn => ([],kn)
 | o::r,i,kn => match !(zb6 kn i) && ((zcO o).all (zb6 kn) && isQ cx o) with
  | true => let p:=zhH r (i + 1) (addK kn i); ((i,o)::p.1,p.2)
  | false => zhH r (i + 1) kn
def zkg:List Oper→Nat→Nat→List (Nat×Oper)
 | [],_,_ => []
 | o::r,i,kn => match !(zb6 kn i) && (zcO o).all (zb6 kn) with
  | true => (i,o)::zkg r (i + 1) kn
  | false => zkg r (i + 1) kn
def ziC (os:List Oper) (kn:Nat) (acts:List Nat):List Oper→Nat→List (Nat×Oper)
 | [],_ => []
 | o::r,i => match zb6 kn i && !(acts.any fun e => Nat.beq i e || befB (zco os []) i e) with
  | true => (i,o)::ziC os kn acts r (i + 1)
  | false => ziC os kn acts r (i + 1)
def isAl (o:Oper):Bool:=match o.op with
 | .alloc _ => true
 | .box _ _ => true
 | .buildSlice _ _ _ => true
 | _ => false
def zsh:List (Nat×Oper)→Option ((Nat×Oper)×List (Nat×Oper))
 | [] => none
 | (i,o)::r => match isAl o with
  | false => match r.all (fun p => isAl p.2) with
   | true => some ((i,o),r)
   | false => none
  | true => match r with
   | [] => some ((i,o),[])
   | _ => match zsh r with
    | some (m,oth) => some (m,(i,o)::oth)
    | none => none
def memP (l:List (Nat×Oper)) (i:Nat):Bool:=l.any fun p => Nat.beq p.1 i
def knA (kn:Nat):List (Nat×Oper)→Nat
 | [] => kn
 | p::l => knA (addK kn p.1) l
def zp3 (kn m:Nat) (oth:List (Nat×Oper)):List Oper→Nat→Bool
 | [],_ => true
 | o::r,i => match zb6 kn i || (Nat.beq m i || (memP oth i || (zcO o).any fun j => !zb6 (knA kn oth) j)) with
  | true => zp3 kn m oth r (i + 1)
  | false => false
def stayC (oth:List (Nat×Oper)) (i:Nat) (oth' : List (Nat×Oper)):Bool:=oth.all fun q => Nat.beq q.1 i || memP oth' q.1
def zhI (os:List Oper) (kn:Nat) (p:Nat×Oper):Bool:=(zaR os p.2).all fun t => match zhq os p.1 t with
 | some j => zb6 kn j
 | none => true
inductive NP where
  | bad
  | fin
  | act (i:Nat) (o:Oper) (oth:List (Nat×Oper))
def zsy (os:List Oper) (kn:Nat) (oth:List (Nat×Oper)):NP:=match zsh (zkg os 0 kn) with
 | none => match Nat.beq kn (Nat.pred (Nat.pow 2 os.length)),oth with
  | true,[] => .fin
  | _,_ => .bad
 | some ((i,o),oth') => match zp3 kn i oth' os 0 && (stayC oth i oth' && oth'.all (zhI os kn)) with
  | true => frN (fun i => .act i o oth') i
  | false => .bad
def zeZ (os:List Oper) (f0:SlF) (val:Fr) (i:Nat) (rs:List Nat):SlF:=fun t => match memN rs t with
 | true => match zhq os i t with
  | some j => gF val j
  | none => f0 t
 | false => .undef
def zhJ (os:List Oper) (f0:SlF) (val:Fr) (i:Nat) (o:Oper) (h:LH):Q:=match ziA os o.guard (zeZ os f0 val i (zaR os o)) with
 | none => .bad 130
 | some false => .ok (.tup [])
 | some true => (opQ cx o.op).go (zeZ os f0 val i (zaR os o)) h
def qsE {β:Type}(os:List Oper) (f0:SlF) (h:LH) (bad:Nat→β) (c:Fr→β):List (Nat×Oper)→Fr→β
 | [],val => c val
 | (i,o)::r,val => match zhJ cx os f0 val i o h with
  | .ok v => Tr.put .undef v val i fun val => qsE os f0 h bad c r val
  | .bad n => bad n
def zfh (f:LV→LV→Bool):List LV→List LV→Bool
 | [],[] => true
 | a::l,b::m => match f a b with
  | true => zfh f l m
  | false => false
 | _,_ => false
def zBZ (h:LH) (i:Nat):Bool:=match atB h i with
 | .rows _ _ _ => true
 | .bytes _ _ => true
 | _ => false
def same (h:LH):Nat→LV→LV→Bool
 | 0,_,_ => false
 | f + 1,a,b => match a,b with
  | .bool a,.bool b => a == b
  | .flt .f64 a,.flt .f64 b => Nat.beq a b
  | .int k a,.int k' b => Nat.beq (kN k) (kN k') && eqI a b
  | .str l a,.str m b => eqS l a m b
  | .nilp,.nilp => true
  | .ptr i o,.ptr j p => Nat.beq i j && Nat.beq o p
  | .gptr i o,.gptr j p => Nat.beq i j && Nat.beq o p
  | .nils,.nils => true
  | .sl i o n c,.sl i' o' n' c' => Nat.beq i i' && (Nat.beq o o' && (Nat.beq n n' && Nat.beq c c'))
  | .slo i o n a,.slo i' o' n' a' => zBZ h i && (Nat.beq i i' && (Nat.beq o o' && (Nat.beq n n' && Nat.beq a a')))
  | .map0,.map0 => true
  | .map i,.map j => Nat.beq i j
  | .fn g u c,.fn g' u' c' => Nat.beq g g' && (zfh (same h f) u u' && zfh (same h f) c c')
  | .yield i,.yield j => Nat.beq i j
  | .nilf,.nilf => true
  | .ifc t a,.ifc u b => Nat.beq t u && same h f a b
  | .nili,.nili => true
  | .agg l,.agg m => zfh (same h f) l m
  | .tup l,.tup m => zfh (same h f) l m
  | _,_ => false
def zjQ (os:List Oper) (f0:SlF) (h:LH) (val:Fr):List (Nat×Oper)→Bool
 | [] => true
 | (i,o)::r => match zhJ cx os f0 val i o h with
  | .ok v => match same h 20 v (gF val i) with
   | true => zjQ os f0 h val r
   | false => false
  | .bad _ => false
def finF {β:Type}(c:Fr→β):List Oper→Nat→Fr→Fr→β
 | [],_,_,f => c f
 | o::r,i,val,f => pF o.dst (gF val i) f fun f => finF c r (i + 1) val f
def zw5 (n:Nat) (r:Res) (c:LV→Nat→LH→Res):Res:=match r with
 | .done v nx h => c v nx h
 | .bad w => .bad (w * 4096 + n)
def rsR (g:Nat) (r:Rs) (c:LV→Nat→LH→Res):Res:=match r with
 | .ok v nx h => c v nx h
 | .bad w => .bad (w * 4096 + g)
def zxX (w:Nat) (run:Run) (lo:LO) (l:Nat) (args:List LV) (nx:Nat) (h:LH) (c:LV→Nat→LH→Res):Res:=match lo with
 | .loop st pend fn f ps assign body dfs => match Nat.beq args.length ps.length with
  | true => zsa (fun f => zw5 w (run (.run ⟨fn,[],false,some l⟩ f [.code assign,.beg,.code body]) [] nx h) c) ps args f
  | false => .bad (150 * 4096 + w)
 | _ => .bad (151 * 4096 + w)
def zAB (w:Nat) (run:Run) (cl:Cl) (nx:Nat) (h:LH) (c:LV→Nat→LH→Res):Res:=match cl with
 | .fn g args => match cx.pr g with
  | some p => rsR g (p args nx h) c
  | none => zw5 g (zhT cx g false args fun fr => run fr [] nx h) c
 | .round l args => zxX w run (atB h l) l args nx h c
 | .none => .bad (143 * 4096 + w)
def actE (w:Nat) (o:Op):W (Run→SlF→Nat→LH→(LV→Nat→LH→Res)→Res):=match opK cx o with
 | .m => .mk fun run f nx h c => rsR w ((opM cx o).go f nx h) c
 | .call => match o with
  | .call ⟨cl,xs,_⟩ => .mk fun run f nx h c => zAB cx w run ((zem cx cl xs.toList).go f h) nx h c
  | _ => .mk fun _ _ _ _ _ => .bad 144
 | _ => .mk fun _ _ _ _ _ => .bad 144
def othC (os:List Oper) (f0:SlF) (val:Fr) (nx:Nat) (h:LH) (oth:List (Nat×Oper)):Bool:=oth.all fun q => match ziA os q.2.guard (zeZ os f0 val q.1 (zaR os q.2)) with
 | some true => match (opM cx q.2.op).go (zeZ os f0 val q.1 (zaR os q.2)) nx h with
  | .ok _ _ _ => true
  | .bad _ => false
 | _ => false
def preC (os:List Oper) (f0:SlF) (kn:Nat) (acts:List Nat) (oth:List (Nat×Oper)) (val:Fr) (nx:Nat) (h:LH):Bool:=match oth with
 | [] => true
 | _ => othC cx os f0 val nx h oth && zjQ cx os f0 h val (ziC os kn acts os 0)
def actP (g:Nat) (os:List Oper) (run:Run) (f0:SlF) (nxt:Nat→List Nat→List (Nat×Oper)→Fr→Nat→LH→Res) (kn:Nat) (acts:List Nat) (val:Fr) (nx:Nat) (h:LH) (i:Nat) (o:Oper) (oth:List (Nat×Oper)):Res :=
 match ziA os o.guard (zeZ os f0 val i (zaR os o)) with
 | some true => (actE cx g o.op).go run (zeZ os f0 val i (zaR os o)) nx h fun v nx h => match zjQ cx os f0 h val (ziC os kn (i::acts) os 0) with
  | true => Tr.put .undef v val i fun val => frN (fun kn => nxt kn (i::acts) oth val nx h) (addK kn i)
  | false => .bad (146 * 4096 + g)
 | some false => Tr.put .undef (.tup []) val i fun val => frN (fun kn => nxt kn acts oth val nx h) (addK kn i)
 | none => .bad (145 * 4096 + g)
def zyL (g:Nat) (os:List Oper) (run:Run) (f0:SlF) (c:Fr→Nat→LH→Res) (nxt:Nat→List Nat→List (Nat×Oper)→Fr→Nat→LH→Res) (kn:Nat) (acts:List Nat) (oth:List (Nat×Oper)) (nx:Nat) (h:LH) (val:Fr):Res :=
 match zsy os kn oth with
 | .bad => .bad (147 * 4096 + g)
 | .fin => c val nx h
 | .act i o oth' => match preC cx os f0 kn acts oth' val nx h with
  | true => actP cx g os run f0 nxt kn acts val nx h i o oth'
  | false => .bad (148 * 4096 + g)
def znA (g:Nat) (os:List Oper) (run:Run) (f0:SlF) (c:Fr→Nat→LH→Res) (n:Nat):Nat→List Nat→List (Nat×Oper)→Fr→Nat→LH→Res :=
 Nat.rec (motive:=fun _ => Nat→List Nat→List (Nat×Oper)→Fr→Nat→LH→Res) (fun _ _ _ _ _ _ => .bad (147 * 4096 + g))
  (fun _ ih kn acts oth val nx h => match zhH cx os 0 kn with
   | (qs,kn) => frN (fun kn => qsE cx os f0 h Res.bad (zyL cx g os run f0 c ih kn acts oth nx h) qs val) kn) n
def zCl (g:Nat) (os:List Oper) (run:Run) (f0:Fr) (nx:Nat) (h:LH) (c:Fr→Nat→LH→Res):Res :=
 znA cx g os run (gF f0) (fun val nx h => finF (fun f => c f nx h) os 0 val f0) 60 0 [] [] .e nx h
def zxY (ih:Run) (lo:LO) (l:Nat) (args:List LV) (fr:AF) (cs:List AF) (nx:Nat) (h:LH):Res:=match lo with
 | .loop st pend fn f ps assign body dfs => match Nat.beq args.length ps.length with
  | true => zsa (fun f => ih (.run ⟨fn,[],false,some l⟩ f [.code assign,.beg,.code body]) (fr::cs) nx h) ps args f
  | false => .bad 150
 | _ => .bad 151
def zAC (ih:Run) (cl:Cl) (fr:AF) (cs:List AF) (nx:Nat) (h:LH):Res:=match cl with
 | .fn g args => match cx.pr g with
  | some p => rsR g (p args nx h) fun v nx h => finA v fr fun a => ih a cs nx h
  | none => zhT cx g false args fun fr' => ih fr' (fr::cs) nx h
 | .round l args => zxY ih (atB h l) l args fr cs nx h
 | .none => .bad 152
def zCC (ih:Run) (dfd:Bool) (v:LV) (cs:List AF) (nx:Nat) (h:LH):Res:=match cs with
 | [] => match dfd with
  | false => .done v nx h
  | true => .bad 160
 | c::cs => match dfd with
  | false => finA v c fun c => ih c cs nx h
  | true => ih (zm2 c) cs nx h
def endR (ih:Run) (v:LV) (cs:List AF) (nx:Nat) (h:LH):Res:=match cs with
 | [] => .done v nx h
 | c::cs => finA v c fun c => ih c cs nx h
def stJ (jump:Option Code):LoopState:=match jump with
 | none => .ready
 | some _ => .done
def zyb (ih:Run) (s:SF) (l:Nat) (lo:LO) (jump:Option Code) (cs:List AF) (nx:Nat) (h:LH):Res:=match s.dfd with
 | false => match lo,s.ds with
  | .loop st pend fn lf ps assign body dfs,[] => Tr.put .gone (.loop (stJ jump) jump fn lf ps assign body dfs) h l fun h =>
   endR ih (.bool jump.isNone) cs nx h
  | _,_ => .bad 162
 | true => .bad 162
def zmp (ih:Run) (s:SF) (f:Fr) (jump:Option Code) (cs:List AF) (nx:Nat) (h:LH):Res:=match s.rd with
 | some l => zyb ih s l (atB h l) jump cs nx h
 | none => match jump with
  | none => ih (.ret s f) cs nx h
  | some .ret => ih (.ret s f) cs nx h
  | _ => .bad 161
def zBp (lo:LO) (r:Nat) (h:LH) (c:List AD→LH→Res):Res:=match lo with
 | .defd (some es) => Tr.put .gone (.defd none) h r fun h => c es h
 | _ => .bad 170
def retD (ih:Run) (s:SF) (mk:SF→AF) (d:AD) (ds:List AD) (cs:List AF) (nx:Nat) (h:LH):Res:=match d with
 | .coll r => zBp (atB h r) r h fun es h => ih (mk ⟨s.g,es++ds,s.dfd,s.rd⟩) cs nx h
 | .call g args => zhT cx g true args fun fr => ih fr (mk ⟨s.g,ds,s.dfd,s.rd⟩::cs) nx h
def retE (ih:Run) (s:SF) (f:Fr) (cs:List AF) (nx:Nat) (h:LH):Res:=match cx.fn s.g with
 | some fn => match resE cx h f fn.results.toList with
  | some vs => zCC ih s.dfd (oneE vs) cs nx h
  | none => .bad 172
 | none => .bad 173
def retA (ih:Run) (s:SF) (f:Fr) (cs:List AF) (nx:Nat) (h:LH):Res:=match s.ds with
 | d::ds => retD cx ih s (fun s => .ret s f) d ds cs nx h
 | [] => retE cx ih s f cs nx h
def panA (ih:Run) (s:SF) (f:Fr) (ch:List (LV×Bool)) (cs:List AF) (nx:Nat) (h:LH):Res:=match s.ds with
 | d::ds => retD cx ih s (fun s => .pan s f ch) d ds cs nx h
 | [] => match cx.fn s.g,cs with
  | some _,c::cs => ih (zoV c ch) cs nx h
  | _,_ => .bad 174
def recA (ih:Run) (dst:Option Nat) (s:SF) (f:Fr) (k:List AI) (cs:List AF) (nx:Nat) (h:LH):Res:=match s.dfd,s.rd,cs with
 | true,none,.pan s' f' ((v,false)::old)::cs => pF dst v f fun f => ih (.run s f k) (.pan s' f' ((v,true)::old)::cs) nx h
 | true,none,.ret s' f'::cs => pF dst .nili f fun f => ih (.run s f k) (.ret s' f'::cs) nx h
 | _,_,_ => .bad 134
def panE (ih:Run) (v:LV) (s:SF) (f:Fr) (cs:List AF) (nx:Nat) (h:LH):Res:=match v with
 | .ifc t v => ih (.pan s f [(.ifc t v,false)]) cs nx h
 | _ => .bad 131
def defR (l:LO) (g:FuncId) (args:List LV) (h:LH) (c:LH→Res):Res:=match l with
 | .loop _ _ _ _ _ _ _ r => match atB h r with
  | .defd (some es) => Tr.put .gone (.defd (some (.call g args::es))) h r c
  | _ => .bad 132
 | _ => .bad 132
def defE (ih:Run) (cl:Cl) (dst:Option Nat) (s:SF) (f:Fr) (k:List AI) (cs:List AF) (nx:Nat) (h:LH):Res:=match cl with
 | .fn g args => match s.rd with
  | none => pF dst (.tup []) f fun f => ih (.run ⟨s.g,.call g args::s.ds,s.dfd,s.rd⟩ f k) cs nx h
  | some l => defR (atB h l) g args h fun h => pF dst (.tup []) f fun f => ih (.run s f k) cs nx h
 | _ => .bad 133
def qK (g:Nat) (q:Q) (c:LV→Res):Res:=match q with
 | .ok v => c v
 | .bad n => .bad (n * 4096 + g)
def zxa (all:List Oper) (o:Oper) (os:List Oper):W Stp:=match opK cx o.op with
 | .q => .mk fun ih s f k cs nx h => qK s.g ((opQ cx o.op).go (gF f) h) fun v => pF o.dst v f fun f => ih (.run s f (.reg all os::k)) cs nx h
 | .m => .mk fun ih s f k cs nx h => rsR s.g ((opM cx o.op).go (gF f) nx h) fun v nx h => pF o.dst v f fun f => ih (.run s f (.reg all os::k)) cs nx h
 | .call => match o.op with
  | .call ⟨cl,xs,_⟩ => .mk fun ih s f k cs nx h => zAC cx ih ((zem cx cl xs.toList).go (gF f) h) (.run s f (.reg all (o::os)::k)) cs nx h
  | _ => .mk fun _ _ _ _ _ _ _ => .bad 135
 | .recover => .mk fun ih s f k cs nx h => recA ih o.dst s f (.reg all os::k) cs nx h
 | .panic x => .mk fun ih s f k cs nx h => panE ih (evO x (gF f)) s f cs nx h
 | .defer c => match c.callee with
  | .value x => .mk fun ih s f k cs nx h => defE ih ((zem cx (.value x) c.args.toList).go (gF f) h) o.dst s f (.reg all os::k) cs nx h
  | _ => .mk fun _ _ _ _ _ _ _ => .bad 136
def zBj (w:Option Bool) (yes no:Res):Res:=match w with
 | some true => yes
 | some false => no
 | none => .bad 130
def zAw (all:List Oper) (o:Oper) (os:List Oper):W Stp:=match o.guard with
 | none => zxa cx all o os
 | some g => .mk fun ih s f k cs nx h => zBj (ziA all (some g) (gF f)) ((zxa cx all o os).go ih s f k cs nx h) (pF o.dst (.tup []) f fun f => ih (.run s f (.reg all os::k)) cs nx h)
def begA (ih:Run) (l:Nat) (lo:LO) (s:SF) (f:Fr) (k:List AI) (cs:List AF) (nx:Nat) (h:LH):Res:=match lo with
 | .loop .ready pend fn lf ps assign body dfs => Tr.put .gone (.loop .busy pend fn lf ps assign body dfs) h l fun h => ih (.run s f k) cs nx h
 | _ => .bad 163
def pendK (pend:Option Code) (k:List AI):List AI:=match pend with
 | some c => .code c::k
 | none => k
def endA (ih:Run) (l:Nat) (lo:LO) (s:SF) (f:Fr) (k:List AI) (cs:List AF) (nx:Nat) (h:LH):Res:=match lo with
 | .loop .busy _ _ _ _ _ _ _ => .bad 165
 | .loop st pend fn lf ps assign body dfs => Tr.put .gone (.loop .exhausted pend fn lf ps assign body dfs) h l fun h => ih (.run s f (pendK pend k)) cs nx h
 | _ => .bad 165
def zCs (ih:Run) (v:LV) (a b:Code) (s:SF) (f:Fr) (k:List AI) (cs:List AF) (nx:Nat) (h:LH):Res:=match v with
 | .bool true => ih (.run s f (.code a::k)) cs nx h
 | .bool false => ih (.run s f (.code b::k)) cs nx h
 | _ => .bad 120
def zxZ (ih:Run) (g:FuncId) (u c:List LV) (ps:List Tmp) (assign body:Code) (s:SF) (f:Fr) (k:List AI) (cs:List AF) (nx:Nat) (h:LH):Res:=match Nat.blt nx 1000000 with
 | true => Tr.put .gone (.defd (some [])) h nx fun h => frN (fun l => Tr.put .gone (.loop .ready none s.g f ps assign body nx) h l fun h => frN (fun nx' =>
   zhT cx g false (u++(.yield l::c)) fun fr => ih fr (.run ⟨s.g,.coll nx::s.ds,s.dfd,s.rd⟩ f (.rng l::k)::cs) nx' h) (Nat.succ l)) (Nat.succ nx)
 | false => .bad 27
def zx0 (ih:Run) (lo:LO) (g:FuncId) (u c:List LV) (ps:List Tmp) (assign body:Code) (s:SF) (f:Fr) (k:List AI) (cs:List AF) (nx:Nat) (h:LH):Res:=match lo,Nat.blt nx 1000000 with
 | .loop _ _ _ _ _ _ _ r,true => Tr.put .gone (.loop .ready none s.g f ps assign body r) h nx fun h => frN (fun nx' =>
   zhT cx g false (u++(.yield nx::c)) fun fr => ih fr (.run s f (.rng nx::k)::cs) nx' h) (Nat.succ nx)
 | _,_ => .bad 27
def zr9 (ih:Run) (v:LV) (ps:List Tmp) (assign body:Code) (s:SF) (f:Fr) (k:List AI) (cs:List AF) (nx:Nat) (h:LH):Res:=match v with
 | .fn g u c => match s.rd with
  | none => zxZ cx ih g u c ps assign body s f k cs nx h
  | some l => zx0 cx ih (atB h l) g u c ps assign body s f k cs nx h
 | _ => .bad 167
def toA (ih:Run) (k' : Option (List AI)) (s:SF) (f:Fr) (j:Code) (cs:List AF) (nx:Nat) (h:LH):Res:=match k' with
 | some k => ih (.run s f k) cs nx h
 | none => zmp ih s f (some j) cs nx h
def zxb (c:Code):W Stp:=match c with
 | .skip => .mk fun ih s f k cs nx h => ih (.run s f k) cs nx h
 | .label _ => .mk fun ih s f k cs nx h => ih (.run s f k) cs nx h
 | .ret => .mk fun ih s f k cs nx h => zmp ih s f (some .ret) cs nx h
 | .exit id => .mk fun ih s f k cs nx h => toA ih (znZ id k) s f (.exit id) cs nx h
 | .goto l => .mk fun ih s f k cs nx h => toA ih (znU l k) s f (.goto l) cs nx h
 | .seq a b => .mk fun ih s f k cs nx h => ih (.run s f (.code a::.code b::k)) cs nx h
 | .cond o a b => .mk fun ih s f k cs nx h => zCs ih (evO o (gF f)) a b s f k cs nx h
 | .block i b => .mk fun ih s f k cs nx h => ih (.run s f (.code b::.blk i::k)) cs nx h
 | .loop b => .mk fun ih s f k cs nx h => ih (.run s f (.code b::.lp b::k)) cs nx h
 | .scope b => .mk fun ih s f k cs nx h => ih (.run s f (.code b::.scp b::k)) cs nx h
 | .region _ ops d => match d with
  | false => .mk fun ih s f k cs nx h => ih (.run s f (.reg ops.toList ops.toList::k)) cs nx h
  | true => match zfx ops.toList && zfc ops.toList with
   | true => .mk fun ih s f k cs nx h => zCl cx s.g ops.toList ih f nx h fun f nx h => ih (.run s f k) cs nx h
   | false => .mk fun _ _ _ _ _ _ _ => .bad 121
 | .rangeFunc x ps assign body => .mk fun ih s f k cs nx h => zr9 cx ih (evO x (gF f)) ps.toList assign body s f k cs nx h
 | .refuse _ => .mk fun _ _ _ _ _ _ _ => .bad 168
def zAx (i:AI):W Stp:=match i with
 | .code c => zxb cx c
 | .reg all os => match os with
  | [] => .mk fun ih s f k cs nx h => ih (.run s f k) cs nx h
  | o::os => zAw cx all o os
 | .blk _ => .mk fun ih s f k cs nx h => ih (.run s f k) cs nx h
 | .scp _ => .mk fun ih s f k cs nx h => ih (.run s f k) cs nx h
 | .lp b => .mk fun ih s f k cs nx h => ih (.run s f (.code b::.lp b::k)) cs nx h
 | .beg => .mk fun ih s f k cs nx h => match s.rd with
  | some l => begA ih l (atB h l) s f k cs nx h
  | none => .bad 163
 | .rng _ => .mk fun _ _ _ _ _ _ _ => .bad 164
 | .endr l => .mk fun ih s f k cs nx h => endA ih l (atB h l) s f k cs nx h
def runK (ih:Run) (s:SF) (f:Fr) (k:List AI) (cs:List AF) (nx:Nat) (h:LH):Res:=match k with
 | [] => zmp ih s f none cs nx h
 | i::k => (zAx cx i).go ih s f k cs nx h
def zBs (ih:Run) (fr:AF) (cs:List AF) (nx:Nat) (h:LH):Res:=match fr with
 | .run s f k => runK cx ih s f k cs nx h
 | .ret s f => retA cx ih s f cs nx h
 | .pan s f ch => panA cx ih s f ch cs nx h
def runA (n:Nat):Run:=Nat.rec (motive:=fun _ => Run) (fun _ _ _ _ => .bad 999) (fun _ ih => zBs cx ih) n
def zmV (n:Nat) (g:FuncId) (args:List LV) (nx:Nat) (h:LH):Res:=zhT cx g false args fun fr => runA cx n fr [] nx h
end
end
@[simp] theorem zaV (k:Nat→β) (n:Nat):frN k n=k n:=by cases n <;> rfl
@[simp] theorem zCe (k:Tr α→β) (t:Tr α):Tr.fr k t=k t:=by cases t <;> rfl
@[simp] theorem zaJ (a:α):(W.mk a).go=a:=rfl
def inv:List Bool→Nat
 | [] => 0
 | b::p => 2 * inv p + (match b with | true => 1 | false => 0) + 1
theorem zs4:∀ f k,k≤f→inv (pth f k)=k:=by
  intro f
  induction f with
  | zero => intro k hk; have : k = 0 := by omega
            subst this; rfl
  | succ f ih =>
    intro k hk
    cases k with
    | zero => rfl
    | succ k =>
      have h1:pth (f + 1) (k + 1)=Nat.beq (Nat.mod k 2) 1::pth f (Nat.div k 2):=rfl
      have h2:Nat.div k 2=k / 2:=rfl
      have h3:Nat.mod k 2=k % 2:=rfl
      have h4:∀ b p,inv (b::p)=2 * inv p + (match b with | true => 1 | false => 0) + 1:=fun _ _ => rfl
      rw [h1,h4,h2,h3,ih (k / 2) kQ]
      rcases zFW k with h | h
      · rw [h]; grind
      · rw [h]; grind
theorem zy8 {k k' : Nat}(h:pth k k=pth k' k'):k=k':=by
 rw [← zs4 k k (zDe _),← zs4 k' k' (zDe _),h]
theorem zlr (d:α) (t:Tr α):getP d [] t=match t with | .e => d | .n _ x _ => x:=by cases t <;> rfl
theorem zje (d:α) (b:Bool) (p:List Bool) (t:Tr α):getP d (b::p) t=match t with | .e => d | .n l _ r => (match b with | true => getP d p r | false => getP d p l):=by
 cases t <;> cases b <;> rfl
theorem zmA (d:α) (p:List Bool):getP d p .e=d:=by cases p <;> rfl
theorem zoW (d v:α) (t:Tr α):putP d v [] t=match t with | .e => .n .e v .e | .n l _ r => .n l v r:=by cases t <;> rfl
theorem zmb (d v:α) (b:Bool) (p:List Bool) (t:Tr α):putP d v (b::p) t=match t with
  | .e => (match b with | true => .n .e d (putP d v p .e) | false => .n (putP d v p .e) d .e)
  | .n l x r => (match b with | true => .n l x (putP d v p r) | false => .n (putP d v p l) x r):=by
 cases t <;> cases b <;> simp only [putP,zCe]
theorem zti (d v:α) (p q:List Bool) (t:Tr α):getP d q (putP d v p t)=if q=p then v else getP d q t:=by
 induction p generalizing q t with
 | nil =>
  cases q with
  | nil => cases t <;> simp [zoW,zlr]
  | cons b q => cases t <;> cases b <;> simp [zoW,zje,zmA]
 | cons a p ih =>
  cases q with
  | nil => cases t <;> cases a <;> simp [zmb,zlr]
  | cons b q => cases t <;> cases a <;> cases b <;> simp [zmb,zje,ih,zmA]
noncomputable def Tr.set (d v:α) (t:Tr α) (k:Nat):Tr α:=putP d v (pth k k) t
theorem zb5 (d v:α) (t:Tr α) (k:Nat) (c:Tr α→β):Tr.put d v t k c=c (Tr.set d v t k):=zCe _ _
theorem zel (d v:α) (t:Tr α) (k j:Nat):Tr.get d (Tr.set d v t k) j=if j=k then v else Tr.get d t j:=by
 unfold Tr.get Tr.set
 rw [zti]
 by_cases h:j=k
 ·grind
 ·rw [zDb h,zDb (fun e => h (zy8 e))]
theorem zpq (d v:α) (t:Tr α) (k:Nat):Tr.get d (Tr.set d v t k) k=v:=by rw [zel,zDi rfl]
theorem zfB {d v:α}{t:Tr α}{k j:Nat}(h:j≠k):Tr.get d (Tr.set d v t k) j=Tr.get d t j:=by rw [zel,zDb h]
theorem zCa (d:α) (k:Nat):Tr.get d .e k=d:=zmA _ _
theorem zmM {α:Type}:∀ (l:List α) (i:Nat),(zif l)[i]? = l[2 * i]?
 | [],i => by simp [zif]
 | [x],i => by cases i <;> simp [zif]
 | x::y::m,i => by
  cases i with
  | zero => simp [zif]
  | succ i => rw [zif,zDz,zmM m i,show 2 * (i + 1)=2 * i + 1 + 1 by omega,zDz,zDz]
theorem zo4 {α:Type}:∀ (l:List α) (i:Nat),(odds l)[i]? = l[2 * i + 1]?
 | [],i => by simp [odds]
 | [x],i => by simp [odds]
 | x::y::m,i => by
  cases i with
  | zero => simp [odds]
  | succ i => rw [odds,zDz,zo4 m i,show 2 * (i + 1) + 1=2 * i + 1 + 1 + 1 by omega,zDz,zDz]
theorem zmL {α:Type}:∀ (l:List α),(zif l).length=(l.length + 1) / 2
 | [] => by simp [zif]
 | [x] => by simp [zif]
 | x::y::m => by rw [zif]; simp only [zC7,zmL m]; omega
theorem zo3 {α:Type}:∀ (l:List α),(odds l).length=l.length / 2
 | [] => by simp [odds]
 | [x] => by simp [odds]
 | x::y::m => by rw [odds]; simp only [zC7,zo3 m]; omega
theorem zv9 (d:α):∀ (f:Nat) (l:List α) (g k:Nat),l.length < 2 ^ f→k≤g→getP d (pth g k) (mkTr f l)=(l[k]?).getD d:=by
 intro f
 induction f with
 | zero => grind [mkTr,zmA]
 | succ f ih =>
  intro l g k hl hk
  cases l with
  | nil => rw [mkTr,zmA]; rfl
  | cons x l =>
   rw [mkTr]
   simp only [zC7] at hl
   cases k with
   | zero => cases g <;> (show getP d [] _=_; rw [zlr]; simp)
   | succ k =>
    cases g with
    | zero => omega
    | succ g =>
     have h1:pth (g + 1) (k + 1)=Nat.beq (k % 2) 1::pth g (k / 2):=rfl
     have hp:2 ^ (f + 1)=2 * 2 ^ f:=by omega
     rw [h1,zje,zDz]
     rcases zFW k with h | h
     ·rw [h]; show getP d _ (mkTr f (zif l))=_
      rw [ih _ _ _ (by grind [zmL]) kQ,zmM,show 2 * (k / 2)=k by omega]
     ·rw [h]; show getP d _ (mkTr f (odds l))=_
      rw [ih _ _ _ (by grind [zo3]) kQ,zo4,show 2 * (k / 2) + 1=k by omega]
theorem zsE (d:α) (f:Nat) (l:List α) (k:Nat) (hl:l.length < 2 ^ f):Tr.get d (mkTr f l) k=(l[k]?).getD d:=zv9 d f l k k hl (zDe _)
theorem zbd {a b:Nat}:Nat.blt a b=true↔a < b:=⟨fun h => zDT h,fun h => Nat.ble_eq_true_of_le h⟩
theorem zaP {a b:Nat}:Nat.ble a b=true↔a≤b:=⟨fun h => zDT h,fun h => Nat.ble_eq_true_of_le h⟩
theorem zar {a b:Nat}:Nat.beq a b=true↔a=b:=⟨fun h => zD6 h,fun h => by simp_all⟩
theorem zui (a b:Nat):Nat.blt a b=decide (a < b):=by rw [zEt,zbd]; simp
theorem zlx (a b:Nat):Nat.beq a b=decide (a=b):=by rw [zEt,zar]; simp
theorem zmr {k k' : IntKind}(h:Nat.beq (kN k) (kN k')=true):k=k':=by cases k <;> cases k' <;> first | rfl | cases h
theorem zhl (a b:Int):ltI a b=decide (a < b):=by
 rw [zEt,zFP]
 cases a <;> cases b <;> simp only [ltI,zbd] <;> first | grind | omega | grind | simp <;> omega
theorem zfG (a b:Int):eqI a b=decide (a=b):=by
 rw [zEt,zFP]
 cases a <;> cases b <;> simp only [eqI,zar] <;> first | grind | grind
theorem zAW (a b:Int):addI a b=a + b:=by cases a <;> cases b <;> rfl
theorem zrK (a b:Int):subI a b=a - b:=by
  cases a <;> cases b <;> try rfl
  rename_i a b
  simp only [subI]
  cases h:Nat.ble b a with
  | true => grind [zaP]
  | false => have : ¬ b ≤ a := fun h' => by grind [zaP]
             simp; omega
theorem zsC (a b:Int):mulI a b=a * b:=by cases a <;> cases b <;> rfl
theorem znz (k:IntKind) (z:Int):putI k z = .int k z:=by cases z <;> simp [putI]
theorem zjV {k:IntKind}(h:n < lim k):k.wrap (.ofNat n) = .ofNat n:=by
 cases k <;> simp only [lim] at h <;> simp [IntKind.wrap,IntKind.bits,IntKind.signed] <;> omega
theorem zgw {k:IntKind}{M H z:Int}(e1:(2:Int) ^ k.bits=M) (e2:(2:Int) ^ (k.bits - 1)=H) (hM:M=2 * H) (hs:k.signed=true) (h1:-H≤z) (h2:z < 0):k.wrap z=z:=by
 unfold IntKind.wrap
 rw [e1,e2,hs]
 have h:z % M=z + M:=by
  have:(z + M) % M=z + M:=Int.emod_eq_of_lt kQ kQ
  simp_all
 grind
theorem zu4 {k:IntKind}(hs:k.signed=true) (h:n < lim k):k.wrap (.negSucc n) = .negSucc n:=by
 cases k <;> first
  | (cases hs; done)
  | exact zgw (M:=256) (H:=128) rfl rfl rfl rfl (by rw [zFs]; simp only [lim] at h; omega) kQ
  | exact zgw (M:=65536) (H:=32768) rfl rfl rfl rfl (by rw [zFs]; simp only [lim] at h; omega) kQ
  | exact zgw (M:=4294967296) (H:=2147483648) rfl rfl rfl rfl (by rw [zFs]; simp only [lim] at h; omega) kQ
  | exact zgw (M:=18446744073709551616) (H:=9223372036854775808) rfl rfl rfl rfl (by grind [Int.negSucc_eq,lim]) kQ
theorem zo9 (k:IntKind) (n:Nat):mkN k n = .int k (k.wrap (n:Int)):=by
 unfold mkN
 split
 ·rename_i h; rw [zaV]; exact zDh _ (zjV (zbd.1 h)).symm
 grind [znz]
theorem zhN (k:IntKind) (z:Int):mkI k z = .int k (k.wrap z):=by
 cases z with
 | ofNat n => exact zo9 k n
 | negSucc n =>
  simp only [mkI]
  split
  ·simp_all [zC9,zaV,zu4,zbd]
  ·rw [znz]
theorem zeb:∀ l m:yB,l.length=m.length→zaf l=zaf m→l=m
 | [],[],_,_ => rfl
 | a::l,b::m,hl,h => by
  have ha:=a.toNat_lt
  have hb:=b.toNat_lt
  simp only [zaf] at h
  have h1:a.toNat=b.toNat:=by omega
  have h2:zaf l=zaf m:=by omega
  rw [zFE.1 h1,zeb l m (by simpa using hl) h2]
theorem zec (l m:yB):zaf (l++m)=zaf l + zaf m * 256 ^ l.length:=by
 induction l with
 | nil => simp [zaf]
 | cons b l ih =>
  simp only [zDr,zaf,ih,zC7,zE2]
  grind
theorem zdv:∀ (o:Nat) (l:yB),zaf (l.drop o)=zaf l / 256 ^ o
 | 0,l => by simp
 | o + 1,[] => by simp [zaf]
 | o + 1,b::l => by
  have hb:=b.toNat_lt
  rw [zE4,zdv o l,zaf,zE2,zE1 _ 256,← zGk]
  congr 1; omega
theorem zdu:∀ (n:Nat) (l:yB),zaf (l.take n)=zaf l % 256 ^ n
 | 0,l => by simp [zaf,Nat.mod_one]
 | n + 1,[] => by simp [zaf]
 | n + 1,b::l => by
  have hb:=b.toNat_lt
  rw [zFm,zaf,zaf,zdu n l,zE2,zE1 _ 256,Nat.mod_mul]
  have h1:(b.toNat + 256 * zaf l) % 256=b.toNat:=by omega
  have h2:(b.toNat + 256 * zaf l) / 256=zaf l:=by omega
  rw [h1,h2]
theorem zkT (l:yB) (o n:Nat):subN (zaf l) o n=zaf ((l.drop o).take n):=by
 rw [zdu,zdv]; rfl
theorem zfJ:∀ (l:yB) (j:Nat),j < l.length→zxh (zaf l) j=(l.getD j 0).toNat
 | b::l,0,_ => by
  have hb:=b.toNat_lt
  simp only [zxh,zaf,List.getD_cons_zero]
  show (b.toNat + 256 * zaf l) / 256 ^ 0 % 256=_
  rw [Nat.pow_zero,Nat.div_one]; omega
 | b::l,j + 1,h => by
  have hb:=b.toNat_lt
  rw [List.getD_cons_succ,← zfJ l j (by simpa using h)]
  show (b.toNat + 256 * zaf l) / 256 ^ (j + 1) % 256=zaf l / 256 ^ j % 256
  rw [zE2,zE1 _ 256,← zGk]
  congr 2; omega
def mtR (P:Program) (t:TypeId) (path:List FieldStep) (func:Option (FuncId×Bool)):Option Mw:=match path,func with
 | [],some (f,true) => match P.underlying t with
  | some (.pointer _) => some (.plain f)
  | _ => none
 | [],some (f,false) => match P.underlying t with
  | some (.pointer e) => some (.loads f e)
  | some _ => some (.plain f)
  | none => none
 | [⟨s,j,true⟩],some (f,true) => match P.underlying s with
  | some (.struct fs) => match fs[j]? with
   | some fd => match aggB (P.underlying fd.type),szOf P fd.type with
    | true,_ + 1 => some (.fields f fd.offset)
    | _,_ => none
   | none => none
  | _ => none
 | _,_ => none
def mtOf (P:Program) (t:TypeId) (m:String):Option Mw:=match P.info? t with
 | none => none
 | some i => match i.methods.find? (fun r => r.name == m) with
  | none => none
  | some r => mtR P t r.path.toList r.func
def zid (n:Nat) (os:List Oper):Bool:=os.all fun o => (match o.dst with
 | some d => Nat.blt d n
 | none => true) && (zaR os o).all fun t => Nat.blt t n
def okC (n:Nat):Code→Bool
 | .region _ ops _ => zid n ops.toList
 | .seq a b => okC n a && okC n b
 | .cond _ a b => okC n a && okC n b
 | .block _ b => okC n b
 | .loop b => okC n b
 | .scope b => okC n b
 | .rangeFunc _ ps a b => ps.toList.all (fun t => Nat.blt t n) && okC n a && okC n b
 | _ => true
def okFn (fn:Func):Bool:=!(fn.name == "runtime.NumGoroutine") && match fn.body with
 | some c => okC fn.ntmps c
 | none => false
variable {G:List (Nat×Obj)}
structure Bk where
  b:Nat
  off:Nat
  size:Nat
  sz:Nat
variable {k:Bk}
abbrev BB:=List Bk
variable {B B':BB}
def nanW (n:Nat):Prop:=n < 18446744073709551616∧∃ s f,Ieee.double.read n = .nan s f
mutual
def VR (B:BB):LV→Value→Prop
 | .undef,_ => True
 | .bool b,u => u = .bool b
 | .int k n,u => u = .int k n
 | .flt k n,u => u = .float k n
 | .nan,u => ∃ n,u = .float .f64 n∧nanW n
 | .nanb,u => ∃ n:Nat,u = .int .u64 n∧nanW n
 | .str len n,u => ∃ l,u=str l∧l.length=len∧zaf l=n
 | .nilp,u => u = .pointer none
 | .ptr i o,u => ∃ k,B[i]? = some k∧u = .pointer (some ⟨k.b,k.off + o,none⟩)
 | .gptr g o,u => u = .pointer (some ⟨g,o,none⟩)
 | .nils,u => u = .slice none 0 0
 | .sle,u => ∃ A c,u = .slice A 0 c
 | .sl i o len cap,u => ∃ k,B[i]? = some k∧u = .slice (some ⟨k.b,k.off + o,none⟩) len cap
 | .slo i o len a,u => ∃ k c A,B[i]? = some k∧u = .slice (some A) len c∧len≤c∧k.off + o + c * k.sz=k.size∧(0 < c→A=⟨k.b,k.off + o,none⟩)∧(c=0→A=⟨k.b,k.off + a,none⟩)∧c≤9223372036854775807
 | .map0,u => u = .map none
 | .map i,u => ∃ k,B[i]? = some k∧u = .map (some k.b)
 | .fn f us cs,u => ∃ a b,u = .func (.func f) a b∧VRL B us a.toList∧VRL B cs b.toList
 | .yield i,u => ∃ k,B[i]? = some k∧u = .func (.yield k.b) #[] #[]
 | .nilf,u => u = .nilFunc
 | .ifc t v,u => ∃ x,u = .iface t x∧VR B v x
 | .nili,u => u = .nilIface
 | .agg cs,u => ∃ vs,u = .agg vs∧VRL B cs vs.toList∧∀ c ∈ vs.toList,c.oneCell' = true
 | .tup cs,u => ∃ vs,u = .tuple vs∧VRL B cs vs.toList
def VRL (B:BB):List LV→List Value→Prop
 | [],l => l=[]
 | a::l,m => ∃ b m',m=b::m'∧VR B a b∧VRL B l m'
end
theorem zb8 (h:B <+: B') (hk:B[i]? = some k):B'[i]? = some k:=by
 obtain ⟨C,rfl⟩:=h
 grind
mutual
theorem VR.mono {B B' : BB}(hp:B <+: B'):∀ (v:LV) (u:Value),VR B v u→VR B' v u
 | .undef,_,_ => by simp only [VR]
 | .bool b,u,h => by simp only [VR] at h ⊢; exact h
 | .int k n,u,h => by simp only [VR] at h ⊢; exact h
 | .flt k n,u,h => by simp only [VR] at h ⊢; exact h
 | .nan,u,h => by simp only [VR] at h ⊢; exact h
 | .nanb,u,h => by simp only [VR] at h ⊢; exact h
 | .str len n,u,h => by simp only [VR] at h ⊢; exact h
 | .nilp,u,h => by simp only [VR] at h ⊢; exact h
 | .ptr i o,u,h => by simp only [VR] at h ⊢; obtain ⟨k,h1,h2⟩:=h; exact ⟨k,zb8 hp h1,h2⟩
 | .gptr g o,u,h => by simp only [VR] at h ⊢; exact h
 | .nils,u,h => by simp only [VR] at h ⊢; exact h
 | .sle,u,h => by simp only [VR] at h ⊢; exact h
 | .sl i o len cap,u,h => by simp only [VR] at h ⊢; obtain ⟨k,h1,h2⟩:=h; exact ⟨k,zb8 hp h1,h2⟩
 | .slo i o len a,u,h => by simp only [VR] at h ⊢; obtain ⟨k,c,A,h1,h2⟩:=h; exact ⟨k,c,A,zb8 hp h1,h2⟩
 | .map0,u,h => by simp only [VR] at h ⊢; exact h
 | .map i,u,h => by simp only [VR] at h ⊢; obtain ⟨k,h1,h2⟩:=h; exact ⟨k,zb8 hp h1,h2⟩
 | .fn f us cs,u,h => by simp only [VR] at h ⊢; obtain ⟨a,b,h1,h2,h3⟩:=h; exact ⟨a,b,h1,VRL.mono hp us _ h2,VRL.mono hp cs _ h3⟩
 | .yield i,u,h => by simp only [VR] at h ⊢; obtain ⟨k,h1,h2⟩:=h; exact ⟨k,zb8 hp h1,h2⟩
 | .nilf,u,h => by simp only [VR] at h ⊢; exact h
 | .ifc t v,u,h => by simp only [VR] at h ⊢; obtain ⟨x,h1,h2⟩:=h; exact ⟨x,h1,VR.mono hp v x h2⟩
 | .nili,u,h => by simp only [VR] at h ⊢; exact h
 | .agg cs,u,h => by simp only [VR] at h ⊢; obtain ⟨vs,h1,h2,h3⟩:=h; exact ⟨vs,h1,VRL.mono hp cs _ h2,h3⟩
 | .tup cs,u,h => by simp only [VR] at h ⊢; obtain ⟨vs,h1,h2⟩:=h; exact ⟨vs,h1,VRL.mono hp cs _ h2⟩
theorem VRL.mono {B B' : BB}(hp:B <+: B'):∀ (v:List LV) (u:List Value),VRL B v u→VRL B' v u
 | [],l,h => by simp only [VRL] at h ⊢; exact h
 | a::l,m,h => by simp only [VRL] at h ⊢; obtain ⟨b,m',h1,h2,h3⟩:=h; exact ⟨b,m',h1,VR.mono hp a b h2,VRL.mono hp l m' h3⟩
end
theorem VRL.len {B:BB}:∀ {l:List LV}{m:List Value},VRL B l m→m.length=l.length
 | [],m,h => by grind [VRL]
 | a::l,m,h => by simp only [VRL] at h; obtain ⟨b,m',rfl,_,h⟩:=h; simp [VRL.len h]
theorem VRL.get {B:BB}:∀ {l:List LV}{m:List Value},VRL B l m→∀ {i:Nat}{v:LV},l[i]? = some v→∃ u,m[i]? = some u∧VR B v u
 | [],m,h,i,v,hv => by simp at hv
 | a::l,m,h,i,v,hv => by
  simp only [VRL] at h; obtain ⟨b,m',rfl,h1,h2⟩:=h
  cases i with
  | zero => simp at hv; subst hv; exact ⟨b,by simp,h1⟩
  | succ i => simp at hv; obtain ⟨u,hu,h3⟩:=VRL.get h2 hv; exact ⟨u,by simpa using hu,h3⟩
theorem VRL.app {B:BB}:∀ {l:List LV}{m:List Value}{l' : List LV}{m' : List Value},VRL B l m→VRL B l' m'→VRL B (l++l') (m++m')
 | [],m,l',m',h,h' => by grind [VRL]
 | a::l,m,l',m',h,h' => by
  simp only [VRL] at h; obtain ⟨b,m1,rfl,h1,h2⟩:=h
  simp only [zDr,VRL]; exact ⟨b,m1++m',rfl,h1,VRL.app h2 h'⟩
theorem VRL.take {B:BB}:∀ (n:Nat) {l:List LV}{m:List Value},VRL B l m→VRL B (l.take n) (m.take n)
 | 0,l,m,h => by simp [VRL]
 | n + 1,[],m,h => by grind [VRL]
 | n + 1,a::l,m,h => by
  simp only [VRL] at h; obtain ⟨b,m1,rfl,h1,h2⟩:=h
  simp only [zFm,VRL]; exact ⟨b,_,rfl,h1,VRL.take n h2⟩
theorem VRL.drop {B:BB}:∀ (n:Nat) {l:List LV}{m:List Value},VRL B l m→VRL B (l.drop n) (m.drop n)
 | 0,l,m,h => by simpa using h
 | n + 1,[],m,h => by simp only [VRL] at h; subst h; simp [VRL]
 | n + 1,a::l,m,h => by
  simp only [VRL] at h; obtain ⟨b,m1,rfl,h1,h2⟩:=h
  simpa using VRL.drop n h2
theorem VRL.nil_ :VRL B [] []:=by grind [VRL]
theorem zaB {b:Value}{m:List Value}(h:VR B a b) (h' : VRL B l m):VRL B (a::l) (b::m):=by
 simp only [VRL]; grind
theorem VRL.bytes {B:BB}:∀ (l:yB),VRL B (zdq l.length (zaf l)) (l.map byt)
 | [] => VRL.nil_
 | b::l => by
  have hb:=b.toNat_lt
  have h1:Nat.mod (b.toNat + 256 * zaf l) 256=b.toNat:=(by omega:(b.toNat + 256 * zaf l) % 256=b.toNat)
  have h2:Nat.div (b.toNat + 256 * zaf l) 256=zaf l:=(by omega:(b.toNat + 256 * zaf l) / 256=zaf l)
  rw [zC7,zdq,zaf,h1,h2,zDo]
  exact zaB (by simp only [VR]; rfl) (VRL.bytes l)
def ADR (B:BB):AD→Deferred→Prop
 | .call f args,d => ∃ cap zs,d=⟨.fn (.func f) cap,zs⟩∧VRL B args (zs.toList++cap.toList)
 | .coll i,d => ∃ k,B[i]? = some k∧d=⟨.collected k.b,#[]⟩
def ADL (B:BB):List AD→List Deferred→Prop
 | [],l => l=[]
 | a::l,m => ∃ b m',m=b::m'∧ADR B a b∧ADL B l m'
def FR (B:BB) (f:Fr) (a:Array Value):Prop:=∀ t,VR B (Tr.get .undef f t) (a.getD t Go.undef)
def MRL (B:BB):List (LV×LV)→List MapEntry→Prop
 | [],l => l=[]
 | p::l,m => ∃ e m',m=e::m'∧VR B p.1 e.key∧VR B p.2 e.val∧MRL B l m'
def zbA:LO→Bool
 | .gone => false
 | _ => true
def DOR (B:BB):Option (List AD)→Option (List Deferred)→Prop
 | none,none => True
 | some l,some m => ADL B l m
 | _,_ => False
structure LoopR (B:BB) (L:Loop) (st:LoopState) (pend:Option Code) (fn:FuncId) (f:Fr) (ps:List Tmp) (assign body:Code) (dfs:Nat):Prop where
  okA:okC L.tmps.size assign=true
  okB:okC L.tmps.size body=true
  okP:ps.all (fun t => Nat.blt t L.tmps.size)=true
  okJ:∀ c,pend=some c→∀ n,okC n c=true
  state:L.state=st
  pend:L.pending=pend
  fn:L.fn=fn
  slots:FR B f L.tmps
  params:L.params.toList=ps
  assign:L.assign=assign
  body:L.body=body
  dfs:∃ k:Bk,B[dfs]? = some k∧L.defers=k.b
  bound:∀ t,Tr.get .undef f t≠.undef→t < L.tmps.size
def ITR (B:BB):Option Nat→Option Nat→Prop
 | none,m => m=none
 | some i,m => ∃ k:Bk,B[i]? = some k∧m=some k.b
def OR (B:BB) (k:Bk) (obj:Obj):LO→Prop
 | .gone => False
 | .rows sz len t => ∃ cs e,obj = .cells cs e (0,0)∧0 < sz∧k.sz=sz∧cs.size=k.size∧k.off + len * sz≤k.size∧(∀ c ∈ cs.toList,c.oneCell' = true) ∧
   ∀ r,r < len→VRL B (Tr.get [] t r) ((cs.toList.drop (k.off + r * sz)).take sz)
 | .bytes len x => ∃ cs e fr l,obj = .cells cs e fr∧k.sz=1∧cs.size=k.size∧k.off + len≤k.size∧frOut fr k.size∧(∀ c ∈ cs.toList,c.oneCell' = true) ∧
   l.length=len∧zaf l=x∧(cs.toList.drop k.off).take len=l.map byt
 | .map clock bs es => ∃ ents,obj = .map ents clock∧ents.toList.map (·.born)=bs∧MRL B es ents.toList
 | .iter m since seen last => k.off=0∧∃ m' sn,obj = .mapIter m' since sn last∧sn.toList=seen∧ITR B m m'
 | .loop st pend fn f ps assign body dfs => ∃ L,obj = .loop L∧LoopR B L st pend fn f ps assign body dfs
 | .defd ds => ∃ ds',obj = .deferred ds'∧DOR B ds ds'
def HR (G:List (Nat×Obj)) (B:BB) (h:LH) (H:List Seg):Prop:=∃ p:Nat→Nat,(∀ i,zbA (atB h i)=true→∃ (k:Bk) (obj:Obj),B[i]? = some k∧H[p i]? = some [(k.b,obj)]∧OR B k obj (atB h i)) ∧
 (∀ i i',zbA (atB h i)=true→zbA (atB h i')=true→p i=p i'→i=i')∧∀ g ∈ G,∃ j,H[j]? = some [g]∧∀ i,zbA (atB h i)=true→p i≠j
theorem HR.at_ (hr:HR G B h H) (i:Nat) (hi:zbA (atB h i)=true):∃ (k:Bk) (j:Nat) (obj:Obj),B[i]? = some k∧H[j]? = some [(k.b,obj)]∧OR B k obj (atB h i):=by
 obtain ⟨p,h1,_⟩:=hr
 grind
theorem HR.apart {w0:World}{base:Nat}(S:Sep w0 base w H) (hr:HR G B h H) (i i' : Nat) (k k' : Bk) (hi:zbA (atB h i)=true) (hi' : zbA (atB h i')=true) (hk:B[i]? = some k) (hk' : B[i']? = some k') (hb:k.b=k'.b):i=i':=by
 obtain ⟨p,h1,h2,_⟩:=hr
 obtain ⟨k1,o1,a1,a2,_⟩:=h1 i hi
 obtain ⟨k2,o2,b1,b2,_⟩:=h1 i' hi'
 rw [hk] at a1; cases a1
 rw [hk'] at b1; cases b1
 refine h2 i i' hi hi' ?_
 have:=(zeV S.nodup (i:=p i) (j:=0) (s:=[(k.b,o1)]) (b:=k.b) (o:=o1) a2 rfl (i':=p i') (s':=[(k'.b,o2)]) (o':=o2) b2 (by grind)).1
 omega
theorem FR.mono (hp:B <+: B') {f:Fr}{a:Array Value}(h:FR B f a):FR B' f a:=fun t => VR.mono hp _ _ (h t)
theorem ADR.mono (hp:B <+: B') {d:AD}{e:Deferred}(h:ADR B d e):ADR B' d e:=by
 cases d with
 | call f args => obtain ⟨c,a,h1,h2⟩:=h; exact ⟨c,a,h1,VRL.mono hp _ _ h2⟩
 | coll i => obtain ⟨k,h1,h2⟩:=h; exact ⟨k,zb8 hp h1,h2⟩
theorem ADL.mono {B B' : BB}(hp:B <+: B'):∀ {d:List AD}{e:List Deferred},ADL B d e→ADL B' d e
 | [],e,h => h
 | a::l,e,h => by obtain ⟨b,m,h1,h2,h3⟩:=h; exact ⟨b,m,h1,h2.mono hp,ADL.mono hp h3⟩
theorem MRL.mono {B B' : BB}(hp:B <+: B'):∀ {d:List (LV×LV)}{e:List MapEntry},MRL B d e→MRL B' d e
 | [],e,h => h
 | a::l,e,h => by obtain ⟨b,m,h1,h2,h3,h4⟩:=h; exact ⟨b,m,h1,VR.mono hp _ _ h2,VR.mono hp _ _ h3,MRL.mono hp h4⟩
theorem LoopR.mono (hp:B <+: B') {L:Loop}{st:LoopState}{pend:Option Code}{fn:FuncId}{f:Fr}{ps:List Tmp}{assign body:Code}{dfs:Nat}(h:LoopR B L st pend fn f ps assign body dfs):LoopR B' L st pend fn f ps assign body dfs :=
 ⟨h.okA,h.okB,h.okP,h.okJ,h.state,h.pend,h.fn,h.slots.mono hp,h.params,h.assign,h.body,by obtain ⟨k,h1,h2⟩:=h.dfs; grind [zb8],h.bound⟩
theorem OR.mono (hp:B <+: B') :∀ {lo:LO},OR B k obj lo→OR B' k obj lo
 | .gone,h => h
 | .rows sz len t,h => by
  obtain ⟨cs,e,h1,h2,h3,h4,h5,h6,h7⟩:=h
  exact ⟨cs,e,h1,h2,h3,h4,h5,h6,fun r hr => VRL.mono hp _ _ (h7 r hr)⟩
 | .bytes len x,h => h
 | .map clock bs es,h => by obtain ⟨a,h1,h2,h3⟩:=h; exact ⟨a,h1,h2,h3.mono hp⟩
 | .iter m since seen last,h => by
  obtain ⟨h0,m',sn,h1,h2,h3⟩:=h
  refine ⟨h0,m',sn,h1,h2,?_⟩
  cases m with
  | none => exact h3
  | some i => obtain ⟨k,h4,h5⟩:=h3; exact ⟨k,zb8 hp h4,h5⟩
 | .loop st pend fn f ps assign body dfs,h => by
  obtain ⟨L,h1,h2⟩:=h
  exact ⟨L,h1,h2.mono hp⟩
 | .defd ds,h => by
  obtain ⟨ds',h1,h2⟩:=h
  refine ⟨ds',h1,?_⟩
  cases ds with
  | none => cases ds' with
   | none => trivial
   | some m => exact h2
  | some l => cases ds' with
   | none => exact h2
   | some m => exact ADL.mono hp h2
theorem HR.mono (hp:B <+: B') (hr:HR G B h H):HR G B' h H:=by
 obtain ⟨p,h1,h2⟩:=hr
 refine ⟨p,fun i hi => ?_,h2⟩
 obtain ⟨k,obj,a1,a2,a3⟩:=h1 i hi
 exact ⟨k,obj,zb8 hp a1,a2,a3.mono hp⟩
theorem zox {k:IntKind}{a b:Int}(h:a % (2:Int) ^ k.bits=b % (2:Int) ^ k.bits):k.wrap a=k.wrap b:=by
 grind [IntKind.wrap]
theorem zvY (n:Nat):((2 ^ n:Nat):Int)=(2:Int) ^ n:=by grind
theorem zgx {k:IntKind}{a b:Nat}(h:a % 2 ^ k.bits=b % 2 ^ k.bits):k.wrap (a:Int)=k.wrap (b:Int):=by
 apply zox
 grind
theorem zmX (n a:Nat):(BitVec.ofInt n (Int.ofNat a)).toNat=a % 2 ^ n:=by
 grind
theorem zu5 (k:IntKind) (a b:Nat):k.wrap ((BitVec.ofInt k.bits (Int.ofNat a) &&& BitVec.ofInt k.bits (Int.ofNat b)).toNat:Int)=k.wrap ((Nat.land a b:Nat):Int):=by
 apply zgx
 simp_all [BitVec.toNat_and,zmX,Nat.and_mod_two_pow,Nat.mod_mod]
theorem zyz (k:IntKind) (a b:Nat):k.wrap ((BitVec.ofInt k.bits (Int.ofNat a) ||| BitVec.ofInt k.bits (Int.ofNat b)).toNat:Int)=k.wrap ((Nat.lor a b:Nat):Int):=by
 apply zgx
 simp_all [zGh,zmX,Nat.or_mod_two_pow,Nat.mod_mod]
theorem zu3 (k:IntKind) (a b:Nat):k.wrap ((BitVec.ofInt k.bits (Int.ofNat a) ^^^ BitVec.ofInt k.bits (Int.ofNat b)).toNat:Int)=k.wrap ((Nat.xor a b:Nat):Int):=by
 apply zgx
 simp_all [BitVec.toNat_xor,zmX,Nat.xor_mod_two_pow,Nat.mod_mod]
theorem ziy (k:IntKind) (a b:Nat):k.wrap ((BitVec.ofInt k.bits (Int.ofNat a) &&& ~~~(BitVec.ofInt k.bits (Int.ofNat b))).toNat:Int)=k.wrap ((notN a b:Nat):Int):=by
 apply zgx
 apply Nat.eq_of_testBit_eq
 intro i
 show _=((a ^^^ (a &&& b)) % 2 ^ k.bits).testBit i
 grind
theorem zxW (k:IntKind) (n:Nat):shN k n=2 ^ (min n k.bits):=by
 have hb:zxj k=k.bits:=by cases k <;> rfl
 unfold shN
 show 2 ^ _=_
 grind [Nat.ble,zxj,zaP]
theorem zv5 {k:IntKind}(hs:k.signed=true) (n:Nat):k.wrap ((BitVec.ofInt k.bits (-1) ^^^ BitVec.ofInt k.bits (Int.ofNat n)).toNat:Int)=k.wrap (.negSucc n):=by
 have h1:BitVec.ofInt k.bits (-1)=BitVec.allOnes k.bits:=by
  cases k <;> decide
 apply zox
 rw [h1,BitVec.allOnes_xor,BitVec.toNat_not,zmX]
 have hp:0 < 2 ^ k.bits:=Nat.two_pow_pos _
 have hlt:n % 2 ^ k.bits < 2 ^ k.bits:=zEE _ hp
 have e:((2 ^ k.bits - 1 - n % 2 ^ k.bits:Nat):Int)=(2:Int) ^ k.bits - 1 - (n:Int) % (2:Int) ^ k.bits:=by
  grind
 rw [e,zFs,show (2:Int) ^ k.bits - 1 - (n:Int) % (2:Int) ^ k.bits=(-1 - (n:Int) % (2:Int) ^ k.bits) + (2:Int) ^ k.bits by omega,Int.add_emod_right]
 rw [show -((n:Int) + 1) = -1 - (n:Int) by omega,Int.sub_emod,Int.emod_emod,← Int.sub_emod]
theorem zsl {k:IntKind}(hs:k.signed=false) (hn:n < lim k):k.wrap ((BitVec.ofInt k.bits k.max ^^^ BitVec.ofInt k.bits (Int.ofNat n)).toNat:Int)=k.wrap ((lim k - 1 - n:Nat):Int):=by
 have h1:BitVec.ofInt k.bits k.max=BitVec.allOnes k.bits:=by
  cases k <;> first | (cases hs; done) | decide
 have h2:lim k=2 ^ k.bits:=by cases k <;> first | (cases hs; done) | decide
 grind [zgx,BitVec.allOnes_xor,BitVec.toNat_not,zmX,Nat.mod_eq_of_lt]
theorem zmm:∀ l m:yB,ltN l.length (zaf l) m.length (zaf m)=Op.bytesLess l m
 | l,[] => by cases l <;> simp [ltN,Op.bytesLess]
 | [],b::m => by simp [ltN,Op.bytesLess]
 | a::l,b::m => by
  have ha:=a.toNat_lt
  have hb:=b.toNat_lt
  have h1:Nat.mod (zaf (a::l)) 256=a.toNat:=(by grind [zaf]:zaf (a::l) % 256=a.toNat)
  have h2:Nat.mod (zaf (b::m)) 256=b.toNat:=(by grind [zaf]:zaf (b::m) % 256=b.toNat)
  have h3:Nat.div (zaf (a::l)) 256=zaf l:=(by grind [zaf]:zaf (a::l) / 256=zaf l)
  have h4:Nat.div (zaf (b::m)) 256=zaf m:=(by grind [zaf]:zaf (b::m) / 256=zaf m)
  rw [zC7,zC7,ltN,h1,h2,h3,h4,Op.bytesLess,zmm l m]
  cases h:Nat.beq a.toNat b.toNat with
  | true =>
   grind [UInt8.toNat_inj,zar]
  | false =>
   have e:a≠b:=fun e => by simp_all
   have:(a == b)=false:=by simp [e]
   rw [this]
   simp only [zEX,zEz]
   rw [zui]
   rfl
section
variable {P:Program}{t e k:TypeId}
theorem zf2 (h:known P t=true):∃ i,P.info? t=some i∧mkTI P t=⟨i.size,i.bytes,match i.zero with | some z => cv 50 z | none => .undef,zc6 P t,zxc P t i,flat P t⟩∧(∀ z,i.zero=some z→z.cells.size=i.size):=by
 have h0:=h
 unfold known at h
 rw [zC9,zC9] at h
 cases hi:P.info? t with
 | none => grind
 | some i =>
  refine ⟨i,Z,?_,?_⟩
  ·grind [mkTI]
  grind [zar]
theorem zi9 (h:known P t=true):∃ d,P.underlying t=some d:=by
 simp_all [known,zC9,Option.isSome_iff_exists]
theorem zeG (h:known P t=false):mkTI P t=default:=by grind [mkTI]
theorem zf4 (h:(mkTI P t).kind≠.other):known P t=true∧(mkTI P t).kind=zc6 P t:=by
 cases hk:known P t with
 | false => rw [zeG hk] at h; exact absurd rfl h
 | true => obtain ⟨i,_,h2,_⟩:=zf2 hk; grind
theorem k_of {K:TK}(h:(mkTI P t).kind=K) (hn:K≠.other):known P t=true∧zc6 P t=K:=by
 grind [zf4]
theorem zyc (h:(mkTI P t).kind = .bool):P.underlying t=some .bool:=by
 have:=(k_of h kY).2
 grind [zc6]
theorem zqD {kk:IntKind}(h:(mkTI P t).kind = .int kk):P.underlying t=some (.int kk):=by
 have:=(k_of h kY).2
 grind [zc6]
theorem k_flt (h:(mkTI P t).kind = .flt):P.underlying t=some (.float .f64):=by
 have:=(k_of h kY).2
 grind [zc6]
theorem zmq (h:(mkTI P t).kind = .str):P.underlying t=some .string:=by
 have:=(k_of h kY).2
 grind [zc6]
theorem zzN (h:(mkTI P t).kind = .ptr e):P.underlying t=some (.pointer e)∧known P e=true:=by
 have:=(k_of h kY).2
 grind [zc6]
theorem zbX (h:(mkTI P t).kind = .slice e):P.underlying t=some (.slice e)∧known P e=true:=by
 have:=(k_of h kY).2
 grind [zc6]
theorem ze2 (h:(mkTI P t).kind = .array n e):P.underlying t=some (.array n e)∧known P e=true:=by
 have:=(k_of h kY).2
 grind [zc6]
theorem zjN (h:(mkTI P t).kind = .map k e):P.underlying t=some (.map k e)∧known P k=true∧known P e=true:=by
 have:=(k_of h kY).2
 unfold zc6 at this
 split at this <;> first | grind | grind
theorem zzO {b:Bool}(h:(mkTI P t).kind = .iface b):∃ ms,P.underlying t=some (.interface ms)∧b=ms.isEmpty:=by
 have:=(k_of h kY).2
 unfold zc6 at this
 split at this <;> first | grind | grind | grind
theorem zB4 (h:(mkTI P t).kind = .func):∃ a b c,P.underlying t=some (.func a b c):=by
 have:=(k_of h kY).2
 grind [zc6]
theorem zgO {l:List (Nat×Nat×Bool×TypeId)}(h:(mkTI P t).kind = .struct l):∃ fs,P.underlying t=some (.struct fs)∧l=fs.toList.map (fun f => (f.offset,szOf P f.type,aggB (P.underlying f.type),f.type))∧∀ f ∈ fs.toList,known P f.type=true:=by
 have:=(k_of h kY).2
 unfold zc6 at this
 split at this <;> first | grind | grind
theorem zlo (h:(mkTI P t).kind≠.other):∃ d,P.underlying t=some d:=by
 have h1:=zf4 h
 rw [h1.2] at h
 unfold zc6 at h
 grind
theorem zbR (h:known P t=true):∃ i,P.info? t=some i∧(mkTI P t).sz=i.size∧(mkTI P t).bytes=i.bytes:=by
 grind [zf2]
theorem zbG (h:known P t=true) (w:World):(sizeOf t).run P w = .ok (mkTI P t).sz w:=by
 obtain ⟨i,h1,h2,_⟩:=zbR h
 simp_all [sizeOf,typeInfo]
theorem zhe (h:known P t=true):szOf P t=(mkTI P t).sz:=by
 grind [zbR,szOf]
theorem znD (h:(mkTI P t).ok=true):known P t=true∧flat P t=true:=by
 cases hk:known P t with
 | false => rw [zeG hk] at h; cases h
 | true => obtain ⟨i,_,h2,_⟩:=zf2 hk; grind
theorem zwF (h:flat P t=true) (w:World):(Go.isAgg t).run P w = .ok false w:=by
 unfold flat at h
 cases hu:P.underlying t with
 | none => grind
 | some d =>
  rw [hu] at h
  unfold Go.isAgg
  simp only [Sem.run_bind,run_underlying hu,Result.andThen_ok]
  cases d <;> first | rfl | cases h
theorem zpj (h:isAgg (mkTI P t).kind=true):known P t=true∧∀ w,(Go.isAgg t).run P w = .ok true w:=by
 cases hk:(mkTI P t).kind with
 | struct l =>
  obtain ⟨fs,hu,_,_⟩:=zgO hk
  simp_all [k_of,Go.isAgg,run_underlying]
 | array n e =>
  obtain ⟨hu,_⟩:=ze2 hk
  simp_all [k_of,Go.isAgg,run_underlying]
 | _ => rw [hk] at h; cases h
theorem zs3 (h:isK (mkTI P t)=true):known P t=true:=by
 unfold isK at h
 rw [zDw] at h
 grind [znD,zpj]
theorem znQ (h:isK (mkTI P t)=true):∃ d,P.underlying t=some d:=by
 unfold isK at h
 rw [zDw] at h
 rcases h with h | h
 ·have:=(znD h).2
  unfold flat at this
  grind
 ·exact zlo (fun e => by rw [e] at h; cases h)
mutual
theorem zCo (B:BB):∀ (n:Nat) (v:Value),VR B (cv n v) v:=by
 intro n
 induction n with
 | zero => grind [cv,VR]
 | succ n ih =>
  intro v
  have ihl:∀ l:List Value,VRL B (cvL (cv n) l) l:=by
   intro l
   induction l with
   | nil => grind [cvL,VRL]
   | cons a l ihl => grind [cvL,zaB]
  unfold cv
  split <;> try (simp only [VR]; done)
  ·simp only [VR]; exact ⟨_,rfl,rfl,rfl⟩
  ·simp only [VR]; grind
  ·split
   ·rename_i h
    simp only [VR]
    grind
   grind [VR]
  ·split
   ·rename_i h1 h2
    simp only [VR]
    exact ⟨_,_,rfl,by grind [VRL.nil_],by grind [VRL.nil_]⟩
   grind [VR]
end
theorem zck (B:BB) (h:(mkTI P t).zero≠.undef):known P t=true∧∃ z,(∀ w,(zeroValue t).run P w = .ok z w)∧zbr P t=some z∧VR B (mkTI P t).zero z∧z.cells.size=(mkTI P t).sz:=by
 cases hk:known P t with
 | false => rw [zeG hk] at h; exact absurd rfl h
 | true =>
  obtain ⟨i,h1,h2,h3⟩:=zf2 hk
  rw [h2] at h ⊢
  cases hz:i.zero with
  | none => grind
  | some z => exact ⟨rfl,z,fun w => by simp_all [zeroValue,typeInfo],by grind [zbr],zCo B 50 z,h3 z hz⟩
end
theorem zb0 {v:LV}(h:VR B v u) (hc:cells v=some l):VRL B l u.cells.toList∧∀ c ∈ u.cells.toList,c.oneCell' = true:=by
 cases v <;> simp only [cells] at hc <;> try (cases hc; done)
 case agg cs =>
  cases hc
  simp only [VR] at h
  obtain ⟨vs,rfl,h1,h2⟩:=h
  exact ⟨h1,h2⟩
 all_goals
  cases hc
  have hh:=h
  simp only [VR] at h
  first
  | subst h; grind [zaB,VRL.nil_,Value.cells,Value.oneCell']
  | (obtain ⟨l,rfl,_⟩:=h; grind [zaB,VRL.nil_,str,Value.cells,Value.oneCell'])
  | (obtain ⟨_,_,rfl⟩:=h; grind [zaB,VRL.nil_,Value.cells,Value.oneCell'])
  | (obtain ⟨_,_,_,_,rfl,_⟩:=h; grind [zaB,VRL.nil_,Value.cells,Value.oneCell'])
  | (obtain ⟨_,_,rfl,_⟩:=h; grind [zaB,VRL.nil_,Value.cells,Value.oneCell'])
  | (obtain ⟨_,rfl,_⟩:=h; exact ⟨zaB hh VRL.nil_,by simp [Value.cells,Value.oneCell']⟩)
def ER (B:BB) (f:SlF) (E:Env):Prop:=∀ t,f t≠.undef→∃ v,Env.get E t=some v∧VR B (f t) v
theorem ER.mono (hp:B <+: B') {f:SlF}{E:Env}(h:ER B f E):ER B' f E:=fun t ht => by
 obtain ⟨v,h1,h2⟩:=h t ht; grind [VR.mono]
theorem ER.ev {f:SlF}{E:Env}(h:ER B f E) (x:Operand) (hx:evO x f≠.undef):∃ v,ev E x=some v∧VR B (evO x f) v:=by
 cases x with
 | tmp t => exact h t hx
 | const v => exact ⟨v,rfl,zCo B 50 v⟩
 | global g => exact ⟨_,rfl,by show VR B (.gptr g 0) _; grind [VR]⟩
 | func g => exact ⟨_,rfl,by show VR B (.fn g [] []) _; simp only [VR]; exact ⟨_,_,rfl,VRL.nil_,VRL.nil_⟩⟩
variable {X:Pt}{E:Env}{H:List Seg}{B:BB}{h:LH}
def zCR (P:Program) (w0:World) (base:Nat) (H:List Seg) (s:Sem Value) (v:Value):Prop:=∀ w,Sep w0 base w H→s.run P w = .ok v w
def BOk (X:Pt) (H:List Seg) (B:BB) (op:BinOp) (t:TypeId) (x y:Operand) (va vb:Value) (lv:LV):Prop :=
 ∃ v,VR B lv v∧zCR X.P X.w0 X.base H (do eqGuard op t x y va vb; binOp op t va vb) v
theorem BOk.does {tz:TypeId}{y:Operand}(hx:ev E x=some va) (hy:ev E y=some vb) (hb:BOk X H B op t x y va vb lv) :
  ∃ v,VR B lv v∧Does X E H (.binOp op t x y tz) (Is v H):=by
 obtain ⟨v,h1,h2⟩:=hb
 refine ⟨v,h1,zaq Z fun dst ty pos after g ρ w hρ S => ⟨v,w,H,?_,S,Z,Z⟩⟩
 have:=h2 w S
 grind [execOp,Sem.run_bind,Result.andThen_ok,Sem.run_pure]
theorem bok (op:BinOp) (t:TypeId) (x y:Operand) {v:Value}(h1:VR B lv v) (h2:∀ w,(do eqGuard op t x y va vb; binOp op t va vb:Sem Value).run X.P w = .ok v w):BOk X H B op t x y va vb lv :=
 ⟨v,h1,fun w _ => h2 w⟩
section
variable {op:BinOp}{t:TypeId}{x y:Operand}{va vb:Value}{lv:LV}
theorem zdO {g:IQ}{s:SQ}{e:LV→LV→Q}(hq:numQ g s e a b = .ok lv) (ha:VR B a va) (hb:VR B b vb)
  (hi:∀ k m n lv,g k m n = .ok lv→BOk X H B op t x y (.int k m) (.int k n) lv)
  (hs:∀ l m lv,s l.length (zaf l) m.length (zaf m) = .ok lv→BOk X H B op t x y (str l) (str m) lv)
  (he:∀ a b va vb lv,(∀ k n,a≠.int k n)→(∀ l n,a≠.str l n)→e a b = .ok lv→VR B a va→VR B b vb→BOk X H B op t x y va vb lv):BOk X H B op t x y va vb lv:=by
 unfold numQ at hq
 split at hq
 ·rename_i k m
  unfold intI at hq
  grind [zmr,VR]
 ·rename_i la m
  unfold strS at hq
  split at hq
  ·rename_i lb n
   simp only [VR] at ha hb
   grind
  grind
 grind
theorem zcU {k:IntKind}{z:Int}:VR B (.int k z) (.int k z):=by grind [VR]
theorem zhM {a b c:Nat}:noS a b c d≠.ok lv:=fun h => by cases h
theorem zfd :noE a b≠.ok lv:=fun h => by cases h
theorem zkZ (n:Nat):(∃ s f,Ieee.double.read n = .nan s f)↔9218868437227405312 < n % 9223372036854775808:=by
 have e1:Ieee.double.signWeight=9223372036854775808:=by decide
 have e2:Ieee.double.infRung=9218868437227405312:=by decide
 have e3:Ieee.double.binade=4503599627370496:=by decide
 unfold Ieee.Format.read
 simp only [e1,e2,e3]
 split
 ·grind
 ·split
  ·grind
  ·split
   ·grind
   grind
theorem zkn (h:nanW m):Ieee.double.order m n=none:=by
 obtain ⟨_,s,f,h⟩:=h
 unfold Ieee.Format.order
 rw [h]; rfl
theorem zqr (h:nanW n):Ieee.double.order m n=none:=by
 obtain ⟨_,s,f,h⟩:=h
 unfold Ieee.Format.order
 rw [h]
 cases Ieee.double.read m <;> rfl
theorem zf5 (c:Option Ordering):znS c=(c == some .eq):=by rcases c with _ | _ | _ | _ <;> rfl
theorem zim (c:Option Ordering):zs1 c=(c == some .lt):=by rcases c with _ | _ | _ | _ <;> rfl
theorem zin (c:Option Ordering):zs2 c=(c == some .gt):=by rcases c with _ | _ | _ | _ <;> rfl
theorem zkv {g:Option Ordering→Bool}{e:LV→LV→Q}(hq:flE g e a b = .ok lv) (ha:VR B a va) (hb:VR B b vb)
  (hrun:∀ (m n:Nat) (w:World),(do eqGuard op t x y (.float .f64 m) (.float .f64 n); binOp op t (.float .f64 m) (.float .f64 n):Sem Value).run X.P w = .ok (.bool (g (Ieee.double.order m n))) w)
  (he:e a b = .ok lv→BOk X H B op t x y va vb lv):BOk X H B op t x y va vb lv:=by
 unfold flE at hq
 split at hq
 ·rename_i k m
  simp only [VR] at ha; subst ha
  unfold fl1 at hq
  split at hq
  ·cases hq
   simp_all [VR,bok,bool]
  ·cases hq
   simp only [VR] at hb
   obtain ⟨n,rfl,hn⟩:=hb
   simp_all [bok,bool,VR,zqr]
  grind
 ·simp only [VR] at ha
  obtain ⟨m,rfl,hm⟩:=ha
  unfold fl2 at hq
  split at hq
  ·rename_i n
   cases hq
   simp_all [VR,bok,bool,zkn]
  ·cases hq
   simp only [VR] at hb
   obtain ⟨n,rfl,hn⟩:=hb
   simp_all [bok,bool,VR,zkn]
  grind
 grind
theorem znE (h:n < 18446744073709551616):notN n 9223372036854775808=n % 9223372036854775808:=by
 apply Nat.eq_of_testBit_eq
 intro i
 show (n ^^^ (n &&& 9223372036854775808)).testBit i=_
 rw [Nat.testBit_xor,Nat.testBit_and,show (9223372036854775808:Nat)=2 ^ 63 by decide,Nat.testBit_two_pow,Nat.testBit_mod_two_pow]
 by_cases e:i < 63
 ·grind
 ·by_cases e2:63=i
  ·grind
  ·have:n.testBit i=false:=Nat.testBit_lt_two_pow (zFL h (by
    have:(18446744073709551616:Nat)=2 ^ 64:=by decide
    rw [this]; exact Nat.pow_le_pow_right kE kQ))
   grind
theorem zBR (hq:nbE a b = .ok lv) (ha:VR B a va) (hb:VR B b vb):BOk X H B .andNot t x y va vb lv:=by
 unfold nbE at hq
 split at hq
 ·cases hq
  simp only [VR] at ha hb
  obtain ⟨n,rfl,hn⟩:=ha
  subst hb
  refine bok (v:=.int .u64 ((notN n 9223372036854775808:Nat):Int)) _ _ _ _ ?_ fun w => ?_
  ·simp only [VR]
   refine ⟨_,Z,?_,?_⟩
   ·rw [znE hn.1]; omega
   ·rw [zkZ,znE hn.1]
    have:=(zkZ n).1 hn.2
    omega
  ·have hlt:notN n 9223372036854775808 < 18446744073709551616:=by rw [znE hn.1]; omega
   have e1:IntKind.wrap .u64 (Int.ofNat (notN n 9223372036854775808))=Int.ofNat (notN n 9223372036854775808):=zjV hlt
   have e2:((notN n 9223372036854775808:Nat):Int)=Int.ofNat (notN n 9223372036854775808):=rfl
   rw [e2,← e1]
   simp [eqGuard,binOp,Op.intBits,← ziy]
 grind
theorem zCM (hq:numQ (fun k a b => .ok (mkI k (addI a b))) catQ noE a b = .ok lv) (ha:VR B a va) (hb:VR B b vb):BOk X H B .add t x y va vb lv :=
 zdO hq ha hb
  (fun k m n lv h => by cases h; exact bok (v:=.int k (k.wrap (m + n))) _ _ _ _ (by grind [zhN,zAW,zcU]) fun w => by simp [eqGuard,binOp,Op.intArith])
  (fun l m lv h => by
   unfold catQ at h
   split at h
   ·rename_i hl
    have hl:=zbd.1 hl
    have hl:l.length + m.length < 1000000:=hl
    simp only [zaV] at h
    cases h
    refine bok (v:=str (l++m)) _ _ _ _ ?_ fun w => ?_
    ·simp only [VR]
     exact ⟨_,Z,by simp,by rw [zec]; rfl⟩
    ·have h:¬ ((9223372036854775807:Int) < ((l.length:Int) + (m.length:Int))):=by omega
     have e:(ByteArray.mk ⟨l⟩++ByteArray.mk ⟨m⟩)=ByteArray.mk ⟨l++m⟩:=by
      apply zFQ
      simp
     simp_all [str,eqGuard,binOp,Op.stringOp,IntKind.max,IntKind.bits,IntKind.signed,zba]
   grind)
  (fun _ _ _ _ _ _ _ h => absurd h zfd)
theorem zBq (hq:numQ (fun k a b => .ok (mkI k (subI a b))) noS noE a b = .ok lv) (ha:VR B a va) (hb:VR B b vb):BOk X H B .sub t x y va vb lv :=
 zdO hq ha hb
  (fun k m n lv h => by cases h; exact bok (v:=.int k (k.wrap (m - n))) _ _ _ _ (by grind [zhN,zrK,zcU]) fun w => by simp [eqGuard,binOp,Op.intArith])
  (fun l m lv h => absurd h zhM) (fun _ _ _ _ _ _ _ h => absurd h zfd)
theorem zBT (hq:numQ (fun k a b => .ok (mkI k (mulI a b))) noS noE a b = .ok lv) (ha:VR B a va) (hb:VR B b vb):BOk X H B .mul t x y va vb lv :=
 zdO hq ha hb
  (fun k m n lv h => by cases h; exact bok (v:=.int k (k.wrap (m * n))) _ _ _ _ (by grind [zhN,zsC,zcU]) fun w => by simp [eqGuard,binOp,Op.intArith])
  (fun l m lv h => absurd h zhM) (fun _ _ _ _ _ _ _ h => absurd h zfd)
theorem zBB (hq:numQ divQ noS noE a b = .ok lv) (ha:VR B a va) (hb:VR B b vb):BOk X H B .quo t x y va vb lv :=
 zdO hq ha hb
  (fun k m n lv h => by
   have key:n≠0∧lv = .int k (k.wrap (m.tdiv n)):=by
    unfold divQ at h
    split at h
    ·cases h; exact ⟨by grind,by rw [zo9]; rfl⟩
    grind [zfG,zhN]
   obtain ⟨h1,rfl⟩:=key
   exact bok _ _ _ _ zcU fun w => by simp [eqGuard,binOp,Op.intDiv,h1])
  (fun l m lv h => absurd h zhM) (fun _ _ _ _ _ _ _ h => absurd h zfd)
theorem zBA (hq:numQ remQ noS noE a b = .ok lv) (ha:VR B a va) (hb:VR B b vb):BOk X H B .rem t x y va vb lv :=
 zdO hq ha hb
  (fun k m n lv h => by
   have key:n≠0∧lv = .int k (m.tmod n):=by
    unfold remQ at h
    split at h
    ·rw [zaV] at h; cases h; exact ⟨by grind,rfl⟩
    grind [zfG,znz]
   obtain ⟨h1,rfl⟩:=key
   exact bok _ _ _ _ zcU fun w => by simp [eqGuard,binOp,Op.intDiv,h1])
  (fun l m lv h => absurd h zhM) (fun _ _ _ _ _ _ _ h => absurd h zfd)
theorem zpK {g:Nat→Nat→Nat}{k:IntKind}{m n:Int}(h:bitQ g k m n = .ok lv):∃ a b:Nat,m=Int.ofNat a∧n=Int.ofNat b∧lv = .int k (k.wrap ((g a b:Nat):Int)):=by
 unfold bitQ at h
 split at h
 ·cases h; exact ⟨_,_,rfl,rfl,zo9 _ _⟩
 grind
theorem zCJ (hq:numQ (bitQ Nat.land) noS noE a b = .ok lv) (ha:VR B a va) (hb:VR B b vb):BOk X H B .and t x y va vb lv :=
 zdO hq ha hb
  (fun k m n lv h => by obtain ⟨a,b,rfl,rfl,rfl⟩:=zpK h; exact bok _ _ _ _ zcU fun w => by rw [← zu5]; simp [eqGuard,binOp,Op.intBits])
  (fun l m lv h => absurd h zhM) (fun _ _ _ _ _ _ _ h => absurd h zfd)
theorem or_ok (hq:numQ (bitQ Nat.lor) noS noE a b = .ok lv) (ha:VR B a va) (hb:VR B b vb):BOk X H B .or t x y va vb lv :=
 zdO hq ha hb
  (fun k m n lv h => by obtain ⟨a,b,rfl,rfl,rfl⟩:=zpK h; exact bok _ _ _ _ zcU fun w => by rw [← zyz]; simp [eqGuard,binOp,Op.intBits])
  (fun l m lv h => absurd h zhM) (fun _ _ _ _ _ _ _ h => absurd h zfd)
theorem zBf (hq:numQ (bitQ Nat.xor) noS noE a b = .ok lv) (ha:VR B a va) (hb:VR B b vb):BOk X H B .xor t x y va vb lv :=
 zdO hq ha hb
  (fun k m n lv h => by obtain ⟨a,b,rfl,rfl,rfl⟩:=zpK h; exact bok _ _ _ _ zcU fun w => by rw [← zu3]; simp [eqGuard,binOp,Op.intBits])
  (fun l m lv h => absurd h zhM) (fun _ _ _ _ _ _ _ h => absurd h zfd)
theorem zuz (hq:numQ (bitQ notN) noS nbE a b = .ok lv) (ha:VR B a va) (hb:VR B b vb):BOk X H B .andNot t x y va vb lv :=
 zdO hq ha hb
  (fun k m n lv h => by obtain ⟨a,b,rfl,rfl,rfl⟩:=zpK h; exact bok _ _ _ _ zcU fun w => by rw [← ziy]; simp [eqGuard,binOp,Op.intBits])
  (fun l m lv h => absurd h zhM) (fun _ _ _ _ _ _ _ h ha hb => zBR h ha hb)
theorem zby {b:Bool}(h:b=c):VR B (.bool b) (.bool c):=by grind [VR]
theorem zn0 (l m:yB):eqS l.length (zaf l) m.length (zaf m)=decide (l=m):=by
 rw [zEt,zFP]
 unfold eqS
 rw [zC9,zar,zar]
 exact ⟨fun h => zeb l m h.1 h.2,fun h => by grind⟩
theorem zBX (hq:numQ (cmpI ltI) (cmpS ltN) (flE zs1 noE) a b = .ok lv) (ha:VR B a va) (hb:VR B b vb):BOk X H B .lss t x y va vb lv :=
 zdO hq ha hb
  (fun k m n lv h => by cases h; exact bok _ _ _ _ (zby (zhl m n)) fun w => by simp [eqGuard,binOp,Op.intCmp])
  (fun l m lv h => by cases h; exact bok _ _ _ _ (zby (zmm l m)) fun w => by simp [str,eqGuard,binOp,Op.stringOp,zcu])
  (fun _ _ _ _ _ _ _ h ha hb => zkv h ha hb (fun m n w => by simp only [zim,zin,zf5]; rfl) (fun h => absurd h zfd))
theorem zsS (l m:yB):(Op.bytesLess l m || (l == m)) = !Op.bytesLess m l:=by
 induction l generalizing m with
 | nil => cases m <;> simp [Op.bytesLess]
 | cons a l ih =>
  cases m with
  | nil => simp [Op.bytesLess]
  | cons b m =>
   simp only [Op.bytesLess]
   grind
theorem zB0 (hq:numQ (cmpI fun a b => !ltI b a) (cmpS fun a b c d => !ltN c d a b) (flE (fun c => zs1 c || znS c) noE) a b = .ok lv) (ha:VR B a va) (hb:VR B b vb):BOk X H B .leq t x y va vb lv :=
 zdO hq ha hb
  (fun k m n lv h => by cases h; exact bok (v:=.bool (decide (m≤n))) _ _ _ _ (zby (by simp only [zhl]; grind)) fun w => by simp [eqGuard,binOp,Op.intCmp])
  (fun l m lv h => by
   cases h
   exact bok (v:=.bool (Op.bytesLess l m || (l == m))) _ _ _ _ (zby (by grind [zmm,zsS])) fun w => by simp [str,eqGuard,binOp,Op.stringOp,zcu])
  (fun _ _ _ _ _ _ _ h ha hb => zkv h ha hb (fun m n w => by simp only [zim,zin,zf5]; rfl) (fun h => absurd h zfd))
theorem zB8 (hq:numQ (cmpI fun a b => ltI b a) (cmpS fun a b c d => ltN c d a b) (flE zs2 noE) a b = .ok lv) (ha:VR B a va) (hb:VR B b vb):BOk X H B .gtr t x y va vb lv :=
 zdO hq ha hb
  (fun k m n lv h => by cases h; exact bok (v:=.bool (decide (m > n))) _ _ _ _ (zby (zhl n m)) fun w => by simp [eqGuard,binOp,Op.intCmp])
  (fun l m lv h => by
   cases h
   exact bok (v:=.bool (!(Op.bytesLess l m || (l == m)))) _ _ _ _ (zby (by simp only [zmm,zsS,Bool.not_not])) fun w => by simp [str,eqGuard,binOp,Op.stringOp,zcu])
  (fun _ _ _ _ _ _ _ h ha hb => zkv h ha hb (fun m n w => by simp only [zim,zin,zf5]; rfl) (fun h => absurd h zfd))
theorem zCb (hq:numQ (cmpI fun a b => !ltI a b) (cmpS fun a b c d => !ltN a b c d) (flE (fun c => zs2 c || znS c) noE) a b = .ok lv) (ha:VR B a va) (hb:VR B b vb):BOk X H B .geq t x y va vb lv :=
 zdO hq ha hb
  (fun k m n lv h => by cases h; exact bok (v:=.bool (decide (m ≥ n))) _ _ _ _ (zby (by simp only [zhl]; grind)) fun w => by simp [eqGuard,binOp,Op.intCmp])
  (fun l m lv h => by
   cases h
   exact bok (v:=.bool (!Op.bytesLess l m)) _ _ _ _ (zby (by grind [zmm])) fun w => by simp [str,eqGuard,binOp,Op.stringOp,zcu])
  (fun _ _ _ _ _ _ _ h ha hb => zkv h ha hb (fun m n w => by simp only [zim,zin,zf5]; rfl) (fun h => absurd h zfd))
theorem zBx {g:IntKind→Int→Int→Q}(hq:shQ g a b = .ok lv) (ha:VR B a va) (hb:VR B b vb):∃ k m k2 n,va = .int k m∧vb = .int k2 n∧g k m n = .ok lv:=by
 unfold shQ at hq
 grind [VR]
theorem zBw (hq:shQ shlI a b = .ok lv) (ha:VR B a va) (hb:VR B b vb):BOk X H B .shl t x y va vb lv:=by
 obtain ⟨k,m,k2,n,rfl,rfl,h⟩:=zBx hq ha hb
 unfold shlI at h
 split at h
 ·cases h
 ·rename_i n
  cases h
  refine bok (v:=.int k (k.wrap (m * Int.ofNat (shN k n)))) _ _ _ _ (by grind [zhN,zsC,zcU]) fun w => ?_
  rw [zxW]
  have h1:¬ ((n:Int) < 0):=by omega
  have e:(Int.ofNat (2 ^ min n k.bits):Int)=(2:Int) ^ min n k.bits:=by grind
  rw [e]
  simp [eqGuard,binOp,Op.shift,h1]
theorem zBv (hq:shQ shrI a b = .ok lv) (ha:VR B a va) (hb:VR B b vb):BOk X H B .shr t x y va vb lv:=by
 obtain ⟨k,m,k2,n,rfl,rfl,h⟩:=zBx hq ha hb
 unfold shrI at h
 split at h
 ·rename_i m n
  rw [zaV] at h
  cases h
  refine bok _ _ _ _ zcU fun w => ?_
  rw [zxW]
  have h1:¬ ((n:Int) < 0):=by omega
  have e:(Int.ofNat (Nat.div m (2 ^ min n k.bits)):Int)=(Int.ofNat m).fdiv ((2:Int) ^ min n k.bits):=by
   rw [← zvY]; exact (Int.ofNat_fdiv _ _)
  rw [e]
  simp [eqGuard,binOp,Op.shift,h1]
 grind
end
variable {G:List (Nat×Obj)}
section parts
variable {P:Program}{B:BB}
theorem zkE (h:known P t=true) {d:TypeDesc}(hd:P.underlying t=some d) (w:World):(Go.isAgg t).run P w = .ok (aggB (P.underlying t)) w:=by
 unfold Go.isAgg
 simp only [Sem.run_bind,run_underlying hd,Result.andThen_ok]
 rw [hd]
 cases d <;> rfl
theorem VRL.ext {m:List Value}(h:VRL B l m) (hn:o + n≤l.length):VRL B ((l.drop o).take n) (m.toArray.extract o (o + n)).toList:=by
 simp_all [take,zEC,VRL.take,VRL.drop]
theorem zfw (hk:known P t=true) {cs:List LV}{vs:Array Value}(hv:VRL B cs vs.toList) (h1:∀ c ∈ vs.toList,c.oneCell' = true) 
  (h:zjJ (aggB (P.underlying t)) (szOf P t) cs o=some lv):∃ v,VR B lv v∧∀ w,(part t vs o).run P w = .ok v w:=by
 obtain ⟨d,hd⟩:=zi9 hk
 have hsz:=zhe hk
 unfold zjJ at h
 split at h
 ·rename_i hag
  split at h
  ·rename_i hle
   cases h
   have hle:=zaP.1 hle
   refine ⟨.agg (vs.extract o (o + szOf P t)),?_,fun w => ?_⟩
   ·simp only [VR]
    refine ⟨_,Z,?_,fun c hc => ?_⟩
    ·have:=hv.ext (o:=o) (n:=szOf P t) hle
     omega
    grind [Array.toList_extract,List.extract_eq_take_drop,List.mem_of_mem_drop,List.mem_of_mem_take]
   simp_all [part,Sem.run_bind,zkE,Result.andThen_ok,zEm,zbG,Sem.run_pure]
  grind
 ·rename_i hag
  obtain ⟨u,hu,hvu⟩:=hv.get h
  simp_all [part,zkE]
end parts
section eq
variable {P:Program}{w0:World}{base:Nat}{w:World}{H:List Seg}{B:BB}{h:LH}{lv:Nat→Bool}
def EqOk (P:Program) (w:World) (B:BB) (d:Nat) (t:TypeId) (f:EQ):Prop:=∀ a b r va vb,f a b=some r→VR B a va→VR B b vb→(Op.equalIn (d + 1) t va vb).run P w = .ok r w
theorem ztJ {t:Nat}(hu:P.underlying t=some .bool):EqOk P w B d t ztK:=by
 intro a b r va vb hq ha hb
 unfold ztK at hq
 grind [VR,run_equalIn_bool]
theorem zwP {t:Nat}{k:IntKind}(hu:P.underlying t=some (.int k)):EqOk P w B d t zAc:=by
 intro a b r va vb hq ha hb
 unfold zAc at hq
 grind [zmr,VR,run_equalIn_int,zfG]
theorem zwN {t:Nat}(hu:P.underlying t=some .string):EqOk P w B d t zz7:=by
 intro a b r va vb hq ha hb
 unfold zz7 at hq
 split at hq
 ·simp only [VR] at ha hb
  obtain ⟨l,rfl,rfl,rfl⟩:=ha
  obtain ⟨m,rfl,rfl,rfl⟩:=hb
  cases hq
  rw [zn0]
  rw [show str l = .string ⟨⟨l⟩⟩ from rfl,show str m = .string ⟨⟨m⟩⟩ from rfl,run_equalIn_string w _ _ _ _ hu,zcu,zcu,zjo]
 grind
theorem zkq (S:Sep w0 base w H) (hr:HR G B h H) (hl:zjM h i=true):∃ k cs e,B[i]? = some k∧w.heap[k.b]? = some (.cells cs e (0,0))∧zbA (atB h i)=true:=by
 have hl' : zbA (atB h i)=true:=by
  unfold zjM at hl
  split at hl
  ·rename_i hh; rw [hh]; rfl
  grind
 obtain ⟨k,j,obj,h1,h2,h3⟩:=hr.at_ i hl'
 unfold zjM at hl
 split at hl
 ·rename_i sz len t hh
  rw [hh] at h3
  obtain ⟨cs,e,rfl,_⟩:=h3
  exact ⟨k,cs,e,h1,(S.at_ h2 (j:=0) rfl).1,hl'⟩
 grind
theorem zqj {a b:Nat}{ca cb:Array Value}{ea eb:TypeId}(o p:Nat) (ha:w.heap[a]? = some (.cells ca ea (0,0))) (hb:w.heap[b]? = some (.cells cb eb (0,0))) (hne:a≠b) :
  (sameAddr ⟨a,o,none⟩ ⟨b,p,none⟩).run P w = .ok false w:=by
 have h1:(a == b)=false:=by grind
 have fa:∀ x,w.frozen? ⟨a,x,none⟩=false:=fun x => by simp [World.frozen?,ha]
 have fb:∀ x,w.frozen? ⟨b,x,none⟩=false:=fun x => by simp [World.frozen?,hb]
 simp [sameAddr,hne,fa,fb,noView,viewAt,World.shape?,ha,hb,mayBeOne,stringish]
theorem zwO (S:Sep w0 base w H) (hr:HR G B h H) (hlv:∀ i,lv i=true→zjM h i=true) {t e:Nat}(hu:P.underlying t=some (.pointer e)) (hk:known P e=true):EqOk P w B d t (zAa lv (mkTI P e).sz):=by
 intro a b r va vb hq ha hb
 unfold zAa at hq
 split at hq
 ·grind [VR,zd9]
 ·simp only [VR] at ha hb; obtain ⟨k,_,rfl⟩:=hb; subst ha; cases hq; simp [Op.equalIn,run_underlying hu]
 ·simp only [VR] at ha hb; obtain ⟨k,_,rfl⟩:=ha; grind [zd9]
 ·simp only [VR] at ha hb; subst ha; subst hb; cases hq; simp [Op.equalIn,run_underlying hu]
 ·grind [VR,zd9]
 ·rename_i i o j p
  simp only [VR] at ha hb
  obtain ⟨k,hk1,rfl⟩:=ha
  obtain ⟨k',hk2,rfl⟩:=hb
  split at hq
  ·rename_i h1 h2
   have h1:=zbd.1 h1
   have h2:=zar.1 h2
   subst h2
   rw [hk1] at hk2; cases hk2
   cases hq
   have hne:(mkTI P e).sz≠0:=by omega
   rw [zlx]
   simp [Op.equalIn,run_underlying hu,zbG hk,hne,sameAddr]
   grind
  ·rename_i h1 h2
   have h1:=zbd.1 h1
   split at hq
   ·rename_i hl
    cases hq
    rw [zC9] at hl
    obtain ⟨ki,ci,ei,a1,a2,a3⟩:=zkq S hr (hlv _ hl.1)
    obtain ⟨kj,cj,ej,b1,b2,b3⟩:=zkq S hr (hlv _ hl.2)
    rw [hk1] at a1; cases a1
    rw [hk2] at b1; cases b1
    have hne:k.b≠k'.b:=by
     intro e1
     have:=hr.apart S _ _ _ _ a3 b3 hk1 hk2 e1
     simp_all
    have hz:(mkTI P e).sz≠0:=by omega
    simp [Op.equalIn,run_underlying hu,zbG hk,hz,zqj _ _ a2 b2 hne]
   grind
  grind
 ·rename_i i o j p
  simp only [VR] at ha hb
  subst ha; subst hb
  split at hq
  ·rename_i h1
   rw [zC9] at h1
   have h2:=zar.1 h1.2
   have h1:=zbd.1 h1.1
   subst h2
   cases hq
   have hne:(mkTI P e).sz≠0:=by omega
   rw [zlx]
   simp [Op.equalIn,run_underlying hu,zbG hk,hne,sameAddr]
   grind
  grind
 grind
theorem zz8 {t e:Nat}(hu:P.underlying t=some (.slice e)):EqOk P w B d t eqSl:=by
 intro a b r va vb hq ha hb
 unfold eqSl at hq
 split at hq <;> cases hq <;> simp only [VR] at ha hb
 ·subst ha; subst hb; simp [Op.equalIn,run_underlying hu]
 ·obtain ⟨_,_,rfl⟩:=hb; subst ha; simp [Op.equalIn,run_underlying hu]
 ·obtain ⟨_,_,_,_,rfl,_⟩:=hb; subst ha; simp [Op.equalIn,run_underlying hu]
 ·obtain ⟨_,_,rfl⟩:=ha; subst hb; simp [Op.equalIn,run_underlying hu]
 ·obtain ⟨_,_,_,_,rfl,_⟩:=ha; subst hb; simp [Op.equalIn,run_underlying hu]
theorem zAb {t k e:Nat}(hu:P.underlying t=some (.map k e)):EqOk P w B d t eqMp:=by
 intro a b r va vb hq ha hb
 unfold eqMp at hq
 split at hq <;> cases hq <;> simp only [VR] at ha hb
 ·subst ha; subst hb; simp [Op.equalIn,run_underlying hu]
 ·obtain ⟨_,_,rfl⟩:=hb; subst ha; simp [Op.equalIn,run_underlying hu]
 ·obtain ⟨_,_,rfl⟩:=ha; subst hb; simp [Op.equalIn,run_underlying hu]
theorem zAe {t:Nat}{p q:Array TypeId}{v:Bool}(hu:P.underlying t=some (.func p q v)):EqOk P w B d t eqFn:=by
 intro a b r va vb hq ha hb
 unfold eqFn at hq
 split at hq <;> cases hq <;> simp only [VR] at ha hb
 ·subst ha; subst hb; simp [Op.equalIn,run_underlying hu]
 ·obtain ⟨_,_,rfl,_⟩:=hb; subst ha; simp [Op.equalIn,run_underlying hu]
 ·obtain ⟨_,_,rfl,_⟩:=ha; subst hb; simp [Op.equalIn,run_underlying hu]
def EqD (P:Program) (w:World) (B:BB) (n:Nat) (t:TypeId) (f:EQ):Prop:=∀ a b r va vb,f a b=some r→VR B a va→VR B b vb→(Op.equalIn n t va vb).run P w = .ok r w
theorem zt0 (hc:(mkTI P t).cmp=true):∃ i,P.info? t=some i∧i.comparable=true∧P.stoodInHeld t=false∧P.eqGuardType P.depth t=false∧(∀ fs,P.underlying t=some (.struct fs)→∀ f ∈ fs.toList,f.name≠ "_"):=by
 cases hk:known P t with
 | false => rw [zeG hk] at hc; cases hc
 | true =>
  obtain ⟨i,h1,h2,_⟩:=zf2 hk
  rw [h2] at hc
  have hc:zxc P t i=true:=hc
  unfold zxc at hc
  grind
theorem zwR {t:Nat}{ms:Array (String×TypeId)}(hu:P.underlying t=some (.interface ms)) {f:TypeId→EQ}(hf:∀ t,EqD P w B m t (f t)):EqD P w B (m + 1) t (zAd (mkTI P) f):=by
 intro a b r va vb hq ha hb
 unfold zAd at hq
 split at hq
 ·simp only [VR] at ha hb; subst ha; subst hb; cases hq; simp [Op.equalIn,run_underlying hu]
 ·simp only [VR] at ha hb; obtain ⟨x,rfl,_⟩:=hb; subst ha; cases hq; simp [Op.equalIn,run_underlying hu]
 ·simp only [VR] at ha hb; obtain ⟨x,rfl,_⟩:=ha; subst hb; cases hq; simp [Op.equalIn,run_underlying hu]
 ·simp only [VR] at ha hb
  obtain ⟨x,rfl,hx⟩:=ha
  obtain ⟨y,rfl,hy⟩:=hb
  split at hq
  ·rename_i t1 a1 u1 b1 _ hne
   cases hq
   have hne:t1≠u1:=fun e => by simp_all
   simp [Op.equalIn,run_underlying hu,hne]
  ·rename_i heq
   have heq:=zar.1 heq
   subst heq
   split at hq
   ·rename_i hc
    obtain ⟨i,h1,h2,_⟩:=zt0 hc
    have:=hf _ _ _ _ _ _ hq hx hy
    simp [Op.equalIn,run_underlying hu,typeInfo,h1,h2,this]
   grind
 grind
theorem ztI {m:Nat}{f:TypeId→EQ}(hf:∀ t,EqD P w B m t (f t)) {xs ys:List LV}{vs us:Array Value}(hv:VRL B xs vs.toList) (hu:VRL B ys us.toList) (h1:∀ c ∈ vs.toList,c.oneCell' = true) (h2:∀ c ∈ us.toList,c.oneCell' = true) :
  ∀ (fs:List Field) (r:Bool),(∀ g ∈ fs,known P g.type=true∧g.name≠ "_")→eqFs f xs ys (fs.map fun f => (f.offset,szOf P f.type,aggB (P.underlying f.type),f.type))=some r→(Op.eqFields m vs us fs).run P w = .ok r w
 | [],r,_,hq => by simp only [zEd,eqFs] at hq; cases hq; rfl
 | g::fs,r,hk,hq => by
  simp only [zDo,eqFs] at hq
  obtain ⟨hg,hn⟩:=hk g kY
  split at hq
  ·rename_i a b e1 e2
   obtain ⟨va,a1,a2⟩:=zfw hg hv h1 e1
   obtain ⟨vb,b1,b2⟩:=zfw hg hu h2 e2
   simp only [Op.eqFields]
   rw [zDi hn]
   split at hq
   ·rename_i he
    have:=hf _ _ _ _ _ _ he a1 b1
    have ih:=ztI hf hv hu h1 h2 fs r (fun g hg => hk g (by grind)) hq
    simp_all
   ·rename_i e3
    cases r with
    | true => grind
    | false =>
     have:=hf _ _ _ _ _ _ hq a1 b1
     simp_all
  grind
theorem ztL {m e:Nat}{f:EQ}(hf:EqD P w B m e f) (hk:known P e=true) {xs ys:List LV}{vs us:Array Value}(hv:VRL B xs vs.toList) (hu:VRL B ys us.toList) (h1:∀ c ∈ vs.toList,c.oneCell' = true) (h2:∀ c ∈ us.toList,c.oneCell' = true) :
  ∀ (n i:Nat) (r:Bool),eqAs f (aggB (P.underlying e)) (szOf P e) xs ys n i=some r→(Op.eqItems m e (szOf P e) vs us (List.range' i n)).run P w = .ok r w
 | 0,i,r,hq => by simp only [eqAs] at hq; cases hq; rfl
 | n + 1,i,r,hq => by
  simp only [eqAs] at hq
  split at hq
  ·rename_i a b e1 e2
   obtain ⟨va,a1,a2⟩:=zfw hk hv h1 e1
   obtain ⟨vb,b1,b2⟩:=zfw hk hu h2 e2
   have a2:∀ w,(part e vs (i * szOf P e)).run P w = .ok va w:=a2
   have b2:∀ w,(part e us (i * szOf P e)).run P w = .ok vb w:=b2
   simp only [List.range',Op.eqItems]
   split at hq
   ·rename_i he
    have:=hf _ _ _ _ _ he a1 b1
    have ih:=ztL hf hk hv hu h1 h2 n (i + 1) r hq
    simp [a2,b2,this,ih]
   ·rename_i e3
    cases r with
    | true => exact absurd hq e3
    | false =>
     have:=hf _ _ _ _ _ hq a1 b1
     simp [a2,b2,this]
  ·cases hq
theorem zqT (hk:known P e=true):P.cellsOf e=szOf P e:=by
 grind [zbR,Program.cellsOf,szOf]
theorem zzh (hk:known P e=true):(!(mkTI P e).ok)=aggB (P.underlying e):=by
 obtain ⟨i,h1,h2,_⟩:=zf2 hk
 rw [h2]
 show (!(flat P e))=_
 unfold flat
 obtain ⟨d,hd⟩:=zi9 hk
 rw [hd]
 cases d <;> rfl
theorem ztD (S:Sep w0 base w H) (hr:HR G B h H) (hlv:∀ i,lv i=true→zjM h i=true):∀ (f n:Nat),f≤n→∀ t,EqD P w B n t (eqT (mkTI P) lv f t)
 | 0,n,_,t => fun a b r va vb hq _ _ => by grind [eqT]
 | f + 1,0,hn,t => by omega
 | f + 1,m + 1,hn,t => by
  have ih:=ztD S hr hlv f m kQ
  intro a b r va vb hq ha hb
  unfold eqT at hq
  cases hk:(mkTI P t).kind with
  | flt => grind
  | bool => rw [hk] at hq; exact ztJ (zyc hk) _ _ _ _ _ hq ha hb
  | int k => rw [hk] at hq; exact zwP (zqD hk) _ _ _ _ _ hq ha hb
  | str => rw [hk] at hq; exact zwN (zmq hk) _ _ _ _ _ hq ha hb
  | ptr e => rw [hk] at hq; exact zwO S hr hlv (zzN hk).1 (zzN hk).2 _ _ _ _ _ hq ha hb
  | iface c => rw [hk] at hq; obtain ⟨ms,hu,_⟩:=zzO hk; exact zwR hu ih _ _ _ _ _ hq ha hb
  | struct l =>
   rw [hk] at hq
   cases hc:(mkTI P t).cmp with
   | false => grind
   | true =>
    simp only [hc] at hq
    obtain ⟨fs,hu,rfl,hkf⟩:=zgO hk
    obtain ⟨i,c1,c2,c3,c4,c5⟩:=zt0 hc
    unfold zwS at hq
    split at hq
    ·simp only [VR] at ha hb
     obtain ⟨vs,rfl,v1,v2⟩:=ha
     obtain ⟨us,rfl,u1,u2⟩:=hb
     have hfo:P.fieldsOf t=fs:=by simp [Program.fieldsOf,hu]
     rw [run_equalIn_struct w m t vs us (by grind) c3,hfo]
     exact ztI ih v1 u1 v2 u2 _ _ (fun g hg => ⟨hkf g hg,c5 fs hu g hg⟩) hq
    grind
  | array n e =>
   rw [hk] at hq
   cases hc:(mkTI P t).cmp with
   | false => grind
   | true =>
    simp only [hc] at hq
    obtain ⟨hu,hke⟩:=ze2 hk
    unfold zwS at hq
    split at hq
    ·simp only [VR] at ha hb
     obtain ⟨vs,rfl,v1,v2⟩:=ha
     obtain ⟨us,rfl,u1,u2⟩:=hb
     obtain ⟨i,hi,_⟩:=zbR hke
     rw [run_equalIn_array w m vs us hu hi,zqT hke,List.range_eq_range']
     grind [zzh,zhe,ztL]
    grind
  | slice e => rw [hk] at hq; exact zz8 (zbX hk).1 _ _ _ _ _ hq ha hb
  | map k e => rw [hk] at hq; exact zAb (zjN hk).1 _ _ _ _ _ hq ha hb
  | func => rw [hk] at hq; obtain ⟨_,_,_,hu⟩:=zB4 hk; exact zAe hu _ _ _ _ _ hq ha hb
  | other => grind
theorem zmO (f:Nat) (t:TypeId) (b:LV):eqT (mkTI P) lv f t .undef b=none:=by
 cases f with
 | zero => rfl
 | succ f =>
  unfold eqT
  generalize (mkTI P t).kind=K; generalize (mkTI P t).cmp=c
  cases K <;> first | rfl | (cases c <;> rfl)
theorem zz6 (f:Nat) (t:TypeId) (k:FloatKind) (n:Nat) (b:LV):eqT (mkTI P) lv f t (.flt k n) b=none:=by
 cases f with
 | zero => rfl
 | succ f =>
  unfold eqT
  generalize (mkTI P t).kind=K; generalize (mkTI P t).cmp=c
  cases K <;> first | rfl | (cases c <;> rfl)
theorem zz5 (f:Nat) (t:TypeId) (b:LV):eqT (mkTI P) lv f t .nan b=none:=by
 cases f with
 | zero => rfl
 | succ f =>
  unfold eqT
  generalize (mkTI P t).kind=K; generalize (mkTI P t).cmp=c
  cases K <;> first | rfl | (cases c <;> rfl)
theorem zwM (f:Nat) (t:TypeId) (b:LV):eqT (mkTI P) lv f t .nanb b=none:=by
 cases f with
 | zero => rfl
 | succ f =>
  unfold eqT
  generalize (mkTI P t).kind=K; generalize (mkTI P t).cmp=c
  cases K <;> first | rfl | (cases c <;> rfl)
theorem zqQ (f:Nat) (t:TypeId) (a:LV) (ha:a = .nili∨(∃ l,a = .agg l)):eqT (mkTI P) lv f t a .undef=none:=by
 cases f with
 | zero => rfl
 | succ f =>
  unfold eqT
  generalize (mkTI P t).kind=K; generalize (mkTI P t).cmp=c
  rcases ha with rfl | ⟨l,rfl⟩ <;> cases K <;> first | rfl | (cases c <;> rfl)
theorem zB9 {y:Operand}(hop:op = .eql∨op = .neq) (hc:c=true→∃ v,x = .const v∨y = .const v) (hg:grd (mkTI P) t c a b=true) (ha:VR B a va) (hb:VR B b vb) (hna:a≠.undef) (hnb:(a = .nili∨∃ l,a = .agg l)→b≠.undef) :
  (eqGuard op t x y va vb).run P w = .ok () w:=by
 cases a with
 | undef => grind
 | nili =>
  simp only [VR] at ha; subst ha
  cases b with
  | undef => grind
  | nili =>
   simp only [VR] at hb; subst hb
   obtain ⟨v,hc⟩:=hc hg
   rcases hop with rfl | rfl <;> rcases hc with rfl | rfl <;> simp [eqGuard]
  | bool _ => simp only [VR] at hb; subst hb; rcases hop with rfl | rfl <;> rfl
  | int _ _ => simp only [VR] at hb; subst hb; rcases hop with rfl | rfl <;> rfl
  | flt _ _ => simp only [VR] at hb; subst hb; rcases hop with rfl | rfl <;> rfl
  | nan => simp only [VR] at hb; obtain ⟨_,rfl,_⟩:=hb; rcases hop with rfl | rfl <;> rfl
  | nanb => simp only [VR] at hb; obtain ⟨_,rfl,_⟩:=hb; rcases hop with rfl | rfl <;> rfl
  | str _ _ => simp only [VR] at hb; obtain ⟨_,rfl,_⟩:=hb; rcases hop with rfl | rfl <;> rfl
  | nilp => simp only [VR] at hb; subst hb; rcases hop with rfl | rfl <;> rfl
  | ptr _ _ => simp only [VR] at hb; obtain ⟨_,_,rfl⟩:=hb; rcases hop with rfl | rfl <;> rfl
  | gptr _ _ => simp only [VR] at hb; subst hb; rcases hop with rfl | rfl <;> rfl
  | nils => simp only [VR] at hb; subst hb; rcases hop with rfl | rfl <;> rfl
  | sle => simp only [VR] at hb; obtain ⟨_,_,rfl⟩:=hb; rcases hop with rfl | rfl <;> rfl
  | sl _ _ _ _ => simp only [VR] at hb; obtain ⟨_,_,rfl⟩:=hb; rcases hop with rfl | rfl <;> rfl
  | slo _ _ _ => simp only [VR] at hb; obtain ⟨_,_,_,_,rfl,_⟩:=hb; rcases hop with rfl | rfl <;> rfl
  | map0 => simp only [VR] at hb; subst hb; rcases hop with rfl | rfl <;> rfl
  | map _ => simp only [VR] at hb; obtain ⟨_,_,rfl⟩:=hb; rcases hop with rfl | rfl <;> rfl
  | fn _ _ _ => simp only [VR] at hb; obtain ⟨_,_,rfl,_⟩:=hb; rcases hop with rfl | rfl <;> rfl
  | yield _ => simp only [VR] at hb; obtain ⟨_,_,rfl⟩:=hb; rcases hop with rfl | rfl <;> rfl
  | nilf => simp only [VR] at hb; subst hb; rcases hop with rfl | rfl <;> rfl
  | ifc _ _ => simp only [VR] at hb; obtain ⟨_,rfl,_⟩:=hb; rcases hop with rfl | rfl <;> rfl
  | agg _ => simp only [VR] at hb; obtain ⟨_,rfl,_⟩:=hb; rcases hop with rfl | rfl <;> rfl
  | tup _ => simp only [VR] at hb; obtain ⟨_,rfl,_⟩:=hb; rcases hop with rfl | rfl <;> rfl
 | agg l =>
  simp only [VR] at ha; obtain ⟨vs,rfl,_⟩:=ha
  cases b with
  | undef => grind
  | agg m =>
   simp only [VR] at hb; obtain ⟨us,rfl,_⟩:=hb
   obtain ⟨i,c1,c2,c3,c4,c5⟩:=zt0 (P:=P) (t:=t) hg
   grind [run_eqGuard_agg]
  | nili => simp only [VR] at hb; subst hb; rcases hop with rfl | rfl <;> rfl
  | bool _ => simp only [VR] at hb; subst hb; rcases hop with rfl | rfl <;> rfl
  | int _ _ => simp only [VR] at hb; subst hb; rcases hop with rfl | rfl <;> rfl
  | flt _ _ => simp only [VR] at hb; subst hb; rcases hop with rfl | rfl <;> rfl
  | nan => simp only [VR] at hb; obtain ⟨_,rfl,_⟩:=hb; rcases hop with rfl | rfl <;> rfl
  | nanb => simp only [VR] at hb; obtain ⟨_,rfl,_⟩:=hb; rcases hop with rfl | rfl <;> rfl
  | str _ _ => simp only [VR] at hb; obtain ⟨_,rfl,_⟩:=hb; rcases hop with rfl | rfl <;> rfl
  | nilp => simp only [VR] at hb; subst hb; rcases hop with rfl | rfl <;> rfl
  | ptr _ _ => simp only [VR] at hb; obtain ⟨_,_,rfl⟩:=hb; rcases hop with rfl | rfl <;> rfl
  | gptr _ _ => simp only [VR] at hb; subst hb; rcases hop with rfl | rfl <;> rfl
  | nils => simp only [VR] at hb; subst hb; rcases hop with rfl | rfl <;> rfl
  | sle => simp only [VR] at hb; obtain ⟨_,_,rfl⟩:=hb; rcases hop with rfl | rfl <;> rfl
  | sl _ _ _ _ => simp only [VR] at hb; obtain ⟨_,_,rfl⟩:=hb; rcases hop with rfl | rfl <;> rfl
  | slo _ _ _ => simp only [VR] at hb; obtain ⟨_,_,_,_,rfl,_⟩:=hb; rcases hop with rfl | rfl <;> rfl
  | map0 => simp only [VR] at hb; subst hb; rcases hop with rfl | rfl <;> rfl
  | map _ => simp only [VR] at hb; obtain ⟨_,_,rfl⟩:=hb; rcases hop with rfl | rfl <;> rfl
  | fn _ _ _ => simp only [VR] at hb; obtain ⟨_,_,rfl,_⟩:=hb; rcases hop with rfl | rfl <;> rfl
  | yield _ => simp only [VR] at hb; obtain ⟨_,_,rfl⟩:=hb; rcases hop with rfl | rfl <;> rfl
  | nilf => simp only [VR] at hb; subst hb; rcases hop with rfl | rfl <;> rfl
  | ifc _ _ => simp only [VR] at hb; obtain ⟨_,rfl,_⟩:=hb; rcases hop with rfl | rfl <;> rfl
  | tup _ => simp only [VR] at hb; obtain ⟨_,rfl,_⟩:=hb; rcases hop with rfl | rfl <;> rfl
 | bool _ => simp only [VR] at ha; subst ha; rcases hop with rfl | rfl <;> rfl
 | int _ _ => simp only [VR] at ha; subst ha; rcases hop with rfl | rfl <;> rfl
 | flt _ _ => simp only [VR] at ha; subst ha; rcases hop with rfl | rfl <;> rfl
 | nan => simp only [VR] at ha; obtain ⟨_,rfl,_⟩:=ha; rcases hop with rfl | rfl <;> rfl
 | nanb => simp only [VR] at ha; obtain ⟨_,rfl,_⟩:=ha; rcases hop with rfl | rfl <;> rfl
 | str _ _ => simp only [VR] at ha; obtain ⟨_,rfl,_⟩:=ha; rcases hop with rfl | rfl <;> rfl
 | nilp => simp only [VR] at ha; subst ha; rcases hop with rfl | rfl <;> rfl
 | ptr _ _ => simp only [VR] at ha; obtain ⟨_,_,rfl⟩:=ha; rcases hop with rfl | rfl <;> rfl
 | gptr _ _ => simp only [VR] at ha; subst ha; rcases hop with rfl | rfl <;> rfl
 | nils => simp only [VR] at ha; subst ha; rcases hop with rfl | rfl <;> rfl
 | sle => simp only [VR] at ha; obtain ⟨_,_,rfl⟩:=ha; rcases hop with rfl | rfl <;> rfl
 | sl _ _ _ _ => simp only [VR] at ha; obtain ⟨_,_,rfl⟩:=ha; rcases hop with rfl | rfl <;> rfl
 | slo _ _ _ => simp only [VR] at ha; obtain ⟨_,_,_,_,rfl,_⟩:=ha; rcases hop with rfl | rfl <;> rfl
 | map0 => simp only [VR] at ha; subst ha; rcases hop with rfl | rfl <;> rfl
 | map _ => simp only [VR] at ha; obtain ⟨_,_,rfl⟩:=ha; rcases hop with rfl | rfl <;> rfl
 | fn _ _ _ => simp only [VR] at ha; obtain ⟨_,_,rfl,_⟩:=ha; rcases hop with rfl | rfl <;> rfl
 | yield _ => simp only [VR] at ha; obtain ⟨_,_,rfl⟩:=ha; rcases hop with rfl | rfl <;> rfl
 | nilf => simp only [VR] at ha; subst ha; rcases hop with rfl | rfl <;> rfl
 | ifc _ _ => simp only [VR] at ha; obtain ⟨_,rfl,_⟩:=ha; rcases hop with rfl | rfl <;> rfl
 | tup _ => simp only [VR] at ha; obtain ⟨_,rfl,_⟩:=ha; rcases hop with rfl | rfl <;> rfl
end eq
section
variable {X:Pt}{E:Env}{H:List Seg}{B:BB}{h:LH}{t:TypeId}{x y:Operand}{va vb:Value}{lv:LV}
theorem zB6 {y:Operand}(h:(isC x || isC y)=true):∃ v,x = .const v∨y = .const v:=by
 cases x <;> cases y <;> simp [isC] at h <;> first | grind | grind
theorem zAH (h1:∀ k n,a≠.int k n) (h2:∀ l n,a≠.str l n) (h3:∀ k n,a≠.flt k n) (h6:a≠.nan) (h7:a≠.nanb) (h4:a≠.undef) (ha:VR B a va) :
  binOp .eql t va vb=(do pure (.bool (← Op.equal t va vb)):Sem Value)∧binOp .neq t va vb=(do pure (.bool (!(← Op.equal t va vb))):Sem Value):=by
 cases a with
 | undef => grind
 | int k n => grind
 | str l n => grind
 | flt k n => grind
 | nan => grind
 | nanb => grind
 | bool _ => simp only [VR] at ha; subst ha; exact ⟨rfl,rfl⟩
 | nilp => simp only [VR] at ha; subst ha; exact ⟨rfl,rfl⟩
 | ptr _ _ => simp only [VR] at ha; obtain ⟨_,_,rfl⟩:=ha; exact ⟨rfl,rfl⟩
 | gptr _ _ => simp only [VR] at ha; subst ha; exact ⟨rfl,rfl⟩
 | nils => simp only [VR] at ha; subst ha; exact ⟨rfl,rfl⟩
 | sle => simp only [VR] at ha; obtain ⟨_,_,rfl⟩:=ha; exact ⟨rfl,rfl⟩
 | sl _ _ _ _ => simp only [VR] at ha; obtain ⟨_,_,rfl⟩:=ha; exact ⟨rfl,rfl⟩
 | slo _ _ _ => simp only [VR] at ha; obtain ⟨_,_,_,_,rfl,_⟩:=ha; exact ⟨rfl,rfl⟩
 | map0 => simp only [VR] at ha; subst ha; exact ⟨rfl,rfl⟩
 | map _ => simp only [VR] at ha; obtain ⟨_,_,rfl⟩:=ha; exact ⟨rfl,rfl⟩
 | fn _ _ _ => simp only [VR] at ha; obtain ⟨_,_,rfl,_⟩:=ha; exact ⟨rfl,rfl⟩
 | yield _ => simp only [VR] at ha; obtain ⟨_,_,rfl⟩:=ha; exact ⟨rfl,rfl⟩
 | nilf => simp only [VR] at ha; subst ha; exact ⟨rfl,rfl⟩
 | ifc _ _ => simp only [VR] at ha; obtain ⟨_,rfl,_⟩:=ha; exact ⟨rfl,rfl⟩
 | nili => simp only [VR] at ha; subst ha; exact ⟨rfl,rfl⟩
 | agg _ => simp only [VR] at ha; obtain ⟨_,rfl,_⟩:=ha; exact ⟨rfl,rfl⟩
 | tup _ => simp only [VR] at ha; obtain ⟨_,rfl,_⟩:=ha; exact ⟨rfl,rfl⟩
theorem zyi (hr:HR G B h H) {neg:Bool}(h1:∀ k n,a≠.int k n) (h2:∀ l n,a≠.str l n) (hq:eqQ (mkTI X.P) (zjM h) neg t (isC x || isC y) a b = .ok lv) (ha:VR B a va) (hb:VR B b vb) :
  BOk X H B (match neg with | true => .neq | false => .eql) t x y va vb lv:=by
 unfold eqQ at hq
 split at hq
 ·rename_i hg
  split at hq
  ·rename_i r he
   have h4:a≠.undef:=fun e => by grind [zmO]
   have h3:∀ k n,a≠.flt k n:=fun k n e => by grind [zz6]
   have h6:a≠.nan:=fun e => by grind [zz5]
   have h7:a≠.nanb:=fun e => by grind [zwM]
   have h5:(a = .nili∨∃ l,a = .agg l)→b≠.undef:=fun ha e => by grind [zqQ]
   obtain ⟨b1,b2⟩:=zAH (t:=t) (vb:=vb) h1 h2 h3 h6 h7 h4 ha
   cases hq
   refine ⟨_,zby rfl,fun w S => ?_⟩
   have:=ztD S hr (fun i h => h) 20 10000 kQ t _ _ _ _ _ he ha hb
   have hgd:=fun op hop => zB9 (w:=w) (op:=op) hop (fun hc => zB6 hc) hg ha hb h4 h5
   cases neg with
   | true =>
    show (do eqGuard .neq t x y va vb; binOp .neq t va vb:Sem Value).run X.P w=_
    rw [b2]
    simp only [Sem.run_bind,hgd _ (.inr rfl),Op.equal,Op.maxDepth,this,Result.andThen_ok,Sem.run_pure]
   | false =>
    show (do eqGuard .eql t x y va vb; binOp .eql t va vb:Sem Value).run X.P w=_
    rw [b1]
    simp only [Sem.run_bind,hgd _ (.inl rfl),Op.equal,Op.maxDepth,this,Result.andThen_ok,Sem.run_pure]
  grind
 grind
theorem zCB (hr:HR G B h H) (hq:(binQ (mkTI X.P) op t (isC x || isC y)).go a b h = .ok lv) (ha:VR B a va) (hb:VR B b vb):BOk X H B op t x y va vb lv:=by
 cases op with
 | add => exact zCM hq ha hb
 | sub => exact zBq hq ha hb
 | mul => exact zBT hq ha hb
 | quo => exact zBB hq ha hb
 | rem => exact zBA hq ha hb
 | and => exact zCJ hq ha hb
 | or => exact or_ok hq ha hb
 | xor => exact zBf hq ha hb
 | andNot => exact zuz hq ha hb
 | lss => exact zBX hq ha hb
 | leq => exact zB0 hq ha hb
 | gtr => exact zB8 hq ha hb
 | geq => exact zCb hq ha hb
 | shl => exact zBw hq ha hb
 | shr => exact zBv hq ha hb
 | eql =>
  refine zdO (op:=.eql) hq ha hb (fun k m n lv h => ?_) (fun l m lv h => ?_) (fun a b va vb lv h1 h2 hq ha hb => zkv hq ha hb (fun m n w => by simp only [zf5]; rfl) (fun hq => zyi (neg:=false) hr h1 h2 hq ha hb))
  ·cases h; exact bok (v:=.bool (decide (m=n))) _ _ _ _ (zby (zfG m n)) fun w => by simp [eqGuard,binOp,Op.intCmp]; rfl
  ·cases h; exact bok (v:=.bool (decide (l=m))) _ _ _ _ (zby (zn0 l m)) fun w => by simp [str,eqGuard,binOp_string_eql,zcu,zjo]
 | neq =>
  refine zdO (op:=.neq) hq ha hb (fun k m n lv h => ?_) (fun l m lv h => ?_) (fun a b va vb lv h1 h2 hq ha hb => zkv hq ha hb (fun m n w => by simp only [zf5]; rfl) (fun hq => zyi (neg:=true) hr h1 h2 hq ha hb))
  ·cases h; exact bok (v:=.bool (!decide (m=n))) _ _ _ _ (zby (zDh not (zfG m n))) fun w => by simp [eqGuard,binOp,Op.intCmp]; rfl
  ·cases h; exact bok (v:=.bool (!decide (l=m))) _ _ _ _ (zby (zDh not (zn0 l m))) fun w => by simp [str,eqGuard,binOp_string_neq,zcu,zjo]
end
variable {G:List (Nat×Obj)}
theorem zdc (l:List α) {a b c:Nat}(h:c + n≤b) (hd:d=a + c):(((l.drop a).take b).drop c).take n=(l.drop d).take n:=by
 grind [List.drop_take,List.drop_drop,Nat.min_eq_left]
theorem zqf (l:List α) (a n m:Nat):(l.drop a).take (n + m)=(l.drop a).take n++(l.drop (a + n)).take m:=by
 rw [List.take_add,zEj]
section
variable {B:BB}{cs:List Value}{off sz len:Nat}{t:Tr (List LV)}
theorem zoO (hrow:∀ r,r < len→VRL B (Tr.get [] t r) ((cs.drop (off + r * sz)).take sz)):∀ (n i:Nat),i + n≤len→VRL B (zrZ t n i) ((cs.drop (off + i * sz)).take (n * sz))
 | 0,i,_ => by simp [zrZ,VRL]
 | n + 1,i,hn => by
  have h1:=hrow i kQ
  have h2:=zoO hrow n (i + 1) kQ
  rw [zrZ,zEk,zGl,Nat.add_comm (n * sz) sz,zqf]
  refine h1.app ?_
  grind
theorem zoU (hsz:0 < sz) (hrow:∀ r,r < len→VRL B (Tr.get [] t r) ((cs.drop (off + r * sz)).take sz)) (h:zvO sz len t o n=some l):VRL B l ((cs.drop (off + o)).take n)∧o + n≤len * sz:=by
 unfold zvO at h
 split at h
 ·cases h
 ·rename_i h1
  have h1:o + n≤len * sz:=zaP.1 h1
  refine ⟨?_,h1⟩
  split at h
  ·rename_i h2
   have h2:o % sz + n≤sz:=zaP.1 h2
   have hd:o=sz * (o / sz) + o % sz:=(zEF o sz).symm
   cases h
   cases n with
   | zero => simp [VRL]
   | succ n =>
    have hr:o / sz < len:=by
     rw [Nat.div_lt_iff_lt_mul hsz]; omega
    have:=((hrow _ hr).drop (o % sz)).take (n + 1)
    rw [zdc cs (d:=off + o) h2 (by grind)] at this
    omega
  ·split at h
   ·rename_i h3
    rw [zC9] at h3
    have h4:o % sz=0:=zar.1 h3.1
    have h5:n % sz=0:=zar.1 h3.2
    cases h
    have ho:o=o / sz * sz:=by have:=zEF o sz; grind
    have hn:n=n / sz * sz:=by have:=zEF n sz; grind
    have:=zoO hrow (n / sz) (o / sz) (by
     have:(o / sz + n / sz) * sz≤len * sz:=by grind
     exact zFl this hsz)
    rw [← ho,← hn] at this
    omega
   grind
theorem zvP {len x:Nat}{l:yB}(h1:l.length=len) (h2:zaf l=x) (h3:(cs.drop off).take len=l.map byt) {r:List LV}(h:zy4 len x o n=some r):VRL B r ((cs.drop (off + o)).take n)∧o + n≤len:=by
 unfold zy4 at h
 split at h
 ·cases h
 ·rename_i hle
  have hle:o + n≤len:=zaP.1 hle
  cases h
  refine ⟨?_,hle⟩
  subst h2
  have e1:Nat.div (zaf l) (Nat.pow 256 o)=zaf (l.drop o):=(zdv o l).symm
  have e2:zdq n (zaf (l.drop o))=zdq n (zaf ((l.drop o).take n)):=by
   have:∀ (n x:Nat),zdq n x=zdq n (x % 256 ^ n):=by
    intro n
    induction n with
    | zero => intro x; rfl
    | succ n ih =>
     intro x
     simp only [zdq]
     have a1:Nat.mod (x % 256 ^ (n + 1)) 256=Nat.mod x 256:=by
      show x % 256 ^ (n + 1) % 256=x % 256
      rw [zE2,Nat.mod_mul_left_mod]
     have a2:Nat.div (x % 256 ^ (n + 1)) 256=(Nat.div x 256) % 256 ^ n:=by
      show x % 256 ^ (n + 1) / 256=x / 256 % 256 ^ n
      rw [zE2,zE1,zFX]
     grind
   grind [zaf,zdu]
  rw [e1,e2]
  have e3:(cs.drop (off + o)).take n=((l.drop o).take n).map byt:=by
   rw [List.map_take,List.map_drop,← h3,zdc cs hle rfl]
  rw [e3]
  have:=VRL.bytes (B:=B) ((l.drop o).take n)
  grind
end
theorem OR.read (hor:OR B k obj lo) (h:zl9 lo o n=some l) :
  ∃ cs e fr,obj = .cells cs e fr∧VRL B l ((cs.toList.drop (k.off + o)).take n)∧k.off + o + n≤cs.size∧∀ c ∈ cs.toList,c.oneCell' = true:=by
 unfold zl9 at h
 split at h
 ·obtain ⟨cs,e,rfl,h2,h3,h4,h5,h6,h7⟩:=hor
  obtain ⟨h8,h9⟩:=zoU h2 h7 h
  grind
 ·obtain ⟨cs,e,fr,l',rfl,h3,h4,h5,h6,h7,h8,h9,h10⟩:=hor
  obtain ⟨h11,h12⟩:=zvP h8 h9 h10 h
  exact ⟨cs,e,fr,rfl,h11,by omega,h7⟩
 grind
theorem OR.cell (hor:OR B k obj lo) {v:LV}(h:zt4 lo o=some v) :
  ∃ cs e fr u,obj = .cells cs e fr∧cs[k.off + o]? = some u∧VR B v u∧∀ c ∈ cs.toList,c.oneCell' = true:=by
 unfold zt4 at h
 split at h
 ·rename_i sz len t
  obtain ⟨cs,e,rfl,h2,h3,h4,h5,h6,h7⟩:=hor
  split at h
  ·rename_i hlt
   have hlt:o < len * sz:=zbd.1 hlt
   have hr:o / sz < len:=by simp_all [Nat.div_lt_iff_lt_mul]
   obtain ⟨u,hu,hv⟩:=(h7 _ hr).get h
   refine ⟨cs,e,_,u,Z,?_,hv,h6⟩
   have hd:=zEF o sz
   have hm:Nat.mod o sz < sz:=zEE o h2
   rw [zEf,zDi hm,zEo] at hu
   rw [← zDE]
   rw [← hu]
   congr 1
   show k.off + o=k.off + o / sz * sz + o % sz
   grind
  grind
 ·rename_i len x
  obtain ⟨cs,e,fr,l',rfl,h3,h4,h5,h6,h7,h8,h9,h10⟩:=hor
  split at h
  ·rename_i hlt
   have hlt:o < len:=zbd.1 hlt
   rw [zaV] at h
   cases h
   subst h9
   have hl:o < l'.length:=by omega
   have hu:(l'.map byt)[o]? = some (byt (l'.getD o 0)):=by grind
   rw [← h10,zEf,zDi hlt,zEo,zDE] at hu
   refine ⟨cs,e,fr,_,Z,hu,?_,h7⟩
   rw [zfJ l' o hl]
   simp only [VR]
   rfl
  grind
 grind
section
variable {w0:World}{base:Nat}{H:List Seg}{B:BB}{h:LH}
theorem zsM (h:zl9 lo o n=some l):zbA lo=true:=by
 cases lo <;> first | rfl | (cases h; done)
theorem zsN {l:LV}(h:zt4 lo o=some l):zbA lo=true:=by
 cases lo <;> first | rfl | (cases h; done)
theorem HR.read (hr:HR G B h H) (hq:zl9 (atB h i) o n=some l) (hk:B[i]? = some k) :
  ∃ vs:List Value,VRL B l vs∧vs.length=n∧(∀ c ∈ vs,c.oneCell' = true)∧∀ j v,vs[j]? = some v→Cell w0 base H (Addr.add ⟨k.b,k.off + o,none⟩ j) v:=by
 obtain ⟨k',j,obj,h1,h2,h3⟩:=hr.at_ i (zsM hq)
 rw [hk] at h1; cases h1
 obtain ⟨cs,e,fr,rfl,a1,a2,a3⟩:=h3.read hq
 refine ⟨_,a1,by grind,fun c hc => a3 c (zEU (zEr hc)),fun m v hv => ?_⟩
 rw [zaO]
 refine Cell.own j 0 h2 Z ?_
 grind
theorem HR.cell (hr:HR G B h H) {v:LV}(hq:zt4 (atB h i) o=some v) (hk:B[i]? = some k):∃ u,VR B v u∧Cell w0 base H ⟨k.b,k.off + o,none⟩ u∧u.oneCell' = true:=by
 obtain ⟨k',j,obj,h1,h2,h3⟩:=hr.at_ i (zsN hq)
 rw [hk] at h1; cases h1
 obtain ⟨cs,e,fr,u,rfl,a1,a2,a3⟩:=h3.cell hq
 exact ⟨u,a2,Cell.own j 0 h2 rfl a1,a3 u (by grind)⟩
end
variable {G:List (Nat×Obj)}
structure CxOk (P:Program) (w0:World) (base:Nat) (cx:Cx):Prop where
  ty:cx.ty=mkTI P
  gl:∀ g o v,cx.gl g o=some v→∃ u,VR [] v u∧∀ w,Below base w0 w→w.cell? ⟨g,o,none⟩=some u
section
variable {X:Pt}{E:Env}{H:List Seg}{B:BB}{h:LH}{cx:Cx}{f:SlF}{lv:LV}
def QuOk (X:Pt) (E:Env) (H:List Seg) (B:BB) (op:Op) (lv:LV):Prop:=∃ v,VR B lv v∧Does X E H op (Is v H)
theorem zhL {v:LV}(h:okV v = .ok lv):v=lv∧v≠.undef:=by
 unfold okV at h
 grind
theorem ziX {v:Option LV}(h:optQ n v = .ok lv):v=some lv:=by
 unfold optQ at h
 grind
theorem zsD (hE:ER B f E) (hq:okV (evO x f) = .ok lv):QuOk X E H B (.move x) lv∧QuOk X E H B (.assign x) lv:=by
 obtain ⟨rfl,hn⟩:=zhL hq
 obtain ⟨v,h1,h2⟩:=hE.ev x hn
 exact ⟨⟨v,h2,Do.move h1⟩,⟨v,h2,Do.assign h1⟩⟩
theorem zza (hE:ER B f E) {c a b:Operand}(hq:zzb (evO c f) (evO a f) (evO b f) = .ok lv):QuOk X E H B (.pick c a b) lv:=by
 unfold zzb at hq
 split at hq
 ·rename_i hc
  obtain ⟨u,h1,h2⟩:=hE.ev c (by grind)
  rw [hc] at h2; simp only [VR] at h2; subst h2
  obtain ⟨rfl,hn⟩:=zhL hq
  obtain ⟨v,h3,h4⟩:=hE.ev a hn
  exact ⟨v,h4,zef h1 h3⟩
 ·rename_i hc
  obtain ⟨u,h1,h2⟩:=hE.ev c (by grind)
  rw [hc] at h2; simp only [VR] at h2; subst h2
  obtain ⟨rfl,hn⟩:=zhL hq
  obtain ⟨v,h3,h4⟩:=hE.ev b hn
  exact ⟨v,h4,zeg h1 h3⟩
 grind
theorem zlk (hc:CxOk X.P X.w0 X.base cx) (hr:HR G B h H) (hq:(loadE cx t).go a h = .ok lv) (ha:VR B a va) :
  ∃ p v,va = .pointer (some p)∧VR B lv v∧∀ w,Sep X.w0 X.base w H→(loadVar t p).run X.P w = .ok v w:=by
 unfold loadE at hq
 rw [hc.ty] at hq
 cases hok:(mkTI X.P t).ok with
 | false =>
  simp only [hok] at hq
  cases hag:isAgg (mkTI X.P t).kind with
  | false => simp_all
  | true =>
   simp only [hag,zaJ] at hq
   obtain ⟨hk,hag⟩:=zpj hag
   split at hq
   ·rename_i i o
    unfold aggQ at hq
    split at hq
    ·rename_i l hl
     cases hq
     simp only [VR] at ha
     obtain ⟨k,hk1,rfl⟩:=ha
     obtain ⟨vs,h1,h2,h3,h4⟩:=hr.read (w0:=X.w0) (base:=X.base) hl hk1
     refine ⟨_,.agg vs.toArray,Z,?_,fun w S => ?_⟩
     ·simp only [VR]; grind
     ·have:=run_loadCells_list (P:=X.P) w ⟨k.b,k.off + o,none⟩ vs (fun j v hv => h4 j v hv w S)
      simp_all [loadVar,Sem.run_bind,Result.andThen_ok,zEm,zbG,Sem.run_pure]
    grind
   grind
 | true =>
  simp only [hok,zaJ] at hq
  obtain ⟨hk,hfl⟩:=znD hok
  have hag:=zwF hfl
  split at hq
  ·rename_i i o
   have hl:=ziX hq
   simp only [VR] at ha
   obtain ⟨k,hk1,rfl⟩:=ha
   obtain ⟨u,h1,h2,h3⟩:=hr.cell (w0:=X.w0) (base:=X.base) hl hk1
   exact ⟨_,u,Z,h1,fun w S => by simp [loadVar,hag,h2 w S]⟩
  ·rename_i g o
   have hl:=ziX hq
   simp only [VR] at ha
   subst ha
   obtain ⟨u,h1,h2⟩:=hc.gl _ _ _ hl
   exact ⟨_,u,Z,VR.mono (List.nil_prefix) _ _ h1,fun w S => by simp [loadVar,hag,h2 w S.below]⟩
  grind
theorem znN :(loadE cx t).go .undef h≠.ok lv:=by
 grind [loadE,isAgg,zaJ]
theorem zzE (hc:CxOk X.P X.w0 X.base cx) (hr:HR G B h H) (hE:ER B f E) {a:Operand}(hq:(loadE cx t).go (evO a f) h = .ok lv):QuOk X E H B (.load t a) lv:=by
 obtain ⟨va,h1,h2⟩:=hE.ev a (fun e => by grind [znN])
 obtain ⟨p,v,rfl,h3,h4⟩:=zlk hc hr hq h2
 exact ⟨v,h3,zaq rfl fun dst ty pos after g ρ w hρ S => ⟨v,w,H,by simp_all [execOp,Instr.loadAt,Instr.sureAddr],S,rfl,rfl⟩⟩
theorem zBN (hE:ER B f E) (hq:nilQ (evO x f) = .ok lv):QuOk X E H B (.nilCheck x) lv:=by
 have hn:evO x f≠.undef:=fun e => by rw [e] at hq; cases hq
 obtain ⟨v,h1,h2⟩:=hE.ev x hn
 unfold nilQ at hq
 split at hq
 all_goals first | (cases hq; done) | skip
 all_goals
  rename_i he
  rw [he] at h2
  have h3:=h2
  simp only [VR] at h2
  cases hq
 ·obtain ⟨k,_,rfl⟩:=h2; exact ⟨_,h3,ze7 h1⟩
 ·subst h2; exact ⟨_,h3,ze7 h1⟩
 ·obtain ⟨y,rfl,_⟩:=h2; exact ⟨_,h3,zm9 h1⟩
 ·obtain ⟨a,b,rfl,_⟩:=h2; exact ⟨_,h3,zna h1⟩
 ·obtain ⟨k,_,rfl⟩:=h2; exact ⟨_,h3,zan rfl fun dst ty pos after g ρ w hρ => by simp_all [execOp]⟩
theorem un_ok (hE:ER B f E) {op:UnOp}(hq:unQ op (evO x f) = .ok lv):QuOk X E H B (.unOp op t x) lv:=by
 have hn:evO x f≠.undef:=fun e => by rw [e] at hq; cases op <;> cases hq
 obtain ⟨v,h1,h2⟩:=hE.ev x hn
 cases op with
 | plus => cases hq
 | neg =>
  simp only [unQ,negQ] at hq
  split at hq
  ·rename_i k n he
   rw [he] at h2; simp only [VR] at h2; subst h2
   cases hq
   refine ⟨.int k (k.wrap (0 - n)),by grind [zhN,zrK,zcU],zyt h1 Z⟩
  grind
 | xor =>
  simp only [unQ,xorQ] at hq
  split at hq
  ·rename_i k n he
   rw [he] at h2; simp only [VR] at h2; subst h2
   unfold notQ at hq
   split at hq
   ·cases hq
   ·rename_i n
    split at hq
    ·rename_i hs
     cases hq
     refine ⟨.int k (k.wrap (.negSucc n)),by grind [zhN,zcU],zan Z fun dst ty pos after g ρ w hρ => ?_⟩
     rw [← zv5 hs]
     simp_all [execOp,Op.unary,Op.intBits]
    ·rename_i hs
     split at hq
     ·rename_i hl
      cases hq
      refine ⟨.int k (k.wrap ((lim k - 1 - n:Nat):Int)),by rw [zo9]; exact zcU,zan Z fun dst ty pos after g ρ w hρ => ?_⟩
      rw [← zsl hs (zbd.1 hl)]
      simp_all [execOp,Op.unary,Op.intBits]
     grind
  grind
 | not =>
  simp only [unQ,nbQ] at hq
  split at hq
  ·rename_i b he
   rw [he] at h2; simp only [VR] at h2; subst h2
   cases hq
   exact ⟨_,zby rfl,zuK h1⟩
  grind
theorem zwp (hc:CxOk X.P X.w0 X.base cx) (hE:ER B f E) (hq:(ifcE cx t).go (evO x f) = .ok lv):QuOk X E H B (.makeInterface t x) lv:=by
 unfold ifcE at hq
 rw [hc.ty] at hq
 have key:(mkTI X.P t).kind≠.other→(∀ b,(mkTI X.P t).kind≠.iface b)→(match okV (evO x f) with | .ok v => Q.ok (.ifc t v) | r => r) = .ok lv→QuOk X E H B (.makeInterface t x) lv:=by
  intro h1 h2 hq
  split at hq
  ·rename_i v hv
   obtain ⟨rfl,hn⟩:=zhL hv
   cases hq
   obtain ⟨u,h3,h4⟩:=hE.ev x hn
   obtain ⟨d,hd⟩:=zlo h1
   refine ⟨.iface t u,by simp only [VR]; grind,zhW hd ?_ h3⟩
   cases d <;> try rfl
   simp_all [zf4,zc6]
  grind
 cases hk:(mkTI X.P t).kind <;> simp only [hk] at hq
 case iface b => cases hq
 case other => cases hq
 all_goals exact key (by grind) (fun b => by grind) hq
theorem ztz {bad:Q}{k:List LV→Q}(hb:bad≠.ok lv) (hq:evC bad k l = .ok lv):defd l=true∧k l = .ok lv:=by
 grind [evC,absurd]
theorem zdR:∀ {l:List LV},defd l=true→∀ v ∈ l,v≠.undef
 | [],_,v,hv => by simp at hv
 | a::l,h,v,hv => by
  unfold defd at h
  split at h
  ·cases h
  ·rename_i hne
   rcases zDp.1 hv with rfl | hv
   ·exact fun e => hne e
   ·exact zdR h v hv
theorem zgi (hE:ER B f E):∀ (xs:List Operand),(∀ v ∈ evL xs f,v≠.undef)→∃ vs,evs E xs=some vs∧VRL B (evL xs f) vs
 | [],_ => ⟨[],rfl,VRL.nil_⟩
 | x::xs,hn => by
  obtain ⟨v,h1,h2⟩:=hE.ev x (hn _ (by simp [evL]))
  obtain ⟨vs,h3,h4⟩:=zgi hE xs (fun u hu => hn u (by simp [evL,hu]))
  exact ⟨v::vs,by grind [evs],zaB h2 h4⟩
theorem zjj (hE:ER B f E):∀ (ps:List (Nat×Operand)),(∀ v ∈ zeE ps f,v.2≠.undef)→∃ vs,evsP E ps=some vs∧vs.length=ps.length∧∀ (i:Nat) (p:Nat×LV),(zeE ps f)[i]? = some p→∃ v,vs[i]? = some (p.1,v)∧VR B p.2 v
 | [],_ => ⟨[],rfl,rfl,fun i p h => by grind [zeE]⟩
 | q::ps,hn => by
  obtain ⟨v,h1,h2⟩:=hE.ev q.2 (hn (q.1,evO q.2 f) (by simp [zeE]))
  obtain ⟨vs,h3,h5,h4⟩:=zjj hE ps (fun u hu => hn u (by simp [zeE,hu]))
  obtain ⟨a,x⟩:=q
  refine ⟨(a,v)::vs,by grind [evsP],by grind,fun i p hp => ?_⟩
  grind [zeE]
end
section
variable {X:Pt}{E:Env}{H:List Seg}{B:BB}{h:LH}{cx:Cx}{f:SlF}{lv:LV}
theorem zeD:∀ (q:List (Nat×Operand)),(zeE q f).length=q.length
 | [] => rfl
 | a::q => by simp [zeE,zeD q]
theorem zgY {place:Nat→Option (Nat×Nat)}:∀ (ps:List (Nat×LV)) (vs:List (Nat×Value)) (cs:List LV) (ds:List Value) (l:List LV),vs.length=ps.length→(∀ (i:Nat) (p:Nat×LV),ps[i]? = some p→∃ v,vs[i]? = some (p.1,v)∧VR B p.2 v) →
  VRL B cs ds→(∀ c ∈ ds,c.oneCell' = true)→zmH place cs ps=some l→∃ m,zjf place ds vs=some m∧VRL B l m∧(∀ c ∈ m,c.oneCell' = true)∧m.length=ds.length
 | [],vs,cs,ds,l,hl,hp,hc,h1,hq => by
  cases vs with
  | nil => simp only [zmH] at hq; cases hq; exact ⟨ds,rfl,hc,h1,rfl⟩
  | cons v vs => grind
 | (i,v)::ps,[],cs,ds,l,hl,hp,hc,h1,hq => by grind
 | (i,v)::ps,u::us,cs,ds,l,hl,hp,hc,h1,hq => by
  obtain ⟨w,hw,hv⟩:=hp 0 (i,v) kY
  simp at hw
  subst hw
  simp only [zmH] at hq
  simp only [zjf]
  cases hpl:place i with
  | none => grind
  | some os =>
   obtain ⟨o,s⟩:=os
   rw [hpl] at hq
   simp only at hq ⊢
   cases hcv:cells v with
   | none => grind
   | some vc =>
    rw [hcv] at hq
    simp only at hq
    obtain ⟨c1,c2⟩:=zb0 hv hcv
    unfold zCi at hq
    cases hb:(Nat.beq vc.length s && Nat.ble (o + s) cs.length) with
    | false => grind
    | true =>
     simp only [hb] at hq
     have e1:w.cells.toList.length=vc.length:=c1.len
     have e2:ds.length=cs.length:=hc.len
     rw [e1,e2,hb]
     simp only
     rw [zC9] at hb
     have b1:=zar.1 hb.1
     have b2:=zaP.1 hb.2
     obtain ⟨m,m1,m2,m3,m4⟩:=zgY ps us _ (ds.take o++(w.cells.toList++ds.drop (o + s))) l (by grind) (fun j p hj => hp (j + 1) p (by grind)) ((hc.take o).app (c1.app (hc.drop (o + s)))) (by
      grind) hq
     grind
theorem zeK {place:Nat→Option (Nat×Nat)}:∀ (ps:List (Nat×LV)) (cs l:List LV),zmH place cs ps=some l→∀ p ∈ ps,p.2≠.undef
 | [],_,_,_,p,hp => by simp at hp
 | (i,v)::ps,cs,l,hq,p,hp => by
  simp only [zmH] at hq
  split at hq
  ·cases hq
  ·split at hq
   ·cases hq
   ·rename_i vc hcv
    split at hq
    ·rcases zDp.1 hp with rfl | hp
     ·intro e; simp only at e; subst e; cases hcv
     ·exact zeK ps _ l hq p hp
    ·cases hq
theorem zB2 {l:List (Nat×Nat×Bool×TypeId)}{z:Value}(hk:(mkTI X.P t).kind = .struct l) (hz:zbr X.P t=some z):∃ pl,zfi X.P t=some (pl,z.cells.toList)∧∀ i,pl[i]? = plcS l i:=by
 obtain ⟨fs,hu,rfl,hkf⟩:=zgO hk
 refine ⟨fs.toList.map fun f => (f.offset,szOf X.P f.type),?_,fun i => ?_⟩
 ·unfold zfi
  rw [hu]
  have:fs.toList.mapM (fun f => (X.P.info? f.type).map fun i => (f.offset,i.size))=some (fs.toList.map fun f => (f.offset,szOf X.P f.type)):=by
   revert hkf
   generalize fs.toList=l
   intro hkf
   induction l with
   | nil => rfl
   | cons g l ih =>
    grind [zbR,szOf]
  grind
 grind [plcS]
theorem zuB {l:Option (List LV)}(h:aggQ l = .ok lv):∃ m,l=some m∧lv = .agg m:=by
 unfold aggQ at h
 grind
theorem zxi (hc:CxOk X.P X.w0 X.base cx) (hE:ER B f E) (hq:(zug cx t).go (zeE ps.toList f) = .ok lv):QuOk X E H B (.build t ps) lv:=by
 unfold zug at hq
 rw [hc.ty] at hq
 have zero:∀ {z:List LV},cells (mkTI X.P t).zero=some z→∃ zv,zbr X.P t=some zv∧VRL B z zv.cells.toList∧(∀ c ∈ zv.cells.toList,c.oneCell' = true)∧(∀ w,(zeroValue t).run X.P w = .ok zv w):=by
  intro z hz
  obtain ⟨_,zv,z1,z2,z3,_⟩:=zck (P:=X.P) (t:=t) B (fun e => by rw [e] at hz; cases hz)
  grind [zb0]
 cases hk:(mkTI X.P t).kind <;> simp only [hk,zaJ] at hq
 case struct l =>
  unfold zpH at hq
  split at hq
  ·rename_i z hz
   obtain ⟨m,hm,rfl⟩:=zuB hq
   obtain ⟨zv,z1,z2,z3,_⟩:=zero hz
   obtain ⟨vs,v1,v2,v3⟩:=zjj hE ps.toList (zeK _ _ _ hm)
   obtain ⟨pl,p1,p2⟩:=zB2 hk z1
   have hfun:(fun i => pl[i]?)=plcS l:=funext p2
   obtain ⟨r,r1,r2,r3,r4⟩:=zgY (place:=plcS l) _ vs z zv.cells.toList m (by rw [v2,zeD]) v3 z2 z3 hm
   exact ⟨.agg r.toArray,by simp only [VR]; grind,zcc p1 v1 (by grind)⟩
  grind
 case array n e =>
  unfold zpH at hq
  split at hq
  ·rename_i z hz
   obtain ⟨m,hm,rfl⟩:=zuB hq
   obtain ⟨zv,z1,z2,z3,z4⟩:=zero hz
   obtain ⟨vs,v1,v2,v3⟩:=zjj hE ps.toList (zeK _ _ _ hm)
   obtain ⟨hu,hke⟩:=ze2 hk
   obtain ⟨r,r1,r2,r3,r4⟩:=zgY (place:=plcA (mkTI X.P e).sz) _ vs z zv.cells.toList m (by rw [v2,zeD]) v3 z2 z3 hm
   refine ⟨.agg r.toArray,by simp only [VR]; grind,zan Z fun dst ty pos after g ρ w hρ => ?_⟩
   have e1:(ps.map fun p => (p.1,ρ p.2))=vs.toArray:=by
    apply zD5
    rw [zEY]
    exact ziu hρ v1
   have hf2:=zlu r1
   have hb:(Instr.build t (ps.map fun p => (p.1,ρ p.2))).run X.P w = .ok (.agg r.toArray) w:=by
    rw [e1]
    unfold Instr.build
    simp only [Sem.run_bind,z4,run_underlying hu,Result.andThen_ok,zbG hke]
    have hf3:Instr.fill (fun i => some (i * (mkTI X.P e).sz,(mkTI X.P e).sz)) zv.cells vs=some r.toArray:=by
     rw [← hf2]; rfl
    simp_all
   grind [execOp,Sem.run_bind,Result.andThen_ok,Sem.run_pure]
  grind
 all_goals cases hq
theorem zyh {ag:Bool}(hc:CxOk X.P X.w0 X.base cx) (hq:fld cx s i=some (o,n,ag)):∃ fs fd,X.P.underlying s=some (.struct fs)∧fs[i]? = some fd∧o=fd.offset∧n=szOf X.P fd.type∧ag=aggB (X.P.underlying fd.type)∧known X.P fd.type=true:=by
 unfold fld at hq
 rw [hc.ty] at hq
 cases hk:(mkTI X.P s).kind <;> simp only [hk] at hq
 case struct l =>
  obtain ⟨fs,hu,rfl,hkf⟩:=zgO hk
  grind
 all_goals cases hq
theorem zoc (hq:addP a d = .ok lv) (ha:VR B a va):∃ b o,va = .pointer (some ⟨b,o,none⟩)∧VR B lv (.pointer (some ⟨b,o + d,none⟩)):=by
 unfold addP at hq
 split at hq
 ·simp only [VR] at ha
  obtain ⟨k,hk,rfl⟩:=ha
  rw [zaV] at hq
  cases hq
  exact ⟨_,_,rfl,by grind [VR]⟩
 ·simp only [VR] at ha
  subst ha
  rw [zaV] at hq
  cases hq
  exact ⟨_,_,rfl,by grind [VR]⟩
 grind
theorem zkF :addP .undef d≠.ok lv:=fun h => by cases h
theorem zmK (hc:CxOk X.P X.w0 X.base cx) (hE:ER B f E) (hq:(zhx cx s i).go (evO x f) = .ok lv):QuOk X E H B (.fieldAddr s x i) lv:=by
 unfold zhx at hq
 split at hq
 ·rename_i off n ag hf
  obtain ⟨fs,fd,hu,hfd,rfl,hn,_,hk⟩:=zyh hc hf
  simp only [zaJ] at hq
  obtain ⟨v,h1,h2⟩:=hE.ev x (fun e => by grind [zkF])
  obtain ⟨b,o,rfl,h3⟩:=zoc hq h2
  refine ⟨_,h3,ze9 ?_ h1 Z⟩
  obtain ⟨inf,hi,_⟩:=zbR hk
  unfold szOf at hn
  rw [hi] at hn
  have hn:n.succ=inf.size:=hn
  simp only [zcb,hu,hfd,hi]
  rw [← hn]
  rfl
 ·cases hq
theorem zwL (hc:CxOk X.P X.w0 X.base cx) (hE:ER B f E) (hq:(ztw cx s i).go (evO x f) = .ok lv):QuOk X E H B (.field s x i) lv:=by
 unfold ztw at hq
 split at hq
 ·rename_i off n ag hf
  obtain ⟨fs,fd,hu,hfd,rfl,rfl,rfl,hk⟩:=zyh hc hf
  simp only [zaJ] at hq
  split at hq
  ·rename_i cs hx
   have hp:=ziX hq
   obtain ⟨v,h1,h2⟩:=hE.ev x (by grind)
   rw [hx] at h2
   simp only [VR] at h2
   obtain ⟨vs,rfl,h3,h4⟩:=h2
   obtain ⟨u,u1,u2⟩:=zfw hk h3 h4 hp
   refine ⟨u,u1,zan Z fun dst ty pos after g ρ w hρ => ?_⟩
   simp_all [execOp,Instr.field,run_underlying,asAgg]
  grind
 ·cases hq
theorem zqO (hE:ER B f E) (hq:extQ (evO x f) i = .ok lv):QuOk X E H B (.extract x i) lv:=by
 unfold extQ at hq
 split at hq
 ·rename_i cs hx
  split at hq
  ·rename_i v hv
   obtain ⟨rfl,hn⟩:=zhL hq
   obtain ⟨u,h1,h2⟩:=hE.ev x (by grind)
   rw [hx] at h2
   simp only [VR] at h2
   obtain ⟨vs,rfl,h3⟩:=h2
   obtain ⟨y,y1,y2⟩:=h3.get hv
   exact ⟨y,y2,Do.extract h1 (by grind)⟩
  grind
 grind
theorem znK (hE:ER B f E) {g:FuncId}{us cs:Array Operand}(hq:evC (Q.bad 202) (fun u => evC (Q.bad 202) (fun c => Q.ok (.fn g u c)) (evL cs.toList f)) (evL us.toList f) = .ok lv):QuOk X E H B (.makeFunc (.func g) us cs) lv:=by
 obtain ⟨d1,hq⟩:=ztz kY hq
 obtain ⟨d2,hq⟩:=ztz kY hq
 cases hq
 obtain ⟨u,u1,u2⟩:=zgi hE us.toList (zdR d1)
 obtain ⟨c,c1,c2⟩:=zgi hE cs.toList (zdR d2)
 exact ⟨_,by simp only [VR]; grind,zjt u1 c1⟩
theorem zeX {v:LV}(h:zjK v=some n) (hv:VR B v u):∃ k,u = .int k (n:Int):=by
 unfold zjK at h
 split at h
 ·grind [VR]
 grind
theorem zms (hc:CxOk X.P X.w0 X.base cx) (hE:ER B f E) {t:Nat}(hq:(zht cx t).go (evO x f) (evO ix f) = .ok lv):QuOk X E H B (.indexAddr t x ix) lv:=by
 unfold zht at hq
 rw [hc.ty] at hq
 cases hk:(mkTI X.P t).kind <;> simp only [hk,zaJ] at hq
 case slice e =>
  obtain ⟨hu,hke⟩:=zbX hk
  unfold idxS at hq
  split at hq
  ·cases hq
  ·rename_i j hj
   obtain ⟨vi,i1,i2⟩:=hE.ev ix (fun e => by rw [e] at hj; cases hj)
   obtain ⟨kk,rfl⟩:=zeX hj i2
   have go:∀ {i o n:Nat},idxP i o n j (mkTI X.P e).sz = .ok lv→j < n∧lv = .ptr i (o + j * (mkTI X.P e).sz):=by
    intro i o n hq
    unfold idxP at hq
    split at hq
    ·simp_all
    grind
   split at hq
   ·rename_i i o n c hx
    obtain ⟨hlt,rfl⟩:=go hq
    obtain ⟨vx,x1,x2⟩:=hE.ev x (by grind)
    rw [hx] at x2; simp only [VR] at x2
    obtain ⟨k,hk1,rfl⟩:=x2
    refine ⟨.pointer (some ⟨k.b,k.off + (o + j * (mkTI X.P e).sz),none⟩),by simp only [VR]; grind,zan Z fun dst ty pos after g ρ w hρ => ?_⟩
    simp [execOp,hρ _ _ x1,hρ _ _ i1,Instr.indexAt,asIntOf,run_underlying hu,hlt,zbG hke,zaO,zD3]
   ·rename_i i o n a hx
    obtain ⟨hlt,rfl⟩:=go hq
    obtain ⟨vx,x1,x2⟩:=hE.ev x (by grind)
    rw [hx] at x2; simp only [VR] at x2
    obtain ⟨k,c,A,hk1,rfl,q1,q2,q3⟩:=x2
    have:=q3.1 kQ
    subst this
    refine ⟨.pointer (some ⟨k.b,k.off + (o + j * (mkTI X.P e).sz),none⟩),by simp only [VR]; grind,zan Z fun dst ty pos after g ρ w hρ => ?_⟩
    simp [execOp,hρ _ _ x1,hρ _ _ i1,Instr.indexAt,asIntOf,run_underlying hu,hlt,zbG hke,zaO,zD3]
   grind
 case array n e =>
  obtain ⟨hu,hke⟩:=ze2 hk
  unfold idxA at hq
  split at hq
  ·cases hq
  ·rename_i j hj
   obtain ⟨vi,i1,i2⟩:=hE.ev ix (fun e => by rw [e] at hj; cases hj)
   obtain ⟨kk,rfl⟩:=zeX hj i2
   split at hq
   ·rename_i hlt
    have hlt:=zbd.1 hlt
    obtain ⟨vx,x1,x2⟩:=hE.ev x (fun e => by grind [zkF])
    obtain ⟨b,o,rfl,h3⟩:=zoc hq x2
    refine ⟨_,h3,zan Z fun dst ty pos after g ρ w hρ => ?_⟩
    simp [execOp,hρ _ _ x1,hρ _ _ i1,Instr.indexAt,Instr.sureAddr,asIntOf,run_underlying hu,hlt,zbG hke,zaO]
   grind
 all_goals cases hq
theorem zwn (hc:CxOk X.P X.w0 X.base cx) (hE:ER B f E) {t:Nat}(hq:(zs6 cx t).go (evO x f) (evO ix f) = .ok lv):QuOk X E H B (.index t x ix) lv:=by
 unfold zs6 at hq
 rw [hc.ty] at hq
 cases hk:(mkTI X.P t).kind <;> simp only [hk,zaJ] at hq
 case str =>
  have hu:=zmq hk
  unfold zyf at hq
  split at hq
  ·cases hq
  ·rename_i j hj
   obtain ⟨vi,i1,i2⟩:=hE.ev ix (fun e => by rw [e] at hj; cases hj)
   obtain ⟨kk,rfl⟩:=zeX hj i2
   split at hq
   ·rename_i n y hx
    split at hq
    ·rename_i hlt
     have hlt:=zbd.1 hlt
     obtain ⟨vx,x1,x2⟩:=hE.ev x (by grind)
     rw [hx] at x2; simp only [VR] at x2
     obtain ⟨l,rfl,rfl,rfl⟩:=x2
     rw [zaV] at hq
     cases hq
     exact ⟨_,by rw [zfJ l j hlt]; simp only [VR]; rfl,zcv j Z hlt hu x1 i1⟩
    grind
   grind
 case array n e =>
  obtain ⟨hu,hke⟩:=ze2 hk
  unfold idxV at hq
  split at hq
  ·cases hq
  ·rename_i j hj
   obtain ⟨vi,i1,i2⟩:=hE.ev ix (fun e => by rw [e] at hj; cases hj)
   obtain ⟨kk,rfl⟩:=zeX hj i2
   split at hq
   ·rename_i cs hx
    split at hq
    ·rename_i hlt
     have hlt:=zbd.1 hlt
     have hp:=ziX hq
     obtain ⟨vx,x1,x2⟩:=hE.ev x (by grind)
     rw [hx] at x2; simp only [VR] at x2
     obtain ⟨vs,rfl,v1,v2⟩:=x2
     rw [zzh hke,← zhe hke] at hp
     obtain ⟨u,u1,u2⟩:=zfw hke v1 v2 hp
     refine ⟨u,u1,zan Z fun dst ty pos after g ρ w hρ => ?_⟩
     have u2:∀ w,(part e vs (j * szOf X.P e)).run X.P w = .ok u w:=u2
     simp_all [zhe,execOp,Instr.index,asIntOf,run_underlying,zbG]
    grind
   grind
 all_goals cases hq
end
variable {G:List (Nat×Obj)}
theorem zla {B:BB}:∀ {l:List LV}{vs:List Value}{y:Nat},numL l=some y→VRL B l vs→∃ m:yB,vs=m.map byt∧zaf m=y
 | [],vs,y,h,hv => by
  simp only [numL] at h; cases h
  simp only [VRL] at hv; subst hv
  exact ⟨[],Z,Z⟩
 | v::l,vs,y,h,hv => by
  simp only [numL] at h
  split at h
  ·rename_i b n hb hn
   cases h
   simp only [VRL] at hv
   obtain ⟨u,vs,rfl,h1,h2⟩:=hv
   obtain ⟨m,rfl,rfl⟩:=zla hn h2
   unfold zCx at hb
   split at hb
   ·rename_i b'
    split at hb
    ·rename_i hlt
     cases hb
     have hlt:=zbd.1 hlt
     simp only [VR] at h1
     subst h1
     refine ⟨UInt8.ofNat b::m,?_,?_⟩
     ·simp only [zDo,byt]
      congr 2
      simp
      omega
     ·simp only [zaf]
      simp_all
    grind
   grind
  grind
theorem OR.readN (hor:OR B k obj lo) (h:readN lo o n=some y) :
  ∃ cs e fr l,obj = .cells cs e fr∧l.length=n∧zaf l=y∧(cs.toList.drop (k.off + o)).take n=l.map byt:=by
 unfold Go.Proofs.YtjmnjkoekabioaaGreatDoor.readN at h
 split at h
 ·rename_i len x
  obtain ⟨cs,e,fr,l',rfl,h3,h4,h5,h6,h7,h8,h9,h10⟩:=hor
  split at h
  ·rename_i hle
   have hle:o + n≤len:=zaP.1 hle
   cases h
   refine ⟨cs,e,fr,(l'.drop o).take n,Z,by grind,by grind [zkT],?_⟩
   rw [List.map_take,List.map_drop,← h10,zdc cs.toList hle rfl]
  grind
 ·split at h
  ·rename_i l hl
   obtain ⟨cs,e,fr,rfl,a1,a2,a3⟩:=hor.read hl
   obtain ⟨m,m1,m2⟩:=zla h a1
   refine ⟨cs,e,fr,m,Z,?_,m2,m1⟩
   have:=zDh List.length m1
   grind
  grind
theorem zqx (h:readN lo o n=some y):zbA lo=true:=by
 cases lo <;> first | rfl | (cases h; done)
section
variable {w0:World}{base:Nat}{H:List Seg}{B:BB}{h:LH}{P:Program}
theorem HR.readN (hr:HR G B h H) (hq:Go.Proofs.YtjmnjkoekabioaaGreatDoor.readN (atB h i) o n=some y) (hk:B[i]? = some k) :
  ∃ l:yB,l.length=n∧zaf l=y∧∀ j u,l[j]? = some u→Cell w0 base H (Addr.add ⟨k.b,k.off + o,none⟩ j) (byt u):=by
 obtain ⟨k',j,obj,h1,h2,h3⟩:=hr.at_ i (zqx hq)
 rw [hk] at h1; cases h1
 obtain ⟨cs,e,fr,l,rfl,a1,a2,a3⟩:=h3.readN hq
 refine ⟨l,a1,a2,fun m u hu => ?_⟩
 rw [zaO]
 refine Cell.own j 0 h2 Z ?_
 have hm:(l.map byt)[m]? = some (byt u):=by grind
 grind
theorem zgV (hr:HR G B h H) {x:LV}{vx:Value}(hq:zd7 h n x=some y) (hl:lenE x=some m) (hn:n≤m) (hx:VR B x vx) :
  ∃ l:yB,l.length=n∧zaf l=y∧(∀ w,Sep w0 base w H→(Builtin.firstCells 1 n vx).run P w = .ok (l.map byt).toArray w) ∧
   ((∃ full,vx=str full∧l=full.take n∧full.length=m)∨(∃ A c,vx = .slice A m c∧(0 < n→∃ a,A=some a∧∀ j u,l[j]? = some u→Cell w0 base H (a.add j) (byt u)))):=by
 have zero:∀ {A:Option Addr}{c:Nat}(w:World),(Builtin.firstCells 1 0 (.slice A m c)).run P w = .ok #[] w:=by
  intro A c w
  cases A <;> simp [Builtin.firstCells,loadCells,loadCellsFrom]
 have some_:∀ {a:Addr}{c:Nat}{l:yB},l.length=n→(∀ j u,l[j]? = some u→Cell w0 base H (a.add j) (byt u))→∀ w,Sep w0 base w H→(Builtin.firstCells 1 n (.slice (some a) m c)).run P w = .ok (l.map byt).toArray w:=by
  intro a c l hl hc w S
  have:=run_loadCells_list (P:=P) w a (l.map byt) (fun j v hv => by
   rw [zEc] at hv
   cases hu:l[j]? with
   | none => grind
   | some u => rw [hu] at hv; cases hv; exact hc j u hu w S)
  simp_all [zD4,Builtin.firstCells,zGm]
 cases x <;> simp only [lenE] at hl <;> try (cases hl; done)
 case str len num =>
  cases hl
  simp only [VR] at hx
  obtain ⟨full,rfl,rfl,rfl⟩:=hx
  have hy:y=zaf (full.take n):=by
   cases n with
   | zero => grind [zd7,zaf]
   | succ n => grind [zd7,zkT]
  refine ⟨full.take n,by grind,hy.symm,fun w S => ?_,.inl ⟨full,Z,Z,Z⟩⟩
  simp only [str,Builtin.firstCells,Sem.run_pure]
  congr 1
  apply zD5
  simp [zEC]
  rfl
 case nils =>
  cases hl
  simp only [VR] at hx
  subst hx
  have:n=0:=by omega
  subst this
  simp only [zd7] at hq; cases hq
  exact ⟨[],Z,Z,fun w S => zero w,.inr ⟨_,_,Z,fun h => by omega⟩⟩
 case sle =>
  cases hl
  simp only [VR] at hx
  obtain ⟨A,c,rfl⟩:=hx
  have:n=0:=by omega
  subst this
  simp only [zd7] at hq; cases hq
  exact ⟨[],Z,Z,fun w S => zero w,.inr ⟨_,_,Z,fun h => by omega⟩⟩
 case sl i o len c =>
  cases hl
  simp only [VR] at hx
  obtain ⟨k,hk,rfl⟩:=hx
  cases n with
  | zero => simp only [zd7] at hq; cases hq; exact ⟨[],rfl,rfl,fun w S => zero w,.inr ⟨_,_,rfl,fun h => by omega⟩⟩
  | succ n =>
   simp only [zd7] at hq
   obtain ⟨l,l1,l2,l3⟩:=hr.readN (w0:=w0) (base:=base) hq hk
   grind
 case slo i o len ad =>
  cases hl
  simp only [VR] at hx
  obtain ⟨k,c,A,hk,rfl,q1,q2,q3⟩:=hx
  cases n with
  | zero => simp only [zd7] at hq; cases hq; exact ⟨[],rfl,rfl,fun w S => zero w,.inr ⟨_,_,rfl,fun h => by omega⟩⟩
  | succ n =>
   simp only [zd7] at hq
   have:=q3.1 kQ
   subst this
   obtain ⟨l,l1,l2,l3⟩:=hr.readN (w0:=w0) (base:=base) hq hk
   grind
theorem zfD (hr:HR G B h H) {x:LV}{vx:Value}(hq:zfE h s n x=some l) (hl:lenE x=some m) (hn:n≤m) (hx:VR B x vx) :
  ∃ vs:List Value,VRL B l vs∧(∀ c ∈ vs,c.oneCell' = true)∧∀ w,Sep w0 base w H→(Builtin.firstCells s n vx).run P w = .ok vs.toArray w:=by
 have zero:∀ {A:Option Addr}{c:Nat}(w:World),(Builtin.firstCells s 0 (.slice A m c)).run P w = .ok #[] w:=by
  intro A c w
  cases A <;> simp [Builtin.firstCells,loadCells,loadCellsFrom]
 have nil:VRL B [] []:=VRL.nil_
 cases n with
 | zero =>
  simp only [zfE] at hq
  cases hq
  refine ⟨[],nil,by simp,fun w S => ?_⟩
  cases x <;> simp only [lenE] at hl <;> try (cases hl; done)
  case str => simp only [VR] at hx; obtain ⟨full,rfl,_⟩:=hx; simp [str,Builtin.firstCells]
  case nils => grind [VR]
  case sle => cases hl; simp only [VR] at hx; grind
  case sl => cases hl; simp only [VR] at hx; grind
  case slo => cases hl; simp only [VR] at hx; grind
 | succ n =>
  simp only [zfE] at hq
  split at hq
  ·rename_i len y
   cases hq
   simp only [lenE] at hl; cases hl
   simp only [VR] at hx
   obtain ⟨full,rfl,rfl,rfl⟩:=hx
   have e:zdq (n + 1) (zaf full)=zdq ((full.take (n + 1)).length) (zaf (full.take (n + 1))):=by
    rw [zdu]
    have h2:(full.take (n + 1)).length=n + 1:=by grind
    rw [h2]
    have:∀ (n x:Nat),zdq n x=zdq n (x % 256 ^ n):=by
     intro n
     induction n with
     | zero => intro x; rfl
     | succ n ih =>
      intro x
      simp only [zdq]
      have a1:Nat.mod (x % 256 ^ (n + 1)) 256=Nat.mod x 256:=by
       show x % 256 ^ (n + 1) % 256=x % 256
       rw [zE2,Nat.mod_mul_left_mod]
      have a2:Nat.div (x % 256 ^ (n + 1)) 256=(Nat.div x 256) % 256 ^ n:=by
       show x % 256 ^ (n + 1) / 256=x / 256 % 256 ^ n
       rw [zE2,zE1,zFX]
      grind
    grind
   rw [e]
   refine ⟨(full.take (n + 1)).map byt,VRL.bytes _,fun c hc => ?_,fun w S => ?_⟩
   ·obtain ⟨u,_,rfl⟩:=zDC.1 hc; rfl
   ·simp only [str,Builtin.firstCells,Sem.run_pure]
    congr 1
    apply zD5
    simp [zEC]
    rfl
  ·rename_i i o len c
   simp only [VR] at hx
   obtain ⟨k,hk,rfl⟩:=hx
   obtain ⟨vs,v1,v2,v3,v4⟩:=hr.read (w0:=w0) (base:=base) hq hk
   refine ⟨vs,v1,v3,fun w S => ?_⟩
   have:=run_loadCells_list (P:=P) w _ vs (fun j v hv => v4 j v hv w S)
   rw [v2] at this
   exact this
  ·rename_i i o len ad
   simp only [lenE] at hl; cases hl
   simp only [VR] at hx
   obtain ⟨k,c,A,hk,rfl,q1,q2,q3⟩:=hx
   have:=q3.1 kQ
   subst this
   obtain ⟨vs,v1,v2,v3,v4⟩:=hr.read (w0:=w0) (base:=base) hq hk
   refine ⟨vs,v1,v3,fun w S => ?_⟩
   have:=run_loadCells_list (P:=P) w _ vs (fun j v hv => v4 j v hv w S)
   rw [v2] at this
   exact this
  grind
end
variable {G:List (Nat×Obj)}
section
variable {X:Pt}{E:Env}{H:List Seg}{B:BB}{h:LH}{cx:Cx}{f:SlF}{lv:LV}
theorem zde (hE:ER B f E) {o:Option Operand}{v:Nat}(hq:zfe d (evM o f)=some v):za8 E o d v:=by
 cases o with
 | none => simp only [evM,zfe] at hq; cases hq; rfl
 | some x =>
  simp only [evM,zfe] at hq
  obtain ⟨u,h1,h2⟩:=hE.ev x (fun e => by rw [e] at hq; cases hq)
  obtain ⟨k,rfl⟩:=zeX hq h2
  exact ⟨k,_,h1,rfl⟩
theorem zo2 {b:Bool}{v:LV}(hq:okB b n v = .ok lv):b=true∧v=lv:=by
 unfold okB at hq
 grind
theorem zrS (i o sz l j m:Nat):slE i o sz l j m = .sl i (if m=l then o else o + l * sz) (j - l) (m - l):=by
 unfold slE offE
 simp only [zaV]
 cases hb:Nat.beq m l with
 | true => simp_all
 | false => rw [zDb (fun e => by simp_all)]; rfl
theorem zyN (i o sz l j a:Nat):sloE i o sz l j a = .slo i (o + l * sz) (j - l) (sloA l o a):=by
 grind [sloE,zaV]
theorem zkX (h:known X.P e=true):za5 X.P e (mkTI X.P e).sz=true:=by
 obtain ⟨i,h1,h2,_⟩:=zbR h
 unfold za5; simp_all
theorem znR (hor:OR B k obj lo) (h0:0 < sz) (hs:sz=szB lo):k.sz=sz∧k.off + zgg lo≤k.size:=by
 cases lo with
 | rows s len t => obtain ⟨cs,e,_,h2,h3,h4,h5,_⟩:=hor; exact ⟨by rw [h3,hs]; rfl,h5⟩
 | bytes len x => obtain ⟨cs,e,fr,l,_,h3,h4,h5,_⟩:=hor; exact ⟨by rw [h3,hs]; rfl,h5⟩
 | _ => grind [szB]
theorem znO (h:szB lo≠0):zbA lo=true:=by
 cases lo <;> first | rfl | exact absurd rfl h
theorem zvw (hc:CxOk X.P X.w0 X.base cx) (hr:HR G B h H) (hE:ER B f E) {lo hi mx:Option Operand}(hq:(zrR cx t).go (evO x f) (evM lo f) (evM hi f) (evM mx f) h = .ok lv):QuOk X E H B (.slice t x lo hi mx) lv:=by
 unfold zrR at hq
 rw [hc.ty] at hq
 cases hk:(mkTI X.P t).kind <;> simp only [hk,zaJ] at hq
 case str =>
  have hu:=zmq hk
  split at hq
  ·rename_i l hl
   have b1:=zde hE hl
   unfold zyl at hq
   split at hq
   ·rename_i n y hx hm
    have hmx:mx=none:=by cases mx with
     | none => rfl
     | some z => cases hm
    subst hmx
    split at hq
    ·rename_i j hj
     have b2:=zde hE hj
     unfold cutS at hq
     split at hq
     ·rename_i hb
      rw [zC9] at hb
      have h1:=zaP.1 hb.1
      have h2:=zaP.1 hb.2
      simp only [zaV] at hq
      cases hq
      obtain ⟨vx,x1,x2⟩:=hE.ev x (by grind)
      rw [hx] at x2; simp only [VR] at x2
      obtain ⟨s,rfl,rfl,rfl⟩:=x2
      refine ⟨str (subl s l j),?_,zcZ l j b1 b2 h1 h2 hu x1⟩
      simp only [VR]
      exact ⟨_,Z,zal h2,by rw [zkT]; rfl⟩
     grind
    grind
   grind
  grind
 case slice e =>
  obtain ⟨hu,hke⟩:=zbX hk
  have hs:=zkX hke
  split at hq
  ·rename_i l hl
   have b1:=zde hE hl
   unfold zCp at hq
   rw [hc.ty] at hq
   split at hq
   ·rename_i hx
    split at hq
    ·rename_i hm hh
     cases hq
     have hmx:mx=none:=by cases mx with
      | none => rfl
      | some z => cases hm
     subst hmx
     obtain ⟨vx,x1,x2⟩:=hE.ev x (by grind)
     rw [hx] at x2; simp only [VR] at x2; subst x2
     have b2:=zde hE hh
     refine ⟨.slice none 0 0,by grind [VR],zaq Z fun dst ty pos after g ρ w hρ S => ⟨_,w,H,?_,S,Z,Z⟩⟩
     have:=zdL (d:=dst) (ty:=ty) (pos:=pos) (after:=after) (g:=g) b1 b2 (zfF (n:=0)) kY (zDe _) (zDe _) (zDe _) hu hs x1 ρ w hρ
     grind
    grind
   ·rename_i i o n c hx
    split at hq
    ·rename_i m j hm hj hf
     obtain ⟨hb,rfl⟩:=zo2 hq
     rw [zC9,zC9] at hb
     have h1:=zaP.1 hb.1
     have h2:=zaP.1 hb.2.1
     have h3:=zaP.1 hb.2.2
     obtain ⟨vx,x1,x2⟩:=hE.ev x (by grind)
     rw [hx] at x2; simp only [VR] at x2
     obtain ⟨k,hk1,rfl⟩:=x2
     have b2:=zde hE hj
     have b3:=zde hE hm
     have hmx:mx.isSome=true→hi.isSome=true:=by
      intro hs
      cases mx with
      | none => cases hs
      | some z => cases hi with
       | some y => rfl
       | none => grind [evM]
     refine ⟨.slice (if m=l then some ⟨k.b,k.off + o,none⟩ else (some (⟨k.b,k.off + o,none⟩:Addr)).map (·.add (l * (mkTI X.P e).sz))) (j - l) (m - l),?_,zaq Z fun dst ty pos after g ρ w hρ S => ⟨_,w,H,zdL (d:=dst) b1 b2 b3 hmx h1 h2 h3 hu hs x1 ρ w hρ,S,Z,Z⟩⟩
     grind [zrS,VR,zaO]
    grind
   ·rename_i i o n ad hx
    split at hq
    ·rename_i j hj
     have b2:=zde hE hj
     obtain ⟨vx,x1,x2⟩:=hE.ev x (by grind)
     rw [hx] at x2; simp only [VR] at x2
     obtain ⟨k,c,A,hk1,rfl,q1,q2,q3,q4,q5⟩:=x2
     unfold zym at hq
     split at hq
     ·rename_i hm
      have hmx:mx=none:=by cases mx with
       | none => rfl
       | some z => cases hm
      subst hmx
      obtain ⟨hb,rfl⟩:=zo2 hq
      rw [zC9,zC9,zC9,zDw] at hb
      obtain ⟨g0,g1,g2,g3⟩:=hb
      have g0:=zbd.1 g0
      have g1:=zar.1 g1
      have g2:=zaP.1 g2
      obtain ⟨k',jj,obj,a1,a2,a3⟩:=hr.at_ i (znO kQ)
      rw [hk1] at a1; cases a1
      obtain ⟨c1,c2⟩:=znR a3 g0 g1
      have hjc:j≤c:=by
       rcases g3 with g3 | g3
       ·grind [zaP]
       ·have g3:o + j * (mkTI X.P e).sz≤zgg (atB h i):=zaP.1 g3
        rw [c1] at q2
        have:j * (mkTI X.P e).sz≤c * (mkTI X.P e).sz:=by omega
        exact zFl this g0
      refine ⟨.slice (if c=l then some A else (some A).map (·.add (l * (mkTI X.P e).sz))) (j - l) (c - l),?_,zaq Z fun dst ty pos after g ρ w hρ S => ⟨_,w,H,zdL (d:=dst) b1 b2 zfF kY g2 hjc (zDe _) hu hs x1 ρ w hρ,S,Z,Z⟩⟩
      rw [zyN]
      simp only [VR]
      refine ⟨k,c - l,(if c=l then A else A.add (l * (mkTI X.P e).sz)),hk1,?_,by omega,?_,?_,?_,by omega⟩
      ·split <;> rfl
      ·rw [c1,Nat.sub_mul]
       have:l * (mkTI X.P e).sz≤c * (mkTI X.P e).sz:=zDD _ kQ
       grind
      ·intro hlt
       rw [zDb kQ,q3 kQ,zaO]
       grind
      ·intro h0
       rw [zDi kQ]
       cases l with
       | zero => exact q4 kQ
       | succ l => exact q3 kQ
     ·rename_i vm hm
      split at hq
      ·rename_i m vh hm2 hh2
       obtain ⟨hb,rfl⟩:=zo2 hq
       rw [zC9,zC9,zC9] at hb
       obtain ⟨g0,g1,g2,g3⟩:=hb
       have g0:=zbd.1 g0
       have g1:=zaP.1 g1
       have g2:=zaP.1 g2
       have g3:=zaP.1 g3
       have b3:za8 E mx c m:=zde hE (by rw [hm]; exact hm2)
       have hmx:mx.isSome=true→hi.isSome=true:=by
        intro _
        cases hi with
        | some y => rfl
        | none => cases hh2
       have hA:=q3 kQ
       subst hA
       refine ⟨.slice (if m=l then some ⟨k.b,k.off + o,none⟩ else (some (⟨k.b,k.off + o,none⟩:Addr)).map (·.add (l * (mkTI X.P e).sz))) (j - l) (m - l),?_,zaq Z fun dst ty pos after g ρ w hρ S => ⟨_,w,H,zdL (d:=dst) b1 b2 b3 hmx g1 g2 kQ hu hs x1 ρ w hρ,S,Z,Z⟩⟩
       grind [zrS,VR,zaO]
      grind
    grind
   grind
  grind
 case array n e =>
  obtain ⟨hu,hke⟩:=ze2 hk
  split at hq
  ·rename_i l hl
   have b1:=zde hE hl
   unfold cutA at hq
   rw [hc.ty] at hq
   split at hq
   ·rename_i i o j hx hm hj
    have hmx:mx=none:=by cases mx with
     | none => rfl
     | some z => cases hm
    subst hmx
    obtain ⟨hb,rfl⟩:=zo2 hq
    rw [zC9] at hb
    have h1:=zaP.1 hb.1
    have h2:=zaP.1 hb.2
    obtain ⟨vx,x1,x2⟩:=hE.ev x (by grind)
    rw [hx] at x2; simp only [VR] at x2
    obtain ⟨k,hk1,rfl⟩:=x2
    have b2:=zde hE hj
    refine ⟨.slice (some (if n=l then ⟨k.b,k.off + o,none⟩ else (⟨k.b,k.off + o,none⟩:Addr).add (l * (mkTI X.P e).sz))) (j - l) (n - l),?_,zan Z fun dst ty pos after g ρ w hρ => ?_⟩
    ·grind [zrS,VR,zaO]
    ·have:=zkC (P:=X.P) hρ false b1 b2 (zfF (n:=n)) kY h1 h2 (zDe _) w
     simp_all [zE8,execOp,Instr.sliceAt,Instr.sureAddr,run_underlying,zbG]
   grind
  grind
 all_goals cases hq
theorem zt8 {s:TypeId}(hc:CxOk X.P X.w0 X.base cx) (hb:zt9 cx s=true):∃ e,X.P.underlying s=some (.slice e)∧X.P.underlying e=some (.int .u8):=by
 unfold zt9 at hb
 rw [hc.ty] at hb
 cases hk:(mkTI X.P s).kind <;> simp only [hk] at hb
 case slice e =>
  obtain ⟨hu,_⟩:=zbX hk
  unfold zd6 at hb
  rw [hc.ty] at hb
  cases hk2:(mkTI X.P e).kind <;> simp only [hk2] at hb
  case int kk =>
   cases kk <;> simp only at hb <;> try (cases hb; done)
   grind [zqD]
  all_goals cases hb
 all_goals cases hb
theorem zAu (hc:CxOk X.P X.w0 X.base cx) (hr:HR G B h H) (hE:ER B f E) {s d:TypeId}(hq:(zAv cx s d).go (evO x f) h = .ok lv):QuOk X E H B (.convert s d x) lv:=by
 unfold zAv at hq
 rw [hc.ty] at hq
 cases hs:isK (mkTI X.P s) with
 | false => simp_all
 | true =>
  simp only [hs] at hq
  obtain ⟨sd,hsd⟩:=znQ hs
  cases hk:(mkTI X.P d).kind <;> simp only [hk,zaJ] at hq
  case int k =>
   unfold cvI at hq
   split at hq
   ·rename_i k2 n hx
    cases hq
    obtain ⟨vx,x1,x2⟩:=hE.ev x (by grind)
    rw [hx] at x2; simp only [VR] at x2; subst x2
    exact ⟨.int k (k.wrap n),by grind [zhN,zcU],zda hsd (zqD hk) x1 Z⟩
   grind
  case flt =>
   have hu:=k_flt hk
   unfold cvF at hq
   split at hq
   ·rename_i k2 n hx
    rw [zaV] at hq
    cases hq
    obtain ⟨vx,x1,x2⟩:=hE.ev x (by grind)
    rw [hx] at x2; simp only [VR] at x2; subst x2
    exact ⟨.float .f64 (FloatKind.f64.nearest n),by grind [VR],zan Z fun dst ty pos after g ρ w hρ => by simp [execOp,hρ _ _ x1,convert,run_underlying hsd,run_underlying hu,Conv.intToFloat]⟩
   grind
  case str =>
   have hu:=zmq hk
   unfold cvS at hq
   split at hq
   ·rename_i l n hx
    cases hq
    obtain ⟨vx,x1,x2⟩:=hE.ev x (by grind)
    rw [hx] at x2
    have x3:=x2
    simp only [VR] at x2
    obtain ⟨s',rfl,_⟩:=x2
    exact ⟨_,x3,zan Z fun dst ty pos after g ρ w hρ => by simp_all [str,execOp,convert,run_underlying]⟩
   ·rename_i hne
    split at hq
    ·rename_i hb
     obtain ⟨e,hse,hee⟩:=zt8 hc hb
     unfold cvB at hq
     split at hq
     ·rename_i n hn
      split at hq
      ·rename_i y hy
       rw [zaV] at hq
       cases hq
       obtain ⟨vx,x1,x2⟩:=hE.ev x (fun e => by rw [e] at hn; cases hn)
       obtain ⟨l,l1,l2,_,l4⟩:=zgV (w0:=X.w0) (base:=X.base) (P:=X.P) hr hy hn (zDe _) x2
       rcases l4 with ⟨full,rfl,_⟩ | ⟨A,c,rfl,l4⟩
       ·exfalso
        cases hxe:evO x f <;> rw [hxe] at x2 hn <;> simp only [VR,lenE] at x2 hn <;> try (cases hn; done)
        ·grind
        ·cases x2
        ·obtain ⟨_,_,x2⟩:=x2; cases x2
        ·obtain ⟨_,_,x2⟩:=x2; cases x2
        ·obtain ⟨_,_,_,_,x2,_⟩:=x2; cases x2
       ·refine ⟨str l,by simp only [VR]; grind,zaq Z fun dst ty pos after g ρ w hρ S => ⟨_,w,H,?_,S,Z,Z⟩⟩
        have:(convert s d (.slice A n c)).run X.P w = .ok (str l) w:=by
         cases A with
         | none =>
          have:n=0:=by
           grind
          subst this
          have:l=[]:=zDk l1
          subst this
          simp [convert,run_underlying hse,run_underlying hu,run_underlying hee,Conv.bytesToString,str]
          rfl
         | some a =>
          subst l1
          refine run_convert_bytes_back w s d e a c l hse hee hu fun j hj => ?_
          obtain ⟨a',ha,hcell⟩:=l4 kQ
          cases ha
          exact hcell j _ (zDJ hj) w S
        simp_all [execOp]
      grind
     grind
    grind
  all_goals cases hq
theorem zyy {z:LV}(hq:zF z = .ok lv):z≠.undef∧lv = .tup [z,.bool false]:=by
 unfold zF at hq
 split at hq
 ·rename_i v hv
  obtain ⟨rfl,hn⟩:=zhL hv
  grind
 grind
theorem zut (hc:CxOk X.P X.w0 X.base cx) (hE:ER B f E) {a xt:TypeId}(hq:(zn5 cx a ok).go (evO x f) = .ok lv):QuOk X E H B (.typeAssert x xt a ok) lv:=by
 unfold zn5 at hq
 rw [hc.ty] at hq
 have key:(mkTI X.P a).kind≠.other→(∀ b,(mkTI X.P a).kind≠.iface b)→asV a (mkTI X.P a).zero ok (evO x f) = .ok lv→QuOk X E H B (.typeAssert x xt a ok) lv:=by
  clear hq
  intro h1 h2 hq
  obtain ⟨d,hd⟩:=zlo h1
  have hnd:∀ ms,d≠.interface ms:=by
   intro ms e
   simp_all [zf4,zc6]
  have zero:∀ {lv},zF (mkTI X.P a).zero = .ok lv→∃ z,(∀ w,(zeroValue a).run X.P w = .ok z w)∧VR B lv (.tuple #[z,.bool false]):=by
   intro lv hz
   obtain ⟨hn,rfl⟩:=zyy hz
   obtain ⟨_,z,z1,z2,z3,_⟩:=zck B hn
   exact ⟨z,z1,by simp only [VR]; exact ⟨_,Z,zaB z3 (zaB (zby rfl) VRL.nil_)⟩⟩
  obtain ⟨vx,x1,x2⟩:=hE.ev x (fun e => by rw [e] at hq; cases ok <;> cases hq)
  unfold asV at hq
  split at hq
  ·rename_i t v hx
   rw [hx] at x2; simp only [VR] at x2
   obtain ⟨u,rfl,x3⟩:=x2
   split at hq
   ·rename_i ht
    have ht:=zar.1 ht
    subst ht
    cases hq
    refine ⟨.tuple #[u,.bool true],by simp only [VR]; exact ⟨_,Z,zaB x3 (zaB (zby rfl) VRL.nil_)⟩,zan Z fun dst ty pos after g ρ w hρ => ?_⟩
    cases d <;> first | exact absurd rfl (hnd _) | simp_all [execOp,Instr.typeAssert,run_underlying]
   ·rename_i ht
    have hne:t≠a:=fun e => by simp_all
    obtain ⟨z,z1,z2⟩:=zero hq
    refine ⟨_,z2,zan Z fun dst ty pos after g ρ w hρ => ?_⟩
    cases d <;> first | exact absurd rfl (hnd _) | simp_all [execOp,Instr.typeAssert,run_underlying]
  ·rename_i t v hx
   rw [hx] at x2; simp only [VR] at x2
   obtain ⟨u,rfl,x3⟩:=x2
   split at hq
   ·rename_i ht
    have ht:=zar.1 ht
    subst ht
    cases hq
    refine ⟨u,x3,zan Z fun dst ty pos after g ρ w hρ => ?_⟩
    cases d <;> first | exact absurd rfl (hnd _) | simp_all [execOp,Instr.typeAssert,run_underlying]
   grind
  ·rename_i hx
   rw [hx] at x2; simp only [VR] at x2; subst x2
   obtain ⟨z,z1,z2⟩:=zero hq
   refine ⟨_,z2,zan Z fun dst ty pos after g ρ w hρ => ?_⟩
   cases d <;> first | exact absurd rfl (hnd _) | simp_all [execOp,Instr.typeAssert,run_underlying]
  grind
 cases hk:(mkTI X.P a).kind <;> simp only [hk] at hq
 case iface b =>
  simp only [zaJ] at hq
  unfold asI at hq
  split at hq
  ·rename_i hx
   obtain ⟨hn,rfl⟩:=zyy hq
   obtain ⟨_,z,z1,z2,z3,_⟩:=zck B hn
   obtain ⟨vx,x1,x2⟩:=hE.ev x (by grind)
   rw [hx] at x2; simp only [VR] at x2; subst x2
   obtain ⟨d,hd⟩:=zlo (P:=X.P) (t:=a) (by grind)
   refine ⟨.tuple #[z,.bool false],by simp only [VR]; exact ⟨_,Z,zaB z3 (zaB (zby rfl) VRL.nil_)⟩,zan Z fun dst ty pos after g ρ w hρ => ?_⟩
   cases d <;> simp [execOp,hρ _ _ x1,Instr.typeAssert,run_underlying hd,z1]
  grind
 case other => cases hq
 all_goals simp_all
end
variable {G:List (Nat×Obj)}
section
variable {X:Pt}{E:Env}{H:List Seg}{B:BB}{h:LH}{cx:Cx}{f:SlF}{lv:LV}
theorem zga {b:Builtin}{v:Value}(hx:evs E xs.toList=some vs)
  (hr:∀ w ty consts,Sep X.w0 X.base w H→(builtin b ts ty consts vs.toArray).run X.P w = .ok (.value v) w):Does X E H (.call ⟨.builtin b,xs,ts⟩) (Is v H) :=
 zaq rfl fun dst ty pos after g ρ w hρ S => ⟨v,w,H,by
  grind [execOp,resolve,zcp,Sem.run_bind,Sem.run_pure,Result.andThen_ok,invoke],S,rfl,rfl⟩
theorem zty {xs:List Operand}{v:LV}(h:evL xs f=[v]):∃ x,xs=[x]∧evO x f=v:=by
 cases xs with
 | nil => grind [evL]
 | cons x xs => cases xs with
  | nil => simp [evL] at h; grind
  | cons y xs => grind [evL]
theorem zzg {n:Option Nat}(hq:numE n = .ok lv):∃ m,n=some m∧lv = .int .i64 (.ofNat m):=by
 unfold numE at hq
 split at hq
 ·unfold goN at hq; simp_all
 grind
theorem MRL.len:∀ {l:List (LV×LV)}{m:List MapEntry},MRL B l m→m.length=l.length
 | [],m,h => by grind [MRL]
 | a::l,m,h => by simp only [MRL] at h; obtain ⟨e,m',rfl,_,_,h⟩:=h; simp [MRL.len h]
theorem zpd {c:Nat}{bs:List Nat}(h:lo=LO.map c bs es):zbA lo=true:=by subst h; rfl
theorem HR.map (hr:HR G B h H) {clock:Nat}{bs:List Nat}(hi:atB h i=LO.map clock bs es) (hk:B[i]? = some k) :
  ∃ (j:Nat) (ents:Array MapEntry),H[j]? = some [(k.b,.map ents clock)]∧ents.toList.map (·.born)=bs∧MRL B es ents.toList:=by
 obtain ⟨k',j,obj,h1,h2,h3⟩:=hr.at_ i (zpd hi)
 rw [hk] at h1; cases h1
 rw [hi] at h3
 obtain ⟨ents,rfl,h4,h5⟩:=h3
 grind
theorem za0 {r:Nat}{ents:Array MapEntry}{clock:Nat}(hb:w.heap[r]? = some (.map ents clock)):(getObj r).run P w = .ok (.map ents clock) w:=by
 grind [getObj,Sem.run]
theorem zB1 (hc:CxOk X.P X.w0 X.base cx) (hr:HR G B h H) (hE:ER B f E) {rest:List TypeId}(hts:ts.toList=t::rest) {x:LV}(hxs:evL xs.toList f=[x]) (hd:x≠.undef)
  (hq:numE ((lenB cx t).go x h) = .ok lv):QuOk X E H B (.call ⟨.builtin .len,xs,ts⟩) lv:=by
 obtain ⟨n,hn,rfl⟩:=zzg hq
 obtain ⟨o,ho,hox⟩:=zty hxs
 obtain ⟨vx,x1,x2⟩:=hE.ev o (by grind)
 rw [hox] at x2
 have hev:evs E xs.toList=some [vx]:=by grind [evs]
 have ht0:ts[0]? = some t:=by rw [← zDE,hts]; rfl
 refine ⟨vV (.ofNat n),zcU,zga hev fun w ty consts S => ?_⟩
 have key:(Builtin.len_ ts ty [vx].toArray).run X.P w = .ok (goInt n) w:=by
  unfold lenB at hn
  rw [hc.ty] at hn
  cases hk:(mkTI X.P t).kind <;> simp only [hk,zaJ] at hn
  case str =>
   unfold zx9 at hn
   split at hn
   ·cases hn
    simp only [VR] at x2
    obtain ⟨l,rfl,rfl,_⟩:=x2
    simp_all [Builtin.len_,run_underlying,zmq,str,zba]
   grind
  case slice e =>
   have hu:=(zbX hk).1
   unfold zeH at hn
   split at hn <;> cases hn <;> simp only [VR] at x2
   ·simp_all [Builtin.len_,run_underlying]
   ·obtain ⟨A,c,rfl⟩:=x2; simp_all [Builtin.len_,run_underlying]
   ·obtain ⟨k,_,rfl⟩:=x2; simp_all [Builtin.len_,run_underlying]
   ·obtain ⟨k,c,A,_,rfl,_⟩:=x2; simp_all [Builtin.len_,run_underlying]
  case array m e =>
   cases hn
   have hu:=(ze2 hk).1
   simp_all [Builtin.len_,run_underlying]
  case ptr a =>
   obtain ⟨hu,hka⟩:=zzN hk
   unfold arrN at hn
   rw [hc.ty] at hn
   cases hk2:(mkTI X.P a).kind <;> simp only [hk2] at hn
   case array m e =>
    cases hn
    have hu2:=(ze2 hk2).1
    simp_all [Builtin.len_,run_underlying]
   all_goals cases hn
  case map kt e =>
   have hu:=(zjN hk).1
   unfold zya at hn
   split at hn
   ·cases hn; simp_all [VR,Builtin.len_,run_underlying]
   ·rename_i i
    split at hn
    ·rename_i clock bs es hes
     cases hn
     simp only [VR] at x2
     obtain ⟨k,hk1,rfl⟩:=x2
     obtain ⟨j,ents,a1,_,a2⟩:=hr.map hes hk1
     have hb:=(S.at_ a1 (j:=0) rfl).1
     have hsz:ents.size=es.length:=by simpa using a2.len
     simp [Builtin.len_,ht0,run_underlying hu,za0 hb,hsz]
    grind
   grind
  all_goals cases hn
 simp only [builtin,Sem.run_bind,key,Result.andThen_ok,Sem.run_pure]
 rfl
theorem zCv (hc:CxOk X.P X.w0 X.base cx) (hE:ER B f E) {rest:List TypeId}(hts:ts.toList=t::rest) (hk:(mkTI X.P t).kind = .slice e) {x:LV}(hxs:evL xs.toList f=[x])
  (hq:capQ x = .ok lv):QuOk X E H B (.call ⟨.builtin .cap,xs,ts⟩) lv:=by
 obtain ⟨o,ho,hox⟩:=zty hxs
 obtain ⟨vx,x1,x2⟩:=hE.ev o (fun e => by rw [hox] at e; rw [e] at hq; cases hq)
 rw [hox] at x2
 have hev:evs E xs.toList=some [vx]:=by grind [evs]
 have ht0:ts[0]? = some t:=by rw [← zDE,hts]; rfl
 have hu:=(zbX hk).1
 unfold capQ at hq
 split at hq
 ·unfold goN at hq; rw [zaV] at hq; cases hq
  simp only [VR] at x2
  obtain ⟨k,_,rfl⟩:=x2
  exact ⟨_,zcU,zga hev fun w ty consts S => by simp_all [builtin,Builtin.cap_,run_underlying,goInt]⟩
 ·unfold goN at hq; rw [zaV] at hq; cases hq
  simp only [VR] at x2
  subst x2
  exact ⟨_,zcU,zga hev fun w ty consts S => by simp_all [builtin,Builtin.cap_,run_underlying,goInt]⟩
 grind
theorem zsG (mx:Bool):∀ (l:List LV) (a r:LV) (va:Value) (vs:List Value),minE mx a l=some r→VR B a va→VRL B l vs→∃ vr,VR B r vr∧∀ (P:Program) w,(vs.foldlM (if mx then Builtin.max2 else Builtin.min2) va).run P w = .ok vr w
 | [],a,r,va,vs,hq,ha,hl => by
  simp only [minE] at hq; cases hq
  simp only [VRL] at hl; simp_all
 | b::l,a,r,va,vs,hq,ha,hl => by
  simp only [minE] at hq
  simp only [VRL] at hl
  obtain ⟨vb,vs,rfl,hb,hl⟩:=hl
  split at hq
  ·rename_i c hcc
   unfold min2 at hcc
   split at hcc
   ·rename_i k x k' y
    simp only [VR] at ha hb
    subst ha; subst hb
    have hc:c = .int k (match (match mx with | true => ltI x y | false => ltI y x) with | true => y | false => x):=by
     grind
    obtain ⟨vr,r1,r2⟩:=zsG mx l c r _ vs hq (by rw [hc]; exact zcU) hl
    refine ⟨vr,r1,fun P w => ?_⟩
    simp only [List.foldlM_cons,Sem.run_bind]
    have:((if mx=true then Builtin.max2 else Builtin.min2) (.int k x) (.int k' y)).run P w = .ok (.int k (match (match mx with | true => ltI x y | false => ltI y x) with | true => y | false => x)) w:=by
     cases mx with
     | true =>
      simp only [zEm,Builtin.max2,Sem.run_pure,zhl]
      grind
     | false =>
      simp only [zDy,zDU,Builtin.min2,Sem.run_pure,zhl]
      grind
    simp_all
   grind
  grind
theorem zuk (hE:ER B f E) {mx:Bool}(hd:defd (evL xs.toList f)=true) (hq:zxm mx (evL xs.toList f) = .ok lv):QuOk X E H B (.call ⟨.builtin (match mx with | true => .max | false => .min),xs,ts⟩) lv:=by
 obtain ⟨vs,v1,v2⟩:=zgi hE xs.toList (zdR hd)
 unfold zxm at hq
 split at hq
 ·rename_i a l hl
  have hq:=ziX hq
  rw [hl] at v2
  simp only [VRL] at v2
  obtain ⟨va,us,rfl,ha,hus⟩:=v2
  obtain ⟨vr,r1,r2⟩:=zsG mx l a lv va us hq ha hus
  refine ⟨vr,r1,zga v1 fun w ty consts S => ?_⟩
  cases mx with
  | true =>
   simp_all [zEm,builtin,Builtin.max_,Sem.run_bind,Result.andThen_ok,Sem.run_pure]
  | false =>
   simp_all [zDy,zDU,builtin,Builtin.min_,Sem.run_bind,Result.andThen_ok,Sem.run_pure]
 grind
theorem zub (hc:CxOk X.P X.w0 X.base cx) (hr:HR G B h H) (hE:ER B f E) {b:Builtin}(hd:defd (evL xs.toList f)=true) (hq:(zuc cx b ts.toList).go (evL xs.toList f) h = .ok lv) :
  QuOk X E H B (.call ⟨.builtin b,xs,ts⟩) lv:=by
 unfold zuc at hq
 split at hq
 ·rename_i t rest hts
  simp only [zaJ] at hq
  split at hq
  ·rename_i x hx
   exact zB1 hc hr hE hts hx (zdR hd x (by grind)) hq
  grind
 ·rename_i t rest hts
  split at hq
  ·rename_i e hk
   rw [hc.ty] at hk
   grind [zaJ,zCv]
  ·cases hq
 ·exact zuk (mx:=false) hE hd hq
 ·exact zuk (mx:=true) hE hd hq
 ·cases hq
end
variable {G:List (Nat×Obj)}
section
variable {P:Program}{B:BB}
theorem zl3 {g:LV→LV→Bool}(hg:∀ a b,g a b=true→a=b):∀ l m,zoL g l m=true→l=m
 | [],[],_ => rfl
 | [],b::m,h => by cases h
 | a::l,[],h => by cases h
 | a::l,b::m,h => by
  simp only [zoL] at h
  split at h
  ·rename_i hab
   rw [hg a b hab,zl3 hg l m h]
  ·cases h
theorem zl4:∀ (f:Nat) (a b:LV),zoM f a b=true→a=b
 | 0,a,b,h => by cases h
 | f + 1,a,b,h => by
  unfold zoM at h
  split at h
  ·have:=zGs.1 h; rw [this]
  ·rw [zC9] at h
   have h1:=zmr h.1
   have h2:=h.2
   rw [zfG] at h2
   rw [h1,zDf h2]
  ·unfold eqS at h
   rw [zC9] at h
   rw [zar.1 h.1,zar.1 h.2]
  ·rw [zl3 (zl4 f) _ _ h]
  ·cases h
mutual
theorem zkk:∀ (f:Nat) (a:LV),plain f a=true→∀ u v,VR B a u→VR B a v→u=v
 | 0,a,h => by cases h
 | f + 1,a,h => by
  intro u v hu hv
  unfold plain at h
  split at h
  ·simp only [VR] at hu hv; rw [hu,hv]
  ·simp only [VR] at hu hv
   obtain ⟨l,rfl,h1,h2⟩:=hu
   obtain ⟨m,rfl,h3,h4⟩:=hv
   rw [zeb l m (h1.trans h3.symm) (h2.trans h4.symm)]
  ·simp only [VR] at hu hv; rw [hu,hv]
  ·simp only [VR] at hu hv
   obtain ⟨l,rfl,h1,_⟩:=hu
   obtain ⟨m,rfl,h3,_⟩:=hv
   rw [zD5 (ziW f _ h _ _ h1 h3)]
  ·cases h
theorem ziW:∀ (f:Nat) (l:List LV),l.all (plain f)=true→∀ u v,VRL B l u→VRL B l v→u=v
 | f,[],_ => by
  intro u v hu hv
  simp only [VRL] at hu hv; rw [hu,hv]
 | f,a::l,h => by
  intro u v hu hv
  simp only [zFj,zC9] at h
  simp only [VRL] at hu hv
  obtain ⟨x,u,rfl,h1,h2⟩:=hu
  obtain ⟨y,v,rfl,h3,h4⟩:=hv
  rw [zkk f a h.1 x y h1 h3,ziW f l h.2 u v h2 h4]
end
theorem zgH:∀ (f:Nat) (a:LV) (u:Value) (n:Nat),plain f a=true→f≤n→VR B a u→Instr.sameBits n u u=true
 | 0,a,u,n,h,_,_ => by cases h
 | f + 1,a,u,0,h,hn,_ => by omega
 | f + 1,a,u,n + 1,h,hn,hu => by
  unfold plain at h
  split at h
  ·simp only [VR] at hu; subst hu; simp [Instr.sameBits]
  ·simp only [VR] at hu; obtain ⟨l,rfl,_⟩:=hu; simp only [str,Instr.sameBits]; rw [beq_toListBytes]; simp
  ·simp only [VR] at hu; subst hu; simp [Instr.sameBits]
  ·rename_i cs
   simp only [VR] at hu
   obtain ⟨vs,rfl,h1,_⟩:=hu
   simp only [Instr.sameBits,beq_self_eq_true,zFU,zDa]
   rintro ⟨x,y⟩ hxy
   have hz:∀ (l:List Value) (x y:Value),(x,y) ∈ l.zip l→x=y∧x ∈ l:=by
    intro l
    induction l with
    | nil => intro x y h; simp at h
    | cons a l ih =>
     intro x y h
     rw [List.zip_cons_cons,zDp] at h
     rcases h with h | h
     ·cases h; exact ⟨rfl,by simp⟩
     ·exact ⟨(ih x y h).1,by simp [(ih x y h).2]⟩
   obtain ⟨rfl,hm⟩:=hz _ _ _ hxy
   obtain ⟨i,hi⟩:=zDd.1 hm
   have hl:i < cs.length:=by rw [← h1.len]; exact (zDv.1 hi).1
   obtain ⟨w,hw,hv⟩:=h1.get (zDJ hl)
   rw [hi] at hw; cases hw
   exact zgH f _ _ n (zDa.1 h _ (List.getElem_mem hl)) kQ hv
  ·cases h
theorem zie (ha:plain 5 a=true) (hu:VR B a u) (w:World):(Instr.keyThatStays u u).run P w = .ok u w:=by
 simp [Instr.keyThatStays,zgH 5 a u 10000 ha kQ hu]
theorem zkl {ag:Bool}{p:Nat}{cs:List LV}{x:LV}(h:zjJ ag n cs o=some x) (hp:cs.all (plain p)=true):∃ q,plain q x=true:=by
 unfold zjJ at h
 split at h
 ·split at h
  ·cases h
   refine ⟨p + 1,?_⟩
   simp only [plain,zDa]
   grind
  grind
 ·exact ⟨p,zDa.1 hp x (zDd.2 ⟨_,h⟩)⟩
variable {w:World}{lv:Nat→Bool}
theorem zkA {em:Bool}{m:Nat}{f:TypeId→EQ}{xs:List LV}{vs:Array Value}(hv:VRL B xs vs.toList) (h1:∀ c ∈ vs.toList,c.oneCell' = true) {p:Nat}(hp:xs.all (plain p)=true)
  (ih:∀ t a q va,plain q a=true→f t a a=some true→VR B a va→(Instr.checkKey em m t va).run P w = .ok () w) :
  ∀ (fs:List Field),(∀ g ∈ fs,known P g.type=true)→eqFs f xs xs (fs.map fun f => (f.offset,szOf P f.type,aggB (P.underlying f.type),f.type))=some true →
   (forIn fs PUnit.unit (fun f (_:PUnit) => if f.name≠ "_" then do
    let a ← part f.type vs f.offset
    Instr.checkKey em m f.type a
    pure (ForInStep.yield PUnit.unit) else pure (ForInStep.yield PUnit.unit)):Sem PUnit).run P w = .ok PUnit.unit w
 | [],_,_ => rfl
 | g::fs,hk,hq => by
  simp only [zDo,eqFs] at hq
  split at hq
  ·rename_i a b e1 e2
   rw [e1] at e2; cases e2
   split at hq
   ·rename_i he
    obtain ⟨va,a1,a2⟩:=zfw (hk g kY) hv h1 e1
    obtain ⟨q,hq2⟩:=zkl e1 hp
    have i1:=ih _ _ q _ hq2 he a1
    have i2:=zkA hv h1 hp ih fs (fun g hg => hk g (by grind)) hq
    simp_all
   grind
  grind
theorem zkB {em:Bool}{m e:Nat}{f:EQ}(hke:known P e=true) {xs:List LV}{vs:Array Value}(hv:VRL B xs vs.toList) (h1:∀ c ∈ vs.toList,c.oneCell' = true) {p:Nat}(hp:xs.all (plain p)=true)
  (ih:∀ a q va,plain q a=true→f a a=some true→VR B a va→(Instr.checkKey em m e va).run P w = .ok () w) :
  ∀ (n i:Nat),eqAs f (aggB (P.underlying e)) (szOf P e) xs xs n i=some true →
   (forIn (List.range' i n) PUnit.unit (fun i (_:PUnit) => do
    let s ← sizeOf e
    let a ← part e vs (i * s)
    Instr.checkKey em m e a
    pure (ForInStep.yield PUnit.unit)):Sem PUnit).run P w = .ok PUnit.unit w
 | 0,i,_ => rfl
 | n + 1,i,hq => by
  simp only [eqAs] at hq
  split at hq
  ·rename_i a b e1 e2
   rw [e1] at e2; cases e2
   split at hq
   ·rename_i he
    obtain ⟨va,a1,a2⟩:=zfw hke hv h1 e1
    have a2:∀ w,(part e vs (i * szOf P e)).run P w = .ok va w:=a2
    obtain ⟨q,hq2⟩:=zkl e1 hp
    have i1:=ih _ q _ hq2 he a1
    have i2:=zkB hke hv h1 hp ih n (i + 1) hq
    simp_all [zhe,List.range',List.forIn_cons,Sem.run_bind,zbG,Result.andThen_ok,Sem.run_pure]
   grind
  grind
theorem zjm {em:Bool}:∀ (f n:Nat),f≤n→∀ t a q va,plain q a=true→eqT (mkTI P) lv f t a a=some true→VR B a va→(Instr.checkKey em n t va).run P w = .ok () w
 | 0,n,_,t,a,q,va,_,hq,_ => by grind [eqT]
 | f + 1,0,hn,t,a,q,va,_,hq,_ => by omega
 | f + 1,m + 1,hn,t,a,q,va,hp,hq,ha => by
  have ih:=zjm (em:=em) f m kQ
  unfold eqT at hq
  cases hk:(mkTI P t).kind with
  | flt => grind
  | bool =>
   simp_all [zyc,VR,Instr.checkKey,run_underlying]
  | int k =>
   simp_all [zqD,VR,Instr.checkKey,run_underlying]
  | str =>
   rw [hk] at hq
   have hu:=zmq hk
   cases a <;> first | (cases hq; done) | (simp only [VR] at ha; obtain ⟨l,rfl,_⟩:=ha; simp [str,Instr.checkKey,run_underlying hu])
  | ptr e => rw [hk] at hq; exfalso; cases q with | zero => cases hp | succ q => unfold plain at hp; split at hp <;> first | (cases hp; done) | (cases hq; done)
  | iface c => rw [hk] at hq; exfalso; cases q with | zero => cases hp | succ q => unfold plain at hp; split at hp <;> first | (cases hp; done) | (cases hq; done)
  | slice e => rw [hk] at hq; exfalso; cases q with | zero => cases hp | succ q => unfold plain at hp; split at hp <;> first | (cases hp; done) | (cases hq; done)
  | map k e => rw [hk] at hq; exfalso; cases q with | zero => cases hp | succ q => unfold plain at hp; split at hp <;> first | (cases hp; done) | (cases hq; done)
  | func => rw [hk] at hq; exfalso; cases q with | zero => cases hp | succ q => unfold plain at hp; split at hp <;> first | (cases hp; done) | (cases hq; done)
  | other => grind
  | struct l =>
   rw [hk] at hq
   cases hc:(mkTI P t).cmp with
   | false => grind
   | true =>
    simp only [hc] at hq
    obtain ⟨fs,hu,rfl,hkf⟩:=zgO hk
    cases a <;> try (cases hq; done)
    rename_i xs
    simp only [VR] at ha
    obtain ⟨vs,rfl,v1,v2⟩:=ha
    cases q with
    | zero => cases hp
    | succ q =>
     have hp:xs.all (plain q)=true:=hp
     have:=zkA (w:=w) (em:=em) (m:=m) v1 v2 hp (fun t a q va => ih t a q va) fs.toList (fun g hg => hkf g hg) hq
     simp_all [Instr.checkKey,Sem.run_bind,run_underlying,Result.andThen_ok,Array.forIn_toList]
  | array n e =>
   rw [hk] at hq
   cases hc:(mkTI P t).cmp with
   | false => grind
   | true =>
    simp only [hc] at hq
    obtain ⟨hu,hke⟩:=ze2 hk
    cases a <;> try (cases hq; done)
    rename_i xs
    simp only [VR] at ha
    obtain ⟨vs,rfl,v1,v2⟩:=ha
    cases q with
    | zero => cases hp
    | succ q =>
     have hp:xs.all (plain q)=true:=hp
     rw [zzh hke,← zhe hke] at hq
     have:=zkB (w:=w) (em:=em) hke v1 v2 hp (fun a q va => ih e a q va) n 0 hq
     simp_all [Instr.checkKey,Sem.run_bind,run_underlying,Result.andThen_ok,Std.Legacy.Range.forIn_eq_forIn_range',Std.Legacy.Range.size,zFp,Nat.add_one_sub_one,Nat.div_one]
end
section
variable {X:Pt}{E:Env}{H:List Seg}{B:BB}{h:LH}{cx:Cx}{f:SlF}{lv:LV}
theorem zmF {t:TypeId}{k:LV}:∀ {l:List (LV×LV)}{r:Option LV},ztr cx t k l=some r→∃ p,posM cx t k l=some p∧r=(p.bind fun i => (l[i]?).map (·.2))
 | [],r,h => by simp only [ztr] at h; cases h; exact ⟨none,rfl,rfl⟩
 | (a,v)::l,r,h => by
  simp only [ztr] at h
  simp only [posM]
  cases he:zmQ cx t k a with
  | none => grind
  | some b =>
   cases b with
   | true => grind
   | false =>
    simp only [he] at h ⊢
    obtain ⟨p,h1,h2⟩:=zmF h
    rw [h1]
    cases p with
    | none => grind
    | some i => grind
theorem MRL.get:∀ {l:List (LV×LV)}{m:List MapEntry},MRL B l m→∀ {i:Nat}{p:LV×LV},l[i]? = some p→∃ e,m[i]? = some e∧VR B p.1 e.key∧VR B p.2 e.val
 | [],m,h,i,p,hp => by simp at hp
 | a::l,m,h,i,p,hp => by
  simp only [MRL] at h; obtain ⟨e,m',rfl,h1,h2,h3⟩:=h
  cases i with
  | zero => simp at hp; subst hp; exact ⟨e,rfl,h1,h2⟩
  | succ i => simp at hp; simpa using MRL.get h3 hp
theorem MRL.app:∀ {l:List (LV×LV)}{m:List MapEntry}{p:LV×LV}{e:MapEntry},MRL B l m→VR B p.1 e.key→VR B p.2 e.val→MRL B (l++[p]) (m++[e])
 | [],m,p,e,h,h1,h2 => by simp only [MRL] at h; subst h; simp only [zDG,MRL]; grind
 | a::l,m,p,e,h,h1,h2 => by
  simp only [MRL] at h; obtain ⟨x,m',rfl,a1,a2,a3⟩:=h
  simp only [zDr,MRL]; exact ⟨x,_,rfl,a1,a2,MRL.app a3 h1 h2⟩
theorem MRL.set:∀ {l:List (LV×LV)}{m:List MapEntry}{i:Nat}{p:LV×LV}{e:MapEntry},MRL B l m→VR B p.1 e.key→VR B p.2 e.val→MRL B (l.set i p) (m.set i e)
 | [],m,i,p,e,h,h1,h2 => by grind [MRL]
 | a::l,m,i,p,e,h,h1,h2 => by
  simp only [MRL] at h; obtain ⟨x,m',rfl,a1,a2,a3⟩:=h
  cases i with
  | zero => simp only [List.set_cons_zero,MRL]; grind
  | succ i => simp only [List.set_cons_succ,MRL]; exact ⟨x,_,rfl,a1,a2,MRL.set a3 h1 h2⟩
theorem MRL.erase:∀ {l:List (LV×LV)}{m:List MapEntry}{i:Nat},MRL B l m→MRL B (l.eraseIdx i) (m.eraseIdx i)
 | [],m,i,h => by grind [MRL]
 | a::l,m,i,h => by
  simp only [MRL] at h; obtain ⟨x,m',rfl,a1,a2,a3⟩:=h
  cases i with
  | zero => grind
  | succ i => simp only [zFu,MRL]; exact ⟨x,_,rfl,a1,a2,MRL.erase a3⟩
theorem zkc {d:TypeDesc}(hu:P.underlying t=some d) {x y:Value}{b:Bool}(hs:Instr.sameNow d x y=some b):(Op.equal t x y).run P w = .ok b w:=by
 unfold Instr.sameNow at hs
 split at hs
 ·split at hs
  ·rename_i hk
   subst hk
   cases hs
   exact run_equalIn_int w _ _ _ _ _ _ hu
  grind
 ·cases hs
  rw [show (Op.equal t (.string _) (.string _)).run P w=_ from run_equalIn_string w _ _ _ _ hu,beq_toListBytes]
 ·cases hs
  exact run_equalIn_bool w _ _ _ _ hu
 grind
theorem zcJ (hc:CxOk X.P X.w0 X.base cx) (S:Sep X.w0 X.base w H) (hr:HR G B h H) {k:LV}{vk:Value}(hk:VR B k vk) {d:TypeDesc}(hu:X.P.underlying t=some d) {l:List (LV×LV)}{m:List MapEntry}(hl:MRL B l m) {p:Option Nat}
  (hp:posM cx t k l=some p):(Instr.findKey t vk m).run X.P w = .ok (p.bind fun i => (m[i]?).map fun e => (i,e.val)) w:=by
 have eqs:∀ {a:LV}{va:Value}{b:Bool},zmQ cx t k a=some b→VR B a va→(Op.equal t vk va).run X.P w = .ok b w:=by
  intro a va b he ha
  unfold zmQ at he
  rw [hc.ty] at he
  exact ztD S hr (fun i h => by cases h) 10 10000 kQ t _ _ _ _ _ he hk ha
 have now:∀ (l:List (LV×LV)) (m:List MapEntry) (i:Nat) (p:Option Nat) (r:Option (Nat×Value)),MRL B l m→posM cx t k l=some p→Instr.findNow d vk m i=some r→r=p.bind fun j => (m[j]?).map fun e => (i + j,e.val):=by
  intro l
  induction l with
  | nil =>
   grind [MRL,posM,Instr.findNow]
  | cons a l ih =>
   intro m i p r hl hp hf
   obtain ⟨ka,va⟩:=a
   simp only [MRL] at hl
   obtain ⟨e,m',rfl,h1,h2,h3⟩:=hl
   simp only [posM] at hp
   simp only [Instr.findNow] at hf
   split at hf
   ·grind [zkc]
   ·rename_i hs
    have e1:=zkc (w:=w) hu hs
    split at hp
    ·grind
    ·split at hp
     ·grind
     ·rename_i hne
      cases p with
      | some j => grind
      | none =>
       grind
    grind
   grind
 have ask:∀ (l:List (LV×LV)) (m:List MapEntry) (i:Nat) (p:Option Nat),MRL B l m→posM cx t k l=some p→(Instr.findAsking t vk m i).run X.P w = .ok (p.bind fun j => (m[j]?).map fun e => (i + j,e.val)) w:=by
  intro l
  induction l with
  | nil =>
   intro m i p hl hp
   simp only [MRL] at hl; subst hl
   simp only [posM] at hp; cases hp
   rfl
  | cons a l ih =>
   intro m i p hl hp
   obtain ⟨ka,va⟩:=a
   simp only [MRL] at hl
   obtain ⟨e,m',rfl,h1,h2,h3⟩:=hl
   simp only [posM] at hp
   simp only [Instr.findAsking,Sem.run_bind]
   split at hp
   ·rename_i he
    cases hp
    rw [eqs he h1,Result.andThen_ok,zDi rfl]; rfl
   ·rename_i he
    rw [eqs he h1,Result.andThen_ok,zDb kY]
    split at hp
    ·grind
    ·rename_i hne
     cases p with
     | some j => grind
     | none => grind
   grind
 simp only [Instr.findKey,Sem.run_bind,run_underlying hu,Result.andThen_ok]
 grind [Instr.findNow,Sem.run_pure,ask]
theorem ze1 (hc:CxOk X.P X.w0 X.base cx) {k:LV}{vk:Value}(hk:keyK cx t k=true) (hv:VR B k vk) (em:Bool) (w:World):(Instr.checkKey em 10000 t vk).run X.P w = .ok () w:=by
 unfold keyK at hk
 rw [zC9,zC9] at hk
 obtain ⟨_,h1,h2⟩:=hk
 split at h2
 ·rename_i b he
  subst h2
  unfold zmQ at he
  rw [hc.ty] at he
  exact zjm 10 10000 kQ t k 5 vk h1 he hv
 grind
theorem zkr {k:LV}(hk:keyK cx t k=true):plain 5 k=true∧k≠.undef:=by
 unfold keyK at hk
 rw [zC9,zC9] at hk
 exact ⟨hk.2.1,fun e => by subst e; have:=hk.2.1; cases this⟩
def zvd (ok:Bool) (v:LV) (b:Bool):LV:=match ok with
 | true => .tup [v,.bool b]
 | false => v
theorem zpc {z:LV}{r:Option (Option LV)}(hq:zBY z ok r = .ok lv) :
  (∃ v,r=some (some v)∧lv=zvd ok v true)∨(r=some none∧z≠.undef∧lv=zvd ok z false):=by
 cases r with
 | none => cases ok <;> cases hq
 | some r =>
  cases r with
  | some v => cases ok <;> (cases hq; exact .inl ⟨_,rfl,rfl⟩)
  | none =>
   cases ok with
   | true =>
    have hq:zF z = .ok lv:=hq
    obtain ⟨hn,rfl⟩:=zyy hq
    exact .inr ⟨rfl,hn,rfl⟩
   | false =>
    have hq:okV z = .ok lv:=hq
    obtain ⟨rfl,hn⟩:=zhL hq
    exact .inr ⟨rfl,hn,rfl⟩
theorem zsL (hc:CxOk X.P X.w0 X.base cx) (hr:HR G B h H) (hE:ER B f E) (hq:(znM cx t ok).go (evO x f) (evO ix f) h = .ok lv):QuOk X E H B (.lookup t x ix ok) lv:=by
 unfold znM at hq
 rw [hc.ty] at hq
 cases hk:(mkTI X.P t).kind <;> simp only [hk,zaJ] at hq
 case map kt e =>
  obtain ⟨hu,hkk,hke⟩:=zjN hk
  obtain ⟨d,hd⟩:=zi9 hkk
  have body:∃ vx vk r vr,ev E x=some vx∧ev E ix=some vk∧VR B (evO ix f) vk∧keyK cx kt (evO ix f)=true∧zpw cx kt (evO x f) (evO ix f) h=some r ∧
    (∀ v,r=some v→VR B v vr)∧∀ w,Sep X.w0 X.base w H→∃ es:Array MapEntry,((vx = .map none∧es = #[])∨∃ b clock,vx = .map (some b)∧w.heap[b]? = some (.map es clock))∧∃ j,(Instr.findKey kt vk es.toList).run X.P w = .ok (r.map fun _ => (j,vr)) w:=by
   have hf:∃ r,zpw cx kt (evO x f) (evO ix f) h=some r:=by
    rcases zpc hq with ⟨v,h1,_⟩ | ⟨h1,_⟩ <;> exact ⟨_,h1⟩
   obtain ⟨r,hf⟩:=hf
   have hf0:=hf
   unfold zpw at hf
   split at hf
   ·cases hf
   ·rename_i hkey
    obtain ⟨vk,k1,k2⟩:=hE.ev ix (zkr hkey).2
    split at hf
    ·rename_i hx
     cases hf
     obtain ⟨vx,x1,x2⟩:=hE.ev x (by grind)
     rw [hx] at x2; simp only [VR] at x2; subst x2
     refine ⟨_,vk,none,undef,x1,k1,k2,hkey,hf0,(fun _ h => by cases h),fun w S => ⟨#[],.inl ⟨Z,Z⟩,0,?_⟩⟩
     have:=zcJ (cx:=cx) hc S hr k2 hd (l:=[]) (m:=[]) (by simp [MRL]) (p:=none) rfl
     grind
    ·rename_i i hx
     split at hf
     ·rename_i clock bs es hes
      obtain ⟨vx,x1,x2⟩:=hE.ev x (by grind)
      rw [hx] at x2; simp only [VR] at x2
      obtain ⟨kb,hkb,rfl⟩:=x2
      obtain ⟨j,ents,a1,_,a2⟩:=hr.map hes hkb
      obtain ⟨p,p1,p2⟩:=zmF hf
      have run:∀ w,Sep X.w0 X.base w H→w.heap[kb.b]? = some (.map ents clock):=fun w S => (S.at_ a1 (j:=0) rfl).1
      cases p with
      | none =>
       simp only [zGe] at p2
       subst p2
       refine ⟨_,vk,none,undef,x1,k1,k2,hkey,hf0,(fun _ h => by cases h),fun w S => ?_⟩
       have hes' : ((Value.map (some kb.b) = .map none∧ents = #[])∨∃ b clock,Value.map (some kb.b) = .map (some b)∧w.heap[b]? = some (.map ents clock)):=.inr ⟨_,_,rfl,run w S⟩
       exact ⟨_,hes',0,zcJ hc S hr k2 hd a2 p1⟩
      | some i =>
       simp only [zFh] at p2
       cases hli:es[i]? with
       | none =>
        rw [hli] at p2
        simp only [zE8] at p2
        subst p2
        refine ⟨_,vk,none,undef,x1,k1,k2,hkey,hf0,(fun _ h => by cases h),fun w S => ?_⟩
        have hes' : ((Value.map (some kb.b) = .map none∧ents = #[])∨∃ b clock,Value.map (some kb.b) = .map (some b)∧w.heap[b]? = some (.map ents clock)):=.inr ⟨_,_,rfl,run w S⟩
        have hlen:ents.toList[i]? = none:=by
         rw [zET,a2.len]; grind
        have:=zcJ hc S hr k2 hd a2 p1
        simp_all
       | some q =>
        rw [hli] at p2
        simp only [zDN] at p2
        subst p2
        obtain ⟨en,e1,e2,e3⟩:=a2.get hli
        refine ⟨_,vk,some q.2,en.val,x1,k1,k2,hkey,hf0,(fun _ h => by grind),fun w S => ?_⟩
        have hes' : ((Value.map (some kb.b) = .map none∧ents = #[])∨∃ b clock,Value.map (some kb.b) = .map (some b)∧w.heap[b]? = some (.map ents clock)):=.inr ⟨_,_,rfl,run w S⟩
        have:=zcJ hc S hr k2 hd a2 p1
        simp_all
     grind
    grind
  obtain ⟨vx,vk,r,vr,x1,k1,k2,hkey,hfr,hvr,hrun⟩:=body
  rcases zpc hq with ⟨v,h1,rfl⟩ | ⟨h1,hz,rfl⟩
  ·rw [hfr] at h1
   cases h1
   refine ⟨if ok=true then .tuple #[vr,.bool true] else vr,?_,zaq Z fun dst ty pos after g ρ w hρ S => ⟨_,w,H,?_,S,Z,Z⟩⟩
   ·cases ok with
    | true => simp only [zvd,VR]; exact ⟨_,rfl,zaB (hvr _ rfl) (zaB (zby rfl) VRL.nil_)⟩
    | false => exact hvr _ rfl
   ·obtain ⟨es,r1,j,r2⟩:=hrun w S
    simp only [execOp,hρ _ _ x1,hρ _ _ k1,Instr.lookup,Sem.run_bind,run_underlying hu,Result.andThen_ok]
    rcases r1 with ⟨rfl,rfl⟩ | ⟨b,clock,rfl,r1⟩
    ·simp only [Sem.run_bind,Sem.run_pure,Result.andThen_ok,ze1 hc hkey k2,r2,zDN]
    ·simp only [Sem.run_bind,za0 r1,Sem.run_pure,Result.andThen_ok,ze1 hc hkey k2,r2,zDN]
  ·rw [hfr] at h1
   cases h1
   obtain ⟨_,z,z1,z2,z3,_⟩:=zck (P:=X.P) (t:=e) B hz
   refine ⟨if ok=true then .tuple #[z,.bool false] else z,?_,zaq Z fun dst ty pos after g ρ w hρ S => ⟨_,w,H,?_,S,Z,Z⟩⟩
   ·cases ok with
    | true => simp only [zvd,VR]; exact ⟨_,rfl,zaB z3 (zaB (zby rfl) VRL.nil_)⟩
    | false => exact z3
   ·obtain ⟨es,r1,j,r2⟩:=hrun w S
    simp only [execOp,hρ _ _ x1,hρ _ _ k1,Instr.lookup,Sem.run_bind,run_underlying hu,Result.andThen_ok]
    rcases r1 with ⟨rfl,rfl⟩ | ⟨b,clock,rfl,r1⟩
    ·simp only [Sem.run_bind,Sem.run_pure,Result.andThen_ok,ze1 hc hkey k2,r2,zE8,z1]
    ·simp only [Sem.run_bind,za0 r1,Sem.run_pure,Result.andThen_ok,ze1 hc hkey k2,r2,zE8,z1]
 all_goals cases hq
theorem zqP {lv:Nat→Bool}(f:Nat) (t:TypeId) (a:LV):eqT (mkTI P) lv f t a .undef=none:=by
 cases f with
 | zero => rfl
 | succ f =>
  unfold eqT
  generalize (mkTI P t).kind=K; generalize (mkTI P t).cmp=c
  cases K <;> try rfl
  all_goals first
   | (cases a <;> rfl)
   | (cases c <;> cases a <;> rfl)
theorem zxk (a b:LV) (hq:(binQ (mkTI P) op t c).go a b h = .ok lv):a≠.undef∧b≠.undef:=by
 have num:∀ {g:IQ}{s:SQ}{e:LV→LV→Q},numQ g s e a b = .ok lv→(e .undef b = .ok lv→False)→(e a .undef = .ok lv→False)→a≠.undef∧b≠.undef:=by
  intro g s e hq h1 h2
  refine ⟨fun ha => by subst ha; exact h1 hq,fun hb => ?_⟩
  subst hb
  unfold numQ at hq
  split at hq
  ·cases hq
  ·cases hq
  grind
 have no:∀ {a b:LV},noE a b = .ok lv→False:=fun h => by cases h
 have sh:∀ {g},shQ g a b = .ok lv→a≠.undef∧b≠.undef:=by
  intro g hq
  refine ⟨fun ha => (by subst ha; cases hq),fun hb => ?_⟩
  subst hb
  unfold shQ at hq
  split at hq <;> cases hq
 have eq1:∀ {neg},eqQ (mkTI P) (zjM h) neg t c .undef b = .ok lv→False:=by
  grind [eqQ,zmO]
 have eq2:∀ {neg},eqQ (mkTI P) (zjM h) neg t c a .undef = .ok lv→False:=by
  grind [eqQ,zqP]
 have fl1' : ∀ {g:Option Ordering→Bool}{e:LV→LV→Q},(e .undef b = .ok lv→False)→flE g e .undef b = .ok lv→False:=fun h1 hq => h1 hq
 have fl2' : ∀ {g:Option Ordering→Bool}{e:LV→LV→Q},(e a .undef = .ok lv→False)→flE g e a .undef = .ok lv→False:=by
  intro g e h1 hq
  unfold flE at hq
  split at hq
  ·rename FloatKind => kf
   cases kf <;> cases hq
  ·cases hq
  grind
 cases op with
 | shl => exact sh hq
 | shr => exact sh hq
 | eql => exact num hq (fl1' eq1) (fl2' eq2)
 | neq => exact num hq (fl1' eq1) (fl2' eq2)
 | andNot => exact num hq (fun h => by cases h) (fun h => by cases a <;> cases h)
 | lss => exact num hq (fl1' no) (fl2' no)
 | leq => exact num hq (fl1' no) (fl2' no)
 | gtr => exact num hq (fl1' no) (fl2' no)
 | geq => exact num hq (fl1' no) (fl2' no)
 | _ => exact num hq no no
theorem HR.iter (hr:HR G B h H) {m:Option Nat}{since last:Nat}{seen:List Nat}(hi:atB h i=LO.iter m since seen last) (hk:B[i]? = some k) :
  k.off=0∧∃ (j:Nat) (m' : Option Nat) (sn:Array Nat),H[j]? = some [(k.b,.mapIter m' since sn last)]∧sn.toList=seen∧ITR B m m':=by
 obtain ⟨k',j,obj,h1,h2,h3⟩:=hr.at_ i (by rw [hi]; rfl)
 rw [hk] at h1; cases h1
 rw [hi] at h3
 obtain ⟨h0,m',sn,rfl,h4,h5⟩:=h3
 grind
theorem zph:∀ {l:List Nat}{b:Nat},zsU l=some b→l.getLast? = some b
 | [],b,h => by cases h
 | [a],b,h => by simpa [zsU] using h
 | a::c::l,b,h => by
  simp only [zsU] at h
  rw [List.getLast?_cons_cons]
  exact zph h
theorem zpy {b:Nat}:∀ {bs:List Nat}{es:List (LV×LV)}{m:List MapEntry},m.map (·.born)=bs→MRL B es m→zwK b bs es = .ok lv→∃ e,m.find? (·.born == b)=some e∧VR B lv (.tuple #[e.key,e.val])
 | [],es,m,_,_,hq => by cases es <;> cases hq
 | c::bs,[],m,_,_,hq => by cases hq
 | c::bs,p::es,m,hb,hm,hq => by
  obtain ⟨k,v⟩:=p
  simp only [MRL] at hm
  obtain ⟨e,m',rfl,h1,h2,h3⟩:=hm
  simp only [zDo,zD2] at hb
  simp only [zwK] at hq
  split at hq
  ·rename_i hc
   have hc:=zar.1 hc
   cases hq
   refine ⟨e,by rw [List.find?_cons_of_pos (by rw [hb.1,hc]; simp)],?_⟩
   simp only [VR]
   exact ⟨_,Z,zaB h1 (zaB h2 VRL.nil_)⟩
  ·rename_i hc
   have hc:c≠b:=fun e => by rw [zar.2 e] at hc; cases hc
   obtain ⟨e',a1,a2⟩:=zpy hb.2 h3 hq
   exact ⟨e',by rw [List.find?_cons_of_neg (by rw [hb.1]; simp [hc])]; exact a1,a2⟩
theorem zwT (hr:HR G B h H) (hE:ER B f E) (hq:ztM (evO x f) h = .ok lv):QuOk X E H B (.entry x) lv:=by
 unfold ztM at hq
 split at hq
 ·rename_i r hx
  split at hq
  ·rename_i m since seen last hit
   unfold entL at hq
   split at hq
   ·rename_i clock bs es b hmp hl
    split at hq
    ·rename_i hcl
     have hcl:=zar.1 hcl
     obtain ⟨vx,x1,x2⟩:=hE.ev x (by grind)
     rw [hx] at x2; simp only [VR] at x2
     obtain ⟨k,hk,rfl⟩:=x2
     obtain ⟨h0,j,m',sn,a1,a2,a3⟩:=hr.iter hit hk
     rw [h0] at x1
     obtain ⟨km,hkm,rfl⟩:=a3
     obtain ⟨jm,ents,b1,b2,b3⟩:=hr.map hmp hkm
     obtain ⟨e,e1,e2⟩:=zpy b2 b3 hq
     refine ⟨_,e2,zaq Z fun dst ty pos after g ρ w hρ S => ⟨_,w,H,?_,S,Z,Z⟩⟩
     have hb:=(S.at_ a1 (j:=0) rfl).1
     have hbm:=(S.at_ b1 (j:=0) rfl).1
     have hit2:(getObj k.b).run X.P w = .ok (.mapIter (some km.b) since sn last) w:=by grind [getObj,Sem.run]
     have hback:sn.back? = some b:=by
      rw [Array.back?_eq_getElem?]
      have:=zph hl
      grind
     have hfind:ents.find? (·.born == b)=some e:=by grind
     simp only [execOp,hρ _ _ x1,Instr.entry,Sem.run_bind,hit2,Result.andThen_ok,hback,za0 hbm,hcl,bne_self_eq_false,zDy,zDU,Sem.run_pure,hfind,zEi]
    grind
   grind
  grind
 grind
theorem zx4 (hc:CxOk X.P X.w0 X.base cx) (hr:HR G B h H) (hE:ER B f E) {op:Op}(hq:(opQ cx op).go f h = .ok lv):QuOk X E H B op lv:=by
 unfold opQ at hq
 split at hq
 ·exact (zsD hE hq).1
 ·exact (zsD hE hq).2
 ·exact zza hE hq
 ·exact zxi hc hE hq
 ·exact zzE hc hr hE hq
 ·exact zBN hE hq
 ·rename_i op t x y tz
  simp only [zaJ] at hq
  rw [hc.ty] at hq
  have hne:∀ (a b:LV),(binQ (mkTI X.P) op t (isC x || isC y)).go a b h = .ok lv→a≠.undef∧b≠.undef:=zxk
  obtain ⟨n1,n2⟩:=hne _ _ hq
  obtain ⟨va,a1,a2⟩:=hE.ev x n1
  obtain ⟨vb,b1,b2⟩:=hE.ev y n2
  exact (zCB hr hq a2 b2).does a1 b1
 ·exact un_ok hE hq
 ·exact zAu hc hr hE hq
 ·exact zwp hc hE hq
 ·exact znK hE hq
 ·exact zvw hc hr hE hq
 ·exact zmK hc hE hq
 ·exact zwL hc hE hq
 ·exact zms hc hE hq
 ·exact zwn hc hE hq
 ·exact zsL hc hr hE hq
 ·exact zqO hE hq
 ·exact zut hc hE hq
 ·exact zwT hr hE hq
 ·grind [zaJ,ztz,zub]
 ·cases hq
end
variable {G:List (Nat×Obj)}
theorem zch {j:Nat}:atB (Tr.set .gone lo h i) j=if j=i then lo else atB h j:=zel _ _ _ _ _
section
variable {B:BB}{h:LH}{H:List Seg}
theorem HR.new (hr:HR G B h H) {nx:Nat}(hn:B.length=nx) (hor:OR (B++[k]) k obj lo):HR G (B++[k]) (Tr.set .gone lo h nx) ([(k.b,obj)]::H):=by
 have hp:B <+: B++[k]:=zDR _ _
 obtain ⟨p,h1,h2,h3⟩:=hr
 have old:∀ i,i≠nx→zbA (atB (Tr.set .gone lo h nx) i)=true→zbA (atB h i)=true:=by
  simp_all [zch,zDb]
 refine ⟨fun i => if i=nx then 0 else p i + 1,fun i hi => ?_,fun i i' hi hi' he => ?_,fun g hg => ?_⟩
 ·by_cases e:i=nx
  ·subst e
   refine ⟨k,obj,by grind,by simp,?_⟩
   rw [zch,zDi rfl]; omega
  ·obtain ⟨k1,o1,a1,a2,a3⟩:=h1 i (old i e hi)
   refine ⟨k1,o1,zb8 hp a1,by grind,?_⟩
   rw [zch,zDb e]; exact a3.mono hp
 ·by_cases e:i=nx <;> by_cases e' : i' = nx
  ·omega
  ·grind
  ·grind
  grind
 ·obtain ⟨j,j1,j2⟩:=h3 g hg
  refine ⟨j + 1,by grind,fun i hi => ?_⟩
  grind
theorem HR.put (hr:HR G B h H) (hi:zbA (atB h i)=true) (hk:B[i]? = some k) :
  ∃ j obj,H[j]? = some [(k.b,obj)]∧OR B k obj (atB h i)∧∀ obj' lo',OR B k obj' lo'→HR G B (Tr.set .gone lo' h i) (H.set j [(k.b,obj')]):=by
 obtain ⟨p,h1,h2,h3⟩:=hr
 obtain ⟨k0,o0,a1,a2,a3⟩:=h1 i hi
 rw [hk] at a1; cases a1
 refine ⟨p i,o0,a2,a3,fun obj' lo' hor => ?_⟩
 have hlt:=(zDv.1 a2).1
 have old:∀ m,zbA (atB (Tr.set .gone lo' h i) m)=true→zbA (atB h m)=true:=by
  intro m hm
  by_cases e:m=i
  ·grind
  simp_all [zch,zDb]
 refine ⟨p,fun m hm => ?_,fun m m' hm hm' he => h2 m m' (old m hm) (old m' hm') he,fun g hg => ?_⟩
 rotate_left
 ·obtain ⟨j,j1,j2⟩:=h3 g hg
  exact ⟨j,by grind,fun m hm => j2 m (old m hm)⟩
 by_cases e:m=i
 ·subst e
  refine ⟨k,obj',hk,by grind,?_⟩
  rw [zch,zDi rfl]; omega
 ·obtain ⟨k1,o1,b1,b2,b3⟩:=h1 m (old m hm)
  have hne:p i≠p m:=fun e2 => e (h2 m i (old m hm) hi e2.symm)
  refine ⟨k1,o1,b1,by grind,?_⟩
  rw [zch,zDb e]; exact b3
theorem HR.kill (hr:HR G B h H) (i:Nat):HR G B (Tr.set .gone .gone h i) H:=by
 obtain ⟨p,h1,h2,h3⟩:=hr
 have old:∀ m,zbA (atB (Tr.set .gone .gone h i) m)=true→m≠i∧zbA (atB h m)=true:=by
  intro m hm
  rw [zch] at hm
  split at hm
  ·cases hm
  grind
 refine ⟨p,fun m hm => ?_,fun m m' hm hm' he => h2 m m' (old m hm).2 (old m' hm').2 he,fun g hg => ?_⟩
 rotate_left
 ·grind
 obtain ⟨k1,o1,b1,b2,b3⟩:=h1 m (old m hm).2
 exact ⟨k1,o1,b1,b2,by rw [zch,zDb (old m hm).1]; exact b3⟩
theorem HR.move (hr:HR G B h H) {nx:Nat}(hn:B.length=nx) (hi:zbA (atB h i)=true) (hk:B[i]? = some k) :
  ∃ j obj,H[j]? = some [(k.b,obj)]∧OR B k obj (atB h i)∧∀ k' obj' lo',k'.b=k.b→OR (B++[k']) k' obj' lo'→HR G (B++[k']) (Tr.set .gone lo' (Tr.set .gone .gone h i) nx) (H.set j [(k.b,obj')]):=by
 obtain ⟨p,h1,h2,h3⟩:=hr
 obtain ⟨k0,o0,a1,a2,a3⟩:=h1 i hi
 rw [hk] at a1; cases a1
 refine ⟨p i,o0,a2,a3,fun k' obj' lo' hb hor => ?_⟩
 have hp:B <+: B++[k']:=zDR _ _
 have hlt:=(zDv.1 a2).1
 have hinx:i < nx:=by grind
 have old:∀ m,m≠nx→zbA (atB (Tr.set .gone lo' (Tr.set .gone .gone h i) nx) m)=true→m≠i∧zbA (atB h m)=true:=by
  intro m hm hl
  rw [zch,zDb hm,zch] at hl
  split at hl
  ·cases hl
  grind
 refine ⟨fun m => if m=nx then p i else p m,fun m hm => ?_,fun m m' hm hm' he => ?_,fun g hg => ?_⟩
 ·by_cases e:m=nx
  ·subst e
   refine ⟨k',obj',by grind,by grind,?_⟩
   rw [zch,zDi rfl]; omega
  ·obtain ⟨o1,o2⟩:=old m e hm
   obtain ⟨k1,ob1,b1,b2,b3⟩:=h1 m o2
   have hne:p i≠p m:=fun e2 => o1 (h2 m i o2 hi e2.symm)
   refine ⟨k1,ob1,zb8 hp b1,by grind,?_⟩
   rw [zch,zDb e,zch,zDb o1]; exact b3.mono hp
 ·by_cases e:m=nx <;> by_cases e' : m' = nx
  ·omega
  ·grind
  ·grind
  grind
 ·obtain ⟨j,j1,j2⟩:=h3 g hg
  refine ⟨j,by grind,fun m hm => ?_⟩
  grind
end
noncomputable def setRows (sz:Nat):Nat→Tr (List LV)→Nat→List LV→Tr (List LV)
  | 0,t,_,_ => t
  | r + 1,t,i,l => setRows sz r (Tr.set [] (l.take sz) t i) (i + 1) (l.drop sz)
theorem zdY {β:Type}(sz:Nat) (c:Tr (List LV)→β):∀ (r:Nat) (t:Tr (List LV)) (i:Nat) (l:List LV),zes sz c r t i l=c (setRows sz r t i l)
 | 0,t,i,l => rfl
 | r + 1,t,i,l => by rw [zes,zb5,zdY sz c r]; rfl
theorem zeS (sz:Nat):∀ (r:Nat) (t:Tr (List LV)) (i:Nat) (l:List LV) (j:Nat),Tr.get [] (setRows sz r t i l) j=if i≤j∧j < i + r then (l.drop ((j - i) * sz)).take sz else Tr.get [] t j
 | 0,t,i,l,j => by simp_all [setRows,zDb]
 | r + 1,t,i,l,j => by
  rw [setRows,zeS sz r]
  by_cases h1:i + 1≤j∧j < i + 1 + r
  ·rw [zDi h1,zDi kQ,zEj]
   congr 2
   have:j - i=j - (i + 1) + 1:=by omega
   grind
  ·rw [zDb h1,zel]
   by_cases h2:j=i
   ·simp_all
   grind
section
variable {B:BB}
theorem zvE (hv:VRL B l vs) (hl:l.length=n * sz) (t:Tr (List LV)):∀ r,r < n→VRL B (Tr.get [] (setRows sz n t 0 l) r) ((vs.drop (r * sz)).take sz):=by
 intro r hr
 rw [zeS,zDi kQ,zFp]
 exact (hv.drop _).take _
theorem zk2 (h:o + vs.length≤cs.size):(zbH cs o vs).size=cs.size:=by
 grind [zbH]
theorem zk1 (h1:∀ c ∈ cs.toList,c.oneCell' = true) (h2:∀ c ∈ vs,c.oneCell' = true):∀ c ∈ (zbH cs o vs).toList,c.oneCell' = true:=by
 intro c hc
 simp only [zbH,zDt] at hc
 grind
theorem zk3 {l:List Value}{a:Nat}(h:o + vs.length≤l.length):(a + n≤o∨o + vs.length≤a→((l.take o++vs++l.drop (o + vs.length)).drop a).take n=(l.drop a).take n) ∧
  (o≤a→a + n≤o + vs.length→((l.take o++vs++l.drop (o + vs.length)).drop a).take n=(vs.drop (a - o)).take n):=by
 have h0:(l.take o).length=o:=by grind
 constructor
 ·intro hc
  apply zDV
  intro i
  rw [zEf,zEf]
  split
  ·rename_i hi
   rw [zEo,zEo]
   rcases hc with hc | hc
   ·grind
   ·rw [zEy (by grind)]
    grind
  ·rfl
 ·intro h1 h2
  apply zDV
  intro i
  rw [zEf,zEf]
  split
  ·grind
  ·rfl
end
variable {G:List (Nat×Obj)}
theorem zsc {l:List Value}{a q:Nat}(h1:q + vs.length≤sz) (h2:a + sz≤l.length) :
  ((l.take (a + q)++vs++l.drop (a + q + vs.length)).drop a).take sz=((l.drop a).take sz).take q++(vs++((l.drop a).take sz).drop (q + vs.length)):=by
 have h0:(l.take (a + q)).length=a + q:=by grind
 rw [zDg,zDS kQ]
 rw [zFI,show a + q - a=q by omega]
 have hq:((l.drop a).take q).length=q:=by grind
 rw [zFA,hq]
 have e1:(l.drop a).take q=((l.drop a).take sz).take q:=by grind
 rw [zDc kQ,e1]
 congr 1
 rw [zFA,zDc kQ]
 grind [List.drop_take,List.drop_drop]
section
variable {B:BB}
theorem zt6 {l m:yB}(h:o + m.length≤l.length):zt7 (zaf l) o m.length (zaf m)=zaf (l.take o++(m++l.drop (o + m.length))):=by
 have ho:(l.take o).length=o:=by grind
 unfold zt7
 rw [zec,zec,ho,zkT,zFe,zdv]
 rfl
theorem zlN {len x:Nat}(hor:OR B k obj (.bytes len x)) {m:yB}(hq:zow len x o m.length (zaf m)=some lo') :
  ∃ cs e fr,obj = .cells cs e fr∧k.off + o + (m.map byt).length≤cs.size∧frOut fr cs.size∧OR B k (.cells (zbH cs (k.off + o) (m.map byt)) e fr) lo':=by
 obtain ⟨cs,e,fr,l,rfl,h2,h3,h4,h5,h6,h7,h8,h9⟩:=hor
 unfold zow at hq
 split at hq
 ·rename_i hle
  have hle:o + m.length≤len:=zaP.1 hle
  rw [zaV] at hq
  cases hq
  have hsz:k.off + o + (m.map byt).length≤cs.size:=by grind
  refine ⟨cs,e,fr,Z,hsz,by grind,_,e,fr,l.take o++(m++l.drop (o + m.length)),Z,h2,by grind [zk2],h4,h5,zk1 h6 (fun c hc => by obtain ⟨u,_,rfl⟩:=zDC.1 hc; rfl),by grind,?_,?_⟩
  ·grind [zt6]
  ·have:=zsc (l:=cs.toList) (vs:=m.map byt) (a:=k.off) (q:=o) (sz:=len) (by grind) (by grind)
   rw [h9] at this
   show ((cs.toList.take (k.off + o)++m.map byt++cs.toList.drop (k.off + o + (m.map byt).length)).drop k.off).take len=_
   simp_all
 grind
theorem zq7 {len:Nat}{t:Tr (List LV)}(hor:OR B k obj (.rows sz len t)) (hv:VRL B l vs) (h1:∀ c ∈ vs,c.oneCell' = true) (hq:zq8 sz len t o l=some lo') :
  ∃ cs e fr,obj = .cells cs e fr∧k.off + o + vs.length≤cs.size∧frOut fr cs.size∧OR B k (.cells (zbH cs (k.off + o) vs) e fr) lo':=by
 obtain ⟨cs,e,rfl,h2,h3,h4,h5,h6,h7⟩:=hor
 have hl:vs.length=l.length:=hv.len
 unfold zq8 at hq
 split at hq
 ·cases hq
 ·rename_i hle
  have hle:o + l.length≤len * sz:=zaP.1 hle
  have hsz:k.off + o + vs.length≤cs.size:=by omega
  have hsz' : k.off + o + vs.length≤cs.toList.length:=by omega
  have hd:=zEF o sz
  have hms:o % sz < sz:=zEE o h2
  have hd' : o=o / sz * sz + o % sz:=by grind
  have rowle:∀ r,r < len→r * sz + sz≤len * sz:=fun r hr => by
   have:(r + 1) * sz≤len * sz:=zDD _ hr
   grind
  have mulle:∀ a b,a < b→a * sz + sz≤b * sz:=fun a b hab => by
   have:(a + 1) * sz≤b * sz:=zDD _ hab
   grind
  split at hq
  ·rename_i hw
   have hw:o % sz + l.length≤sz:=zaP.1 hw
   rw [zb5] at hq
   cases hq
   refine ⟨cs,e,(0,0),Z,hsz,zaY _,_,e,Z,h2,h3,by grind [zk2],h5,zk1 h6 h1,fun r hr => ?_⟩
   rw [zel]
   show VRL B _ (((cs.toList.take (k.off + o)++vs++cs.toList.drop (k.off + o + vs.length)).drop (k.off + r * sz)).take sz)
   by_cases hr0:r=o / sz
   ·rw [show (Nat.div o sz)=o / sz from rfl,zDi hr0]
    subst hr0
    have hrow:=h7 _ hr
    have hk:=rowle _ hr
    have e1:k.off + o=k.off + o / sz * sz + o % sz:=by omega
    rw [e1,zsc kQ (by grind)]
    unfold rowW
    have:=(hrow.take (o % sz)).app (hv.app (hrow.drop (o % sz + l.length)))
    rw [← hl] at this
    rw [← hl]
    omega
   ·rw [show (Nat.div o sz)=o / sz from rfl,zDb hr0]
    rw [(zk3 hsz').1 ?_]
    ·grind
    ·rcases Nat.lt_or_gt_of_ne hr0 with hlt | hgt
     ·grind
     grind
  ·split at hq
   ·rename_i hw
    rw [zC9] at hw
    have w1:o % sz=0:=zar.1 hw.1
    have w2:l.length % sz=0:=zar.1 hw.2
    rw [zdY] at hq
    cases hq
    have hn:l.length=l.length / sz * sz:=by grind [Nat.div_add_mod,Nat.mul_comm]
    refine ⟨cs,e,(0,0),Z,hsz,zaY _,_,e,Z,h2,h3,by grind [zk2],h5,zk1 h6 h1,fun r hr => ?_⟩
    rw [zeS]
    show VRL B _ (((cs.toList.take (k.off + o)++vs++cs.toList.drop (k.off + o + vs.length)).drop (k.off + r * sz)).take sz)
    have hob:o=o / sz * sz:=by omega
    by_cases hin:o / sz≤r∧r < o / sz + l.length / sz
    ·rw [show (Nat.div o sz)=o / sz from rfl,show (Nat.div l.length sz)=l.length / sz from rfl,zDi hin]
     have m1:o / sz * sz≤r * sz:=zDD _ hin.1
     have m2:(r + 1) * sz≤(o / sz + l.length / sz) * sz:=zDD _ hin.2
     rw [zEk,zEk,zGl] at m2
     rw [(zk3 hsz').2 kQ kQ]
     have e1:k.off + r * sz - (k.off + o)=(r - o / sz) * sz:=by grind [Nat.sub_mul]
     rw [e1]
     exact (hv.drop _).take _
    ·rw [show (Nat.div o sz)=o / sz from rfl,show (Nat.div l.length sz)=l.length / sz from rfl,zDb hin]
     rw [(zk3 hsz').1 ?_]
     ·grind
     ·by_cases hlt:r < o / sz
      ·grind
      ·right
       have:(o / sz + l.length / sz) * sz≤r * sz:=zDD _ kQ
       grind
   grind
theorem OR.write (hor:OR B k obj lo) (hv:VRL B l vs) (h1:∀ c ∈ vs,c.oneCell' = true) (hq:zgt lo o l=some lo') :
  ∃ cs e fr,obj = .cells cs e fr∧k.off + o + vs.length≤cs.size∧frOut fr cs.size∧OR B k (.cells (zbH cs (k.off + o) vs) e fr) lo':=by
 unfold zgt at hq
 split at hq
 ·grind [zq7]
 ·split at hq
  ·rename_i y hy
   obtain ⟨m,rfl,rfl⟩:=zla hy hv
   have hl:(m.map byt).length=l.length:=hv.len
   grind [List.length_map,zlN]
  grind
 grind
theorem OR.writeM (hor:OR B k obj lo) {m:yB}(hq:Go.Proofs.YtjmnjkoekabioaaGreatDoor.writeM lo o m.length (zaf m)=some lo') :
  ∃ cs e fr,obj = .cells cs e fr∧k.off + o + (m.map byt).length≤cs.size∧frOut fr cs.size∧OR B k (.cells (zbH cs (k.off + o) (m.map byt)) e fr) lo':=by
 unfold Go.Proofs.YtjmnjkoekabioaaGreatDoor.writeM at hq
 split at hq
 ·grind [zlN]
 ·exact hor.write (VRL.bytes m) (fun c hc => by obtain ⟨u,_,rfl⟩:=zDC.1 hc; rfl) hq
theorem zc7 (h:zgt lo o l=some lo'):zbA lo=true:=by
 cases lo <;> first | rfl | (cases h; done)
theorem ze0 (h:writeM lo o n y=some lo'):zbA lo=true:=by
 cases lo <;> first | rfl | (cases h; done)
theorem zsp {fr:Nat×Nat}(h:frOut fr n) (hm:o + m≤n):noFr fr o m=true:=by
 simp only [noFr,zDw]
 by_cases h1:fr.2≤fr.1
 ·simp_all
 ·by_cases h2:fr.1 < n
  ·have:=h fr.1 h2
   grind
  grind [zaP]
variable {w0:World}{base:Nat}{w:World}{H:List Seg}{h:LH}{P:Program}
theorem zgn (S:Sep w0 base w H) (hr:HR G B h H) (hk:B[i]? = some k) (hi:zbA (atB h i)=true) (h1:∀ c ∈ vs,c.oneCell' = true) 
  (hw:∀ obj,OR B k obj (atB h i)→∃ cs e fr,obj = .cells cs e fr∧k.off + o + vs.length≤cs.size∧frOut fr cs.size∧OR B k (.cells (zbH cs (k.off + o) vs) e fr) lo') :
  ∃ H' w',(storeCells ⟨k.b,k.off + o,none⟩ vs).run P w = .ok () w'∧Sep w0 base w' H'∧HR G B (Tr.set .gone lo' h i) H':=by
 obtain ⟨j,obj,a1,a2,a3⟩:=hr.put hi hk
 obtain ⟨cs,e,fr,rfl,b1,b2,b3⟩:=hw obj a2
 have hb:=(S.at_ a1 (j:=0) rfl).1
 have hst:=za6 P k.b (k.off + o) e fr vs 0 cs w hb (fun j g1 g2 => zlb (zsp b2 b1) j kQ kQ) kQ h1
 refine ⟨_,_,hst,S.setRow (j:=0) a1 Z _,?_⟩
 exact a3 _ _ b3
end
variable {G:List (Nat×Obj)}
def LOR (B:BB) (sz:Nat) (vs:List Value):LO→Prop
 | .rows s len t => s=sz∧0 < sz∧len * sz≤vs.length∧∀ r,r < len→VRL B (Tr.get [] t r) ((vs.drop (r * sz)).take sz)
 | .bytes len x => sz=1∧∃ l:yB,l.length=len∧zaf l=x∧len≤vs.length∧vs.take len=l.map byt
 | _ => False
theorem LOR.mono (hp:B <+: B') :∀ {lo:LO},LOR B sz vs lo→LOR B' sz vs lo
 | .rows s len t,⟨h1,h2,h3,h4⟩ => ⟨h1,h2,h3,fun r hr => VRL.mono hp _ _ (h4 r hr)⟩
 | .bytes len x,h => h
 | .gone,h => h
 | .map _ _ _,h => h
 | .iter _ _ _ _,h => h
 | .loop _ _ _ _ _ _ _ _,h => h
 | .defd _,h => h
section
variable {B:BB}{sz:Nat}{vs:List Value}{lo:LO}
theorem LOR.or (hl:LOR B sz vs lo) {off:Nat}{rest:List Value}(hc:cs.toList.drop off=vs++rest) (ho:off + vs.length≤cs.size) (h1:∀ c ∈ cs.toList,c.oneCell' = true) (b:Nat) (e:TypeId) {fr:Nat×Nat}(hf:frOut fr cs.size) (hfr:(∀ s l t,lo≠.rows s l t)∨fr=(0,0)) :
  OR B ⟨b,off,cs.size,sz⟩ (.cells cs e fr) lo:=by
 cases lo with
 | rows s len t =>
  obtain ⟨rfl,h2,h3,h4⟩:=hl
  rcases hfr with hfr | rfl
  ·grind
  refine ⟨cs,e,Z,h2,Z,Z,by grind,h1,fun r hr => ?_⟩
  have:(cs.toList.drop (off + r * s)).take s=(vs.drop (r * s)).take s:=by
   have hr' : (r + 1) * s≤len * s:=zDD _ hr
   rw [zEk,zGl] at hr'
   rw [← zEj,hc,zDS kQ,zD0 (by grind)]
  grind
 | bytes len x =>
  obtain ⟨rfl,l,h2,h3,h4,h5⟩:=hl
  refine ⟨cs,e,fr,l,Z,Z,Z,by grind,hf,h1,h2,h3,?_⟩
  grind
 | _ => exact hl.elim
theorem zd4 {byte:Bool}(h:mkLO byte sz l=some lo) (hv:VRL B l vs) (hb:byte=true→sz=1):LOR B sz vs lo:=by
 have hl:=hv.len
 unfold mkLO at h
 split at h
 ·split at h
  ·rename_i x hx
   rw [zaV] at h
   cases h
   obtain ⟨m,rfl,rfl⟩:=zla hx hv
   rw [zD4] at hl
   exact ⟨hb rfl,m,hl,rfl,by grind,zDc (by grind)⟩
  grind
 ·unfold mkR at h
  split at h
  ·rename_i hc
   rw [zC9,zC9] at hc
   obtain ⟨c1,c2,c3⟩:=hc
   have c1:=zbd.1 c1
   have c2:l.length % sz=0:=zar.1 c2
   rw [zdY] at h
   cases h
   have hn:l.length=l.length / sz * sz:=by grind [Nat.div_add_mod,Nat.mul_comm]
   exact ⟨rfl,c1,by show l.length / sz * sz≤_; omega,fun r hr => zvE hv hn .e r hr⟩
  grind
end
section
variable {X:Pt}{E:Env}{H:List Seg}{B:BB}{h h' : LH}{cx:Cx}{f:SlF}{lv:LV}{nx nx' : Nat}
def MR (G:List (Nat×Obj)) (B:BB) (lv:LV) (nx' : Nat) (h' : LH):Value→List Seg→Prop:=fun v H' => ∃ B',B <+: B'∧B'.length=nx'∧VR B' lv v∧HR G B' h' H'
def MoOk (G:List (Nat×Obj)) (X:Pt) (E:Env) (H:List Seg) (B:BB) (op:Op) (lv:LV) (nx' : Nat) (h' : LH):Prop:=Does X E H op (MR G B lv nx' h')
theorem zcT {v:LV}(hq:newB lo v nx h = .ok lv nx' h'):lv=v∧nx' = nx + 1∧h' = Tr.set .gone lo h nx:=by
 unfold newB at hq
 split at hq
 ·rw [zb5,zaV] at hq
  grind
 grind
theorem zeW {byte:Bool}{v:LV}(hq:zmj byte sz l v nx h = .ok lv nx' h'):∃ lo,mkLO byte sz l=some lo∧lv=v∧nx' = nx + 1∧h' = Tr.set .gone lo h nx:=by
 unfold zmj optR at hq
 grind [zcT]
theorem zfK (hc:CxOk X.P X.w0 X.base cx) (hb:zd6 cx e=true):(mkTI X.P e).sz=1∧X.P.underlying e=some (.int .u8)∧known X.P e=true:=by
 unfold zd6 at hb
 rw [hc.ty] at hb
 cases hk:(mkTI X.P e).kind <;> simp only [hk] at hb
 case int kk =>
  cases kk <;> simp only at hb <;> try (cases hb; done)
  simp_all [zar,zqD,k_of]
 all_goals cases hb
theorem zdQ (hn:B.length=nx):(B++[k])[nx]? = some k:=by grind
theorem MR.new (hr:HR G B h H) (hn:B.length=nx) {rest:List Value}{fr:Nat×Nat}(hl:LOR B sz vs lo) (hc:cs.toList=vs++rest) (h1:∀ c ∈ cs.toList,c.oneCell' = true) (hf:frOut fr cs.size) (hfr:(∀ s l t,lo≠.rows s l t)∨fr=(0,0)) (b:Nat) {v:Value}
  (hv:VR (B++[⟨b,0,cs.size,sz⟩]) lv v):MR G B lv (nx + 1) (Tr.set .gone lo h nx) v ([(b,.cells cs e fr)]::H):=by
 have hp:B <+: B++[⟨b,0,cs.size,sz⟩]:=zDR _ _
 refine ⟨_,hp,by grind,hv,hr.new hn ?_⟩
 refine (hl.mono hp).or (by rw [zFe]; exact hc) ?_ h1 b e hf hfr
 have:=zDh List.length hc
 grind
theorem zxx (hc:CxOk X.P X.w0 X.base cx) (hr:HR G B h H) (hn:B.length=nx) (hq:newE cx e (cells (cx.ty e).zero) nx h = .ok lv nx' h'):MoOk G X E H B (.alloc e) lv nx' h':=by
 unfold newE at hq
 rw [hc.ty] at hq
 split at hq
 ·rename_i hl
  obtain ⟨rfl,rfl,rfl⟩:=zcT hq
  obtain ⟨_,z,z1,z2,z3,z4⟩:=zck (P:=X.P) (t:=e) B (fun e => by rw [e] at hl; cases hl)
  obtain ⟨c1,c2⟩:=zb0 z3 hl
  simp only [VRL] at c1
  refine (Do.alloc z2 Z).mono ?_
  rintro v H' ⟨b,rfl,rfl⟩
  refine MR.new hr hn (sz:=1) (vs:=[]) (lo:=.rows 1 0 .e) ⟨Z,by omega,by simp,fun r hr => absurd hr kQ⟩ (rest:=[]) (by grind) c2 (zaY _) (.inr Z) b ?_
  simp only [VR]
  simp_all
 ·rename_i l _ hl
  obtain ⟨lo,h1,rfl,rfl,rfl⟩:=zeW hq
  obtain ⟨_,z,z1,z2,z3,z4⟩:=zck (P:=X.P) (t:=e) B (fun e => by rw [e] at hl; cases hl)
  obtain ⟨c1,c2⟩:=zb0 z3 hl
  refine (Do.alloc z2 Z).mono ?_
  rintro v H' ⟨b,rfl,rfl⟩
  refine MR.new hr hn (zd4 h1 c1 (fun hb => (zfK hc hb).1)) (rest:=[]) kY c2 (zaY _) (.inr Z) b ?_
  simp only [VR]
  simp_all
 grind
theorem zCz (hc:CxOk X.P X.w0 X.base cx) (hr:HR G B h H) (hn:B.length=nx) (hE:ER B f E) (hq:newE cx e (cells (evO x f)) nx h = .ok lv nx' h'):MoOk G X E H B (.box e x) lv nx' h':=by
 unfold newE at hq
 rw [hc.ty] at hq
 split at hq
 ·rename_i hl
  obtain ⟨rfl,rfl,rfl⟩:=zcT hq
  obtain ⟨v,v1,v2⟩:=hE.ev x (fun e => by rw [e] at hl; cases hl)
  obtain ⟨c1,c2⟩:=zb0 v2 hl
  simp only [VRL] at c1
  refine (zpW Z v1).mono ?_
  rintro u H' ⟨b,rfl,rfl⟩
  refine MR.new hr hn (sz:=1) (vs:=[]) (lo:=.rows 1 0 .e) ⟨Z,by omega,by simp,fun r hr => absurd hr kQ⟩ (rest:=[]) (by grind) c2 (zaY _) (.inr Z) b ?_
  simp only [VR]
  simp_all
 ·rename_i l _ hl
  obtain ⟨lo,h1,rfl,rfl,rfl⟩:=zeW hq
  obtain ⟨v,v1,v2⟩:=hE.ev x (fun e => by rw [e] at hl; cases hl)
  obtain ⟨c1,c2⟩:=zb0 v2 hl
  refine (zpW Z v1).mono ?_
  rintro u H' ⟨b,rfl,rfl⟩
  refine MR.new hr hn (zd4 h1 c1 (fun hb => (zfK hc hb).1)) (rest:=[]) kY c2 (zaY _) (.inr Z) b ?_
  simp only [VR]
  simp_all
 grind
theorem zet {v:LV}(hq:zhG h i o l v nx = .ok lv nx' h'):∃ lo,zgt (atB h i) o l=some lo∧lv=v∧nx' = nx∧h' = Tr.set .gone lo h i:=by
 unfold zhG at hq
 split at hq
 ·rename_i lo hlo
  unfold putB at hq
  rw [zb5] at hq
  grind
 grind
theorem zgu {v:LV}(hq:zjU h i o n y v nx = .ok lv nx' h'):∃ lo,writeM (atB h i) o n y=some lo∧lv=v∧nx' = nx∧h' = Tr.set .gone lo h i:=by
 unfold zjU at hq
 split at hq
 ·rename_i lo hlo
  unfold putB at hq
  rw [zb5] at hq
  grind
 grind
theorem zdH:VR B (.tup []) Go.undef:=by simp only [VR]; exact ⟨#[],rfl,VRL.nil_⟩
theorem zvu (hc:CxOk X.P X.w0 X.base cx) (hr:HR G B h H) (hn:B.length=nx) (hE:ER B f E) {a:Operand}(hq:zrL (cx.ty t) (evO a f) (evO x f) nx h = .ok lv nx' h'):MoOk G X E H B (.store t a x) lv nx' h':=by
 unfold zrL at hq
 rw [hc.ty] at hq
 split at hq
 ·rename_i i o ha
  split at hq
  ·rename_i l hl
   split at hq
   ·rename_i hb
    rw [zC9] at hb
    have hlen:=zar.1 hb.1
    have hk:=zs3 hb.2
    obtain ⟨lo,hw,rfl,rfl,rfl⟩:=zet hq
    obtain ⟨va,a1,a2⟩:=hE.ev a (by grind)
    rw [ha] at a2; simp only [VR] at a2
    obtain ⟨k,hk1,rfl⟩:=a2
    obtain ⟨v,v1,v2⟩:=hE.ev x (fun e => by rw [e] at hl; cases hl)
    obtain ⟨c1,c2⟩:=zb0 v2 hl
    refine zcL Z fun dst ty pos after g ρ w hρ S => ?_
    obtain ⟨H',w',r1,r2,r3⟩:=zgn (P:=X.P) S hr hk1 (zc7 hw) (o:=o) c2 (fun obj hor => hor.write c1 c2 hw)
    refine ⟨w',H',?_,r2,B,zDj _,hn,zdH,r3⟩
    have hsz:v.cells.size=(mkTI X.P t).sz:=by have:=c1.len; grind
    simp_all [execOp,Instr.storeAt,Instr.sureAddr,storeVar,zbG]
   grind
  grind
 grind
theorem zqv (hc:CxOk X.P X.w0 X.base cx) (hr:HR G B h H) (hn:B.length=nx) (hE:ER B f E) {r:Option Operand}(hq:zlg (cx.ty t).kind (evM r f) nx h = .ok lv nx' h'):MoOk G X E H B (.makeMap t r) lv nx' h':=by
 have fin:∀ b:Nat,MR G B (.map nx) (nx + 1) (Tr.set .gone (.map 0 [] []) h nx) (.map (some b)) ([(b,.map #[] 0)]::H):=by
  intro b
  refine ⟨B++[⟨b,0,0,0⟩],zDR _ _,by grind,by simp only [VR]; simp_all,hr.new hn (k:=⟨b,0,0,0⟩) (obj:=.map #[] 0) (lo:=.map 0 [] []) ⟨#[],Z,Z,by simp [MRL]⟩⟩
 unfold zlg at hq
 cases r with
 | none =>
  simp only [evM] at hq
  obtain ⟨rfl,rfl,rfl⟩:=zcT hq
  exact zaq Z fun dst ty pos after g ρ w hρ S => ⟨_,_,_,by simp [execOp,Instr.makeMap],S.alloc (.map #[] 0),fin _⟩
 | some x =>
  simp only [evM] at hq
  rw [hc.ty] at hq
  split at hq
  ·rename_i kt e k n hk hx
   obtain ⟨rfl,rfl,rfl⟩:=zcT hq
   obtain ⟨v,v1,v2⟩:=hE.ev x (by grind)
   rw [hx] at v2; simp only [VR] at v2; subst v2
   have hu:=(zjN hk).1
   exact zaq Z fun dst ty pos after g ρ w hρ S => ⟨_,_,_,by simp_all [execOp,Instr.makeMap,run_underlying,asInt,asIntOf],S.alloc (.map #[] 0),fin _⟩
  grind
theorem VRL.rep {z:List LV}{zv:List Value}(hz:VRL B z zv):∀ n,VRL B (repL n z) (List.replicate n zv).flatten
 | 0 => by simp [repL,VRL]
 | n + 1 => by rw [repL,zFF,zEb]; exact hz.app (VRL.rep hz n)
theorem ziP {zv:List Value}(h1:∀ c ∈ zv,c.oneCell' = true) (n:Nat):∀ c ∈ (List.replicate n zv).flatten,c.oneCell' = true:=by
 simp_all
theorem zyZ (zv:List α) (n:Nat):(List.replicate n zv).flatten.length=n * zv.length:=by
 simp_all
theorem zCy (hc:CxOk X.P X.w0 X.base cx) (hr:HR G B h H) (hn:B.length=nx) (hE:ER B f E) {t:Nat}(hq:(zdT cx t n).go (zeE ps.toList f) nx h = .ok lv nx' h'):MoOk G X E H B (.buildSlice t n ps) lv nx' h':=by
 unfold zdT at hq
 rw [hc.ty] at hq
 cases hk:(mkTI X.P t).kind <;> simp only [hk,zaJ] at hq
 case slice e =>
  obtain ⟨hu,hke⟩:=zbX hk
  unfold bslE at hq
  rw [hc.ty] at hq
  split at hq
  ·rename_i z hz hle
   have hle:n * (mkTI X.P e).sz≤16777216:=zaP.1 hle
   split at hq
   ·rename_i l hl
    obtain ⟨lo,h1,rfl,rfl,rfl⟩:=zeW hq
    obtain ⟨_,zv,z1,z2,z3,z4⟩:=zck (P:=X.P) (t:=e) B (fun e => by rw [e] at hz; cases hz)
    obtain ⟨c1,c2⟩:=zb0 z3 hz
    obtain ⟨vs,v1,v2,v3⟩:=zjj hE ps.toList (zeK _ _ _ hl)
    obtain ⟨r,r1,r2,r3,r4⟩:=zgY (place:=plcA (mkTI X.P e).sz) _ vs (repL n z) (List.replicate n zv.cells.toList).flatten l (by rw [v2,zeD]) v3 (c1.rep n) (ziP c2 n) hl
    refine (za2 hu z2 (zkX hke) (zar.2 kQ) (zaP.2 hle) v1 r1).mono ?_
    rintro u H' ⟨b,rfl,rfl⟩
    refine MR.new hr hn (zd4 h1 r2 (fun hb => (zfK hc hb).1)) (rest:=[]) kY kQ (zaY _) (.inr Z) b ?_
    simp only [VR]
    simp_all
   grind
  grind
 all_goals cases hq
theorem zyd {v:LV}(h:isZ v=true):v = .int .u8 (.ofNat 0):=by
 grind [isZ]
theorem zix:∀ n,zaf (List.replicate n 0)=0
 | 0 => rfl
 | n + 1 => by rw [zFF,zaf,zix n]; rfl
theorem zjT (n:Nat):(List.replicate n [byt 0]).flatten=(List.replicate n 0).map byt:=by
 simp_all
theorem zzy (hc:CxOk X.P X.w0 X.base cx) (hr:HR G B h H) (hn:B.length=nx) (hE:ER B f E) {y:Operand}(hq:zhk cx (cx.ty t).kind (evO x f) (evO y f) nx h = .ok lv nx' h'):MoOk G X E H B (.makeSlice t x y) lv nx' h':=by
 unfold zhk at hq
 rw [hc.ty] at hq
 split at hq
 ·rename_i e l c hk hl hcc
  obtain ⟨hu,hke⟩:=zbX hk
  split at hq
  ·rename_i hb
   rw [zC9,zC9] at hb
   obtain ⟨b1,b2,b3⟩:=hb
   have b1:=zaP.1 b1
   have b2:=zbd.1 b2
   have b3:=zbd.1 b3
   obtain ⟨vx,x1,x2⟩:=hE.ev x (fun e => by rw [e] at hl; cases hl)
   obtain ⟨k1,rfl⟩:=zeX hl x2
   obtain ⟨vy,y1,y2⟩:=hE.ev y (fun e => by rw [e] at hcc; cases hcc)
   obtain ⟨k2,rfl⟩:=zeX hcc y2
   obtain ⟨io,hio,hsz,hby⟩:=zbR hke
   have run:∀ {z:Value},(∀ w,(zeroValue e).run X.P w = .ok z w)→z.cells.size=(mkTI X.P e).sz→∀ (w:World),(Instr.makeSlice t (.int k1 (l:Int)) (.int k2 (c:Int))).run X.P w = .ok (.slice (some ⟨w.heap.size,0,none⟩) l c) (w.alloc (.cells ((List.replicate c z.cells.toList).flatten).toArray e)):=by
    intro z hz hzs w
    have hw1:IntKind.i64.wrap (l:Int)=l:=w64 kQ kQ
    have hw2:IntKind.i64.wrap (c:Int)=c:=w64 kQ kQ
    have hbig:¬ ((281474976710656:Int) < (io.bytes:Int) * (c:Int)):=by
     have h1:io.bytes≤1000000:=by omega
     have:io.bytes * c≤1000000 * 100000:=zGq h1 kQ
     omega
    have h1:¬ ((c:Int) < 0):=by omega
    have h2:¬ ((l:Int) < 0):=by omega
    have h3:¬ ((c:Int) < (l:Int)):=by omega
    have hasi:∀ (q:IntKind) (m:Nat) (w:World),(asInt (.int q (m:Int))).run X.P w = .ok (m:Int) w:=fun q m w => by simp [asInt,asIntOf]
    have hrow:=zgL z.cells c
    rw [hzs] at hrow
    simp only [Instr.makeSlice,Sem.run_bind,run_underlying hu,Result.andThen_ok,hasi,typeInfo,run_program,hio,Sem.run_pure,zbG hke]
    by_cases h0:c * (mkTI X.P e).sz=0
    ·have hemp:(List.replicate c z.cells.toList).flatten=[]:=by
      grind
     have er:∀ f:Nat→Value,(Array.range 0).map f = #[]:=fun f => by
      grind
     simp [hw1,hw2,hbig,h1,h2,h3,newRow,hio,h0,hemp,zbG hke,er]
    ·simp [hw1,hw2,hbig,h1,h2,h3,newRow,hio,h0,hz,hzs,zbG hke]
     grind
   unfold mkSl at hq
   rw [hc.ty] at hq
   split at hq
   ·rename_i hb
    rw [zC9] at hb
    obtain ⟨s1,s2,s3⟩:=zfK hc hb.1
    have hz:=zyd hb.2
    obtain ⟨rfl,rfl,rfl⟩:=zcT hq
    obtain ⟨_,zv,z1,z2,z3,z4⟩:=zck (P:=X.P) (t:=e) B (by grind)
    rw [hz] at z3
    simp only [VR] at z3
    subst z3
    refine zaq Z fun dst ty pos after g ρ w hρ S => ⟨_,_,_,by simp only [execOp,hρ _ _ x1,hρ _ _ y1,Sem.run_bind]; rw [run z1 z4 w]; simp only [Result.andThen_ok,Sem.run_pure]; rfl,S.alloc _,?_⟩
    have ez:(List.replicate c (Value.int .u8 (Int.ofNat 0)).cells.toList).flatten=(List.replicate c (0:UInt8)).map byt:=zjT c
    rw [ez]
    refine MR.new hr hn (sz:=1) (lo:=.bytes c 0) (vs:=(List.replicate c (0:UInt8)).map byt) (rest:=[]) ⟨Z,List.replicate c 0,by simp,zix c,by simp,by simp⟩ kY (fun u hu => by
     have hu:u ∈ (List.replicate c (0:UInt8)).map byt:=hu
     obtain ⟨v,_,rfl⟩:=zDC.1 hu; rfl) (zaY _) (.inr rfl) _ ?_
    simp only [VR]
    exact ⟨_,zdQ hn,Z⟩
   ·split at hq
    ·rename_i z hz
     obtain ⟨lo,h1,rfl,rfl,rfl⟩:=zeW hq
     obtain ⟨_,zv,z1,z2,z3,z4⟩:=zck (P:=X.P) (t:=e) B (fun e => by rw [e] at hz; cases hz)
     obtain ⟨c1,c2⟩:=zb0 z3 hz
     refine zaq Z fun dst ty pos after g ρ w hρ S => ⟨_,_,_,by simp only [execOp,hρ _ _ x1,hρ _ _ y1,Sem.run_bind]; rw [run z1 z4 w]; simp only [Result.andThen_ok,Sem.run_pure]; rfl,S.alloc _,?_⟩
     refine MR.new hr hn (zd4 h1 (c1.rep c) (fun hb => by cases hb)) (rest:=[]) kY (by simp_all) (zaY _) (.inr Z) _ ?_
     simp only [VR]
     simp_all
    grind
  grind
 grind
end
section core
variable {P:Program}{w0:World}{base:Nat}{H:List Seg}
def AppX (P:Program) (w0:World) (base:Nat) (H:List Seg) (e t2:TypeId) (sz:Nat) (x:Value) (n:Nat) (news:List Value):Prop :=
 ((P.underlying t2=some .string∨∃ e2,P.underlying t2=some (.slice e2))∧(∀ w,(Builtin.lenOf x).run P w = .ok n w)∧∀ w,Sep w0 base w H→(Builtin.firstCells sz n x).run P w = .ok news.toArray w) ∨
 ∃ k kk zv,P.underlying t2=some (.int k)∧x = .int kk (n:Int)∧n < 1000000∧(∀ w,(zeroValue e).run P w = .ok zv w)∧zv.cells.size=sz∧news=(List.replicate n zv.cells.toList).flatten
theorem zoR (hzs:zv.cells.size=sz) (h:n * sz=0):(List.replicate n zv.cells.toList).flatten=[] :=
 zDk (by simp_all)
theorem zm0 {t2:TypeId}{ty:TypeId}(ht:ts[0]? = some t) (ht2:ts[1]? = some t2) (hu:P.underlying t=some (.slice e)) (hke:known P e=true) {x:Value} 
  (hx:AppX P w0 base H e t2 (mkTI P e).sz x n news) (hb:(mkTI P e).bytes < 1000000) (hroom:m + n≤C) {w':World}(S:Sep w0 base w H) (hst:match A with | some a => (storeCells (a.add (m * (mkTI P e).sz)) news).run P w = .ok () w' | none => w' = w) :
  (Builtin.append_ ts ty #[.slice A m C,x]).run P w = .ok (.slice A (m + n) C) w':=by
 obtain ⟨io,hio,hsz,hby⟩:=zbR hke
 rcases hx with ⟨h2,h0,h1⟩ | ⟨k,kk,zv,h2,rfl,hn,hz,hzs,rfl⟩
 ·have h1:=h1 w S
  cases A with
  | none =>
   subst hst
   rcases h2 with h2 | ⟨e2,h2⟩ <;> simp [Builtin.append_,ht,ht2,run_underlying hu,run_underlying h2,zbG hke,h0,h1,hroom]
  | some a =>
   have hst:(storeCells (a.add (m * (mkTI P e).sz)) news).run P w = .ok () w':=hst
   rcases h2 with h2 | ⟨e2,h2⟩ <;> simp [Builtin.append_,ht,ht2,run_underlying hu,run_underlying h2,zbG hke,h0,h1,hroom,hst]
 ·have hw:IntKind.i64.wrap (n:Int)=n:=w64 kQ kQ
  have hbig:¬ ((281474976710656:Int) < (n:Int) * (io.bytes:Int)):=by
   have h1:n * io.bytes≤1000000 * 1000000:=zGq kQ kQ
   omega
  have hneg:¬ ((n:Int) < 0):=by omega
  have hasi:∀ w,(asInt (.int kk (n:Int))).run P w = .ok (n:Int) w:=fun w => by simp [asInt,asIntOf]
  by_cases h00:n * (mkTI P e).sz=0
  ·rw [zoR hzs h00] at hst
   cases A with
   | none => subst hst; simp [Builtin.append_,ht,ht2,run_underlying hu,run_underlying h2,zbG hke,hasi,hw,hneg,typeInfo,hio,hbig,hroom,h00]
   | some a =>
    have hst:(storeCells (a.add (m * (mkTI P e).sz)) []).run P w = .ok () w':=hst
    simp [Builtin.append_,ht,ht2,run_underlying hu,run_underlying h2,zbG hke,hasi,hw,hneg,typeInfo,hio,hbig,hroom,h00]
    simp_all
  ·have hzc:(Builtin.zeroCells zv.cells n).toList=(List.replicate n zv.cells.toList).flatten:=by rw [zbW]
   cases A with
   | none => subst hst; simp [Builtin.append_,ht,ht2,run_underlying hu,run_underlying h2,zbG hke,hasi,hw,hneg,typeInfo,hio,hbig,hroom,h00,hz]
   | some a =>
    have hst:(storeCells (a.add (m * (mkTI P e).sz)) (List.replicate n zv.cells.toList).flatten).run P w = .ok () w':=hst
    rw [← hzc] at hst
    simp [Builtin.append_,ht,ht2,run_underlying hu,run_underlying h2,zbG hke,hasi,hw,hneg,typeInfo,hio,hbig,hroom,h00,hz]
    simp_all
theorem zq0 {t2:TypeId}{ty:TypeId}(ht:ts[0]? = some t) (ht2:ts[1]? = some t2) (hu:P.underlying t=some (.slice e)) (hke:known P e=true) {x:Value} 
  (hx:AppX P w0 base H e t2 (mkTI P e).sz x n news) (hb:(mkTI P e).bytes < 1000000) (hm:m < 1000000) (hn:n < 1000000) (hroom:¬ m + n≤C) (hz:∀ w,(zeroValue e).run P w = .ok zv w) {old:List Value}
  (hold:∀ w,Sep w0 base w H→(Builtin.firstCells (mkTI P e).sz m (.slice A m C)).run P w = .ok old.toArray w) (S:Sep w0 base w H) :
  ∃ C',(m + n≤C'∧C'≤9223372036854775807)∧(Builtin.append_ ts ty #[.slice A m C,x]).run P w = .ok (.slice (some ⟨w.heap.size,0,none⟩) (m + n) C') (w.drew.alloc (.cells ((old++news)++(List.replicate (C' - (m + n)) zv.cells.toList).flatten).toArray e)):=by
 obtain ⟨io,hio,hsz,hby⟩:=zbR hke
 have hneed:C < m + n:=by omega
 have hb2:(m + n) * io.bytes≤140737488355328:=by
  have:(m + n) * io.bytes≤2000000 * 1000000:=zGq kQ kQ
  omega
 have hfits:=growslice_fits (bytes:=io.bytes) hneed hb2
 have hge:=grownCap_ge w (m + n) C e
 have Sd:Sep w0 base w.drew H:=S.drawn _
 have h3:=hold w.drew Sd
 have hb48:¬ (281474976710656 < Builtin.nextslicecap (m + n) C * io.bytes):=by omega
 have hmax:¬ ((9223372036854775807:Int) < (((m + n:Nat)):Int)):=by omega
 have hmax' : ¬ (IntKind.i64.max < (((m + n:Nat)):Int)):=hmax
 have ez:Builtin.zeroCells zv.cells (grownCap w (m + n) C e - (m + n))=((List.replicate (grownCap w (m + n) C e - (m + n)) zv.cells.toList).flatten).toArray:=zbW _ _
 have hch:(choose (.appendCap (m + n) C e)).run P w = .ok (grownCap w (m + n) C e) w.drew:=rfl
 have ecells:∀ r:List Value,old.toArray++news.toArray++r.toArray=((old++news)++r).toArray:=fun r => by simp
 have hcm:grownCap w (m + n) C e≤maxLen:=grownCap_le_maxLen w (m + n) C e (by grind [maxLen])
 refine ⟨grownCap w (m + n) C e,⟨hge,by grind [maxLen]⟩,?_⟩
 rcases hx with ⟨h2,h0,h1⟩ | ⟨k,kk,zn,h2,rfl,hn,hzn,hzs,rfl⟩
 ·have h0:=h0 w
  have h1:=h1 w.drew Sd
  rcases h2 with h2 | ⟨e2,h2⟩
  all_goals
   unfold Builtin.append_
   simp only [ht,ht2,run_underlying hu,run_underlying h2,zbG hke,typeInfo,Sem.run_bind,Result.andThen_ok,Sem.run_pure,run_program,hio,h0,zEn,zDX,zDz,zDy,zDU,hroom,hb48,false_or,hmax',false_and,hch,run_askRoom,h3,h1,newRow,run_newObj,hz,ez,ecells,Bool.not_false,zEm]
   rfl
 ·have hw:IntKind.i64.wrap (n:Int)=n:=w64 kQ kQ
  have hbig:¬ ((n:Int) * (io.bytes:Int) > 2 ^ 48):=by
   grind
  have hneg:¬ ((n:Int) < 0):=by omega
  have hasi:∀ w,(asInt (.int kk (n:Int))).run P w = .ok (n:Int) w:=fun w => by simp [asInt,asIntOf]
  have hzz:zn=zv:=by
   simp_all
  subst hzz
  by_cases h00:n * (mkTI P e).sz=0
  ·rw [zoR hzs h00] at ecells ⊢
   unfold Builtin.append_
   simp only [ht,ht2,run_underlying hu,run_underlying h2,zbG hke,typeInfo,Sem.run_bind,Result.andThen_ok,Sem.run_pure,run_program,hio,hasi,hw,hneg,zEn,zDX,zDz,zDy,zDU,hroom,hbig,zEJ,hb48,true_or,hmax',false_and,hch,run_askRoom,h3,h00,newRow,run_newObj,hz,ez,zFz,zEm]
   have:=ecells (List.replicate (grownCap w (m + n) C e - (m + n)) zn.cells.toList).flatten
   rw [← this]
   rfl
  ·have hzc:Builtin.zeroCells zn.cells n=((List.replicate n zn.cells.toList).flatten).toArray:=zbW _ _
   unfold Builtin.append_
   simp only [ht,ht2,run_underlying hu,run_underlying h2,zbG hke,typeInfo,Sem.run_bind,Result.andThen_ok,Sem.run_pure,run_program,hio,hasi,hw,hneg,zEn,zDX,zDz,zDy,zDU,hroom,hbig,zEJ,hb48,true_or,hmax',false_and,hch,run_askRoom,h3,h00,newRow,run_newObj,hz,ez,hzc,ecells,zFz,zEm]
   rfl
end core
variable {G:List (Nat×Obj)}
theorem zvT {l:List Value}{p q:Nat}(h:p + q≤l.length):(l.take (p + q)++vs++l.drop (p + q + vs.length)).drop p=((l.drop p).take q++vs)++l.drop (p + q + vs.length):=by
 grind
section
variable {X:Pt}{E:Env}{H:List Seg}{B:BB}{h h' : LH}{cx:Cx}{f:SlF}{lv:LV}{nx nx' : Nat}
theorem zcg {b:Builtin}{R:Value→List Seg→Prop}(hx:evs E xs.toList=some vs)
  (hr:∀ w ty consts,Sep X.w0 X.base w H→∃ v w' H',(builtin b ts ty consts vs.toArray).run X.P w = .ok (.value v) w'∧Sep X.w0 X.base w' H'∧R v H'):Does X E H (.call ⟨.builtin b,xs,ts⟩) R :=
 zaq rfl fun dst ty pos after g ρ w hρ S => by
  obtain ⟨v,w',H',h1,h2,h3⟩:=hr w ty (xs.map fun | .const _ => true | _ => false) S
  grind [execOp,resolve,zcp,Sem.run_bind,Sem.run_pure,Result.andThen_ok,invoke]
theorem zzf {fr:Nat×Nat}(hb:w.heap[k.b]? = some (.cells cs e fr)) {A:Addr}(hA:m=0∨A=⟨k.b,k.off + o,none⟩) (hle:k.off + o + m * sz≤cs.size) :
  (Builtin.firstCells sz m (.slice (some A) m C)).run P w = .ok ((cs.toList.drop (k.off + o)).take (m * sz)).toArray w:=by
 rcases hA with rfl | rfl
 ·simp [Builtin.firstCells,loadCells,loadCellsFrom]
 ·have hlen:((cs.toList.drop (k.off + o)).take (m * sz)).length=m * sz:=by grind
  have:=run_loadCells_list (P:=P) w ⟨k.b,k.off + o,none⟩ ((cs.toList.drop (k.off + o)).take (m * sz)) (fun j v hv => by
   rw [zaO,cell_of_row w k.b (k.off + o + j) cs e fr hb]
   grind)
  rw [hlen] at this
  exact this
structure App (X:Pt) (H:List Seg) (ts:Array TypeId) (t t2 e:TypeId) (vx:Value) (n:Nat) (news:List Value):Prop where
  ht:ts[0]? = some t
  ht2:ts[1]? = some t2
  hu:X.P.underlying t=some (.slice e)
  hke:known X.P e=true
  hx:AppX X.P X.w0 X.base H e t2 (mkTI X.P e).sz vx n news
  hb:(mkTI X.P e).bytes < 1000000
  hn:n < 1000000
  one:∀ c ∈ news,c.oneCell' = true
  len:news.length=n * (mkTI X.P e).sz
variable {ts:Array TypeId}{ty t t2 e:TypeId}{vx:Value}{n m:Nat}{news:List Value}
theorem zpQ (ha:App X H ts t t2 e vx n news) (hr:HR G B h H) (hn:B.length=nx) (S:Sep X.w0 X.base w H) (hk:B[i]? = some k) (hi:zbA (atB h i)=true) (hroom:m + n≤C) 
  (hw:∀ obj,OR B k obj (atB h i)→∃ cs e0 fr,obj = .cells cs e0 fr∧k.off + (o + m * (mkTI X.P e).sz) + news.length≤cs.size∧frOut fr cs.size∧OR B k (.cells (zbH cs (k.off + (o + m * (mkTI X.P e).sz)) news) e0 fr) lo')
  (hv:VR B lv (.slice (some ⟨k.b,k.off + o,none⟩) (m + n) C)) :
  ∃ v w' H',(Builtin.append_ ts ty #[.slice (some ⟨k.b,k.off + o,none⟩) m C,vx]).run X.P w = .ok v w'∧Sep X.w0 X.base w' H'∧MR G B lv nx (Tr.set .gone lo' h i) v H':=by
 obtain ⟨H',w',r1,r2,r3⟩:=zgn (P:=X.P) S hr hk hi (o:=o + m * (mkTI X.P e).sz) ha.one hw
 refine ⟨_,w',H',zm0 (A:=some ⟨k.b,k.off + o,none⟩) ha.ht ha.ht2 ha.hu ha.hke ha.hx ha.hb hroom S ?_,r2,B,zDj _,hn,hv,r3⟩
 grind [storeCells,mkTI,zaO]
theorem zjq (ha:App X H ts t t2 e vx n news) (hr:HR G B h H) (hn:B.length=nx) (S:Sep X.w0 X.base w H) (hm:m < 1000000) (hroom:¬ m + n≤C) (hz:∀ w,(zeroValue e).run X.P w = .ok zv w) (hz1:∀ c ∈ zv.cells.toList,c.oneCell' = true) (hzs:zv.cells.size=(mkTI X.P e).sz)
  {old:List Value}(ho1:∀ c ∈ old,c.oneCell' = true) (hlen:old.length=m * (mkTI X.P e).sz) (hold:∀ w,Sep X.w0 X.base w H→(Builtin.firstCells (mkTI X.P e).sz m (.slice A m C)).run X.P w = .ok old.toArray w) (hl:LOR B (mkTI X.P e).sz (old++news) lo) :
  ∃ v w' H',(Builtin.append_ ts ty #[.slice A m C,vx]).run X.P w = .ok v w'∧Sep X.w0 X.base w' H'∧MR G B (.slo nx 0 (m + n) 0) (nx + 1) (Tr.set .gone lo h nx) v H':=by
 obtain ⟨C',⟨c1,c9⟩,c2⟩:=zq0 (ty:=ty) ha.ht ha.ht2 ha.hu ha.hke ha.hx ha.hb hm ha.hn hroom hz hold S
 refine ⟨_,_,_,c2,(S.drawn (w.drawn + 1)).alloc _,?_⟩
 have hone:∀ c ∈ ((old++news)++(List.replicate (C' - (m + n)) zv.cells.toList).flatten).toArray.toList,c.oneCell' = true:=by
  intro c hc
  have hc:c ∈ (old++news)++(List.replicate (C' - (m + n)) zv.cells.toList).flatten:=hc
  rcases zDt.1 hc with hc | hc
  ·rcases zDt.1 hc with hc | hc
   ·grind
   ·exact ha.one c hc
  grind [ziP]
 refine MR.new hr hn hl Z hone (zaY _) (.inr Z) _ ?_
 simp only [VR]
 refine ⟨_,C',_,zdQ hn,Z,c1,?_,fun _ => Z,fun _ => Z,c9⟩
 show 0 + 0 + C' * (mkTI X.P e).sz=(((old++news)++(List.replicate (C' - (m + n)) zv.cells.toList).flatten).toArray).size
 have hl2:=ha.len
 simp only [zEI,zC6,zyZ,hlen,hl2,zEu,hzs]
 rw [Nat.sub_mul,zEk]
 have:(m + n) * (mkTI X.P e).sz≤C' * (mkTI X.P e).sz:=zDD _ c1
 grind
theorem zpP (ha:App X H ts t t2 e vx n news) (hr:HR G B h H) (hn:B.length=nx) (S:Sep X.w0 X.base w H) {A:Addr}(hk:B[i]? = some k) (hi:zbA (atB h i)=true) (hm:m < 1000000) (hn0:0 < n) (hmC:m≤C) (hC9:C≤9223372036854775807) (hks:k.sz=(mkTI X.P e).sz)
  (hC:k.off + o + C * k.sz=k.size) (hA:0 < C→A=⟨k.b,k.off + o,none⟩) (hz:∀ w,(zeroValue e).run X.P w = .ok zv w) (hz1:∀ c ∈ zv.cells.toList,c.oneCell' = true) (hzs:zv.cells.size=(mkTI X.P e).sz) 
  (hlo:∀ obj,OR B k obj (atB h i)→∃ cs e0 fr,obj = .cells cs e0 fr∧cs.size=k.size∧frOut fr cs.size∧(∀ c ∈ cs.toList,c.oneCell' = true)∧((∀ s l t,lo≠.rows s l t)∨fr=(0,0))∧LOR B (mkTI X.P e).sz ((cs.toList.drop (k.off + o)).take (m * (mkTI X.P e).sz)++news) lo) :
  ∃ v w' H',(Builtin.append_ ts ty #[.slice (some A) m C,vx]).run X.P w = .ok v w'∧Sep X.w0 X.base w' H'∧MR G B (.slo nx 0 (m + n) 0) (nx + 1) (Tr.set .gone lo (Tr.set .gone .gone h i) nx) v H':=by
 obtain ⟨j,obj,a1,a2,a3⟩:=hr.move hn hi hk
 obtain ⟨cs,e0,fr,rfl,b1,b2,b3,b4,b5⟩:=hlo obj a2
 have hb:∀ w,Sep X.w0 X.base w H→w.heap[k.b]? = some (.cells cs e0 fr):=fun w S => (S.at_ a1 (j:=0) rfl).1
 rw [hks] at hC
 have hmle:m * (mkTI X.P e).sz≤C * (mkTI X.P e).sz:=zDD _ hmC
 have hA0:m=0∨A=⟨k.b,k.off + o,none⟩:=by
  grind
 have hlen:((cs.toList.drop (k.off + o)).take (m * (mkTI X.P e).sz)).length=m * (mkTI X.P e).sz:=by grind
 have ho1:∀ c ∈ (cs.toList.drop (k.off + o)).take (m * (mkTI X.P e).sz),c.oneCell' = true:=fun c hc => b3 c (zEU (zEr hc))
 by_cases hroom:m + n≤C
 ·have hAe:=hA kQ
  subst hAe
  have hnle:(m + n) * (mkTI X.P e).sz≤C * (mkTI X.P e).sz:=zDD _ hroom
  rw [zEk] at hnle
  have hl2:=ha.len
  have hsz:k.off + o + m * (mkTI X.P e).sz + news.length≤cs.size:=by omega
  have hst:=za6 X.P k.b (k.off + o + m * (mkTI X.P e).sz) e0 fr news 0 cs w (hb w S) (fun j g1 g2 => zlb (zsp b2 hsz) j kQ kQ) kQ ha.one
  refine ⟨_,_,_,zm0 (A:=some ⟨k.b,k.off + o,none⟩) ha.ht ha.ht2 ha.hu ha.hke ha.hx ha.hb hroom S ?_,S.setRow (j:=0) a1 Z (zbH cs (k.off + o + m * (mkTI X.P e).sz) news),?_⟩
  ·show (storeCells ((⟨k.b,k.off + o,none⟩:Addr).add (m * (mkTI X.P e).sz)) news).run X.P w = .ok () _
   rw [zaO]
   exact hst
  ·have hp:B <+: B++[(⟨k.b,k.off + o,cs.size,(mkTI X.P e).sz⟩:Bk)]:=zDR _ _
   refine ⟨B++[⟨k.b,k.off + o,cs.size,(mkTI X.P e).sz⟩],hp,by grind,?_,?_⟩
   ·simp only [VR]
    grind
   ·refine a3 _ _ _ Z ?_
    have hps:=zk2 hsz
    have:=(b5.mono hp).or (cs:=zbH cs (k.off + o + m * (mkTI X.P e).sz) news) (off:=k.off + o) (rest:=cs.toList.drop (k.off + o + m * (mkTI X.P e).sz + news.length)) (zvT (by grind)) (by
     grind) (zk1 b3 ha.one) k.b e0 (fr:=fr) (by grind) b4
    grind
 ·obtain ⟨v,w',H',r1,r2,B',p1,p2,p3,p4⟩:=zjq (ty:=ty) (lo:=lo) ha (hr.kill i) hn S hm hroom hz hz1 hzs ho1 hlen (fun w S => zzf (hb w S) hA0 kQ) b5
  exact ⟨v,w',H',r1,r2,B',p1,p2,p3,p4⟩
end
end Go.Proofs.YtjmnjkoekabioaaGreatDoor
