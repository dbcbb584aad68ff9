/- The parts of the proof that this law needs, in the order of their texts: the logic of walks, the plain laws, the walks. -/
import Derived.Test.YtdncjmehhahidaaGreatDoorQE09
namespace Go.Proofs.YtdncjmehhahidaaGreatDoor
set_option maxHeartbeats 400000
open Go.RowKit (Below)
set_option linter.unusedVariables false
set_option linter.unusedSimpArgs false
variable {G:List (Nat×Obj)}
section
variable {X:Pt}{E:Env}{H:List Seg}{B:BB}{h:LH}{cx:Cx}{f:SlF}{lv:LV}
theorem zbs (hE:ER B f E) {o:Option Operand}{d v:Nat}(hq:boundE d (evM o f)=some v):evBound E o d v:=by
 cases o with
 | none => simp only [evM,boundE] at hq; cases hq; rfl
 | some x =>
  simp only [evM,boundE] at hq
  obtain ⟨u,h1,h2⟩:=hE.ev x (fun e => by rw [e] at hq; cases hq)
  obtain ⟨k,rfl⟩:=zcm hq h2
  exact ⟨k,_,h1,rfl⟩
theorem okB_ok {b:Bool}{n:Nat}{v:LV}(hq:okB b n v = .ok lv):b=true∧v=lv:=by
 unfold okB at hq
 split at hq
 ·cases hq; exact ⟨rfl,rfl⟩
 ·cases hq
theorem slE_eq (i o sz l j m:Nat):slE i o sz l j m = .sl i (if m=l then o else o + l * sz) (j - l) (m - l):=by
 unfold slE offE
 simp only [frN_eq]
 cases hb:Nat.beq m l with
 | true => rw [if_pos (zaa.1 hb)]; rfl
 | false => rw [if_neg (fun e => by rw [zaa.2 e] at hb; cases hb)]; rfl
theorem sloE_eq (i o sz l j a:Nat):sloE i o sz l j a = .slo i (o + l * sz) (j - l) (sloA l o a):=by
 unfold sloE; simp only [frN_eq]; rfl
theorem zfw {e:TypeId}(h:known X.P e=true):sizeN X.P e (mkTI X.P e).sz=true:=by
 obtain ⟨i,h1,h2,_⟩:=zaI h
 unfold sizeN; rw [h1,h2]; exact zaa.2 rfl
theorem known_B {lo:LO}{k:Bk}{obj:Obj}(hor:OR B k obj lo) {sz:Nat}(h0:0 < sz) (hs:sz=szB lo):k.sz=sz∧k.off + knownB lo≤k.size:=by
 cases lo with
 | rows s len t => obtain ⟨cs,e,_,h2,h3,h4,h5,_⟩:=hor; exact ⟨by rw [h3,hs]; rfl,h5⟩
 | bytes len x => obtain ⟨cs,e,fr,l,_,h3,h4,h5,_⟩:=hor; exact ⟨by rw [h3,hs]; rfl,h5⟩
 | _ => simp only [szB] at hs; omega
theorem live_sz {lo:LO}(h:szB lo≠0):liveO lo=true:=by
 cases lo <;> first | rfl | exact absurd rfl h
theorem slice_ok (hc:CxOk X.P X.w0 X.base cx) (hr:HR G B h H) (hE:ER B f E) {t:TypeId}{x:Operand}{lo hi mx:Option Operand}(hq:(sliceE cx t).go (evO x f) (evM lo f) (evM hi f) (evM mx f) h = .ok lv):QuOk X E H B (.slice t x lo hi mx) lv:=by
 unfold sliceE at hq
 rw [hc.ty] at hq
 cases hk:(mkTI X.P t).kind <;> simp only [hk,W.go_mk] at hq
 case str =>
  have hu:=k_str hk
  split at hq
  ·rename_i l hl
   have b1:=zbs hE hl
   unfold cutStr at hq
   split at hq
   ·rename_i n y hx hm
    have hmx:mx=none:=by cases mx with
     | none => rfl
     | some z => cases hm
    subst hmx
    split at hq
    ·rename_i j hj
     have b2:=zbs hE hj
     unfold cutS at hq
     split at hq
     ·rename_i hb
      rw [Bool.and_eq_true] at hb
      have h1:=zaf.1 hb.1
      have h2:=zaf.1 hb.2
      simp only [frN_eq] at hq
      cases hq
      obtain ⟨vx,x1,x2⟩:=hE.ev x (by rw [hx]; simp)
      rw [hx] at x2; simp only [VR] at x2
      obtain ⟨s,rfl,rfl,rfl⟩:=x2
      refine ⟨str (subl s l j),?_,Do.sliceS l j b1 b2 h1 h2 hu x1⟩
      simp only [VR]
      exact ⟨_,rfl,zaA h2,by rw [zfu]; rfl⟩
     ·cases hq
    ·cases hq
   ·cases hq
  ·cases hq
 case slice e =>
  obtain ⟨hu,hke⟩:=zaL hk
  have hs:=zfw hke
  split at hq
  ·rename_i l hl
   have b1:=zbs hE hl
   unfold cutSl at hq
   rw [hc.ty] at hq
   split at hq
   ·rename_i hx
    split at hq
    ·rename_i hm hh
     cases hq
     have hmx:mx=none:=by cases mx with
      | none => rfl
      | some z => cases hm
     subst hmx
     obtain ⟨vx,x1,x2⟩:=hE.ev x (by rw [hx]; simp)
     rw [hx] at x2; simp only [VR] at x2; subst x2
     have b2:=zbs hE hh
     refine ⟨.slice none 0 0,by simp only [VR],Does.core rfl fun dst ty pos after g ρ w hρ S => ⟨_,w,H,?_,S,rfl,rfl⟩⟩
     have:=zcb (d:=dst) (ty:=ty) (pos:=pos) (after:=after) (g:=g) b1 b2 (zcF (n:=0)) (by simp) (Nat.le_refl _) (Nat.le_refl _) (Nat.le_refl _) hu hs x1 ρ w hρ
     simpa using this
    ·cases hq
   ·rename_i i o n c hx
    split at hq
    ·rename_i m j hm hj hf
     obtain ⟨hb,rfl⟩:=okB_ok hq
     rw [Bool.and_eq_true,Bool.and_eq_true] at hb
     have h1:=zaf.1 hb.1
     have h2:=zaf.1 hb.2.1
     have h3:=zaf.1 hb.2.2
     obtain ⟨vx,x1,x2⟩:=hE.ev x (by rw [hx]; simp)
     rw [hx] at x2; simp only [VR] at x2
     obtain ⟨k,hk1,rfl⟩:=x2
     have b2:=zbs hE hj
     have b3:=zbs hE hm
     have hmx:mx.isSome=true→hi.isSome=true:=by
      intro hs
      cases mx with
      | none => cases hs
      | some z => cases hi with
       | some y => rfl
       | none => simp [evM] at hf
     refine ⟨.slice (if m=l then some ⟨k.b,k.off + o,none⟩ else (some (⟨k.b,k.off + o,none⟩:Addr)).map (·.add (l * (mkTI X.P e).sz))) (j - l) (m - l),?_,Does.core rfl fun dst ty pos after g ρ w hρ S => ⟨_,w,H,zcb (d:=dst) b1 b2 b3 hmx h1 h2 h3 hu hs x1 ρ w hρ,S,rfl,rfl⟩⟩
     rw [slE_eq]
     simp only [VR]
     refine ⟨k,hk1,?_⟩
     split
     ·rfl
     ·simp only [Option.map_some,zai]; congr 3; omega
    ·cases hq
   ·rename_i i o n ad hx
    split at hq
    ·rename_i j hj
     have b2:=zbs hE hj
     obtain ⟨vx,x1,x2⟩:=hE.ev x (by rw [hx]; simp)
     rw [hx] at x2; simp only [VR] at x2
     obtain ⟨k,c,A,hk1,rfl,q1,q2,q3,q4,q5⟩:=x2
     unfold cutSlo at hq
     split at hq
     ·rename_i hm
      have hmx:mx=none:=by cases mx with
       | none => rfl
       | some z => cases hm
      subst hmx
      obtain ⟨hb,rfl⟩:=okB_ok hq
      rw [Bool.and_eq_true,Bool.and_eq_true,Bool.and_eq_true,Bool.or_eq_true] at hb
      obtain ⟨g0,g1,g2,g3⟩:=hb
      have g0:=zal.1 g0
      have g1:=zaa.1 g1
      have g2:=zaf.1 g2
      obtain ⟨k',jj,obj,a1,a2,a3⟩:=hr.at_ i (live_sz (by omega))
      rw [hk1] at a1; cases a1
      obtain ⟨c1,c2⟩:=known_B a3 g0 g1
      have hjc:j≤c:=by
       rcases g3 with g3 | g3
       ·have:=zaf.1 g3; omega
       ·have g3:o + j * (mkTI X.P e).sz≤knownB (atB h i):=zaf.1 g3
        rw [c1] at q2
        have:j * (mkTI X.P e).sz≤c * (mkTI X.P e).sz:=by omega
        exact Nat.le_of_mul_le_mul_right this g0
      refine ⟨.slice (if c=l then some A else (some A).map (·.add (l * (mkTI X.P e).sz))) (j - l) (c - l),?_,Does.core rfl fun dst ty pos after g ρ w hρ S => ⟨_,w,H,zcb (d:=dst) b1 b2 zcF (by simp) g2 hjc (Nat.le_refl _) hu hs x1 ρ w hρ,S,rfl,rfl⟩⟩
      rw [sloE_eq]
      simp only [VR]
      refine ⟨k,c - l,(if c=l then A else A.add (l * (mkTI X.P e).sz)),hk1,?_,by omega,?_,?_,?_,by omega⟩
      ·split <;> rfl
      ·rw [c1,Nat.sub_mul]
       have:l * (mkTI X.P e).sz≤c * (mkTI X.P e).sz:=Nat.mul_le_mul_right _ (by omega)
       rw [c1] at q2; omega
      ·intro hlt
       rw [if_neg (by omega),q3 (by omega),zai]
       congr 1; omega
      ·intro h0
       rw [if_pos (by omega)]
       cases l with
       | zero => exact q4 (by omega)
       | succ l => exact q3 (by omega)
     ·rename_i vm hm
      split at hq
      ·rename_i m vh hm2 hh2
       obtain ⟨hb,rfl⟩:=okB_ok hq
       rw [Bool.and_eq_true,Bool.and_eq_true,Bool.and_eq_true] at hb
       obtain ⟨g0,g1,g2,g3⟩:=hb
       have g0:=zal.1 g0
       have g1:=zaf.1 g1
       have g2:=zaf.1 g2
       have g3:=zaf.1 g3
       have b3:evBound E mx c m:=zbs hE (by rw [hm]; exact hm2)
       have hmx:mx.isSome=true→hi.isSome=true:=by
        intro _
        cases hi with
        | some y => rfl
        | none => cases hh2
       have hA:=q3 (by omega)
       subst hA
       refine ⟨.slice (if m=l then some ⟨k.b,k.off + o,none⟩ else (some (⟨k.b,k.off + o,none⟩:Addr)).map (·.add (l * (mkTI X.P e).sz))) (j - l) (m - l),?_,Does.core rfl fun dst ty pos after g ρ w hρ S => ⟨_,w,H,zcb (d:=dst) b1 b2 b3 hmx g1 g2 (by omega) hu hs x1 ρ w hρ,S,rfl,rfl⟩⟩
       rw [slE_eq]
       simp only [VR]
       refine ⟨k,hk1,?_⟩
       split
       ·rfl
       ·simp only [Option.map_some,zai]; congr 3; omega
      ·cases hq
    ·cases hq
   ·cases hq
  ·cases hq
 case array n e =>
  obtain ⟨hu,hke⟩:=zcp hk
  split at hq
  ·rename_i l hl
   have b1:=zbs hE hl
   unfold cutA at hq
   rw [hc.ty] at hq
   split at hq
   ·rename_i i o j hx hm hj
    have hmx:mx=none:=by cases mx with
     | none => rfl
     | some z => cases hm
    subst hmx
    obtain ⟨hb,rfl⟩:=okB_ok hq
    rw [Bool.and_eq_true] at hb
    have h1:=zaf.1 hb.1
    have h2:=zaf.1 hb.2
    obtain ⟨vx,x1,x2⟩:=hE.ev x (by rw [hx]; simp)
    rw [hx] at x2; simp only [VR] at x2
    obtain ⟨k,hk1,rfl⟩:=x2
    have b2:=zbs hE hj
    refine ⟨.slice (some (if n=l then ⟨k.b,k.off + o,none⟩ else (⟨k.b,k.off + o,none⟩:Addr).add (l * (mkTI X.P e).sz))) (j - l) (n - l),?_,Does.pureOp rfl fun dst ty pos after g ρ w hρ => ?_⟩
    ·rw [slE_eq]
     simp only [VR]
     refine ⟨k,hk1,?_⟩
     split
     ·rfl
     ·rw [zai]; congr 3; omega
    ·have:=zfm (P:=X.P) hρ false b1 b2 (zcF (n:=n)) (by simp) h1 h2 (Nat.le_refl _) w
     simp only [Option.map_none] at this
     simp [execOp,hρ _ _ x1,Instr.sliceAt,Instr.sureAddr,run_underlying hu,this,zaz hke]
   ·cases hq
  ·cases hq
 all_goals cases hq
theorem byteSl_ok {s:TypeId}(hc:CxOk X.P X.w0 X.base cx) (hb:byteSl cx s=true):∃ e,X.P.underlying s=some (.slice e)∧X.P.underlying e=some (.int .u8):=by
 unfold byteSl at hb
 rw [hc.ty] at hb
 cases hk:(mkTI X.P s).kind <;> simp only [hk] at hb
 case slice e =>
  obtain ⟨hu,_⟩:=zaL hk
  unfold isByte at hb
  rw [hc.ty] at hb
  cases hk2:(mkTI X.P e).kind <;> simp only [hk2] at hb
  case int kk =>
   cases kk <;> simp only at hb <;> try (cases hb; done)
   all_goals exact ⟨e,hu,k_int hk2⟩
  all_goals cases hb
 all_goals cases hb
theorem conv_ok (hc:CxOk X.P X.w0 X.base cx) (hr:HR G B h H) (hE:ER B f E) {s d:TypeId}{x:Operand}(hq:(convE cx s d).go (evO x f) h = .ok lv):QuOk X E H B (.convert s d x) lv:=by
 unfold convE at hq
 rw [hc.ty] at hq
 cases hs:isK (mkTI X.P s) with
 | false => simp only [hs] at hq; cases hq
 | true =>
  simp only [hs] at hq
  obtain ⟨sd,hsd⟩:=known_under hs
  cases hk:(mkTI X.P d).kind <;> simp only [hk,W.go_mk] at hq
  case int k =>
   unfold cvI at hq
   split at hq
   ·rename_i k2 n hx
    cases hq
    obtain ⟨vx,x1,x2⟩:=hE.ev x (by rw [hx]; simp)
    rw [hx] at x2; simp only [VR] at x2; subst x2
    exact ⟨.int k (k.wrap n),by rw [zdS]; exact zbh,Do.convInt hsd (k_int hk) x1 rfl⟩
   ·cases hq
  case flt =>
   have hu:=k_flt hk
   unfold cvF at hq
   split at hq
   ·rename_i k2 n hx
    rw [frN_eq] at hq
    cases hq
    obtain ⟨vx,x1,x2⟩:=hE.ev x (by rw [hx]; simp)
    rw [hx] at x2; simp only [VR] at x2; subst x2
    exact ⟨.float .f64 (FloatKind.f64.nearest n),by simp only [VR],Does.pureOp rfl fun dst ty pos after g ρ w hρ => by simp [execOp,hρ _ _ x1,convert,run_underlying hsd,run_underlying hu,Conv.intToFloat]⟩
   ·cases hq
  case str =>
   have hu:=k_str hk
   unfold cvS at hq
   split at hq
   ·rename_i l n hx
    cases hq
    obtain ⟨vx,x1,x2⟩:=hE.ev x (by rw [hx]; simp)
    rw [hx] at x2
    have x3:=x2
    simp only [VR] at x2
    obtain ⟨s',rfl,_⟩:=x2
    exact ⟨_,x3,Does.pureOp rfl fun dst ty pos after g ρ w hρ => by simp [str,execOp,hρ _ _ x1,convert,run_underlying hsd,run_underlying hu]⟩
   ·rename_i hne
    split at hq
    ·rename_i hb
     obtain ⟨e,hse,hee⟩:=byteSl_ok hc hb
     unfold cvB at hq
     split at hq
     ·rename_i n hn
      split at hq
      ·rename_i y hy
       rw [frN_eq] at hq
       cases hq
       obtain ⟨vx,x1,x2⟩:=hE.ev x (fun e => by rw [e] at hn; cases hn)
       obtain ⟨l,l1,l2,_,l4⟩:=zcD (w0:=X.w0) (base:=X.base) (P:=X.P) hr hy hn (Nat.le_refl _) x2
       rcases l4 with ⟨full,rfl,_⟩ | ⟨A,c,rfl,l4⟩
       ·exfalso
        cases hxe:evO x f <;> rw [hxe] at x2 hn <;> simp only [VR,lenE] at x2 hn <;> try (cases hn; done)
        ·exact hne _ _ hxe
        ·cases x2
        ·obtain ⟨_,_,x2⟩:=x2; cases x2
        ·obtain ⟨_,_,x2⟩:=x2; cases x2
        ·obtain ⟨_,_,_,_,x2,_⟩:=x2; cases x2
       ·refine ⟨str l,by simp only [VR]; exact ⟨l,rfl,l1,l2⟩,Does.core rfl fun dst ty pos after g ρ w hρ S => ⟨_,w,H,?_,S,rfl,rfl⟩⟩
        have:(convert s d (.slice A n c)).run X.P w = .ok (str l) w:=by
         cases A with
         | none =>
          have:n=0:=by
           rcases Nat.eq_zero_or_pos n with h0 | h0
           ·exact h0
           ·obtain ⟨a,ha,_⟩:=l4 h0; cases ha
          subst this
          have:l=[]:=List.eq_nil_of_length_eq_zero l1
          subst this
          simp [convert,run_underlying hse,run_underlying hu,run_underlying hee,Conv.bytesToString,str]
          rfl
         | some a =>
          subst l1
          refine run_convert_bytes_back w s d e a c l hse hee hu fun j hj => ?_
          obtain ⟨a',ha,hcell⟩:=l4 (by omega)
          cases ha
          exact hcell j _ (List.getElem?_eq_getElem hj) w S
        simp [execOp,hρ _ _ x1,this]
      ·cases hq
     ·cases hq
    ·cases hq
  all_goals cases hq
theorem zF_ok {z:LV}(hq:zF z = .ok lv):z≠.undef∧lv = .tup [z,.bool false]:=by
 unfold zF at hq
 split at hq
 ·rename_i v hv
  obtain ⟨rfl,hn⟩:=zdQ hv
  cases hq
  exact ⟨hn,rfl⟩
 ·rename_i hne
  exact absurd hq (fun e => hne _ e)
theorem assert_ok (hc:CxOk X.P X.w0 X.base cx) (hE:ER B f E) {a xt:TypeId}{ok:Bool}{x:Operand}(hq:(assertE cx a ok).go (evO x f) = .ok lv):QuOk X E H B (.typeAssert x xt a ok) lv:=by
 unfold assertE at hq
 rw [hc.ty] at hq
 have key:(mkTI X.P a).kind≠.other→(∀ b,(mkTI X.P a).kind≠.iface b)→asV a (mkTI X.P a).zero ok (evO x f) = .ok lv→QuOk X E H B (.typeAssert x xt a ok) lv:=by
  clear hq
  intro h1 h2 hq
  obtain ⟨d,hd⟩:=zfR h1
  have hnd:∀ ms,d≠.interface ms:=by
   intro ms e
   subst e
   refine h2 ms.isEmpty ?_
   rw [(zcW h1).2]; unfold kindOf; rw [hd]
  have zero:∀ {lv},zF (mkTI X.P a).zero = .ok lv→∃ z,(∀ w,(zeroValue a).run X.P w = .ok z w)∧VR B lv (.tuple #[z,.bool false]):=by
   intro lv hz
   obtain ⟨hn,rfl⟩:=zF_ok hz
   obtain ⟨_,z,z1,z2,z3,_⟩:=zaZ B hn
   exact ⟨z,z1,by simp only [VR]; exact ⟨_,rfl,VRL.cons_ z3 (VRL.cons_ (zay rfl) VRL.nil_)⟩⟩
  obtain ⟨vx,x1,x2⟩:=hE.ev x (fun e => by rw [e] at hq; cases ok <;> cases hq)
  unfold asV at hq
  split at hq
  ·rename_i t v hx
   rw [hx] at x2; simp only [VR] at x2
   obtain ⟨u,rfl,x3⟩:=x2
   split at hq
   ·rename_i ht
    have ht:=zaa.1 ht
    subst ht
    cases hq
    refine ⟨.tuple #[u,.bool true],by simp only [VR]; exact ⟨_,rfl,VRL.cons_ x3 (VRL.cons_ (zay rfl) VRL.nil_)⟩,Does.pureOp rfl fun dst ty pos after g ρ w hρ => ?_⟩
    cases d <;> first | exact absurd rfl (hnd _) | simp [execOp,hρ _ _ x1,Instr.typeAssert,run_underlying hd]
   ·rename_i ht
    have hne:t≠a:=fun e => by rw [zaa.2 e] at ht; cases ht
    obtain ⟨z,z1,z2⟩:=zero hq
    refine ⟨_,z2,Does.pureOp rfl fun dst ty pos after g ρ w hρ => ?_⟩
    cases d <;> first | exact absurd rfl (hnd _) | simp [execOp,hρ _ _ x1,Instr.typeAssert,run_underlying hd,hne,z1]
  ·rename_i t v hx
   rw [hx] at x2; simp only [VR] at x2
   obtain ⟨u,rfl,x3⟩:=x2
   split at hq
   ·rename_i ht
    have ht:=zaa.1 ht
    subst ht
    cases hq
    refine ⟨u,x3,Does.pureOp rfl fun dst ty pos after g ρ w hρ => ?_⟩
    cases d <;> first | exact absurd rfl (hnd _) | simp [execOp,hρ _ _ x1,Instr.typeAssert,run_underlying hd]
   ·cases hq
  ·rename_i hx
   rw [hx] at x2; simp only [VR] at x2; subst x2
   obtain ⟨z,z1,z2⟩:=zero hq
   refine ⟨_,z2,Does.pureOp rfl fun dst ty pos after g ρ w hρ => ?_⟩
   cases d <;> first | exact absurd rfl (hnd _) | simp [execOp,hρ _ _ x1,Instr.typeAssert,run_underlying hd,z1]
  ·cases hq
 cases hk:(mkTI X.P a).kind <;> simp only [hk] at hq
 case iface b =>
  simp only [W.go_mk] at hq
  unfold asI at hq
  split at hq
  ·rename_i hx
   obtain ⟨hn,rfl⟩:=zF_ok hq
   obtain ⟨_,z,z1,z2,z3,_⟩:=zaZ B hn
   obtain ⟨vx,x1,x2⟩:=hE.ev x (by rw [hx]; simp)
   rw [hx] at x2; simp only [VR] at x2; subst x2
   obtain ⟨d,hd⟩:=zfR (P:=X.P) (t:=a) (by rw [hk]; simp)
   refine ⟨.tuple #[z,.bool false],by simp only [VR]; exact ⟨_,rfl,VRL.cons_ z3 (VRL.cons_ (zay rfl) VRL.nil_)⟩,Does.pureOp rfl fun dst ty pos after g ρ w hρ => ?_⟩
   cases d <;> simp [execOp,hρ _ _ x1,Instr.typeAssert,run_underlying hd,z1]
  ·cases hq
 case other => cases hq
 all_goals exact key (by rw [hk]; simp) (fun b => by rw [hk]; simp) hq
end
variable {G:List (Nat×Obj)}
section
variable {X:Pt}{E:Env}{H:List Seg}{B:BB}{h:LH}{cx:Cx}{f:SlF}{lv:LV}
theorem zc1 {b:Builtin}{xs:Array Operand}{ts:Array TypeId}{vs:List Value}{v:Value}(hx:evs E xs.toList=some vs)
  (hr:∀ w ty consts,Sep X.w0 X.base w H→(builtin b ts ty consts vs.toArray).run X.P w = .ok (.value v) w):Does X E H (.call ⟨.builtin b,xs,ts⟩) (Is v H) :=
 Does.core rfl fun dst ty pos after g ρ w hρ S => ⟨v,w,H,by
  have:=hr w ty (xs.map fun | .const _ => true | _ => false) S
  simp only [execOp,resolve,zbb hρ hx,Sem.run_bind,Sem.run_pure,Result.andThen_ok,invoke]
  exact this,S,rfl,rfl⟩
theorem evL_one {xs:List Operand}{v:LV}(h:evL xs f=[v]):∃ x,xs=[x]∧evO x f=v:=by
 cases xs with
 | nil => simp [evL] at h
 | cons x xs => cases xs with
  | nil => simp [evL] at h; exact ⟨x,rfl,h⟩
  | cons y xs => simp [evL] at h
theorem numE_ok {n:Option Nat}(hq:numE n = .ok lv):∃ m,n=some m∧lv = .int .i64 (.ofNat m):=by
 unfold numE at hq
 split at hq
 ·unfold goN at hq; rw [frN_eq] at hq; cases hq; exact ⟨_,rfl,rfl⟩
 ·cases hq
theorem MRL.len:∀ {l:List (LV×LV)}{m:List MapEntry},MRL B l m→m.length=l.length
 | [],m,h => by simp only [MRL] at h; subst h; rfl
 | a::l,m,h => by simp only [MRL] at h; obtain ⟨e,m',rfl,_,_,h⟩:=h; simp [MRL.len h]
theorem live_map {lo:LO}{c:Nat}{bs:List Nat}{es:List (LV×LV)}(h:lo=LO.map c bs es):liveO lo=true:=by subst h; rfl
theorem HR.map (hr:HR G B h H) {i clock:Nat}{bs:List Nat}{es:List (LV×LV)}(hi:atB h i=LO.map clock bs es) {k:Bk}(hk:B[i]? = some k) :
  ∃ (j:Nat) (ents:Array MapEntry),H[j]? = some [(k.b,.map ents clock)]∧ents.toList.map (·.born)=bs∧MRL B es ents.toList:=by
 obtain ⟨k',j,obj,h1,h2,h3⟩:=hr.at_ i (live_map hi)
 rw [hk] at h1; cases h1
 rw [hi] at h3
 obtain ⟨ents,rfl,h4,h5⟩:=h3
 exact ⟨j,ents,h2,h4,h5⟩
theorem zam {P:Program}{w:World}{r:Nat}{ents:Array MapEntry}{clock:Nat}(hb:w.heap[r]? = some (.map ents clock)):(getObj r).run P w = .ok (.map ents clock) w:=by
 simp [getObj,Sem.run,hb]
theorem len_ok (hc:CxOk X.P X.w0 X.base cx) (hr:HR G B h H) (hE:ER B f E) {xs:Array Operand}{ts:Array TypeId}{t:TypeId}{rest:List TypeId}(hts:ts.toList=t::rest) {x:LV}(hxs:evL xs.toList f=[x]) (hd:x≠.undef)
  (hq:numE ((lenB cx t).go x h) = .ok lv):QuOk X E H B (.call ⟨.builtin .len,xs,ts⟩) lv:=by
 obtain ⟨n,hn,rfl⟩:=numE_ok hq
 obtain ⟨o,ho,hox⟩:=evL_one hxs
 obtain ⟨vx,x1,x2⟩:=hE.ev o (by rw [hox]; exact hd)
 rw [hox] at x2
 have hev:evs E xs.toList=some [vx]:=by rw [ho]; simp [evs,x1]
 have ht0:ts[0]? = some t:=by rw [← Array.getElem?_toList,hts]; rfl
 refine ⟨.int .i64 (.ofNat n),zbh,zc1 hev fun w ty consts S => ?_⟩
 have key:(Builtin.len_ ts ty [vx].toArray).run X.P w = .ok (goInt n) w:=by
  unfold lenB at hn
  rw [hc.ty] at hn
  cases hk:(mkTI X.P t).kind <;> simp only [hk,W.go_mk] at hn
  case str =>
   unfold lenStr at hn
   split at hn
   ·cases hn
    simp only [VR] at x2
    obtain ⟨l,rfl,rfl,_⟩:=x2
    simp [Builtin.len_,ht0,run_underlying (k_str hk),str,za9]
   ·cases hn
  case slice e =>
   have hu:=(zaL hk).1
   unfold lenSl at hn
   split at hn <;> cases hn <;> simp only [VR] at x2
   ·subst x2; simp [Builtin.len_,ht0,run_underlying hu]
   ·obtain ⟨A,c,rfl⟩:=x2; simp [Builtin.len_,ht0,run_underlying hu]
   ·obtain ⟨k,_,rfl⟩:=x2; simp [Builtin.len_,ht0,run_underlying hu]
   ·obtain ⟨k,c,A,_,rfl,_⟩:=x2; simp [Builtin.len_,ht0,run_underlying hu]
  case array m e =>
   cases hn
   have hu:=(zcp hk).1
   simp [Builtin.len_,ht0,run_underlying hu]
  case ptr a =>
   obtain ⟨hu,hka⟩:=k_ptr hk
   unfold arrN at hn
   rw [hc.ty] at hn
   cases hk2:(mkTI X.P a).kind <;> simp only [hk2] at hn
   case array m e =>
    cases hn
    have hu2:=(zcp hk2).1
    simp [Builtin.len_,ht0,run_underlying hu,run_underlying hu2]
   all_goals cases hn
  case map kt e =>
   have hu:=(k_map hk).1
   unfold lenMap at hn
   split at hn
   ·cases hn; simp only [VR] at x2; subst x2; simp [Builtin.len_,ht0,run_underlying hu]
   ·rename_i i
    split at hn
    ·rename_i clock bs es hes
     cases hn
     simp only [VR] at x2
     obtain ⟨k,hk1,rfl⟩:=x2
     obtain ⟨j,ents,a1,_,a2⟩:=hr.map hes hk1
     have hb:=(S.at_ a1 (j:=0) rfl).1
     have hsz:ents.size=es.length:=by simpa using a2.len
     simp [Builtin.len_,ht0,run_underlying hu,zam hb,hsz]
    ·cases hn
   ·cases hn
  all_goals cases hn
 simp only [builtin,Sem.run_bind,key,Result.andThen_ok,Sem.run_pure]
 rfl
theorem cap_ok (hc:CxOk X.P X.w0 X.base cx) (hE:ER B f E) {xs:Array Operand}{ts:Array TypeId}{t e:TypeId}{rest:List TypeId}(hts:ts.toList=t::rest) (hk:(mkTI X.P t).kind = .slice e) {x:LV}(hxs:evL xs.toList f=[x])
  (hq:capQ x = .ok lv):QuOk X E H B (.call ⟨.builtin .cap,xs,ts⟩) lv:=by
 obtain ⟨o,ho,hox⟩:=evL_one hxs
 obtain ⟨vx,x1,x2⟩:=hE.ev o (fun e => by rw [hox] at e; rw [e] at hq; cases hq)
 rw [hox] at x2
 have hev:evs E xs.toList=some [vx]:=by rw [ho]; simp [evs,x1]
 have ht0:ts[0]? = some t:=by rw [← Array.getElem?_toList,hts]; rfl
 have hu:=(zaL hk).1
 unfold capQ at hq
 split at hq
 ·unfold goN at hq; rw [frN_eq] at hq; cases hq
  simp only [VR] at x2
  obtain ⟨k,_,rfl⟩:=x2
  exact ⟨_,zbh,zc1 hev fun w ty consts S => by simp [builtin,Builtin.cap_,ht0,run_underlying hu,goInt]⟩
 ·unfold goN at hq; rw [frN_eq] at hq; cases hq
  simp only [VR] at x2
  subst x2
  exact ⟨_,zbh,zc1 hev fun w ty consts S => by simp [builtin,Builtin.cap_,ht0,run_underlying hu,goInt]⟩
 ·cases hq
theorem minE_ok (mx:Bool):∀ (l:List LV) (a r:LV) (va:Value) (vs:List Value),minE mx a l=some r→VR B a va→VRL B l vs→∃ vr,VR B r vr∧∀ (P:Program) w,(vs.foldlM (if mx then Builtin.max2 else Builtin.min2) va).run P w = .ok vr w
 | [],a,r,va,vs,hq,ha,hl => by
  simp only [minE] at hq; cases hq
  simp only [VRL] at hl; subst hl
  exact ⟨va,ha,fun P w => rfl⟩
 | b::l,a,r,va,vs,hq,ha,hl => by
  simp only [minE] at hq
  simp only [VRL] at hl
  obtain ⟨vb,vs,rfl,hb,hl⟩:=hl
  split at hq
  ·rename_i c hcc
   unfold min2 at hcc
   split at hcc
   ·rename_i k x k' y
    simp only [VR] at ha hb
    subst ha; subst hb
    have hc:c = .int k (match (match mx with | true => ltI x y | false => ltI y x) with | true => y | false => x):=by
     cases mx with
     | true => cases hh:ltI x y <;> (simp only [hh] at hcc ⊢; cases hcc; rfl)
     | false => cases hh:ltI y x <;> (simp only [hh] at hcc ⊢; cases hcc; rfl)
    obtain ⟨vr,r1,r2⟩:=minE_ok mx l c r _ vs hq (by rw [hc]; exact zbh) hl
    refine ⟨vr,r1,fun P w => ?_⟩
    simp only [List.foldlM_cons,Sem.run_bind]
    have:((if mx=true then Builtin.max2 else Builtin.min2) (.int k x) (.int k' y)).run P w = .ok (.int k (match (match mx with | true => ltI x y | false => ltI y x) with | true => y | false => x)) w:=by
     cases mx with
     | true =>
      simp only [if_true,Builtin.max2,Sem.run_pure,zdK]
      congr 2
      by_cases h1:x < y <;> simp [h1]
     | false =>
      simp only [Bool.false_eq_true,if_false,Builtin.min2,Sem.run_pure,zdK]
      congr 2
      by_cases h1:y < x <;> simp [h1]
    rw [this,Result.andThen_ok]
    exact r2 P w
   ·cases hcc
  ·cases hq
theorem best_ok (hE:ER B f E) {xs:Array Operand}{ts:Array TypeId}{mx:Bool}(hd:defd (evL xs.toList f)=true) (hq:bestE mx (evL xs.toList f) = .ok lv):QuOk X E H B (.call ⟨.builtin (match mx with | true => .max | false => .min),xs,ts⟩) lv:=by
 obtain ⟨vs,v1,v2⟩:=zc4 hE xs.toList (zbR hd)
 unfold bestE at hq
 split at hq
 ·rename_i a l hl
  have hq:=zeq hq
  rw [hl] at v2
  simp only [VRL] at v2
  obtain ⟨va,us,rfl,ha,hus⟩:=v2
  obtain ⟨vr,r1,r2⟩:=minE_ok mx l a lv va us hq ha hus
  refine ⟨vr,r1,zc1 v1 fun w ty consts S => ?_⟩
  cases mx with
  | true =>
   have:=r2 X.P w
   simp only [if_true] at this
   simp only [builtin,Builtin.max_,Sem.run_bind,this,Result.andThen_ok,Sem.run_pure]
  | false =>
   have:=r2 X.P w
   simp only [Bool.false_eq_true,if_false] at this
   simp only [builtin,Builtin.min_,Sem.run_bind,this,Result.andThen_ok,Sem.run_pure]
 ·cases hq
theorem builtQ_ok (hc:CxOk X.P X.w0 X.base cx) (hr:HR G B h H) (hE:ER B f E) {b:Builtin}{xs:Array Operand}{ts:Array TypeId}(hd:defd (evL xs.toList f)=true) (hq:(builtQ cx b ts.toList).go (evL xs.toList f) h = .ok lv) :
  QuOk X E H B (.call ⟨.builtin b,xs,ts⟩) lv:=by
 unfold builtQ at hq
 split at hq
 ·rename_i t rest hts
  simp only [W.go_mk] at hq
  split at hq
  ·rename_i x hx
   exact len_ok hc hr hE hts hx (zbR hd x (by rw [hx]; simp)) hq
  ·cases hq
 ·rename_i t rest hts
  split at hq
  ·rename_i e hk
   rw [hc.ty] at hk
   simp only [W.go_mk] at hq
   split at hq
   ·rename_i x hx
    exact cap_ok hc hE hts hk hx hq
   ·cases hq
  ·cases hq
 ·exact best_ok (mx:=false) hE hd hq
 ·exact best_ok (mx:=true) hE hd hq
 ·cases hq
end
variable {G:List (Nat×Obj)}
section
variable {P:Program}{B:BB}
theorem samePs_ok {g:LV→LV→Bool}(hg:∀ a b,g a b=true→a=b):∀ l m,samePs g l m=true→l=m
 | [],[],_ => rfl
 | [],b::m,h => by cases h
 | a::l,[],h => by cases h
 | a::l,b::m,h => by
  simp only [samePs] at h
  split at h
  ·rename_i hab
   rw [hg a b hab,samePs_ok hg l m h]
  ·cases h
theorem samePl_ok:∀ (f:Nat) (a b:LV),samePl f a b=true→a=b
 | 0,a,b,h => by cases h
 | f + 1,a,b,h => by
  unfold samePl at h
  split at h
  ·have:=beq_iff_eq.1 h; rw [this]
  ·rw [Bool.and_eq_true] at h
   have h1:=kN_inj h.1
   have h2:=h.2
   rw [zcG] at h2
   rw [h1,of_decide_eq_true h2]
  ·unfold eqS at h
   rw [Bool.and_eq_true] at h
   rw [zaa.1 h.1,zaa.1 h.2]
  ·rw [samePs_ok (samePl_ok f) _ _ h]
  ·cases h
mutual
theorem ze6:∀ (f:Nat) (a:LV),plain f a=true→∀ u v,VR B a u→VR B a v→u=v
 | 0,a,h => by cases h
 | f + 1,a,h => by
  intro u v hu hv
  unfold plain at h
  split at h
  ·simp only [VR] at hu hv; rw [hu,hv]
  ·simp only [VR] at hu hv
   obtain ⟨l,rfl,h1,h2⟩:=hu
   obtain ⟨m,rfl,h3,h4⟩:=hv
   rw [zbz l m (h1.trans h3.symm) (h2.trans h4.symm)]
  ·simp only [VR] at hu hv; rw [hu,hv]
  ·simp only [VR] at hu hv
   obtain ⟨l,rfl,h1,_⟩:=hu
   obtain ⟨m,rfl,h3,_⟩:=hv
   rw [Array.ext' (zep f _ h _ _ h1 h3)]
  ·cases h
theorem zep:∀ (f:Nat) (l:List LV),l.all (plain f)=true→∀ u v,VRL B l u→VRL B l v→u=v
 | f,[],_ => by
  intro u v hu hv
  simp only [VRL] at hu hv; rw [hu,hv]
 | f,a::l,h => by
  intro u v hu hv
  simp only [List.all_cons,Bool.and_eq_true] at h
  simp only [VRL] at hu hv
  obtain ⟨x,u,rfl,h1,h2⟩:=hu
  obtain ⟨y,v,rfl,h3,h4⟩:=hv
  rw [ze6 f a h.1 x y h1 h3,zep f l h.2 u v h2 h4]
end
theorem zdo:∀ (f:Nat) (a:LV) (u:Value) (n:Nat),plain f a=true→f≤n→VR B a u→Instr.sameBits n u u=true
 | 0,a,u,n,h,_,_ => by cases h
 | f + 1,a,u,0,h,hn,_ => by omega
 | f + 1,a,u,n + 1,h,hn,hu => by
  unfold plain at h
  split at h
  ·simp only [VR] at hu; subst hu; simp [Instr.sameBits]
  ·simp only [VR] at hu; obtain ⟨l,rfl,_⟩:=hu; simp only [str,Instr.sameBits]; rw [beq_toListBytes]; simp
  ·simp only [VR] at hu; subst hu; simp [Instr.sameBits]
  ·rename_i cs
   simp only [VR] at hu
   obtain ⟨vs,rfl,h1,_⟩:=hu
   simp only [Instr.sameBits,beq_self_eq_true,Bool.true_and,List.all_eq_true]
   rintro ⟨x,y⟩ hxy
   have hz:∀ (l:List Value) (x y:Value),(x,y) ∈ l.zip l→x=y∧x ∈ l:=by
    intro l
    induction l with
    | nil => intro x y h; simp at h
    | cons a l ih =>
     intro x y h
     rw [List.zip_cons_cons,List.mem_cons] at h
     rcases h with h | h
     ·cases h; exact ⟨rfl,by simp⟩
     ·exact ⟨(ih x y h).1,by simp [(ih x y h).2]⟩
   obtain ⟨rfl,hm⟩:=hz _ _ _ hxy
   obtain ⟨i,hi⟩:=List.mem_iff_getElem?.1 hm
   have hl:i < cs.length:=by rw [← h1.len]; exact (List.getElem?_eq_some_iff.1 hi).1
   obtain ⟨w,hw,hv⟩:=h1.get (List.getElem?_eq_getElem hl)
   rw [hi] at hw; cases hw
   exact zdo f _ _ n (List.all_eq_true.1 h _ (List.getElem_mem hl)) (by omega) hv
  ·cases h
theorem zdX {u:Value}{a:LV}(ha:plain 5 a=true) (hu:VR B a u) (w:World):(Instr.keyThatStays u u).run P w = .ok u w:=by
 simp [Instr.keyThatStays,zdo 5 a u 10000 ha (by omega) hu]
theorem ze7 {ag:Bool}{n o p:Nat}{cs:List LV}{x:LV}(h:partV ag n cs o=some x) (hp:cs.all (plain p)=true):∃ q,plain q x=true:=by
 unfold partV at h
 split at h
 ·split at h
  ·cases h
   refine ⟨p + 1,?_⟩
   simp only [plain,List.all_eq_true]
   intro c hc
   exact List.all_eq_true.1 hp c (List.mem_of_mem_drop (List.mem_of_mem_take hc))
  ·cases h
 ·exact ⟨p,List.all_eq_true.1 hp x (List.mem_iff_getElem?.2 ⟨_,h⟩)⟩
variable {w:World}{lv:Nat→Bool}
theorem zfk {em:Bool}{m:Nat}{f:TypeId→EQ}{xs:List LV}{vs:Array Value}(hv:VRL B xs vs.toList) (h1:∀ c ∈ vs.toList,c.oneCell' = true) {p:Nat}(hp:xs.all (plain p)=true)
  (ih:∀ t a q va,plain q a=true→f t a a=some true→VR B a va→(Instr.checkKey em m t va).run P w = .ok () w) :
  ∀ (fs:List Field),(∀ g ∈ fs,known P g.type=true)→eqFs f xs xs (fs.map fun f => (f.offset,szOf P f.type,aggB (P.underlying f.type),f.type))=some true →
   (forIn fs PUnit.unit (fun f (_:PUnit) => if f.name≠ "_" then do
    let a ← part f.type vs f.offset
    Instr.checkKey em m f.type a
    pure (ForInStep.yield PUnit.unit) else pure (ForInStep.yield PUnit.unit)):Sem PUnit).run P w = .ok PUnit.unit w
 | [],_,_ => rfl
 | g::fs,hk,hq => by
  simp only [List.map_cons,eqFs] at hq
  split at hq
  ·rename_i a b e1 e2
   rw [e1] at e2; cases e2
   split at hq
   ·rename_i he
    obtain ⟨va,a1,a2⟩:=zcz (hk g (by simp)) hv h1 e1
    obtain ⟨q,hq2⟩:=ze7 e1 hp
    have i1:=ih _ _ q _ hq2 he a1
    have i2:=zfk hv h1 hp ih fs (fun g hg => hk g (by simp [hg])) hq
    rw [List.forIn_cons]
    split
    ·simp only [Sem.run_bind,a2,i1,Result.andThen_ok,Sem.run_pure]
     exact i2
    ·simp only [Sem.run_bind,Result.andThen_ok,Sem.run_pure]
     exact i2
   ·rename_i e3; exact absurd hq e3
  ·cases hq
theorem zfl {em:Bool}{m e:Nat}{f:EQ}(hke:known P e=true) {xs:List LV}{vs:Array Value}(hv:VRL B xs vs.toList) (h1:∀ c ∈ vs.toList,c.oneCell' = true) {p:Nat}(hp:xs.all (plain p)=true)
  (ih:∀ a q va,plain q a=true→f a a=some true→VR B a va→(Instr.checkKey em m e va).run P w = .ok () w) :
  ∀ (n i:Nat),eqAs f (aggB (P.underlying e)) (szOf P e) xs xs n i=some true →
   (forIn (List.range' i n) PUnit.unit (fun i (_:PUnit) => do
    let s ← sizeOf e
    let a ← part e vs (i * s)
    Instr.checkKey em m e a
    pure (ForInStep.yield PUnit.unit)):Sem PUnit).run P w = .ok PUnit.unit w
 | 0,i,_ => rfl
 | n + 1,i,hq => by
  simp only [eqAs] at hq
  split at hq
  ·rename_i a b e1 e2
   rw [e1] at e2; cases e2
   split at hq
   ·rename_i he
    obtain ⟨va,a1,a2⟩:=zcz hke hv h1 e1
    have a2:∀ w,(part e vs (i * szOf P e)).run P w = .ok va w:=a2
    obtain ⟨q,hq2⟩:=ze7 e1 hp
    have i1:=ih _ q _ hq2 he a1
    have i2:=zfl hke hv h1 hp ih n (i + 1) hq
    rw [zdF hke] at a2
    simp only [List.range',List.forIn_cons,Sem.run_bind,zaz hke,a2,i1,Result.andThen_ok,Sem.run_pure]
    exact i2
   ·rename_i e3; exact absurd hq e3
  ·cases hq
theorem zeG {em:Bool}:∀ (f n:Nat),f≤n→∀ t a q va,plain q a=true→eqT (mkTI P) lv f t a a=some true→VR B a va→(Instr.checkKey em n t va).run P w = .ok () w
 | 0,n,_,t,a,q,va,_,hq,_ => by simp only [eqT] at hq; cases hq
 | f + 1,0,hn,t,a,q,va,_,hq,_ => by omega
 | f + 1,m + 1,hn,t,a,q,va,hp,hq,ha => by
  have ih:=zeG (em:=em) f m (by omega)
  unfold eqT at hq
  cases hk:(mkTI P t).kind with
  | flt => rw [hk] at hq; cases hq
  | bool =>
   rw [hk] at hq
   have hu:=k_bool hk
   cases a <;> first | (cases hq; done) | (simp only [VR] at ha; subst ha; simp [Instr.checkKey,run_underlying hu])
  | int k =>
   rw [hk] at hq
   have hu:=k_int hk
   cases a <;> first | (cases hq; done) | (simp only [VR] at ha; subst ha; simp [Instr.checkKey,run_underlying hu])
  | str =>
   rw [hk] at hq
   have hu:=k_str hk
   cases a <;> first | (cases hq; done) | (simp only [VR] at ha; obtain ⟨l,rfl,_⟩:=ha; simp [str,Instr.checkKey,run_underlying hu])
  | ptr e => rw [hk] at hq; exfalso; cases q with | zero => cases hp | succ q => unfold plain at hp; split at hp <;> first | (cases hp; done) | (cases hq; done)
  | iface c => rw [hk] at hq; exfalso; cases q with | zero => cases hp | succ q => unfold plain at hp; split at hp <;> first | (cases hp; done) | (cases hq; done)
  | slice e => rw [hk] at hq; exfalso; cases q with | zero => cases hp | succ q => unfold plain at hp; split at hp <;> first | (cases hp; done) | (cases hq; done)
  | map k e => rw [hk] at hq; exfalso; cases q with | zero => cases hp | succ q => unfold plain at hp; split at hp <;> first | (cases hp; done) | (cases hq; done)
  | func => rw [hk] at hq; exfalso; cases q with | zero => cases hp | succ q => unfold plain at hp; split at hp <;> first | (cases hp; done) | (cases hq; done)
  | other => rw [hk] at hq; cases hq
  | struct l =>
   rw [hk] at hq
   cases hc:(mkTI P t).cmp with
   | false => simp only [hc] at hq; cases hq
   | true =>
    simp only [hc] at hq
    obtain ⟨fs,hu,rfl,hkf⟩:=zds hk
    cases a <;> try (cases hq; done)
    rename_i xs
    simp only [VR] at ha
    obtain ⟨vs,rfl,v1,v2⟩:=ha
    cases q with
    | zero => cases hp
    | succ q =>
     have hp:xs.all (plain q)=true:=hp
     have:=zfk (w:=w) (em:=em) (m:=m) v1 v2 hp (fun t a q va => ih t a q va) fs.toList (fun g hg => hkf g hg) hq
     simp only [Instr.checkKey,Sem.run_bind,run_underlying hu,Result.andThen_ok]
     rw [← Array.forIn_toList]
     rw [this]; rfl
  | array n e =>
   rw [hk] at hq
   cases hc:(mkTI P t).cmp with
   | false => simp only [hc] at hq; cases hq
   | true =>
    simp only [hc] at hq
    obtain ⟨hu,hke⟩:=zcp hk
    cases a <;> try (cases hq; done)
    rename_i xs
    simp only [VR] at ha
    obtain ⟨vs,rfl,v1,v2⟩:=ha
    cases q with
    | zero => cases hp
    | succ q =>
     have hp:xs.all (plain q)=true:=hp
     rw [notOk hke,← zdF hke] at hq
     have:=zfl (w:=w) (em:=em) hke v1 v2 hp (fun a q va => ih e a q va) n 0 hq
     simp only [Instr.checkKey,Sem.run_bind,run_underlying hu,Result.andThen_ok,Std.Legacy.Range.forIn_eq_forIn_range',Std.Legacy.Range.size,Nat.sub_zero,Nat.add_one_sub_one,Nat.div_one]
     rw [this]; rfl
end
section
variable {X:Pt}{E:Env}{H:List Seg}{B:BB}{h:LH}{cx:Cx}{f:SlF}{lv:LV}
theorem findM_pos {t:TypeId}{k:LV}:∀ {l:List (LV×LV)}{r:Option LV},findM cx t k l=some r→∃ p,posM cx t k l=some p∧r=(p.bind fun i => (l[i]?).map (·.2))
 | [],r,h => by simp only [findM] at h; cases h; exact ⟨none,rfl,rfl⟩
 | (a,v)::l,r,h => by
  simp only [findM] at h
  simp only [posM]
  cases he:eqKey cx t k a with
  | none => simp only [he] at h; cases h
  | some b =>
   cases b with
   | true => simp only [he] at h ⊢; cases h; exact ⟨some 0,rfl,rfl⟩
   | false =>
    simp only [he] at h ⊢
    obtain ⟨p,h1,h2⟩:=findM_pos h
    rw [h1]
    cases p with
    | none => exact ⟨none,rfl,h2⟩
    | some i => exact ⟨some (i + 1),rfl,by simpa using h2⟩
theorem MRL.get:∀ {l:List (LV×LV)}{m:List MapEntry},MRL B l m→∀ {i:Nat}{p:LV×LV},l[i]? = some p→∃ e,m[i]? = some e∧VR B p.1 e.key∧VR B p.2 e.val
 | [],m,h,i,p,hp => by simp at hp
 | a::l,m,h,i,p,hp => by
  simp only [MRL] at h; obtain ⟨e,m',rfl,h1,h2,h3⟩:=h
  cases i with
  | zero => simp at hp; subst hp; exact ⟨e,rfl,h1,h2⟩
  | succ i => simp at hp; simpa using MRL.get h3 hp
theorem MRL.app:∀ {l:List (LV×LV)}{m:List MapEntry}{p:LV×LV}{e:MapEntry},MRL B l m→VR B p.1 e.key→VR B p.2 e.val→MRL B (l++[p]) (m++[e])
 | [],m,p,e,h,h1,h2 => by simp only [MRL] at h; subst h; simp only [List.nil_append,MRL]; exact ⟨e,[],rfl,h1,h2,rfl⟩
 | a::l,m,p,e,h,h1,h2 => by
  simp only [MRL] at h; obtain ⟨x,m',rfl,a1,a2,a3⟩:=h
  simp only [List.cons_append,MRL]; exact ⟨x,_,rfl,a1,a2,MRL.app a3 h1 h2⟩
theorem MRL.set:∀ {l:List (LV×LV)}{m:List MapEntry}{i:Nat}{p:LV×LV}{e:MapEntry},MRL B l m→VR B p.1 e.key→VR B p.2 e.val→MRL B (l.set i p) (m.set i e)
 | [],m,i,p,e,h,h1,h2 => by simp only [MRL] at h; subst h; simp [MRL]
 | a::l,m,i,p,e,h,h1,h2 => by
  simp only [MRL] at h; obtain ⟨x,m',rfl,a1,a2,a3⟩:=h
  cases i with
  | zero => simp only [List.set_cons_zero,MRL]; exact ⟨e,m',rfl,h1,h2,a3⟩
  | succ i => simp only [List.set_cons_succ,MRL]; exact ⟨x,_,rfl,a1,a2,MRL.set a3 h1 h2⟩
theorem MRL.erase:∀ {l:List (LV×LV)}{m:List MapEntry}{i:Nat},MRL B l m→MRL B (l.eraseIdx i) (m.eraseIdx i)
 | [],m,i,h => by simp only [MRL] at h; subst h; simp [MRL]
 | a::l,m,i,h => by
  simp only [MRL] at h; obtain ⟨x,m',rfl,a1,a2,a3⟩:=h
  cases i with
  | zero => simpa using a3
  | succ i => simp only [List.eraseIdx_cons_succ,MRL]; exact ⟨x,_,rfl,a1,a2,MRL.erase a3⟩
theorem ze3 {P:Program}{w:World}{t:TypeId}{d:TypeDesc}(hu:P.underlying t=some d) {x y:Value}{b:Bool}(hs:Instr.sameNow d x y=some b):(Op.equal t x y).run P w = .ok b w:=by
 unfold Instr.sameNow at hs
 split at hs
 ·split at hs
  ·rename_i hk
   subst hk
   cases hs
   exact run_equalIn_int w _ _ _ _ _ _ hu
  ·cases hs
 ·cases hs
  rw [show (Op.equal t (.string _) (.string _)).run P w=_ from run_equalIn_string w _ _ _ _ hu,beq_toListBytes]
 ·cases hs
  exact run_equalIn_bool w _ _ _ _ hu
 ·cases hs
theorem zbe (hc:CxOk X.P X.w0 X.base cx) {w:World}(S:Sep X.w0 X.base w H) (hr:HR G B h H) {t:TypeId}{k:LV}{vk:Value}(hk:VR B k vk) {d:TypeDesc}(hu:X.P.underlying t=some d) {l:List (LV×LV)}{m:List MapEntry}(hl:MRL B l m) {p:Option Nat}
  (hp:posM cx t k l=some p):(Instr.findKey t vk m).run X.P w = .ok (p.bind fun i => (m[i]?).map fun e => (i,e.val)) w:=by
 have eqs:∀ {a:LV}{va:Value}{b:Bool},eqKey cx t k a=some b→VR B a va→(Op.equal t vk va).run X.P w = .ok b w:=by
  intro a va b he ha
  unfold eqKey at he
  rw [hc.ty] at he
  exact eqT_ok S hr (fun i h => by cases h) 10 10000 (by omega) t _ _ _ _ _ he hk ha
 have now:∀ (l:List (LV×LV)) (m:List MapEntry) (i:Nat) (p:Option Nat) (r:Option (Nat×Value)),MRL B l m→posM cx t k l=some p→Instr.findNow d vk m i=some r→r=p.bind fun j => (m[j]?).map fun e => (i + j,e.val):=by
  intro l
  induction l with
  | nil =>
   intro m i p r hl hp hf
   simp only [MRL] at hl; subst hl
   simp only [posM] at hp; cases hp
   simp only [Instr.findNow] at hf; cases hf
   rfl
  | cons a l ih =>
   intro m i p r hl hp hf
   obtain ⟨ka,va⟩:=a
   simp only [MRL] at hl
   obtain ⟨e,m',rfl,h1,h2,h3⟩:=hl
   simp only [posM] at hp
   simp only [Instr.findNow] at hf
   split at hf
   ·rename_i hs
    cases hf
    have e1:=ze3 (w:=w) hu hs
    split at hp
    ·cases hp; rfl
    ·rename_i he; have e2:=eqs he h1; rw [e1] at e2; injection e2 with e2; cases e2
    ·cases hp
   ·rename_i hs
    have e1:=ze3 (w:=w) hu hs
    split at hp
    ·rename_i he; have e2:=eqs he h1; rw [e1] at e2; injection e2 with e2; cases e2
    ·split at hp
     ·rename_i j hj
      cases hp
      have:=ih m' (i + 1) _ _ h3 hj hf
      rw [this]
      simp
      cases m'[j]? <;> simp <;> omega
     ·rename_i hne
      cases p with
      | some j => cases hpp:posM cx t k l with
       | none => rw [hpp] at hp; cases hp
       | some q => cases q with
        | none => rw [hpp] at hp; cases hp
        | some j' => exact absurd hpp (hne j')
      | none =>
       have:=ih m' (i + 1) _ _ h3 hp hf
       rw [this]; rfl
    ·cases hp
   ·cases hf
 have ask:∀ (l:List (LV×LV)) (m:List MapEntry) (i:Nat) (p:Option Nat),MRL B l m→posM cx t k l=some p→(Instr.findAsking t vk m i).run X.P w = .ok (p.bind fun j => (m[j]?).map fun e => (i + j,e.val)) w:=by
  intro l
  induction l with
  | nil =>
   intro m i p hl hp
   simp only [MRL] at hl; subst hl
   simp only [posM] at hp; cases hp
   rfl
  | cons a l ih =>
   intro m i p hl hp
   obtain ⟨ka,va⟩:=a
   simp only [MRL] at hl
   obtain ⟨e,m',rfl,h1,h2,h3⟩:=hl
   simp only [posM] at hp
   simp only [Instr.findAsking,Sem.run_bind]
   split at hp
   ·rename_i he
    cases hp
    rw [eqs he h1,Result.andThen_ok,if_pos rfl]; rfl
   ·rename_i he
    rw [eqs he h1,Result.andThen_ok,if_neg (by simp)]
    split at hp
    ·rename_i j hj
     cases hp
     rw [ih m' (i + 1) _ h3 hj]
     simp
     cases m'[j]? <;> simp <;> omega
    ·rename_i hne
     cases p with
     | some j => cases hpp:posM cx t k l with
      | none => rw [hpp] at hp; cases hp
      | some q => cases q with
       | none => rw [hpp] at hp; cases hp
       | some j' => exact absurd hpp (hne j')
     | none => rw [ih m' (i + 1) _ h3 hp]; rfl
   ·cases hp
 simp only [Instr.findKey,Sem.run_bind,run_underlying hu,Result.andThen_ok]
 cases hf:Instr.findNow d vk m 0 with
 | some r =>
  have:=now l m 0 p r hl hp hf
  simp only [Sem.run_pure]
  rw [this]; simp
 | none =>
  have:=ask l m 0 p hl hp
  simp only
  rw [this]; simp
theorem zco (hc:CxOk X.P X.w0 X.base cx) {t:TypeId}{k:LV}{vk:Value}(hk:keyK cx t k=true) (hv:VR B k vk) (em:Bool) (w:World):(Instr.checkKey em 10000 t vk).run X.P w = .ok () w:=by
 unfold keyK at hk
 rw [Bool.and_eq_true,Bool.and_eq_true] at hk
 obtain ⟨_,h1,h2⟩:=hk
 split at h2
 ·rename_i b he
  subst h2
  unfold eqKey at he
  rw [hc.ty] at he
  exact zeG 10 10000 (by omega) t k 5 vk h1 he hv
 ·cases h2
theorem zfc {t:TypeId}{k:LV}(hk:keyK cx t k=true):plain 5 k=true∧k≠.undef:=by
 unfold keyK at hk
 rw [Bool.and_eq_true,Bool.and_eq_true] at hk
 exact ⟨hk.2.1,fun e => by subst e; have:=hk.2.1; cases this⟩
def tupIf (ok:Bool) (v:LV) (b:Bool):LV:=match ok with
 | true => .tup [v,.bool b]
 | false => v
theorem lookV_ok {z:LV}{ok:Bool}{r:Option (Option LV)}(hq:lookV z ok r = .ok lv) :
  (∃ v,r=some (some v)∧lv=tupIf ok v true)∨(r=some none∧z≠.undef∧lv=tupIf ok z false):=by
 cases r with
 | none => cases ok <;> cases hq
 | some r =>
  cases r with
  | some v => cases ok <;> (cases hq; exact .inl ⟨_,rfl,rfl⟩)
  | none =>
   cases ok with
   | true =>
    have hq:zF z = .ok lv:=hq
    obtain ⟨hn,rfl⟩:=zF_ok hq
    exact .inr ⟨rfl,hn,rfl⟩
   | false =>
    have hq:okV z = .ok lv:=hq
    obtain ⟨rfl,hn⟩:=zdQ hq
    exact .inr ⟨rfl,hn,rfl⟩
theorem lookup_ok (hc:CxOk X.P X.w0 X.base cx) (hr:HR G B h H) (hE:ER B f E) {t:TypeId}{x ix:Operand}{ok:Bool}(hq:(lookupE cx t ok).go (evO x f) (evO ix f) h = .ok lv):QuOk X E H B (.lookup t x ix ok) lv:=by
 unfold lookupE at hq
 rw [hc.ty] at hq
 cases hk:(mkTI X.P t).kind <;> simp only [hk,W.go_mk] at hq
 case map kt e =>
  obtain ⟨hu,hkk,hke⟩:=k_map hk
  obtain ⟨d,hd⟩:=zey hkk
  have body:∃ vx vk r vr,ev E x=some vx∧ev E ix=some vk∧VR B (evO ix f) vk∧keyK cx kt (evO ix f)=true∧foundM cx kt (evO x f) (evO ix f) h=some r ∧
    (∀ v,r=some v→VR B v vr)∧∀ w,Sep X.w0 X.base w H→∃ es:Array MapEntry,((vx = .map none∧es = #[])∨∃ b clock,vx = .map (some b)∧w.heap[b]? = some (.map es clock))∧∃ j,(Instr.findKey kt vk es.toList).run X.P w = .ok (r.map fun _ => (j,vr)) w:=by
   have hf:∃ r,foundM cx kt (evO x f) (evO ix f) h=some r:=by
    rcases lookV_ok hq with ⟨v,h1,_⟩ | ⟨h1,_⟩ <;> exact ⟨_,h1⟩
   obtain ⟨r,hf⟩:=hf
   have hf0:=hf
   unfold foundM at hf
   split at hf
   ·cases hf
   ·rename_i hkey
    obtain ⟨vk,k1,k2⟩:=hE.ev ix (zfc hkey).2
    split at hf
    ·rename_i hx
     cases hf
     obtain ⟨vx,x1,x2⟩:=hE.ev x (by rw [hx]; simp)
     rw [hx] at x2; simp only [VR] at x2; subst x2
     refine ⟨_,vk,none,undef,x1,k1,k2,hkey,hf0,(fun _ h => by cases h),fun w S => ⟨#[],.inl ⟨rfl,rfl⟩,0,?_⟩⟩
     have:=zbe (cx:=cx) hc S hr k2 hd (l:=[]) (m:=[]) (by simp [MRL]) (p:=none) rfl
     simpa using this
    ·rename_i i hx
     split at hf
     ·rename_i clock bs es hes
      obtain ⟨vx,x1,x2⟩:=hE.ev x (by rw [hx]; simp)
      rw [hx] at x2; simp only [VR] at x2
      obtain ⟨kb,hkb,rfl⟩:=x2
      obtain ⟨j,ents,a1,_,a2⟩:=hr.map hes hkb
      obtain ⟨p,p1,p2⟩:=findM_pos hf
      have run:∀ w,Sep X.w0 X.base w H→w.heap[kb.b]? = some (.map ents clock):=fun w S => (S.at_ a1 (j:=0) rfl).1
      cases p with
      | none =>
       simp only [Option.bind_none] at p2
       subst p2
       refine ⟨_,vk,none,undef,x1,k1,k2,hkey,hf0,(fun _ h => by cases h),fun w S => ?_⟩
       have hes' : ((Value.map (some kb.b) = .map none∧ents = #[])∨∃ b clock,Value.map (some kb.b) = .map (some b)∧w.heap[b]? = some (.map ents clock)):=.inr ⟨_,_,rfl,run w S⟩
       exact ⟨_,hes',0,zbe hc S hr k2 hd a2 p1⟩
      | some i =>
       simp only [Option.bind_some] at p2
       cases hli:es[i]? with
       | none =>
        rw [hli] at p2
        simp only [Option.map_none] at p2
        subst p2
        refine ⟨_,vk,none,undef,x1,k1,k2,hkey,hf0,(fun _ h => by cases h),fun w S => ?_⟩
        have hes' : ((Value.map (some kb.b) = .map none∧ents = #[])∨∃ b clock,Value.map (some kb.b) = .map (some b)∧w.heap[b]? = some (.map ents clock)):=.inr ⟨_,_,rfl,run w S⟩
        have hlen:ents.toList[i]? = none:=by
         rw [List.getElem?_eq_none_iff,a2.len]; exact List.getElem?_eq_none_iff.1 hli
        have:=zbe hc S hr k2 hd a2 p1
        simp only [Option.bind_some,hlen,Option.map_none] at this
        exact ⟨_,hes',0,this⟩
       | some q =>
        rw [hli] at p2
        simp only [Option.map_some] at p2
        subst p2
        obtain ⟨en,e1,e2,e3⟩:=a2.get hli
        refine ⟨_,vk,some q.2,en.val,x1,k1,k2,hkey,hf0,(fun _ h => by cases h; exact e3),fun w S => ?_⟩
        have hes' : ((Value.map (some kb.b) = .map none∧ents = #[])∨∃ b clock,Value.map (some kb.b) = .map (some b)∧w.heap[b]? = some (.map ents clock)):=.inr ⟨_,_,rfl,run w S⟩
        have:=zbe hc S hr k2 hd a2 p1
        simp only [Option.bind_some,e1,Option.map_some] at this
        exact ⟨_,hes',i,this⟩
     ·cases hf
    ·cases hf
  obtain ⟨vx,vk,r,vr,x1,k1,k2,hkey,hfr,hvr,hrun⟩:=body
  rcases lookV_ok hq with ⟨v,h1,rfl⟩ | ⟨h1,hz,rfl⟩
  ·rw [hfr] at h1
   cases h1
   refine ⟨if ok=true then .tuple #[vr,.bool true] else vr,?_,Does.core rfl fun dst ty pos after g ρ w hρ S => ⟨_,w,H,?_,S,rfl,rfl⟩⟩
   ·cases ok with
    | true => simp only [tupIf,VR]; exact ⟨_,rfl,VRL.cons_ (hvr _ rfl) (VRL.cons_ (zay rfl) VRL.nil_)⟩
    | false => exact hvr _ rfl
   ·obtain ⟨es,r1,j,r2⟩:=hrun w S
    simp only [execOp,hρ _ _ x1,hρ _ _ k1,Instr.lookup,Sem.run_bind,run_underlying hu,Result.andThen_ok]
    rcases r1 with ⟨rfl,rfl⟩ | ⟨b,clock,rfl,r1⟩
    ·simp only [Sem.run_bind,Sem.run_pure,Result.andThen_ok,zco hc hkey k2,r2,Option.map_some]
    ·simp only [Sem.run_bind,zam r1,Sem.run_pure,Result.andThen_ok,zco hc hkey k2,r2,Option.map_some]
  ·rw [hfr] at h1
   cases h1
   obtain ⟨_,z,z1,z2,z3,_⟩:=zaZ (P:=X.P) (t:=e) B hz
   refine ⟨if ok=true then .tuple #[z,.bool false] else z,?_,Does.core rfl fun dst ty pos after g ρ w hρ S => ⟨_,w,H,?_,S,rfl,rfl⟩⟩
   ·cases ok with
    | true => simp only [tupIf,VR]; exact ⟨_,rfl,VRL.cons_ z3 (VRL.cons_ (zay rfl) VRL.nil_)⟩
    | false => exact z3
   ·obtain ⟨es,r1,j,r2⟩:=hrun w S
    simp only [execOp,hρ _ _ x1,hρ _ _ k1,Instr.lookup,Sem.run_bind,run_underlying hu,Result.andThen_ok]
    rcases r1 with ⟨rfl,rfl⟩ | ⟨b,clock,rfl,r1⟩
    ·simp only [Sem.run_bind,Sem.run_pure,Result.andThen_ok,zco hc hkey k2,r2,Option.map_none,z1]
    ·simp only [Sem.run_bind,zam r1,Sem.run_pure,Result.andThen_ok,zco hc hkey k2,r2,Option.map_none,z1]
 all_goals cases hq
theorem eqT_undef3 {P:Program}{lv:Nat→Bool}(f:Nat) (t:TypeId) (a:LV):eqT (mkTI P) lv f t a .undef=none:=by
 cases f with
 | zero => rfl
 | succ f =>
  unfold eqT
  generalize (mkTI P t).kind=K; generalize (mkTI P t).cmp=c
  cases K <;> try rfl
  all_goals first
   | (cases a <;> rfl)
   | (cases c <;> cases a <;> rfl)
theorem bin_defd {P:Program}{op:BinOp}{t:TypeId}{c:Bool}(a b:LV) (hq:(binQ (mkTI P) op t c).go a b h = .ok lv):a≠.undef∧b≠.undef:=by
 have num:∀ {g:IQ}{s:SQ}{e:LV→LV→Q},numQ g s e a b = .ok lv→(e .undef b = .ok lv→False)→(e a .undef = .ok lv→False)→a≠.undef∧b≠.undef:=by
  intro g s e hq h1 h2
  refine ⟨fun ha => by subst ha; exact h1 hq,fun hb => ?_⟩
  subst hb
  unfold numQ at hq
  split at hq
  ·cases hq
  ·cases hq
  ·exact h2 hq
 have no:∀ {a b:LV},noE a b = .ok lv→False:=fun h => by cases h
 have sh:∀ {g},shQ g a b = .ok lv→a≠.undef∧b≠.undef:=by
  intro g hq
  refine ⟨fun ha => (by subst ha; cases hq),fun hb => ?_⟩
  subst hb
  unfold shQ at hq
  split at hq <;> cases hq
 have eq1:∀ {neg},eqQ (mkTI P) (liveR h) neg t c .undef b = .ok lv→False:=by
  intro neg hq
  unfold eqQ at hq
  split at hq
  ·rw [eqT_undef] at hq; cases hq
  ·cases hq
 have eq2:∀ {neg},eqQ (mkTI P) (liveR h) neg t c a .undef = .ok lv→False:=by
  intro neg hq
  unfold eqQ at hq
  split at hq
  ·rw [eqT_undef3] at hq; cases hq
  ·cases hq
 have fl1' : ∀ {g:Option Ordering→Bool}{e:LV→LV→Q},(e .undef b = .ok lv→False)→flE g e .undef b = .ok lv→False:=fun h1 hq => h1 hq
 have fl2' : ∀ {g:Option Ordering→Bool}{e:LV→LV→Q},(e a .undef = .ok lv→False)→flE g e a .undef = .ok lv→False:=by
  intro g e h1 hq
  unfold flE at hq
  split at hq
  ·rename FloatKind => kf
   cases kf <;> cases hq
  ·cases hq
  ·exact h1 hq
 cases op with
 | shl => exact sh hq
 | shr => exact sh hq
 | eql => exact num hq (fl1' eq1) (fl2' eq2)
 | neq => exact num hq (fl1' eq1) (fl2' eq2)
 | andNot => exact num hq (fun h => by cases h) (fun h => by cases a <;> cases h)
 | lss => exact num hq (fl1' no) (fl2' no)
 | leq => exact num hq (fl1' no) (fl2' no)
 | gtr => exact num hq (fl1' no) (fl2' no)
 | geq => exact num hq (fl1' no) (fl2' no)
 | _ => exact num hq no no
theorem HR.iter (hr:HR G B h H) {i:Nat}{m:Option Nat}{since last:Nat}{seen:List Nat}(hi:atB h i=LO.iter m since seen last) {k:Bk}(hk:B[i]? = some k) :
  k.off=0∧∃ (j:Nat) (m' : Option Nat) (sn:Array Nat),H[j]? = some [(k.b,.mapIter m' since sn last)]∧sn.toList=seen∧ITR B m m':=by
 obtain ⟨k',j,obj,h1,h2,h3⟩:=hr.at_ i (by rw [hi]; rfl)
 rw [hk] at h1; cases h1
 rw [hi] at h3
 obtain ⟨h0,m',sn,rfl,h4,h5⟩:=h3
 exact ⟨h0,j,m',sn,h2,h4,h5⟩
theorem lastN_ok:∀ {l:List Nat}{b:Nat},lastN l=some b→l.getLast? = some b
 | [],b,h => by cases h
 | [a],b,h => by simpa [lastN] using h
 | a::c::l,b,h => by
  simp only [lastN] at h
  rw [List.getLast?_cons_cons]
  exact lastN_ok h
theorem findB_ok {b:Nat}:∀ {bs:List Nat}{es:List (LV×LV)}{m:List MapEntry},m.map (·.born)=bs→MRL B es m→findB b bs es = .ok lv→∃ e,m.find? (·.born == b)=some e∧VR B lv (.tuple #[e.key,e.val])
 | [],es,m,_,_,hq => by cases es <;> cases hq
 | c::bs,[],m,_,_,hq => by cases hq
 | c::bs,p::es,m,hb,hm,hq => by
  obtain ⟨k,v⟩:=p
  simp only [MRL] at hm
  obtain ⟨e,m',rfl,h1,h2,h3⟩:=hm
  simp only [List.map_cons,List.cons.injEq] at hb
  simp only [findB] at hq
  split at hq
  ·rename_i hc
   have hc:=zaa.1 hc
   cases hq
   refine ⟨e,by rw [List.find?_cons_of_pos (by rw [hb.1,hc]; simp)],?_⟩
   simp only [VR]
   exact ⟨_,rfl,VRL.cons_ h1 (VRL.cons_ h2 VRL.nil_)⟩
  ·rename_i hc
   have hc:c≠b:=fun e => by rw [zaa.2 e] at hc; cases hc
   obtain ⟨e',a1,a2⟩:=findB_ok hb.2 h3 hq
   exact ⟨e',by rw [List.find?_cons_of_neg (by rw [hb.1]; simp [hc])]; exact a1,a2⟩
theorem entry_ok (hr:HR G B h H) (hE:ER B f E) {x:Operand}(hq:entryE (evO x f) h = .ok lv):QuOk X E H B (.entry x) lv:=by
 unfold entryE at hq
 split at hq
 ·rename_i r hx
  split at hq
  ·rename_i m since seen last hit
   unfold entL at hq
   split at hq
   ·rename_i clock bs es b hmp hl
    split at hq
    ·rename_i hcl
     have hcl:=zaa.1 hcl
     obtain ⟨vx,x1,x2⟩:=hE.ev x (by rw [hx]; simp)
     rw [hx] at x2; simp only [VR] at x2
     obtain ⟨k,hk,rfl⟩:=x2
     obtain ⟨h0,j,m',sn,a1,a2,a3⟩:=hr.iter hit hk
     rw [h0] at x1
     obtain ⟨km,hkm,rfl⟩:=a3
     obtain ⟨jm,ents,b1,b2,b3⟩:=hr.map hmp hkm
     obtain ⟨e,e1,e2⟩:=findB_ok b2 b3 hq
     refine ⟨_,e2,Does.core rfl fun dst ty pos after g ρ w hρ S => ⟨_,w,H,?_,S,rfl,rfl⟩⟩
     have hb:=(S.at_ a1 (j:=0) rfl).1
     have hbm:=(S.at_ b1 (j:=0) rfl).1
     have hit2:(getObj k.b).run X.P w = .ok (.mapIter (some km.b) since sn last) w:=by simp [getObj,Sem.run,hb]
     have hback:sn.back? = some b:=by
      rw [Array.back?_eq_getElem?]
      have:=lastN_ok hl
      rw [← a2,List.getLast?_eq_getElem?] at this
      simpa using this
     have hfind:ents.find? (·.born == b)=some e:=by rw [← Array.find?_toList]; exact e1
     simp only [execOp,hρ _ _ x1,Instr.entry,Sem.run_bind,hit2,Result.andThen_ok,hback,zam hbm,hcl,bne_self_eq_false,Bool.false_eq_true,if_false,Sem.run_pure,hfind,Nat.zero_add]
    ·cases hq
   ·cases hq
  ·cases hq
 ·cases hq
theorem opQ_ok (hc:CxOk X.P X.w0 X.base cx) (hr:HR G B h H) (hE:ER B f E) {op:Op}(hq:(opQ cx op).go f h = .ok lv):QuOk X E H B op lv:=by
 unfold opQ at hq
 split at hq
 ·exact (move_ok hE hq).1
 ·exact (move_ok hE hq).2
 ·exact pick_ok hE hq
 ·exact build_ok hc hE hq
 ·exact load_ok hc hr hE hq
 ·exact nil_ok hE hq
 ·rename_i op t x y tz
  simp only [W.go_mk] at hq
  rw [hc.ty] at hq
  have hne:∀ (a b:LV),(binQ (mkTI X.P) op t (isC x || isC y)).go a b h = .ok lv→a≠.undef∧b≠.undef:=bin_defd
  obtain ⟨n1,n2⟩:=hne _ _ hq
  obtain ⟨va,a1,a2⟩:=hE.ev x n1
  obtain ⟨vb,b1,b2⟩:=hE.ev y n2
  exact (bin_ok hr hq a2 b2).does a1 b1
 ·exact un_ok hE hq
 ·exact conv_ok hc hr hE hq
 ·exact iface_ok hc hE hq
 ·exact makeFunc_ok hE hq
 ·exact slice_ok hc hr hE hq
 ·exact fieldAddr_ok hc hE hq
 ·exact field_ok hc hE hq
 ·exact indexAddr_ok hc hE hq
 ·exact index_ok hc hE hq
 ·exact lookup_ok hc hr hE hq
 ·exact extract_ok hE hq
 ·exact assert_ok hc hE hq
 ·exact entry_ok hr hE hq
 ·simp only [W.go_mk] at hq
  obtain ⟨d1,hq⟩:=evC_ok (by simp) hq
  exact builtQ_ok hc hr hE d1 hq
 ·cases hq
end
variable {G:List (Nat×Obj)}
theorem zaY {h:LH}{lo:LO}{i j:Nat}:atB (Tr.set .gone lo h i) j=if j=i then lo else atB h j:=zb2 _ _ _ _ _
section
variable {B:BB}{h:LH}{H:List Seg}
theorem HR.new (hr:HR G B h H) {nx:Nat}(hn:B.length=nx) {k:Bk}{obj:Obj}{lo:LO}(hor:OR (B++[k]) k obj lo):HR G (B++[k]) (Tr.set .gone lo h nx) ([(k.b,obj)]::H):=by
 have hp:B <+: B++[k]:=List.prefix_append _ _
 obtain ⟨p,h1,h2,h3⟩:=hr
 have old:∀ i,i≠nx→liveO (atB (Tr.set .gone lo h nx) i)=true→liveO (atB h i)=true:=by
  intro i hi hl; rw [zaY,if_neg hi] at hl; exact hl
 refine ⟨fun i => if i=nx then 0 else p i + 1,fun i hi => ?_,fun i i' hi hi' he => ?_,fun g hg => ?_⟩
 ·by_cases e:i=nx
  ·subst e
   refine ⟨k,obj,by rw [← hn]; simp,by simp,?_⟩
   rw [zaY,if_pos rfl]; exact hor
  ·obtain ⟨k1,o1,a1,a2,a3⟩:=h1 i (old i e hi)
   refine ⟨k1,o1,zaP hp a1,by simp [e,a2],?_⟩
   rw [zaY,if_neg e]; exact a3.mono hp
 ·by_cases e:i=nx <;> by_cases e' : i' = nx
  ·rw [e,e']
  ·simp [e,e'] at he
  ·simp [e,e'] at he
  ·simp only [if_neg e,if_neg e'] at he
   exact h2 i i' (old i e hi) (old i' e' hi') (by omega)
 ·obtain ⟨j,j1,j2⟩:=h3 g hg
  refine ⟨j + 1,by simpa using j1,fun i hi => ?_⟩
  by_cases e:i=nx
  ·simp [e]
  ·have:=j2 i (old i e hi)
   simp [e,this]
theorem HR.put (hr:HR G B h H) {i:Nat}(hi:liveO (atB h i)=true) {k:Bk}(hk:B[i]? = some k) :
  ∃ j obj,H[j]? = some [(k.b,obj)]∧OR B k obj (atB h i)∧∀ obj' lo',OR B k obj' lo'→HR G B (Tr.set .gone lo' h i) (H.set j [(k.b,obj')]):=by
 obtain ⟨p,h1,h2,h3⟩:=hr
 obtain ⟨k0,o0,a1,a2,a3⟩:=h1 i hi
 rw [hk] at a1; cases a1
 refine ⟨p i,o0,a2,a3,fun obj' lo' hor => ?_⟩
 have hlt:=(List.getElem?_eq_some_iff.1 a2).1
 have old:∀ m,liveO (atB (Tr.set .gone lo' h i) m)=true→liveO (atB h m)=true:=by
  intro m hm
  by_cases e:m=i
  ·subst e; exact hi
  ·rw [zaY,if_neg e] at hm; exact hm
 refine ⟨p,fun m hm => ?_,fun m m' hm hm' he => h2 m m' (old m hm) (old m' hm') he,fun g hg => ?_⟩
 rotate_left
 ·obtain ⟨j,j1,j2⟩:=h3 g hg
  exact ⟨j,by rw [List.getElem?_set,if_neg (j2 i hi)]; exact j1,fun m hm => j2 m (old m hm)⟩
 by_cases e:m=i
 ·subst e
  refine ⟨k,obj',hk,by rw [List.getElem?_set]; simp [hlt],?_⟩
  rw [zaY,if_pos rfl]; exact hor
 ·obtain ⟨k1,o1,b1,b2,b3⟩:=h1 m (old m hm)
  have hne:p i≠p m:=fun e2 => e (h2 m i (old m hm) hi e2.symm)
  refine ⟨k1,o1,b1,by rw [List.getElem?_set,if_neg hne]; exact b2,?_⟩
  rw [zaY,if_neg e]; exact b3
theorem HR.kill (hr:HR G B h H) (i:Nat):HR G B (Tr.set .gone .gone h i) H:=by
 obtain ⟨p,h1,h2,h3⟩:=hr
 have old:∀ m,liveO (atB (Tr.set .gone .gone h i) m)=true→m≠i∧liveO (atB h m)=true:=by
  intro m hm
  rw [zaY] at hm
  split at hm
  ·cases hm
  ·rename_i e; exact ⟨e,hm⟩
 refine ⟨p,fun m hm => ?_,fun m m' hm hm' he => h2 m m' (old m hm).2 (old m' hm').2 he,fun g hg => ?_⟩
 rotate_left
 ·obtain ⟨j,j1,j2⟩:=h3 g hg
  exact ⟨j,j1,fun m hm => j2 m (old m hm).2⟩
 obtain ⟨k1,o1,b1,b2,b3⟩:=h1 m (old m hm).2
 exact ⟨k1,o1,b1,b2,by rw [zaY,if_neg (old m hm).1]; exact b3⟩
theorem HR.move (hr:HR G B h H) {i nx:Nat}(hn:B.length=nx) (hi:liveO (atB h i)=true) {k:Bk}(hk:B[i]? = some k) :
  ∃ j obj,H[j]? = some [(k.b,obj)]∧OR B k obj (atB h i)∧∀ k' obj' lo',k'.b=k.b→OR (B++[k']) k' obj' lo'→HR G (B++[k']) (Tr.set .gone lo' (Tr.set .gone .gone h i) nx) (H.set j [(k.b,obj')]):=by
 obtain ⟨p,h1,h2,h3⟩:=hr
 obtain ⟨k0,o0,a1,a2,a3⟩:=h1 i hi
 rw [hk] at a1; cases a1
 refine ⟨p i,o0,a2,a3,fun k' obj' lo' hb hor => ?_⟩
 have hp:B <+: B++[k']:=List.prefix_append _ _
 have hlt:=(List.getElem?_eq_some_iff.1 a2).1
 have hinx:i < nx:=by rw [← hn]; exact (List.getElem?_eq_some_iff.1 hk).1
 have old:∀ m,m≠nx→liveO (atB (Tr.set .gone lo' (Tr.set .gone .gone h i) nx) m)=true→m≠i∧liveO (atB h m)=true:=by
  intro m hm hl
  rw [zaY,if_neg hm,zaY] at hl
  split at hl
  ·cases hl
  ·rename_i e; exact ⟨e,hl⟩
 refine ⟨fun m => if m=nx then p i else p m,fun m hm => ?_,fun m m' hm hm' he => ?_,fun g hg => ?_⟩
 ·by_cases e:m=nx
  ·subst e
   refine ⟨k',obj',by rw [← hn]; simp,by simp [hlt,hb],?_⟩
   rw [zaY,if_pos rfl]; exact hor
  ·obtain ⟨o1,o2⟩:=old m e hm
   obtain ⟨k1,ob1,b1,b2,b3⟩:=h1 m o2
   have hne:p i≠p m:=fun e2 => o1 (h2 m i o2 hi e2.symm)
   refine ⟨k1,ob1,zaP hp b1,by simp only [if_neg e]; rw [List.getElem?_set,if_neg hne]; exact b2,?_⟩
   rw [zaY,if_neg e,zaY,if_neg o1]; exact b3.mono hp
 ·by_cases e:m=nx <;> by_cases e' : m' = nx
  ·rw [e,e']
  ·simp only [if_pos e,if_neg e'] at he
   obtain ⟨o1,o2⟩:=old m' e' hm'
   exact absurd (h2 i m' hi o2 he).symm o1
  ·simp only [if_neg e,if_pos e'] at he
   obtain ⟨o1,o2⟩:=old m e hm
   exact absurd (h2 m i o2 hi he) o1
  ·simp only [if_neg e,if_neg e'] at he
   exact h2 m m' (old m e hm).2 (old m' e' hm').2 he
 ·obtain ⟨j,j1,j2⟩:=h3 g hg
  refine ⟨j,by rw [List.getElem?_set,if_neg (j2 i hi)]; exact j1,fun m hm => ?_⟩
  by_cases e:m=nx
  ·simp only [if_pos e]; exact j2 i hi
  ·simp only [if_neg e]; exact j2 m (old m e hm).2
end
noncomputable def setRows (sz:Nat):Nat→Tr (List LV)→Nat→List LV→Tr (List LV)
  | 0,t,_,_ => t
  | r + 1,t,i,l => setRows sz r (Tr.set [] (l.take sz) t i) (i + 1) (l.drop sz)
theorem zbT {β:Type}(sz:Nat) (c:Tr (List LV)→β):∀ (r:Nat) (t:Tr (List LV)) (i:Nat) (l:List LV),writeRows sz c r t i l=c (setRows sz r t i l)
 | 0,t,i,l => rfl
 | r + 1,t,i,l => by rw [writeRows,zaN,zbT sz c r]; rfl
theorem zcj (sz:Nat):∀ (r:Nat) (t:Tr (List LV)) (i:Nat) (l:List LV) (j:Nat),Tr.get [] (setRows sz r t i l) j=if i≤j∧j < i + r then (l.drop ((j - i) * sz)).take sz else Tr.get [] t j
 | 0,t,i,l,j => by rw [setRows,if_neg (by omega)]
 | r + 1,t,i,l,j => by
  rw [setRows,zcj sz r]
  by_cases h1:i + 1≤j∧j < i + 1 + r
  ·rw [if_pos h1,if_pos (by omega),List.drop_drop]
   congr 2
   have:j - i=j - (i + 1) + 1:=by omega
   rw [this,Nat.add_mul]; omega
  ·rw [if_neg h1,zb2]
   by_cases h2:j=i
   ·subst h2; rw [if_pos rfl,if_pos (by omega)]; simp
   ·rw [if_neg h2,if_neg (by omega)]
section
variable {B:BB}
theorem rows_new {sz n:Nat}{l:List LV}{vs:List Value}(hv:VRL B l vs) (hl:l.length=n * sz) (t:Tr (List LV)):∀ r,r < n→VRL B (Tr.get [] (setRows sz n t 0 l) r) ((vs.drop (r * sz)).take sz):=by
 intro r hr
 rw [zcj,if_pos (by omega),Nat.sub_zero]
 exact (hv.drop _).take _
theorem zfB {cs:Array Value}{o:Nat}{vs:List Value}(h:o + vs.length≤cs.size):(putCells cs o vs).size=cs.size:=by
 simp [putCells]; omega
theorem zfA {cs:Array Value}{o:Nat}{vs:List Value}(h1:∀ c ∈ cs.toList,c.oneCell' = true) (h2:∀ c ∈ vs,c.oneCell' = true):∀ c ∈ (putCells cs o vs).toList,c.oneCell' = true:=by
 intro c hc
 simp only [putCells,List.mem_append] at hc
 rcases hc with (hc | hc) | hc
 ·exact h1 c (List.mem_of_mem_take hc)
 ·exact h2 c hc
 ·exact h1 c (List.mem_of_mem_drop hc)
theorem zfC {l vs:List Value}{o a n:Nat}(h:o + vs.length≤l.length):(a + n≤o∨o + vs.length≤a→((l.take o++vs++l.drop (o + vs.length)).drop a).take n=(l.drop a).take n) ∧
  (o≤a→a + n≤o + vs.length→((l.take o++vs++l.drop (o + vs.length)).drop a).take n=(vs.drop (a - o)).take n):=by
 have h0:(l.take o).length=o:=by simp; omega
 constructor
 ·intro hc
  apply List.ext_getElem?
  intro i
  rw [List.getElem?_take,List.getElem?_take]
  split
  ·rename_i hi
   rw [List.getElem?_drop,List.getElem?_drop]
   rcases hc with hc | hc
   ·rw [List.append_assoc,List.getElem?_append_left (by rw [h0]; omega),List.getElem?_take,if_pos (by omega)]
   ·rw [List.getElem?_append_right (by simp [h0]; omega)]
    rw [List.getElem?_drop]
    congr 1
    simp [h0]; omega
  ·rfl
 ·intro h1 h2
  apply List.ext_getElem?
  intro i
  rw [List.getElem?_take,List.getElem?_take]
  split
  ·rename_i hi
   rw [List.getElem?_drop,List.getElem?_drop,List.append_assoc,List.getElem?_append_right (by rw [h0]; omega),h0,List.getElem?_append_left (by omega)]
   congr 1; omega
  ·rfl
end
variable {G:List (Nat×Obj)}
theorem put_row {l vs:List Value}{a q sz:Nat}(h1:q + vs.length≤sz) (h2:a + sz≤l.length) :
  ((l.take (a + q)++vs++l.drop (a + q + vs.length)).drop a).take sz=((l.drop a).take sz).take q++(vs++((l.drop a).take sz).drop (q + vs.length)):=by
 have h0:(l.take (a + q)).length=a + q:=by simp; omega
 rw [List.append_assoc,List.drop_append_of_le_length (by rw [h0]; omega)]
 rw [List.drop_take,show a + q - a=q by omega]
 have hq:((l.drop a).take q).length=q:=by simp; omega
 rw [List.take_append,hq]
 have e1:(l.drop a).take q=((l.drop a).take sz).take q:=by rw [List.take_take,Nat.min_eq_left (by omega)]
 rw [List.take_of_length_le (by rw [hq]; omega),e1]
 congr 1
 rw [List.take_append,List.take_of_length_le (by omega)]
 congr 1
 rw [List.drop_take,List.drop_drop]
 congr 1
 ·omega
 ·congr 1; omega
section
variable {B:BB}
theorem bytesW_ok {l m:List UInt8}{o:Nat}(h:o + m.length≤l.length):bytesW (bytesNum l) o m.length (bytesNum m)=bytesNum (l.take o++(m++l.drop (o + m.length))):=by
 have ho:(l.take o).length=o:=by simp; omega
 unfold bytesW
 rw [zbA,zbA,ho,zfu,List.drop_zero,zbE]
 rfl
theorem writeB_ok {k:Bk}{obj:Obj}{len x:Nat}(hor:OR B k obj (.bytes len x)) {m:List UInt8}{o:Nat}{lo' : LO}(hq:writeB len x o m.length (bytesNum m)=some lo') :
  ∃ cs e fr,obj = .cells cs e fr∧k.off + o + (m.map byt).length≤cs.size∧frOut fr cs.size∧OR B k (.cells (putCells cs (k.off + o) (m.map byt)) e fr) lo':=by
 obtain ⟨cs,e,fr,l,rfl,h2,h3,h4,h5,h6,h7,h8,h9⟩:=hor
 unfold writeB at hq
 split at hq
 ·rename_i hle
  have hle:o + m.length≤len:=zaf.1 hle
  rw [frN_eq] at hq
  cases hq
  have hsz:k.off + o + (m.map byt).length≤cs.size:=by simp; omega
  refine ⟨cs,e,fr,rfl,hsz,by rw [h3]; exact h5,_,e,fr,l.take o++(m++l.drop (o + m.length)),rfl,h2,by rw [zfB hsz,h3],h4,h5,zfA h6 (fun c hc => by obtain ⟨u,_,rfl⟩:=List.mem_map.1 hc; rfl),by simp; omega,?_,?_⟩
  ·rw [← h8,bytesW_ok (by omega)]
  ·have:=put_row (l:=cs.toList) (vs:=m.map byt) (a:=k.off) (q:=o) (sz:=len) (by simp; omega) (by simp; omega)
   rw [h9] at this
   show ((cs.toList.take (k.off + o)++m.map byt++cs.toList.drop (k.off + o + (m.map byt).length)).drop k.off).take len=_
   rw [this]
   simp
 ·cases hq
theorem writeR_ok {k:Bk}{obj:Obj}{sz len:Nat}{t:Tr (List LV)}(hor:OR B k obj (.rows sz len t)) {l:List LV}{vs:List Value}(hv:VRL B l vs) (h1:∀ c ∈ vs,c.oneCell' = true) {o:Nat}{lo' : LO}(hq:writeR sz len t o l=some lo') :
  ∃ cs e fr,obj = .cells cs e fr∧k.off + o + vs.length≤cs.size∧frOut fr cs.size∧OR B k (.cells (putCells cs (k.off + o) vs) e fr) lo':=by
 obtain ⟨cs,e,rfl,h2,h3,h4,h5,h6,h7⟩:=hor
 have hl:vs.length=l.length:=hv.len
 unfold writeR at hq
 split at hq
 ·cases hq
 ·rename_i hle
  have hle:o + l.length≤len * sz:=zaf.1 hle
  have hsz:k.off + o + vs.length≤cs.size:=by omega
  have hsz' : k.off + o + vs.length≤cs.toList.length:=by simpa using hsz
  have hd:=Nat.div_add_mod o sz
  have hms:o % sz < sz:=Nat.mod_lt o h2
  have hd' : o=o / sz * sz + o % sz:=by rw [Nat.mul_comm]; omega
  have rowle:∀ r,r < len→r * sz + sz≤len * sz:=fun r hr => by
   have:(r + 1) * sz≤len * sz:=Nat.mul_le_mul_right _ hr
   rw [Nat.add_mul,Nat.one_mul] at this; exact this
  have mulle:∀ a b,a < b→a * sz + sz≤b * sz:=fun a b hab => by
   have:(a + 1) * sz≤b * sz:=Nat.mul_le_mul_right _ hab
   rw [Nat.add_mul,Nat.one_mul] at this; exact this
  split at hq
  ·rename_i hw
   have hw:o % sz + l.length≤sz:=zaf.1 hw
   rw [zaN] at hq
   cases hq
   refine ⟨cs,e,(0,0),rfl,hsz,zao _,_,e,rfl,h2,h3,by rw [zfB hsz,h4],h5,zfA h6 h1,fun r hr => ?_⟩
   rw [zb2]
   show VRL B _ (((cs.toList.take (k.off + o)++vs++cs.toList.drop (k.off + o + vs.length)).drop (k.off + r * sz)).take sz)
   by_cases hr0:r=o / sz
   ·rw [show (Nat.div o sz)=o / sz from rfl,if_pos hr0]
    subst hr0
    have hrow:=h7 _ hr
    have hk:=rowle _ hr
    have e1:k.off + o=k.off + o / sz * sz + o % sz:=by omega
    rw [e1,put_row (by omega) (by simp; omega)]
    unfold rowW
    have:=(hrow.take (o % sz)).app (hv.app (hrow.drop (o % sz + l.length)))
    rw [← hl] at this
    rw [← hl]
    exact this
   ·rw [show (Nat.div o sz)=o / sz from rfl,if_neg hr0]
    rw [(zfC hsz').1 ?_]
    ·exact h7 r hr
    ·rcases Nat.lt_or_gt_of_ne hr0 with hlt | hgt
     ·left; have:=mulle _ _ hlt; omega
     ·right; have:=mulle _ _ hgt; omega
  ·split at hq
   ·rename_i hw
    rw [Bool.and_eq_true] at hw
    have w1:o % sz=0:=zaa.1 hw.1
    have w2:l.length % sz=0:=zaa.1 hw.2
    rw [zbT] at hq
    cases hq
    have hn:l.length=l.length / sz * sz:=by have:=Nat.div_add_mod l.length sz; rw [Nat.mul_comm]; omega
    refine ⟨cs,e,(0,0),rfl,hsz,zao _,_,e,rfl,h2,h3,by rw [zfB hsz,h4],h5,zfA h6 h1,fun r hr => ?_⟩
    rw [zcj]
    show VRL B _ (((cs.toList.take (k.off + o)++vs++cs.toList.drop (k.off + o + vs.length)).drop (k.off + r * sz)).take sz)
    have hob:o=o / sz * sz:=by omega
    by_cases hin:o / sz≤r∧r < o / sz + l.length / sz
    ·rw [show (Nat.div o sz)=o / sz from rfl,show (Nat.div l.length sz)=l.length / sz from rfl,if_pos hin]
     have m1:o / sz * sz≤r * sz:=Nat.mul_le_mul_right _ hin.1
     have m2:(r + 1) * sz≤(o / sz + l.length / sz) * sz:=Nat.mul_le_mul_right _ hin.2
     rw [Nat.add_mul,Nat.add_mul,Nat.one_mul] at m2
     rw [(zfC hsz').2 (by omega) (by omega)]
     have e1:k.off + r * sz - (k.off + o)=(r - o / sz) * sz:=by rw [Nat.sub_mul]; omega
     rw [e1]
     exact (hv.drop _).take _
    ·rw [show (Nat.div o sz)=o / sz from rfl,show (Nat.div l.length sz)=l.length / sz from rfl,if_neg hin]
     rw [(zfC hsz').1 ?_]
     ·exact h7 r hr
     ·by_cases hlt:r < o / sz
      ·left; have:=mulle _ _ hlt; omega
      ·right
       have:(o / sz + l.length / sz) * sz≤r * sz:=Nat.mul_le_mul_right _ (by omega)
       rw [Nat.add_mul] at this; omega
   ·cases hq
theorem OR.write {k:Bk}{obj:Obj}{lo:LO}(hor:OR B k obj lo) {l:List LV}{vs:List Value}(hv:VRL B l vs) (h1:∀ c ∈ vs,c.oneCell' = true) {o:Nat}{lo' : LO}(hq:writeO lo o l=some lo') :
  ∃ cs e fr,obj = .cells cs e fr∧k.off + o + vs.length≤cs.size∧frOut fr cs.size∧OR B k (.cells (putCells cs (k.off + o) vs) e fr) lo':=by
 unfold writeO at hq
 split at hq
 ·exact writeR_ok hor hv h1 hq
 ·split at hq
  ·rename_i y hy
   obtain ⟨m,rfl,rfl⟩:=zfH hy hv
   have hl:(m.map byt).length=l.length:=hv.len
   rw [List.length_map] at hl
   rw [← hl] at hq
   exact writeB_ok hor hq
  ·cases hq
 ·cases hq
theorem OR.writeM {k:Bk}{obj:Obj}{lo:LO}(hor:OR B k obj lo) {m:List UInt8}{o:Nat}{lo' : LO}(hq:Go.Proofs.YtdncjmehhahidaaGreatDoor.writeM lo o m.length (bytesNum m)=some lo') :
  ∃ cs e fr,obj = .cells cs e fr∧k.off + o + (m.map byt).length≤cs.size∧frOut fr cs.size∧OR B k (.cells (putCells cs (k.off + o) (m.map byt)) e fr) lo':=by
 unfold Go.Proofs.YtdncjmehhahidaaGreatDoor.writeM at hq
 split at hq
 ·exact writeB_ok hor hq
 ·exact hor.write (VRL.bytes m) (fun c hc => by obtain ⟨u,_,rfl⟩:=List.mem_map.1 hc; rfl) hq
theorem zbo {lo lo' : LO}{o:Nat}{l:List LV}(h:writeO lo o l=some lo'):liveO lo=true:=by
 cases lo <;> first | rfl | (cases h; done)
theorem zcn {lo lo' : LO}{o n y:Nat}(h:writeM lo o n y=some lo'):liveO lo=true:=by
 cases lo <;> first | rfl | (cases h; done)
theorem noFr_of {fr:Nat×Nat}{n o m:Nat}(h:frOut fr n) (hm:o + m≤n):noFr fr o m=true:=by
 simp only [noFr,Bool.or_eq_true]
 by_cases h1:fr.2≤fr.1
 ·exact .inl (.inl (zaf.2 h1))
 ·by_cases h2:fr.1 < n
  ·have:=h fr.1 h2
   simp at this
   omega
  ·exact .inr (zaf.2 (by omega))
variable {w0:World}{base:Nat}{w:World}{H:List Seg}{h:LH}{P:Program}
theorem zc8 (S:Sep w0 base w H) (hr:HR G B h H) {i:Nat}{k:Bk}(hk:B[i]? = some k) (hi:liveO (atB h i)=true) {o:Nat}{vs:List Value}(h1:∀ c ∈ vs,c.oneCell' = true) {lo' : LO}
  (hw:∀ obj,OR B k obj (atB h i)→∃ cs e fr,obj = .cells cs e fr∧k.off + o + vs.length≤cs.size∧frOut fr cs.size∧OR B k (.cells (putCells cs (k.off + o) vs) e fr) lo') :
  ∃ H' w',(storeCells ⟨k.b,k.off + o,none⟩ vs).run P w = .ok () w'∧Sep w0 base w' H'∧HR G B (Tr.set .gone lo' h i) H':=by
 obtain ⟨j,obj,a1,a2,a3⟩:=hr.put hi hk
 obtain ⟨cs,e,fr,rfl,b1,b2,b3⟩:=hw obj a2
 have hb:=(S.at_ a1 (j:=0) rfl).1
 have hst:=zat P k.b (k.off + o) e fr vs 0 cs w hb (fun j g1 g2 => zfI (noFr_of b2 b1) j (by omega) (by omega)) (by omega) h1
 refine ⟨_,_,hst,S.setRow (j:=0) a1 rfl _,?_⟩
 exact a3 _ _ b3
end
variable {G:List (Nat×Obj)}
def LOR (B:BB) (sz:Nat) (vs:List Value):LO→Prop
 | .rows s len t => s=sz∧0 < sz∧len * sz≤vs.length∧∀ r,r < len→VRL B (Tr.get [] t r) ((vs.drop (r * sz)).take sz)
 | .bytes len x => sz=1∧∃ l:List UInt8,l.length=len∧bytesNum l=x∧len≤vs.length∧vs.take len=l.map byt
 | _ => False
theorem LOR.mono {B B' : BB}(hp:B <+: B') {sz:Nat}{vs:List Value}:∀ {lo:LO},LOR B sz vs lo→LOR B' sz vs lo
 | .rows s len t,⟨h1,h2,h3,h4⟩ => ⟨h1,h2,h3,fun r hr => VRL.mono hp _ _ (h4 r hr)⟩
 | .bytes len x,h => h
 | .gone,h => h
 | .map _ _ _,h => h
 | .iter _ _ _ _,h => h
 | .loop _ _ _ _ _ _ _ _,h => h
 | .defd _,h => h
section
variable {B:BB}{sz:Nat}{vs:List Value}{lo:LO}
theorem LOR.or (hl:LOR B sz vs lo) {cs:Array Value}{off:Nat}{rest:List Value}(hc:cs.toList.drop off=vs++rest) (ho:off + vs.length≤cs.size) (h1:∀ c ∈ cs.toList,c.oneCell' = true) (b:Nat) (e:TypeId) {fr:Nat×Nat}(hf:frOut fr cs.size) (hfr:(∀ s l t,lo≠.rows s l t)∨fr=(0,0)) :
  OR B ⟨b,off,cs.size,sz⟩ (.cells cs e fr) lo:=by
 cases lo with
 | rows s len t =>
  obtain ⟨rfl,h2,h3,h4⟩:=hl
  rcases hfr with hfr | rfl
  ·exact absurd rfl (hfr _ _ _)
  refine ⟨cs,e,rfl,h2,rfl,rfl,by show off + len * s≤cs.size; omega,h1,fun r hr => ?_⟩
  have:(cs.toList.drop (off + r * s)).take s=(vs.drop (r * s)).take s:=by
   have hr' : (r + 1) * s≤len * s:=Nat.mul_le_mul_right _ hr
   rw [Nat.add_mul,Nat.one_mul] at hr'
   rw [← List.drop_drop,hc,List.drop_append_of_le_length (by omega),List.take_append_of_le_length (by simp; omega)]
  rw [this]; exact h4 r hr
 | bytes len x =>
  obtain ⟨rfl,l,h2,h3,h4,h5⟩:=hl
  refine ⟨cs,e,fr,l,rfl,rfl,rfl,by show off + len≤cs.size; omega,hf,h1,h2,h3,?_⟩
  show (cs.toList.drop off).take len=_
  rw [hc,List.take_append_of_le_length h4,h5]
 | _ => exact hl.elim
theorem zbX {byte:Bool}{l:List LV}(h:mkLO byte sz l=some lo) (hv:VRL B l vs) (hb:byte=true→sz=1):LOR B sz vs lo:=by
 have hl:=hv.len
 unfold mkLO at h
 split at h
 ·split at h
  ·rename_i x hx
   rw [frN_eq] at h
   cases h
   obtain ⟨m,rfl,rfl⟩:=zfH hx hv
   rw [List.length_map] at hl
   exact ⟨hb rfl,m,hl,rfl,by rw [List.length_map]; omega,List.take_of_length_le (by rw [List.length_map]; omega)⟩
  ·cases h
 ·unfold mkR at h
  split at h
  ·rename_i hc
   rw [Bool.and_eq_true,Bool.and_eq_true] at hc
   obtain ⟨c1,c2,c3⟩:=hc
   have c1:=zal.1 c1
   have c2:l.length % sz=0:=zaa.1 c2
   rw [zbT] at h
   cases h
   have hn:l.length=l.length / sz * sz:=by have:=Nat.div_add_mod l.length sz; rw [Nat.mul_comm]; omega
   exact ⟨rfl,c1,by show l.length / sz * sz≤_; rw [← hn]; omega,fun r hr => rows_new hv hn .e r hr⟩
  ·cases h
end
section
variable {X:Pt}{E:Env}{H:List Seg}{B:BB}{h h' : LH}{cx:Cx}{f:SlF}{lv:LV}{nx nx' : Nat}
def MR (G:List (Nat×Obj)) (B:BB) (lv:LV) (nx' : Nat) (h' : LH):Value→List Seg→Prop:=fun v H' => ∃ B',B <+: B'∧B'.length=nx'∧VR B' lv v∧HR G B' h' H'
def MoOk (G:List (Nat×Obj)) (X:Pt) (E:Env) (H:List Seg) (B:BB) (op:Op) (lv:LV) (nx' : Nat) (h' : LH):Prop:=Does X E H op (MR G B lv nx' h')
theorem zbg {lo:LO}{v:LV}(hq:newB lo v nx h = .ok lv nx' h'):lv=v∧nx' = nx + 1∧h' = Tr.set .gone lo h nx:=by
 unfold newB at hq
 split at hq
 ·rw [zaN,frN_eq] at hq
  cases hq
  exact ⟨rfl,rfl,rfl⟩
 ·cases hq
theorem zcl {byte:Bool}{sz:Nat}{l:List LV}{v:LV}(hq:newLO byte sz l v nx h = .ok lv nx' h'):∃ lo,mkLO byte sz l=some lo∧lv=v∧nx' = nx + 1∧h' = Tr.set .gone lo h nx:=by
 unfold newLO optR at hq
 split at hq
 ·rename_i lo hlo
  obtain ⟨h1,h2,h3⟩:=zbg hq
  exact ⟨lo,hlo,h1,h2,h3⟩
 ·cases hq
theorem zcJ (hc:CxOk X.P X.w0 X.base cx) {e:TypeId}(hb:isByte cx e=true):(mkTI X.P e).sz=1∧X.P.underlying e=some (.int .u8)∧known X.P e=true:=by
 unfold isByte at hb
 rw [hc.ty] at hb
 cases hk:(mkTI X.P e).kind <;> simp only [hk] at hb
 case int kk =>
  cases kk <;> simp only at hb <;> try (cases hb; done)
  all_goals exact ⟨zaa.1 hb,k_int hk,(k_of hk (by simp)).1⟩
 all_goals cases hb
theorem zaC {k:Bk}(hn:B.length=nx):(B++[k])[nx]? = some k:=by rw [← hn]; simp
theorem MR.new (hr:HR G B h H) (hn:B.length=nx) {lo:LO}{cs:Array Value}{e:TypeId}{sz:Nat}{vs rest:List Value}{fr:Nat×Nat}(hl:LOR B sz vs lo) (hc:cs.toList=vs++rest) (h1:∀ c ∈ cs.toList,c.oneCell' = true) (hf:frOut fr cs.size) (hfr:(∀ s l t,lo≠.rows s l t)∨fr=(0,0)) (b:Nat) {v:Value}
  (hv:VR (B++[⟨b,0,cs.size,sz⟩]) lv v):MR G B lv (nx + 1) (Tr.set .gone lo h nx) v ([(b,.cells cs e fr)]::H):=by
 have hp:B <+: B++[⟨b,0,cs.size,sz⟩]:=List.prefix_append _ _
 refine ⟨_,hp,by simp [hn],hv,hr.new hn ?_⟩
 refine (hl.mono hp).or (by rw [List.drop_zero]; exact hc) ?_ h1 b e hf hfr
 have:=congrArg List.length hc
 simp at this
 omega
theorem alloc_ok (hc:CxOk X.P X.w0 X.base cx) (hr:HR G B h H) (hn:B.length=nx) {e:TypeId}(hq:newE cx e (cells (cx.ty e).zero) nx h = .ok lv nx' h'):MoOk G X E H B (.alloc e) lv nx' h':=by
 unfold newE at hq
 rw [hc.ty] at hq
 split at hq
 ·rename_i hl
  obtain ⟨rfl,rfl,rfl⟩:=zbg hq
  obtain ⟨_,z,z1,z2,z3,z4⟩:=zaZ (P:=X.P) (t:=e) B (fun e => by rw [e] at hl; cases hl)
  obtain ⟨c1,c2⟩:=zaB z3 hl
  simp only [VRL] at c1
  refine (Do.alloc z2 rfl).mono ?_
  rintro v H' ⟨b,rfl,rfl⟩
  refine MR.new hr hn (sz:=1) (vs:=[]) (lo:=.rows 1 0 .e) ⟨rfl,by omega,by simp,fun r hr => absurd hr (by omega)⟩ (rest:=[]) (by simpa using c1) c2 (zao _) (.inr rfl) b ?_
  simp only [VR]
  exact ⟨_,zaC hn,rfl⟩
 ·rename_i l _ hl
  obtain ⟨lo,h1,rfl,rfl,rfl⟩:=zcl hq
  obtain ⟨_,z,z1,z2,z3,z4⟩:=zaZ (P:=X.P) (t:=e) B (fun e => by rw [e] at hl; cases hl)
  obtain ⟨c1,c2⟩:=zaB z3 hl
  refine (Do.alloc z2 rfl).mono ?_
  rintro v H' ⟨b,rfl,rfl⟩
  refine MR.new hr hn (zbX h1 c1 (fun hb => (zcJ hc hb).1)) (rest:=[]) (by simp) c2 (zao _) (.inr rfl) b ?_
  simp only [VR]
  exact ⟨_,zaC hn,rfl⟩
 ·cases hq
theorem box_ok (hc:CxOk X.P X.w0 X.base cx) (hr:HR G B h H) (hn:B.length=nx) (hE:ER B f E) {e:TypeId}{x:Operand}(hq:newE cx e (cells (evO x f)) nx h = .ok lv nx' h'):MoOk G X E H B (.box e x) lv nx' h':=by
 unfold newE at hq
 rw [hc.ty] at hq
 split at hq
 ·rename_i hl
  obtain ⟨rfl,rfl,rfl⟩:=zbg hq
  obtain ⟨v,v1,v2⟩:=hE.ev x (fun e => by rw [e] at hl; cases hl)
  obtain ⟨c1,c2⟩:=zaB v2 hl
  simp only [VRL] at c1
  refine (Do.box rfl v1).mono ?_
  rintro u H' ⟨b,rfl,rfl⟩
  refine MR.new hr hn (sz:=1) (vs:=[]) (lo:=.rows 1 0 .e) ⟨rfl,by omega,by simp,fun r hr => absurd hr (by omega)⟩ (rest:=[]) (by simpa using c1) c2 (zao _) (.inr rfl) b ?_
  simp only [VR]
  exact ⟨_,zaC hn,rfl⟩
 ·rename_i l _ hl
  obtain ⟨lo,h1,rfl,rfl,rfl⟩:=zcl hq
  obtain ⟨v,v1,v2⟩:=hE.ev x (fun e => by rw [e] at hl; cases hl)
  obtain ⟨c1,c2⟩:=zaB v2 hl
  refine (Do.box rfl v1).mono ?_
  rintro u H' ⟨b,rfl,rfl⟩
  refine MR.new hr hn (zbX h1 c1 (fun hb => (zcJ hc hb).1)) (rest:=[]) (by simp) c2 (zao _) (.inr rfl) b ?_
  simp only [VR]
  exact ⟨_,zaC hn,rfl⟩
 ·cases hq
theorem zb3 {i o:Nat}{l:List LV}{v:LV}(hq:writeC h i o l v nx = .ok lv nx' h'):∃ lo,writeO (atB h i) o l=some lo∧lv=v∧nx' = nx∧h' = Tr.set .gone lo h i:=by
 unfold writeC at hq
 split at hq
 ·rename_i lo hlo
  unfold putB at hq
  rw [zaN] at hq
  cases hq
  exact ⟨lo,hlo,rfl,rfl,rfl⟩
 ·cases hq
theorem zdb {i o n y:Nat}{v:LV}(hq:writeN h i o n y v nx = .ok lv nx' h'):∃ lo,writeM (atB h i) o n y=some lo∧lv=v∧nx' = nx∧h' = Tr.set .gone lo h i:=by
 unfold writeN at hq
 split at hq
 ·rename_i lo hlo
  unfold putB at hq
  rw [zaN] at hq
  cases hq
  exact ⟨lo,hlo,rfl,rfl,rfl⟩
 ·cases hq
theorem zbJ:VR B (.tup []) Go.undef:=by simp only [VR]; exact ⟨#[],rfl,VRL.nil_⟩
theorem store_ok (hc:CxOk X.P X.w0 X.base cx) (hr:HR G B h H) (hn:B.length=nx) (hE:ER B f E) {t:TypeId}{a x:Operand}(hq:storeE (cx.ty t) (evO a f) (evO x f) nx h = .ok lv nx' h'):MoOk G X E H B (.store t a x) lv nx' h':=by
 unfold storeE at hq
 rw [hc.ty] at hq
 split at hq
 ·rename_i i o ha
  split at hq
  ·rename_i l hl
   split at hq
   ·rename_i hb
    rw [Bool.and_eq_true] at hb
    have hlen:=zaa.1 hb.1
    have hk:=isK_known hb.2
    obtain ⟨lo,hw,rfl,rfl,rfl⟩:=zb3 hq
    obtain ⟨va,a1,a2⟩:=hE.ev a (by rw [ha]; simp)
    rw [ha] at a2; simp only [VR] at a2
    obtain ⟨k,hk1,rfl⟩:=a2
    obtain ⟨v,v1,v2⟩:=hE.ev x (fun e => by rw [e] at hl; cases hl)
    obtain ⟨c1,c2⟩:=zaB v2 hl
    refine Does.coreU rfl fun dst ty pos after g ρ w hρ S => ?_
    obtain ⟨H',w',r1,r2,r3⟩:=zc8 (P:=X.P) S hr hk1 (zbo hw) (o:=o) c2 (fun obj hor => hor.write c1 c2 hw)
    refine ⟨w',H',?_,r2,B,List.prefix_refl _,hn,zbJ,r3⟩
    have hsz:v.cells.size=(mkTI X.P t).sz:=by have:=c1.len; rw [hlen] at this; simpa using this
    simp [execOp,hρ _ _ a1,hρ _ _ v1,Instr.storeAt,Instr.sureAddr,storeVar,zaz hk,hsz]
    rw [r1]
    rfl
   ·cases hq
  ·cases hq
 ·cases hq
theorem makeMap_ok (hc:CxOk X.P X.w0 X.base cx) (hr:HR G B h H) (hn:B.length=nx) (hE:ER B f E) {t:TypeId}{r:Option Operand}(hq:makeMapE (cx.ty t).kind (evM r f) nx h = .ok lv nx' h'):MoOk G X E H B (.makeMap t r) lv nx' h':=by
 have fin:∀ b:Nat,MR G B (.map nx) (nx + 1) (Tr.set .gone (.map 0 [] []) h nx) (.map (some b)) ([(b,.map #[] 0)]::H):=by
  intro b
  refine ⟨B++[⟨b,0,0,0⟩],List.prefix_append _ _,by simp [hn],by simp only [VR]; exact ⟨_,zaC hn,rfl⟩,hr.new hn (k:=⟨b,0,0,0⟩) (obj:=.map #[] 0) (lo:=.map 0 [] []) ⟨#[],rfl,rfl,by simp [MRL]⟩⟩
 unfold makeMapE at hq
 cases r with
 | none =>
  simp only [evM] at hq
  obtain ⟨rfl,rfl,rfl⟩:=zbg hq
  exact Does.core rfl fun dst ty pos after g ρ w hρ S => ⟨_,_,_,by simp [execOp,Instr.makeMap],S.alloc (.map #[] 0),fin _⟩
 | some x =>
  simp only [evM] at hq
  rw [hc.ty] at hq
  split at hq
  ·rename_i kt e k n hk hx
   obtain ⟨rfl,rfl,rfl⟩:=zbg hq
   obtain ⟨v,v1,v2⟩:=hE.ev x (by rw [hx]; simp)
   rw [hx] at v2; simp only [VR] at v2; subst v2
   have hu:=(k_map hk).1
   exact Does.core rfl fun dst ty pos after g ρ w hρ S => ⟨_,_,_,by simp [execOp,hρ _ _ v1,Instr.makeMap,run_underlying hu,asInt,asIntOf],S.alloc (.map #[] 0),fin _⟩
  ·cases hq
theorem VRL.rep {z:List LV}{zv:List Value}(hz:VRL B z zv):∀ n,VRL B (repL n z) (List.replicate n zv).flatten
 | 0 => by simp [repL,VRL]
 | n + 1 => by rw [repL,List.replicate_succ,List.flatten_cons]; exact hz.app (VRL.rep hz n)
theorem zdH {zv:List Value}(h1:∀ c ∈ zv,c.oneCell' = true) (n:Nat):∀ c ∈ (List.replicate n zv).flatten,c.oneCell' = true:=by
 intro c hc
 obtain ⟨l,hl,hc⟩:=List.mem_flatten.1 hc
 rw [List.eq_of_mem_replicate hl] at hc
 exact h1 c hc
theorem rep_len {α:Type}(zv:List α) (n:Nat):(List.replicate n zv).flatten.length=n * zv.length:=by
 rw [List.length_flatten,List.map_replicate,List.sum_replicate_nat]
theorem bsl_ok (hc:CxOk X.P X.w0 X.base cx) (hr:HR G B h H) (hn:B.length=nx) (hE:ER B f E) {t n:Nat}{ps:Array (Nat×Operand)}(hq:(buildSliceE cx t n).go (partsE ps.toList f) nx h = .ok lv nx' h'):MoOk G X E H B (.buildSlice t n ps) lv nx' h':=by
 unfold buildSliceE at hq
 rw [hc.ty] at hq
 cases hk:(mkTI X.P t).kind <;> simp only [hk,W.go_mk] at hq
 case slice e =>
  obtain ⟨hu,hke⟩:=zaL hk
  unfold bslE at hq
  rw [hc.ty] at hq
  split at hq
  ·rename_i z hz hle
   have hle:n * (mkTI X.P e).sz≤16777216:=zaf.1 hle
   split at hq
   ·rename_i l hl
    obtain ⟨lo,h1,rfl,rfl,rfl⟩:=zcl hq
    obtain ⟨_,zv,z1,z2,z3,z4⟩:=zaZ (P:=X.P) (t:=e) B (fun e => by rw [e] at hz; cases hz)
    obtain ⟨c1,c2⟩:=zaB z3 hz
    obtain ⟨vs,v1,v2,v3⟩:=zeD hE ps.toList (zcg _ _ _ hl)
    obtain ⟨r,r1,r2,r3,r4⟩:=zdx (place:=plcA (mkTI X.P e).sz) _ vs (repL n z) (List.replicate n zv.cells.toList).flatten l (by rw [v2,zcd]) v3 (c1.rep n) (zdH c2 n) hl
    refine (Do.buildSlice hu z2 (zfw hke) (zaa.2 (by simpa using z4)) (zaf.2 hle) v1 r1).mono ?_
    rintro u H' ⟨b,rfl,rfl⟩
    refine MR.new hr hn (zbX h1 r2 (fun hb => (zcJ hc hb).1)) (rest:=[]) (by simp) (by simpa using r3) (zao _) (.inr rfl) b ?_
    simp only [VR]
    exact ⟨_,zaC hn,rfl⟩
   ·cases hq
  ·cases hq
 all_goals cases hq
theorem isZ_ok {v:LV}(h:isZ v=true):v = .int .u8 (.ofNat 0):=by
 unfold isZ at h
 split at h
 ·rfl
 ·cases h
theorem zeb:∀ n,bytesNum (List.replicate n 0)=0
 | 0 => rfl
 | n + 1 => by rw [List.replicate_succ,bytesNum,zeb n]; rfl
theorem zeM (n:Nat):(List.replicate n [byt 0]).flatten=(List.replicate n 0).map byt:=by
 induction n with
 | zero => rfl
 | succ n ih => rw [List.replicate_succ,List.flatten_cons,ih]; rfl
theorem mkSl_ok (hc:CxOk X.P X.w0 X.base cx) (hr:HR G B h H) (hn:B.length=nx) (hE:ER B f E) {t:TypeId}{x y:Operand}(hq:makeSliceE cx (cx.ty t).kind (evO x f) (evO y f) nx h = .ok lv nx' h'):MoOk G X E H B (.makeSlice t x y) lv nx' h':=by
 unfold makeSliceE at hq
 rw [hc.ty] at hq
 split at hq
 ·rename_i e l c hk hl hcc
  obtain ⟨hu,hke⟩:=zaL hk
  split at hq
  ·rename_i hb
   rw [Bool.and_eq_true,Bool.and_eq_true] at hb
   obtain ⟨b1,b2,b3⟩:=hb
   have b1:=zaf.1 b1
   have b2:=zal.1 b2
   have b3:=zal.1 b3
   obtain ⟨vx,x1,x2⟩:=hE.ev x (fun e => by rw [e] at hl; cases hl)
   obtain ⟨k1,rfl⟩:=zcm hl x2
   obtain ⟨vy,y1,y2⟩:=hE.ev y (fun e => by rw [e] at hcc; cases hcc)
   obtain ⟨k2,rfl⟩:=zcm hcc y2
   obtain ⟨io,hio,hsz,hby⟩:=zaI hke
   have run:∀ {z:Value},(∀ w,(zeroValue e).run X.P w = .ok z w)→z.cells.size=(mkTI X.P e).sz→∀ (w:World),(Instr.makeSlice t (.int k1 (l:Int)) (.int k2 (c:Int))).run X.P w = .ok (.slice (some ⟨w.heap.size,0,none⟩) l c) (w.alloc (.cells ((List.replicate c z.cells.toList).flatten).toArray e)):=by
    intro z hz hzs w
    have hw1:IntKind.i64.wrap (l:Int)=l:=w64 (by omega) (by omega)
    have hw2:IntKind.i64.wrap (c:Int)=c:=w64 (by omega) (by omega)
    have hbig:¬ ((281474976710656:Int) < (io.bytes:Int) * (c:Int)):=by
     have h1:io.bytes≤1000000:=by omega
     have:io.bytes * c≤1000000 * 100000:=Nat.mul_le_mul h1 (by omega)
     have h2:((io.bytes * c:Nat):Int)≤100000000000:=by omega
     rw [Int.natCast_mul] at h2
     omega
    have h1:¬ ((c:Int) < 0):=by omega
    have h2:¬ ((l:Int) < 0):=by omega
    have h3:¬ ((c:Int) < (l:Int)):=by omega
    have hasi:∀ (q:IntKind) (m:Nat) (w:World),(asInt (.int q (m:Int))).run X.P w = .ok (m:Int) w:=fun q m w => by simp [asInt,asIntOf]
    have hrow:=zdq z.cells c
    rw [hzs] at hrow
    simp only [Instr.makeSlice,Sem.run_bind,run_underlying hu,Result.andThen_ok,hasi,typeInfo,run_program,hio,Sem.run_pure,zaz hke]
    by_cases h0:c * (mkTI X.P e).sz=0
    ·have hemp:(List.replicate c z.cells.toList).flatten=[]:=by
      apply List.eq_nil_of_length_eq_zero
      rw [rep_len]; simpa [hzs] using h0
     have er:∀ f:Nat→Value,(Array.range 0).map f = #[]:=fun f => by
      have:Array.range 0 = #[]:=by simp [Array.range]
      rw [this]; simp
     simp [hw1,hw2,hbig,h1,h2,h3,newRow,hio,h0,hemp,zaz hke,er]
    ·simp [hw1,hw2,hbig,h1,h2,h3,newRow,hio,h0,hz,hzs,zaz hke]
     rw [hrow]
   unfold mkSl at hq
   rw [hc.ty] at hq
   split at hq
   ·rename_i hb
    rw [Bool.and_eq_true] at hb
    obtain ⟨s1,s2,s3⟩:=zcJ hc hb.1
    have hz:=isZ_ok hb.2
    obtain ⟨rfl,rfl,rfl⟩:=zbg hq
    obtain ⟨_,zv,z1,z2,z3,z4⟩:=zaZ (P:=X.P) (t:=e) B (by rw [hz]; simp)
    rw [hz] at z3
    simp only [VR] at z3
    subst z3
    refine Does.core rfl fun dst ty pos after g ρ w hρ S => ⟨_,_,_,by simp only [execOp,hρ _ _ x1,hρ _ _ y1,Sem.run_bind]; rw [run z1 z4 w]; simp only [Result.andThen_ok,Sem.run_pure]; rfl,S.alloc _,?_⟩
    have ez:(List.replicate c (Value.int .u8 (Int.ofNat 0)).cells.toList).flatten=(List.replicate c (0:UInt8)).map byt:=zeM c
    rw [ez]
    refine MR.new hr hn (sz:=1) (lo:=.bytes c 0) (vs:=(List.replicate c (0:UInt8)).map byt) (rest:=[]) ⟨rfl,List.replicate c 0,by simp,zeb c,by simp,by simp⟩ (by simp) (fun u hu => by
     have hu:u ∈ (List.replicate c (0:UInt8)).map byt:=hu
     obtain ⟨v,_,rfl⟩:=List.mem_map.1 hu; rfl) (zao _) (.inr rfl) _ ?_
    simp only [VR]
    exact ⟨_,zaC hn,rfl⟩
   ·split at hq
    ·rename_i z hz
     obtain ⟨lo,h1,rfl,rfl,rfl⟩:=zcl hq
     obtain ⟨_,zv,z1,z2,z3,z4⟩:=zaZ (P:=X.P) (t:=e) B (fun e => by rw [e] at hz; cases hz)
     obtain ⟨c1,c2⟩:=zaB z3 hz
     refine Does.core rfl fun dst ty pos after g ρ w hρ S => ⟨_,_,_,by simp only [execOp,hρ _ _ x1,hρ _ _ y1,Sem.run_bind]; rw [run z1 z4 w]; simp only [Result.andThen_ok,Sem.run_pure]; rfl,S.alloc _,?_⟩
     refine MR.new hr hn (zbX h1 (c1.rep c) (fun hb => by cases hb)) (rest:=[]) (by simp) (by simpa using zdH c2 c) (zao _) (.inr rfl) _ ?_
     simp only [VR]
     exact ⟨_,zaC hn,rfl⟩
    ·cases hq
  ·cases hq
 ·cases hq
end
section core
variable {P:Program}{w0:World}{base:Nat}{H:List Seg}
def AppX (P:Program) (w0:World) (base:Nat) (H:List Seg) (e t2:TypeId) (sz:Nat) (x:Value) (n:Nat) (news:List Value):Prop :=
 ((P.underlying t2=some .string∨∃ e2,P.underlying t2=some (.slice e2))∧(∀ w,(Builtin.lenOf x).run P w = .ok n w)∧∀ w,Sep w0 base w H→(Builtin.firstCells sz n x).run P w = .ok news.toArray w) ∨
 ∃ k kk zv,P.underlying t2=some (.int k)∧x = .int kk (n:Int)∧n < 1000000∧(∀ w,(zeroValue e).run P w = .ok zv w)∧zv.cells.size=sz∧news=(List.replicate n zv.cells.toList).flatten
theorem rep_zero {zv:Value}{n sz:Nat}(hzs:zv.cells.size=sz) (h:n * sz=0):(List.replicate n zv.cells.toList).flatten=[] :=
 List.eq_nil_of_length_eq_zero (by rw [rep_len]; simpa [hzs] using h)
theorem append_in {t t2 e:TypeId}{ts:Array TypeId}{ty:TypeId}(ht:ts[0]? = some t) (ht2:ts[1]? = some t2) (hu:P.underlying t=some (.slice e)) (hke:known P e=true) {A:Option Addr}{m C n:Nat}{x:Value}{news:List Value}
  (hx:AppX P w0 base H e t2 (mkTI P e).sz x n news) (hb:(mkTI P e).bytes < 1000000) (hroom:m + n≤C) {w w' : World}(S:Sep w0 base w H) (hst:match A with | some a => (storeCells (a.add (m * (mkTI P e).sz)) news).run P w = .ok () w' | none => w' = w) :
  (Builtin.append_ ts ty #[.slice A m C,x]).run P w = .ok (.slice A (m + n) C) w':=by
 obtain ⟨io,hio,hsz,hby⟩:=zaI hke
 rcases hx with ⟨h2,h0,h1⟩ | ⟨k,kk,zv,h2,rfl,hn,hz,hzs,rfl⟩
 ·have h1:=h1 w S
  cases A with
  | none =>
   subst hst
   rcases h2 with h2 | ⟨e2,h2⟩ <;> simp [Builtin.append_,ht,ht2,run_underlying hu,run_underlying h2,zaz hke,h0,h1,hroom]
  | some a =>
   have hst:(storeCells (a.add (m * (mkTI P e).sz)) news).run P w = .ok () w':=hst
   rcases h2 with h2 | ⟨e2,h2⟩ <;> simp [Builtin.append_,ht,ht2,run_underlying hu,run_underlying h2,zaz hke,h0,h1,hroom,hst]
 ·have hw:IntKind.i64.wrap (n:Int)=n:=w64 (by omega) (by omega)
  have hbig:¬ ((281474976710656:Int) < (n:Int) * (io.bytes:Int)):=by
   have h1:n * io.bytes≤1000000 * 1000000:=Nat.mul_le_mul (by omega) (by omega)
   have h2:((n * io.bytes:Nat):Int)≤1000000000000:=by omega
   rw [Int.natCast_mul] at h2
   omega
  have hneg:¬ ((n:Int) < 0):=by omega
  have hasi:∀ w,(asInt (.int kk (n:Int))).run P w = .ok (n:Int) w:=fun w => by simp [asInt,asIntOf]
  by_cases h00:n * (mkTI P e).sz=0
  ·rw [rep_zero hzs h00] at hst
   cases A with
   | none => subst hst; simp [Builtin.append_,ht,ht2,run_underlying hu,run_underlying h2,zaz hke,hasi,hw,hneg,typeInfo,hio,hbig,hroom,h00]
   | some a =>
    have hst:(storeCells (a.add (m * (mkTI P e).sz)) []).run P w = .ok () w':=hst
    simp [Builtin.append_,ht,ht2,run_underlying hu,run_underlying h2,zaz hke,hasi,hw,hneg,typeInfo,hio,hbig,hroom,h00]
    rw [hst]; rfl
  ·have hzc:(Builtin.zeroCells zv.cells n).toList=(List.replicate n zv.cells.toList).flatten:=by rw [zbf]
   cases A with
   | none => subst hst; simp [Builtin.append_,ht,ht2,run_underlying hu,run_underlying h2,zaz hke,hasi,hw,hneg,typeInfo,hio,hbig,hroom,h00,hz]
   | some a =>
    have hst:(storeCells (a.add (m * (mkTI P e).sz)) (List.replicate n zv.cells.toList).flatten).run P w = .ok () w':=hst
    rw [← hzc] at hst
    simp [Builtin.append_,ht,ht2,run_underlying hu,run_underlying h2,zaz hke,hasi,hw,hneg,typeInfo,hio,hbig,hroom,h00,hz]
    rw [hst]; rfl
theorem append_out {t t2 e:TypeId}{ts:Array TypeId}{ty:TypeId}(ht:ts[0]? = some t) (ht2:ts[1]? = some t2) (hu:P.underlying t=some (.slice e)) (hke:known P e=true) {A:Option Addr}{m C n:Nat}{x:Value}{news:List Value}
  (hx:AppX P w0 base H e t2 (mkTI P e).sz x n news) (hb:(mkTI P e).bytes < 1000000) (hm:m < 1000000) (hn:n < 1000000) (hroom:¬ m + n≤C) {zv:Value}(hz:∀ w,(zeroValue e).run P w = .ok zv w) {old:List Value}
  (hold:∀ w,Sep w0 base w H→(Builtin.firstCells (mkTI P e).sz m (.slice A m C)).run P w = .ok old.toArray w) {w:World}(S:Sep w0 base w H) :
  ∃ C',(m + n≤C'∧C'≤9223372036854775807)∧(Builtin.append_ ts ty #[.slice A m C,x]).run P w = .ok (.slice (some ⟨w.heap.size,0,none⟩) (m + n) C') (w.drew.alloc (.cells ((old++news)++(List.replicate (C' - (m + n)) zv.cells.toList).flatten).toArray e)):=by
 obtain ⟨io,hio,hsz,hby⟩:=zaI hke
 have hneed:C < m + n:=by omega
 have hb2:(m + n) * io.bytes≤140737488355328:=by
  have:(m + n) * io.bytes≤2000000 * 1000000:=Nat.mul_le_mul (by omega) (by omega)
  omega
 have hfits:=growslice_fits (bytes:=io.bytes) hneed hb2
 have hge:=grownCap_ge w (m + n) C e
 have Sd:Sep w0 base w.drew H:=S.drawn _
 have h3:=hold w.drew Sd
 have hb48:¬ (281474976710656 < Builtin.nextslicecap (m + n) C * io.bytes):=by omega
 have hmax:¬ ((9223372036854775807:Int) < (((m + n:Nat)):Int)):=by omega
 have hmax' : ¬ (IntKind.i64.max < (((m + n:Nat)):Int)):=hmax
 have ez:Builtin.zeroCells zv.cells (grownCap w (m + n) C e - (m + n))=((List.replicate (grownCap w (m + n) C e - (m + n)) zv.cells.toList).flatten).toArray:=zbf _ _
 have hch:(choose (.appendCap (m + n) C e)).run P w = .ok (grownCap w (m + n) C e) w.drew:=rfl
 have ecells:∀ r:List Value,old.toArray++news.toArray++r.toArray=((old++news)++r).toArray:=fun r => by simp
 have hcm:grownCap w (m + n) C e≤maxLen:=grownCap_le_maxLen w (m + n) C e (by simp only [maxLen]; omega)
 refine ⟨grownCap w (m + n) C e,⟨hge,by simp only [maxLen] at hcm; omega⟩,?_⟩
 rcases hx with ⟨h2,h0,h1⟩ | ⟨k,kk,zn,h2,rfl,hn,hzn,hzs,rfl⟩
 ·have h0:=h0 w
  have h1:=h1 w.drew Sd
  rcases h2 with h2 | ⟨e2,h2⟩
  all_goals
   unfold Builtin.append_
   simp only [ht,ht2,run_underlying hu,run_underlying h2,zaz hke,typeInfo,Sem.run_bind,Result.andThen_ok,Sem.run_pure,run_program,hio,h0,List.getElem?_toArray,List.getElem?_cons_zero,List.getElem?_cons_succ,Bool.false_eq_true,if_false,hroom,hb48,false_or,hmax',false_and,hch,run_askRoom,h3,h1,newRow,run_newObj,hz,ez,ecells,Bool.not_false,if_true]
   rfl
 ·have hw:IntKind.i64.wrap (n:Int)=n:=w64 (by omega) (by omega)
  have hbig:¬ ((n:Int) * (io.bytes:Int) > 2 ^ 48):=by
   have h1:n * io.bytes≤1000000 * 1000000:=Nat.mul_le_mul (by omega) (by omega)
   have h2:((n * io.bytes:Nat):Int)≤1000000000000:=by omega
   rw [Int.natCast_mul] at h2
   omega
  have hneg:¬ ((n:Int) < 0):=by omega
  have hasi:∀ w,(asInt (.int kk (n:Int))).run P w = .ok (n:Int) w:=fun w => by simp [asInt,asIntOf]
  have hzz:zn=zv:=by
   have a1:=hzn w
   rw [hz w] at a1
   injection a1 with a1; exact a1.symm
  subst hzz
  by_cases h00:n * (mkTI P e).sz=0
  ·rw [rep_zero hzs h00] at ecells ⊢
   unfold Builtin.append_
   simp only [ht,ht2,run_underlying hu,run_underlying h2,zaz hke,typeInfo,Sem.run_bind,Result.andThen_ok,Sem.run_pure,run_program,hio,hasi,hw,hneg,List.getElem?_toArray,List.getElem?_cons_zero,List.getElem?_cons_succ,Bool.false_eq_true,if_false,hroom,hbig,Int.toNat_natCast,hb48,true_or,hmax',false_and,hch,run_askRoom,h3,h00,newRow,run_newObj,hz,ez,Bool.not_true,if_true]
   have:=ecells (List.replicate (grownCap w (m + n) C e - (m + n)) zn.cells.toList).flatten
   rw [← this]
   rfl
  ·have hzc:Builtin.zeroCells zn.cells n=((List.replicate n zn.cells.toList).flatten).toArray:=zbf _ _
   unfold Builtin.append_
   simp only [ht,ht2,run_underlying hu,run_underlying h2,zaz hke,typeInfo,Sem.run_bind,Result.andThen_ok,Sem.run_pure,run_program,hio,hasi,hw,hneg,List.getElem?_toArray,List.getElem?_cons_zero,List.getElem?_cons_succ,Bool.false_eq_true,if_false,hroom,hbig,Int.toNat_natCast,hb48,true_or,hmax',false_and,hch,run_askRoom,h3,h00,newRow,run_newObj,hz,ez,hzc,ecells,Bool.not_true,if_true]
   rfl
end core
variable {G:List (Nat×Obj)}
theorem put_from {l vs:List Value}{p q:Nat}(h:p + q≤l.length):(l.take (p + q)++vs++l.drop (p + q + vs.length)).drop p=((l.drop p).take q++vs)++l.drop (p + q + vs.length):=by
 have h0:(l.take (p + q)).length=p + q:=by simp; omega
 rw [List.append_assoc,List.drop_append_of_le_length (by rw [h0]; omega),List.drop_take,show p + q - p=q by omega,List.append_assoc]
section
variable {X:Pt}{E:Env}{H:List Seg}{B:BB}{h h' : LH}{cx:Cx}{f:SlF}{lv:LV}{nx nx' : Nat}
theorem zaW {b:Builtin}{xs:Array Operand}{ts:Array TypeId}{vs:List Value}{R:Value→List Seg→Prop}(hx:evs E xs.toList=some vs)
  (hr:∀ w ty consts,Sep X.w0 X.base w H→∃ v w' H',(builtin b ts ty consts vs.toArray).run X.P w = .ok (.value v) w'∧Sep X.w0 X.base w' H'∧R v H'):Does X E H (.call ⟨.builtin b,xs,ts⟩) R :=
 Does.core rfl fun dst ty pos after g ρ w hρ S => by
  obtain ⟨v,w',H',h1,h2,h3⟩:=hr w ty (xs.map fun | .const _ => true | _ => false) S
  refine ⟨v,w',H',?_,h2,h3⟩
  simp only [execOp,resolve,zbb hρ hx,Sem.run_bind,Sem.run_pure,Result.andThen_ok,invoke]
  exact h1
theorem old_run {P:Program}{w:World}{k:Bk}{cs:Array Value}{e:TypeId}{fr:Nat×Nat}(hb:w.heap[k.b]? = some (.cells cs e fr)) {A:Addr}{o m C sz:Nat}(hA:m=0∨A=⟨k.b,k.off + o,none⟩) (hle:k.off + o + m * sz≤cs.size) :
  (Builtin.firstCells sz m (.slice (some A) m C)).run P w = .ok ((cs.toList.drop (k.off + o)).take (m * sz)).toArray w:=by
 rcases hA with rfl | rfl
 ·simp [Builtin.firstCells,loadCells,loadCellsFrom]
 ·have hlen:((cs.toList.drop (k.off + o)).take (m * sz)).length=m * sz:=by simp; omega
  have:=run_loadCells_list (P:=P) w ⟨k.b,k.off + o,none⟩ ((cs.toList.drop (k.off + o)).take (m * sz)) (fun j v hv => by
   rw [zai,cell_of_row w k.b (k.off + o + j) cs e fr hb]
   rw [List.getElem?_take] at hv
   split at hv
   ·rw [List.getElem?_drop,Array.getElem?_toList] at hv; exact hv
   ·cases hv)
  rw [hlen] at this
  exact this
structure App (X:Pt) (H:List Seg) (ts:Array TypeId) (t t2 e:TypeId) (vx:Value) (n:Nat) (news:List Value):Prop where
  ht:ts[0]? = some t
  ht2:ts[1]? = some t2
  hu:X.P.underlying t=some (.slice e)
  hke:known X.P e=true
  hx:AppX X.P X.w0 X.base H e t2 (mkTI X.P e).sz vx n news
  hb:(mkTI X.P e).bytes < 1000000
  hn:n < 1000000
  one:∀ c ∈ news,c.oneCell' = true
  len:news.length=n * (mkTI X.P e).sz
variable {ts:Array TypeId}{ty t t2 e:TypeId}{vx:Value}{n m:Nat}{news:List Value}
theorem app_in (ha:App X H ts t t2 e vx n news) (hr:HR G B h H) (hn:B.length=nx) {w:World}(S:Sep X.w0 X.base w H) {i o C:Nat}{k:Bk}(hk:B[i]? = some k) (hi:liveO (atB h i)=true) (hroom:m + n≤C) {lo' : LO}
  (hw:∀ obj,OR B k obj (atB h i)→∃ cs e0 fr,obj = .cells cs e0 fr∧k.off + (o + m * (mkTI X.P e).sz) + news.length≤cs.size∧frOut fr cs.size∧OR B k (.cells (putCells cs (k.off + (o + m * (mkTI X.P e).sz)) news) e0 fr) lo')
  (hv:VR B lv (.slice (some ⟨k.b,k.off + o,none⟩) (m + n) C)) :
  ∃ v w' H',(Builtin.append_ ts ty #[.slice (some ⟨k.b,k.off + o,none⟩) m C,vx]).run X.P w = .ok v w'∧Sep X.w0 X.base w' H'∧MR G B lv nx (Tr.set .gone lo' h i) v H':=by
 obtain ⟨H',w',r1,r2,r3⟩:=zc8 (P:=X.P) S hr hk hi (o:=o + m * (mkTI X.P e).sz) ha.one hw
 refine ⟨_,w',H',append_in (A:=some ⟨k.b,k.off + o,none⟩) ha.ht ha.ht2 ha.hu ha.hke ha.hx ha.hb hroom S ?_,r2,B,List.prefix_refl _,hn,hv,r3⟩
 show (storeCells ((⟨k.b,k.off + o,none⟩:Addr).add (m * (mkTI X.P e).sz)) news).run X.P w = .ok () w'
 rw [zai,show k.off + o + m * (mkTI X.P e).sz=k.off + (o + m * (mkTI X.P e).sz) by omega]
 exact r1
theorem zeK (ha:App X H ts t t2 e vx n news) (hr:HR G B h H) (hn:B.length=nx) {w:World}(S:Sep X.w0 X.base w H) {A:Option Addr}{C:Nat}(hm:m < 1000000) (hroom:¬ m + n≤C) {zv:Value}(hz:∀ w,(zeroValue e).run X.P w = .ok zv w) (hz1:∀ c ∈ zv.cells.toList,c.oneCell' = true) (hzs:zv.cells.size=(mkTI X.P e).sz)
  {old:List Value}(ho1:∀ c ∈ old,c.oneCell' = true) (hlen:old.length=m * (mkTI X.P e).sz) (hold:∀ w,Sep X.w0 X.base w H→(Builtin.firstCells (mkTI X.P e).sz m (.slice A m C)).run X.P w = .ok old.toArray w) {lo:LO}(hl:LOR B (mkTI X.P e).sz (old++news) lo) :
  ∃ v w' H',(Builtin.append_ ts ty #[.slice A m C,vx]).run X.P w = .ok v w'∧Sep X.w0 X.base w' H'∧MR G B (.slo nx 0 (m + n) 0) (nx + 1) (Tr.set .gone lo h nx) v H':=by
 obtain ⟨C',⟨c1,c9⟩,c2⟩:=append_out (ty:=ty) ha.ht ha.ht2 ha.hu ha.hke ha.hx ha.hb hm ha.hn hroom hz hold S
 refine ⟨_,_,_,c2,(S.drawn (w.drawn + 1)).alloc _,?_⟩
 have hone:∀ c ∈ ((old++news)++(List.replicate (C' - (m + n)) zv.cells.toList).flatten).toArray.toList,c.oneCell' = true:=by
  intro c hc
  have hc:c ∈ (old++news)++(List.replicate (C' - (m + n)) zv.cells.toList).flatten:=hc
  rcases List.mem_append.1 hc with hc | hc
  ·rcases List.mem_append.1 hc with hc | hc
   ·exact ho1 c hc
   ·exact ha.one c hc
  ·exact zdH hz1 _ c hc
 refine MR.new hr hn hl rfl hone (zao _) (.inr rfl) _ ?_
 simp only [VR]
 refine ⟨_,C',_,zaC hn,rfl,c1,?_,fun _ => rfl,fun _ => rfl,c9⟩
 show 0 + 0 + C' * (mkTI X.P e).sz=(((old++news)++(List.replicate (C' - (m + n)) zv.cells.toList).flatten).toArray).size
 have hl2:=ha.len
 simp only [List.size_toArray,List.length_append,rep_len,hlen,hl2,Array.length_toList,hzs]
 rw [Nat.sub_mul,Nat.add_mul]
 have:(m + n) * (mkTI X.P e).sz≤C' * (mkTI X.P e).sz:=Nat.mul_le_mul_right _ c1
 rw [Nat.add_mul] at this
 omega
theorem app_open (ha:App X H ts t t2 e vx n news) (hr:HR G B h H) (hn:B.length=nx) {w:World}(S:Sep X.w0 X.base w H) {i o C:Nat}{k:Bk}{A:Addr}(hk:B[i]? = some k) (hi:liveO (atB h i)=true) (hm:m < 1000000) (hn0:0 < n) (hmC:m≤C) (hC9:C≤9223372036854775807) (hks:k.sz=(mkTI X.P e).sz)
  (hC:k.off + o + C * k.sz=k.size) (hA:0 < C→A=⟨k.b,k.off + o,none⟩) {zv:Value}(hz:∀ w,(zeroValue e).run X.P w = .ok zv w) (hz1:∀ c ∈ zv.cells.toList,c.oneCell' = true) (hzs:zv.cells.size=(mkTI X.P e).sz) {lo:LO}
  (hlo:∀ obj,OR B k obj (atB h i)→∃ cs e0 fr,obj = .cells cs e0 fr∧cs.size=k.size∧frOut fr cs.size∧(∀ c ∈ cs.toList,c.oneCell' = true)∧((∀ s l t,lo≠.rows s l t)∨fr=(0,0))∧LOR B (mkTI X.P e).sz ((cs.toList.drop (k.off + o)).take (m * (mkTI X.P e).sz)++news) lo) :
  ∃ v w' H',(Builtin.append_ ts ty #[.slice (some A) m C,vx]).run X.P w = .ok v w'∧Sep X.w0 X.base w' H'∧MR G B (.slo nx 0 (m + n) 0) (nx + 1) (Tr.set .gone lo (Tr.set .gone .gone h i) nx) v H':=by
 obtain ⟨j,obj,a1,a2,a3⟩:=hr.move hn hi hk
 obtain ⟨cs,e0,fr,rfl,b1,b2,b3,b4,b5⟩:=hlo obj a2
 have hb:∀ w,Sep X.w0 X.base w H→w.heap[k.b]? = some (.cells cs e0 fr):=fun w S => (S.at_ a1 (j:=0) rfl).1
 rw [hks] at hC
 have hmle:m * (mkTI X.P e).sz≤C * (mkTI X.P e).sz:=Nat.mul_le_mul_right _ hmC
 have hA0:m=0∨A=⟨k.b,k.off + o,none⟩:=by
  rcases Nat.eq_zero_or_pos m with h0 | h0
  ·exact .inl h0
  ·exact .inr (hA (by omega))
 have hlen:((cs.toList.drop (k.off + o)).take (m * (mkTI X.P e).sz)).length=m * (mkTI X.P e).sz:=by simp; omega
 have ho1:∀ c ∈ (cs.toList.drop (k.off + o)).take (m * (mkTI X.P e).sz),c.oneCell' = true:=fun c hc => b3 c (List.mem_of_mem_drop (List.mem_of_mem_take hc))
 by_cases hroom:m + n≤C
 ·have hAe:=hA (by omega)
  subst hAe
  have hnle:(m + n) * (mkTI X.P e).sz≤C * (mkTI X.P e).sz:=Nat.mul_le_mul_right _ hroom
  rw [Nat.add_mul] at hnle
  have hl2:=ha.len
  have hsz:k.off + o + m * (mkTI X.P e).sz + news.length≤cs.size:=by omega
  have hst:=zat X.P k.b (k.off + o + m * (mkTI X.P e).sz) e0 fr news 0 cs w (hb w S) (fun j g1 g2 => zfI (noFr_of b2 hsz) j (by omega) (by omega)) (by omega) ha.one
  refine ⟨_,_,_,append_in (A:=some ⟨k.b,k.off + o,none⟩) ha.ht ha.ht2 ha.hu ha.hke ha.hx ha.hb hroom S ?_,S.setRow (j:=0) a1 rfl (putCells cs (k.off + o + m * (mkTI X.P e).sz) news),?_⟩
  ·show (storeCells ((⟨k.b,k.off + o,none⟩:Addr).add (m * (mkTI X.P e).sz)) news).run X.P w = .ok () _
   rw [zai]
   exact hst
  ·have hp:B <+: B++[(⟨k.b,k.off + o,cs.size,(mkTI X.P e).sz⟩:Bk)]:=List.prefix_append _ _
   refine ⟨B++[⟨k.b,k.off + o,cs.size,(mkTI X.P e).sz⟩],hp,by simp [hn],?_,?_⟩
   ·simp only [VR]
    refine ⟨_,C,_,zaC hn,rfl,hroom,?_,fun _ => by rw [Nat.add_zero],fun _ => by rw [Nat.add_zero],hC9⟩
    show k.off + o + 0 + C * (mkTI X.P e).sz=cs.size
    omega
   ·refine a3 _ _ _ rfl ?_
    have hps:=zfB hsz
    have:=(b5.mono hp).or (cs:=putCells cs (k.off + o + m * (mkTI X.P e).sz) news) (off:=k.off + o) (rest:=cs.toList.drop (k.off + o + m * (mkTI X.P e).sz + news.length)) (put_from (by simp; omega)) (by
     rw [hps,List.length_append,hlen]; omega) (zfA b3 ha.one) k.b e0 (fr:=fr) (by rw [hps]; exact b2) b4
    rw [hps] at this
    exact this
 ·obtain ⟨v,w',H',r1,r2,B',p1,p2,p3,p4⟩:=zeK (ty:=ty) (lo:=lo) ha (hr.kill i) hn S hm hroom hz hz1 hzs ho1 hlen (fun w S => old_run (hb w S) hA0 (by omega)) b5
  exact ⟨v,w',H',r1,r2,B',p1,p2,p3,p4⟩
end
variable {G:List (Nat×Obj)}
section
variable {X:Pt}{E:Env}{H:List Seg}{B:BB}{h h' : LH}{cx:Cx}{f:SlF}{lv:LV}{nx nx' : Nat}
variable {ts:Array TypeId}{ty t t2 e:TypeId}{vx:Value}{n m:Nat}{news:List Value}
def AppR (G:List (Nat×Obj)) (X:Pt) (ts:Array TypeId) (ty:TypeId) (w:World) (vs vx:Value) (B:BB) (lv:LV) (nx' : Nat) (h' : LH):Prop :=
 ∃ v w' H',(Builtin.append_ ts ty #[vs,vx]).run X.P w = .ok v w'∧Sep X.w0 X.base w' H'∧MR G B lv nx' h' v H'
theorem frOut_cells {k:Bk}{cs:Array Value}{e0:TypeId}{fr:Nat×Nat}{lo:LO}(hor:OR B k (.cells cs e0 fr) lo):cs.size=k.size∧frOut fr cs.size∧(∀ c ∈ cs.toList,c.oneCell' = true)∧((∃ s l t,lo = .rows s l t)→fr=(0,0)):=by
 cases lo with
 | rows s l t => obtain ⟨cs',e',h1,h2,h3,h4,h5,h6,_⟩:=hor; cases h1; exact ⟨h4,zao _,h6,fun _ => rfl⟩
 | bytes l x => obtain ⟨cs',e',fr',l',h1,h3,h4,h5,h6,h7,_⟩:=hor; cases h1; exact ⟨h4,by rw [h4]; exact h6,h7,fun ⟨_,_,_,h⟩ => by cases h⟩
 | gone => exact hor.elim
 | map _ _ es => obtain ⟨_,h,_⟩:=hor; cases h
 | iter _ _ _ _ => obtain ⟨_,_,_,h,_⟩:=hor; cases h
 | loop _ _ _ _ _ _ _ _ => obtain ⟨_,h,_⟩:=hor; cases h
 | defd _ => obtain ⟨_,h,_⟩:=hor; cases h
theorem appN_ok (hn:B.length=nx) (hr:HR G B h H) {new:List UInt8}(ha:App X H ts t t2 e vx n (new.map byt)) (hl:new.length=n) (hs1:(mkTI X.P e).sz=1) (hm:m < 1000000) (hn0:0 < n) {zv:Value}(hz:∀ w,(zeroValue e).run X.P w = .ok zv w) (hz1:∀ c ∈ zv.cells.toList,c.oneCell' = true) (hzs:zv.cells.size=(mkTI X.P e).sz)
  {s:LV}{vs:Value}(hv:VR B s vs) (hlen:lenSl s=some m) (hq:appN s m n (bytesNum new) nx h = .ok lv nx' h') {w:World}(S:Sep X.w0 X.base w H):AppR G X ts ty w vs vx B lv nx' h':=by
 have byLo:∀ (o:List UInt8),o.length=m→LOR B (mkTI X.P e).sz (o.map byt++new.map byt) (.bytes (m + n) (catN m (bytesNum o) (bytesNum new))):=fun o ho =>
  ⟨hs1,o++new,by simp [ho,hl],by rw [zbA,ho]; rfl,by simp [ho,hl],by rw [List.map_append,List.take_of_length_le (by simp [ho,hl])]⟩
 have one:∀ (o:List UInt8),∀ c ∈ o.map byt,c.oneCell' = true:=fun o c hc => by obtain ⟨u,_,rfl⟩:=List.mem_map.1 hc; rfl
 unfold appN at hq
 split at hq
 ·simp only [lenSl] at hlen; cases hlen
  simp only [VR] at hv; subst hv
  unfold newBy at hq
  rw [frN_eq] at hq
  obtain ⟨rfl,rfl,rfl⟩:=zbg hq
  have:=zeK (ty:=ty) ha hr hn S (A:=none) (C:=0) (m:=0) (by omega) (by omega) hz hz1 hzs (old:=[]) (by simp) (by simp) (fun w S => by simp [Builtin.firstCells]) (byLo [] rfl)
  simp only [Nat.zero_add] at this
  rw [show catN 0 (bytesNum []) (bytesNum new)=bytesNum new by unfold catN; simp [bytesNum]] at this
  exact this
 ·rename_i i o len c
  simp only [lenSl] at hlen; cases hlen
  simp only [VR] at hv
  obtain ⟨k,hk,rfl⟩:=hv
  split at hq
  ·rename_i hle
   have hle:=zaf.1 hle
   obtain ⟨lo,hw,rfl,rfl,rfl⟩:=zdb hq
   rw [frN_eq]
   rw [← hl] at hw
   have hoo:∀ obj,OR B k obj (atB h i)→∃ cs e0 fr,obj = .cells cs e0 fr∧k.off + (o + m * (mkTI X.P e).sz) + (new.map byt).length≤cs.size∧frOut fr cs.size∧OR B k (.cells (putCells cs (k.off + (o + m * (mkTI X.P e).sz)) (new.map byt)) e0 fr) lo:=by
    intro obj hor
    rw [hs1,Nat.mul_one]
    obtain ⟨cs,e0,fr,h1,h2,h3,h4⟩:=hor.writeM hw
    exact ⟨cs,e0,fr,h1,h2,h3,h4⟩
   refine app_in ha hr hn S hk (zcn hw) hle hoo (by simp only [VR]; exact ⟨k,hk,rfl⟩)
  ·rename_i hle
   have hle:¬ m + n≤c:=fun h' => by
    have h2:Nat.ble (Nat.add m n) c=true:=zaf.2 h'
    rw [h2] at hle; cases hle
   split at hq
   ·rename_i z hzz
    rw [frN_eq] at hq
    unfold newBy at hq
    rw [frN_eq] at hq
    obtain ⟨rfl,rfl,rfl⟩:=zbg hq
    have hvv:VR B (.sl i o m c) (.slice (some ⟨k.b,k.off + o,none⟩) m c):=by simp only [VR]; exact ⟨k,hk,rfl⟩
    obtain ⟨ob,o1,o2,_,_⟩:=zcD (w0:=X.w0) (base:=X.base) (P:=X.P) hr hzz (m:=m) rfl (Nat.le_refl _) hvv
    have o3:∀ w,Sep X.w0 X.base w H→(Builtin.firstCells (mkTI X.P e).sz m (.slice (some ⟨k.b,k.off + o,none⟩) m c)).run X.P w = .ok (ob.map byt).toArray w:=by
     rw [hs1]
     obtain ⟨ob',o1',o2',o3',_⟩:=zcD (w0:=X.w0) (base:=X.base) (P:=X.P) hr hzz (m:=m) rfl (Nat.le_refl _) hvv
     have:ob=ob':=zbz _ _ (o1.trans o1'.symm) (o2.trans o2'.symm)
     rw [this]; exact o3'
    have:=zeK (ty:=ty) ha hr hn S hm hle hz hz1 hzs (old:=ob.map byt) (one ob) (by rw [List.length_map,o1,hs1,Nat.mul_one]) o3 (byLo ob o1)
    rw [o2] at this
    exact this
   ·cases hq
 ·rename_i i o len ad
  simp only [lenSl] at hlen; cases hlen
  simp only [VR] at hv
  obtain ⟨k,c,A,hk,rfl,q1,q2,q3,q4,q5⟩:=hv
  split at hq
  ·rename_i hsb
   have hsb:=zaa.1 hsb
   have hi:liveO (atB h i)=true:=live_sz (by omega)
   obtain ⟨k',jj,obj,a1,a2,a3⟩:=hr.at_ i hi
   rw [hk] at a1; cases a1
   obtain ⟨c1,c2⟩:=known_B a3 (Nat.one_pos) hsb.symm
   split at hq
   ·rename_i hle
    have hle:o + (m + n)≤knownB (atB h i):=zaf.1 hle
    obtain ⟨lo,hw,rfl,rfl,rfl⟩:=zdb hq
    rw [frN_eq]
    rw [← hl] at hw
    rw [c1,Nat.mul_one] at q2
    have hroom:m + n≤c:=by omega
    have hAe:=q3 (by omega)
    subst hAe
    have hoo:∀ obj,OR B k obj (atB h i)→∃ cs e0 fr,obj = .cells cs e0 fr∧k.off + (o + m * (mkTI X.P e).sz) + (new.map byt).length≤cs.size∧frOut fr cs.size∧OR B k (.cells (putCells cs (k.off + (o + m * (mkTI X.P e).sz)) (new.map byt)) e0 fr) lo:=by
     intro obj hor
     rw [hs1,Nat.mul_one]
     obtain ⟨cs,e0,fr,h1,h2,h3,h4⟩:=hor.writeM hw
     exact ⟨cs,e0,fr,h1,h2,h3,h4⟩
    refine app_in ha hr hn S hk (zcn hw) hroom hoo (by simp only [VR]; exact ⟨k,c,_,hk,rfl,hroom,by rw [c1,Nat.mul_one]; exact q2,fun _ => rfl,fun _ => rfl,q5⟩)
   ·split at hq
    ·rename_i z hkn hzz
     have hkn:knownB (atB h i)=o + m:=zaa.1 hkn
     rw [zaN,frN_eq] at hq
     unfold newBy at hq
     rw [frN_eq] at hq
     obtain ⟨rfl,rfl,rfl⟩:=zbg hq
     refine app_open (lo:=.bytes (m + n) (catN m z (bytesNum new))) ha hr hn S hk hi hm hn0 q1 q5 (c1.trans hs1.symm) q2 q3 hz hz1 hzs (fun obj hor => ?_)
     obtain ⟨cs,e0,fr,l,rfl,l1,l2,l3⟩:=hor.readN hzz
     obtain ⟨f1,f2,f3,_⟩:=frOut_cells hor
     refine ⟨cs,e0,fr,rfl,f1,f2,f3,.inl (fun _ _ _ h => by cases h),?_⟩
     rw [hs1,Nat.mul_one] at *
     rw [l3,← l2]
     exact byLo l l1
    ·cases hq
  ·cases hq
 ·cases hq
theorem moreR_ok {k:Bk}{obj:Obj}{lo lo' : LO}{sz o:Nat}{l:List LV}(hor:OR B k obj lo) (hsb:szB lo=sz) (hs0:0 < sz) (hv:VRL B l news) (hl:l.length=n * sz) (hq:moreR sz lo o m n l=some lo') :
  ∃ cs e0,obj = .cells cs e0 (0,0)∧cs.size=k.size∧(∀ c ∈ cs.toList,c.oneCell' = true)∧LOR B sz ((cs.toList.drop (k.off + o)).take (m * sz)++news) lo':=by
 unfold moreR at hq
 split at hq
 ·rename_i s0 len t
  obtain ⟨cs,e0,rfl,h2,h3,h4,h5,h6,h7⟩:=hor
  simp only [szB] at hsb
  subst hsb
  refine ⟨cs,e0,rfl,h4,h6,?_⟩
  have hnl:news.length=n * s0:=by rw [hv.len,hl]
  split at hq
  ·rename_i hb
   rw [Bool.and_eq_true,Bool.and_eq_true] at hb
   have b1:=zaa.1 hb.1
   have b2:=zaa.1 hb.2.1
   subst b1
   subst b2
   rw [zbT,frN_eq] at hq
   cases hq
   rw [Nat.add_zero]
   have hol:((cs.toList.drop k.off).take (len * s0)).length=len * s0:=by simp; omega
   refine ⟨rfl,h2,by rw [List.length_append,hol,hnl]; show (len + n) * s0≤_; rw [Nat.add_mul]; exact Nat.le_refl _,fun r hr => ?_⟩
   have hr:r < len + n:=hr
   rw [zcj]
   by_cases hlt:r < len
   ·rw [if_neg (by omega)]
    have hr' : (r + 1) * s0≤len * s0:=Nat.mul_le_mul_right _ hlt
    rw [Nat.add_mul,Nat.one_mul] at hr'
    rw [List.drop_append_of_le_length (by rw [hol]; omega),List.take_append_of_le_length (by rw [List.length_drop,hol]; omega)]
    rw [zbp cs.toList (c:=r * s0) (n:=s0) (d:=k.off + r * s0) (by omega) rfl]
    exact h7 r hlt
   ·rw [if_pos (by omega)]
    have hge:len * s0≤r * s0:=Nat.mul_le_mul_right _ (by omega)
    have hnil:((cs.toList.drop k.off).take (len * s0)).drop (r * s0)=[]:=List.drop_eq_nil_of_le (by rw [hol]; exact hge)
    rw [List.drop_append,hnil,List.nil_append,hol]
    rw [show r * s0 - len * s0=(r - len) * s0 by rw [Nat.sub_mul]]
    exact (hv.drop _).take _
  ·split at hq
   ·rename_i z hz
    obtain ⟨r1,r2⟩:=readR_ok (B:=B) h2 h7 hz
    have hz2:=r1.app hv
    have:mkLO false s0 (z++l)=some lo':=hq
    exact zbX this hz2 (fun h => by cases h)
   ·cases hq
 ·cases hq
theorem appC_ok (hn:B.length=nx) (hr:HR G B h H) {l:List LV}(hvl:VRL B l news) (ha:App X H ts t t2 e vx n news) (hm:m < 1000000) (hn0:0 < n) {zv:Value}(hz:∀ w,(zeroValue e).run X.P w = .ok zv w) (hz1:∀ c ∈ zv.cells.toList,c.oneCell' = true) (hzs:zv.cells.size=(mkTI X.P e).sz)
  {s:LV}{vs:Value}(hv:VR B s vs) (hlen:lenSl s=some m) (hq:appC (mkTI X.P e).sz s m n l nx h = .ok lv nx' h') {w:World}(S:Sep X.w0 X.base w H):AppR G X ts ty w vs vx B lv nx' h':=by
 have hll:l.length=n * (mkTI X.P e).sz:=by rw [← hvl.len,ha.len]
 unfold appC at hq
 split at hq
 ·simp only [lenSl] at hlen; cases hlen
  simp only [VR] at hv; subst hv
  obtain ⟨lo,h1,rfl,rfl,rfl⟩:=zcl hq
  have:=zeK (ty:=ty) (lo:=lo) ha hr hn S (A:=none) (C:=0) (m:=0) (by omega) (by omega) hz hz1 hzs (old:=[]) (by simp) (by simp) (fun w S => by simp [Builtin.firstCells]) (zbX h1 hvl (fun h => by cases h))
  simp only [Nat.zero_add] at this
  exact this
 ·rename_i i o len c
  simp only [lenSl] at hlen; cases hlen
  simp only [VR] at hv
  obtain ⟨k,hk,rfl⟩:=hv
  split at hq
  ·rename_i hle
   have hle:=zaf.1 hle
   obtain ⟨lo,hw,rfl,rfl,rfl⟩:=zb3 hq
   rw [frN_eq]
   have hw:writeO (atB h i) (o + m * (mkTI X.P e).sz) l=some lo:=hw
   refine app_in ha hr hn S hk (zbo hw) hle (fun obj hor => hor.write hvl ha.one hw) (by simp only [VR]; exact ⟨k,hk,rfl⟩)
  ·rename_i hle
   have hle:¬ m + n≤c:=fun h' => by
    have h2:Nat.ble (Nat.add m n) c=true:=zaf.2 h'
    rw [h2] at hle; cases hle
   split at hq
   ·rename_i z hzz
    rw [frN_eq] at hq
    obtain ⟨lo,h1,rfl,rfl,rfl⟩:=zcl hq
    have hvv:VR B (.sl i o m c) (.slice (some ⟨k.b,k.off + o,none⟩) m c):=by simp only [VR]; exact ⟨k,hk,rfl⟩
    obtain ⟨ov,o1,o2,o3⟩:=zcE (w0:=X.w0) (base:=X.base) (P:=X.P) hr hzz (m:=m) rfl (Nat.le_refl _) hvv
    have ol:ov.length=m * (mkTI X.P e).sz:=by
     have h3:=o3 w S
     cases m with
     | zero => simp only [firstE] at hzz; cases hzz; simpa using o1.len
     | succ m =>
      simp only [firstE] at hzz
      obtain ⟨vs,v1,v2,_⟩:=hr.read (w0:=X.w0) (base:=X.base) hzz hk
      have:=v1.len
      rw [o1.len,← this,v2]
      rfl
    exact zeK (ty:=ty) (lo:=lo) ha hr hn S hm hle hz hz1 hzs (old:=ov) o2 ol o3 (zbX h1 (o1.app hvl) (fun h => by cases h))
   ·cases hq
 ·rename_i i o len ad
  simp only [lenSl] at hlen; cases hlen
  simp only [VR] at hv
  obtain ⟨k,c,A,hk,rfl,q1,q2,q3,q4,q5⟩:=hv
  split at hq
  ·rename_i hsb
   rw [Bool.and_eq_true] at hsb
   have hs0:0 < (mkTI X.P e).sz:=zal.1 hsb.1
   have hsb:=zaa.1 hsb.2
   have hi:liveO (atB h i)=true:=live_sz (by omega)
   obtain ⟨k',jj,obj,a1,a2,a3⟩:=hr.at_ i hi
   rw [hk] at a1; cases a1
   obtain ⟨c1,c2⟩:=known_B a3 hs0 hsb.symm
   split at hq
   ·rename_i hle
    have hle:o + (m + n) * (mkTI X.P e).sz≤knownB (atB h i):=zaf.1 hle
    obtain ⟨lo,hw,rfl,rfl,rfl⟩:=zb3 hq
    rw [frN_eq]
    have hw:writeO (atB h i) (o + m * (mkTI X.P e).sz) l=some lo:=hw
    rw [c1] at q2
    have hroom:m + n≤c:=Nat.le_of_mul_le_mul_right (by omega:(m + n) * (mkTI X.P e).sz≤c * (mkTI X.P e).sz) hs0
    have hAe:=q3 (by omega)
    subst hAe
    refine app_in ha hr hn S hk (zbo hw) hroom (fun obj hor => hor.write hvl ha.one hw) (by simp only [VR]; exact ⟨k,c,_,hk,rfl,hroom,by rw [c1]; exact q2,fun _ => rfl,fun _ => rfl,q5⟩)
   ·split at hq
    ·unfold optR at hq
     split at hq
     ·rename_i lo hmo
      simp only at hq
      rw [zaN,frN_eq] at hq
      obtain ⟨rfl,rfl,rfl⟩:=zbg hq
      refine app_open (lo:=lo) ha hr hn S hk hi hm hn0 q1 q5 c1 q2 q3 hz hz1 hzs (fun obj hor => ?_)
      obtain ⟨cs,e0,rfl,f1,f3,f4⟩:=moreR_ok hor hsb hs0 hvl hll hmo
      exact ⟨cs,e0,(0,0),rfl,f1,zao _,f3,.inr rfl,f4⟩
     ·cases hq
    ·cases hq
  ·cases hq
 ·cases hq
theorem appK_ok (hc:CxOk X.P X.w0 X.base cx) {x:LV}(hk:appK (mkTI X.P t2).kind x=true) (hx:VR B x vx) {n:Nat}(hn:lenZ x=some n) : 
  ((∃ k kk,X.P.underlying t2=some (.int k)∧x = .int kk (.ofNat n)∧vx = .int kk (n:Int)))∨((X.P.underlying t2=some .string∨∃ e2,X.P.underlying t2=some (.slice e2))∧lenE x=some n∧(∀ w,(Builtin.lenOf vx).run X.P w = .ok n w)∧∀ k z,x≠.int k z):=by
 cases hkk:(mkTI X.P t2).kind <;> rw [hkk] at hk <;> cases x <;> try (cases hk; done)
 case int.int k kk z =>
  simp only [lenZ] at hn
  cases z with
  | ofNat m => cases hn; simp only [VR] at hx; exact .inl ⟨k,kk,k_int hkk,rfl,hx⟩
  | negSucc m => cases hn
 case str.str len y =>
  have hn:lenE (.str len y)=some n:=hn
  refine .inr ⟨.inl (k_str hkk),hn,fun w => ?_,fun k z h => by cases h⟩
  simp only [lenE] at hn; cases hn
  simp only [VR] at hx; obtain ⟨l,rfl,rfl,_⟩:=hx
  simp [str,Builtin.lenOf,za9]
 case slice.nils e2 =>
  refine .inr ⟨.inr ⟨e2,(zaL hkk).1⟩,hn,fun w => ?_,fun k z h => by cases h⟩
  have hn:lenE .nils=some n:=hn
  simp only [lenE] at hn; cases hn
  simp only [VR] at hx; subst hx; simp [Builtin.lenOf]
 case slice.sle e2 =>
  refine .inr ⟨.inr ⟨e2,(zaL hkk).1⟩,hn,fun w => ?_,fun k z h => by cases h⟩
  have hn:lenE .sle=some n:=hn
  simp only [lenE] at hn; cases hn
  simp only [VR] at hx; obtain ⟨A,c,rfl⟩:=hx; simp [Builtin.lenOf]
 case slice.sl e2 i o len c =>
  refine .inr ⟨.inr ⟨e2,(zaL hkk).1⟩,hn,fun w => ?_,fun k z h => by cases h⟩
  have hn:lenE (.sl i o len c)=some n:=hn
  simp only [lenE] at hn; cases hn
  simp only [VR] at hx; obtain ⟨k,_,rfl⟩:=hx; simp [Builtin.lenOf]
 case slice.slo e2 i o len ad =>
  refine .inr ⟨.inr ⟨e2,(zaL hkk).1⟩,hn,fun w => ?_,fun k z h => by cases h⟩
  have hn:lenE (.slo i o len ad)=some n:=hn
  simp only [lenE] at hn; cases hn
  simp only [VR] at hx; obtain ⟨k,c,A,_,rfl,_⟩:=hx; simp [Builtin.lenOf]
theorem len0 {s:LV}{vs:Value}{m:Nat}(hc:capOk s=true) (hl:lenSl s=some m) (hv:VR B s vs):∃ A C,vs = .slice A m C∧m≤C:=by
 cases s <;> simp only [lenSl] at hl <;> try (cases hl; done)
 case nils => cases hl; simp only [VR] at hv; exact ⟨none,0,hv,Nat.le_refl _⟩
 case sle => cases hl; simp only [VR] at hv; obtain ⟨A,c,rfl⟩:=hv; exact ⟨A,c,rfl,Nat.zero_le _⟩
 case sl i o len c => cases hl; simp only [VR] at hv; obtain ⟨k,_,rfl⟩:=hv; exact ⟨_,c,rfl,zaf.1 hc⟩
 case slo i o len ad => cases hl; simp only [VR] at hv; obtain ⟨k,c,A,_,rfl,h,_⟩:=hv; exact ⟨_,c,rfl,h⟩
theorem append_ok (hc:CxOk X.P X.w0 X.base cx) (hr:HR G B h H) (hn:B.length=nx) (hE:ER B f E) {xs:Array Operand}{ts:Array TypeId}{t t2:TypeId}{rest:List TypeId}(hts:ts.toList=t::t2::rest) {e:TypeId}(hk:(mkTI X.P t).kind = .slice e) {s x:LV}(hxs:evL xs.toList f=[s,x]) (hd:defd (evL xs.toList f)=true)
  (hK:appK (mkTI X.P t2).kind x=true) (hq:appendE cx e s x nx h = .ok lv nx' h'):MoOk G X E H B (.call ⟨.builtin .append,xs,ts⟩) lv nx' h':=by
 obtain ⟨us,u1,u2⟩:=zc4 hE xs.toList (zbR hd)
 rw [hxs] at u2
 simp only [VRL] at u2
 obtain ⟨vs,us,rfl,hvs,vx,us',rfl,hvx,rfl⟩:=u2
 have ht:ts[0]? = some t:=by rw [← Array.getElem?_toList,hts]; rfl
 have ht2:ts[1]? = some t2:=by rw [← Array.getElem?_toList,hts]; rfl
 obtain ⟨hu,hke⟩:=zaL hk
 suffices hh:∀ w ty,Sep X.w0 X.base w H→AppR G X ts ty w vs vx B lv nx' h' by
  refine zaW u1 fun w ty consts S => ?_
  obtain ⟨v,w',H',r1,r2,r3⟩:=hh w ty S
  exact ⟨v,w',H',by simp only [builtin,Sem.run_bind]; rw [r1]; rfl,r2,r3⟩
 intro w ty S
 unfold appendE at hq
 rw [hc.ty] at hq
 split at hq
 ·rename_i m n hm hnx
  split at hq
  ·split at hq
   ·rename_i hcap
    cases hq
    obtain ⟨A,C,rfl,hmC⟩:=len0 hcap hm hvs
    refine ⟨.slice A m C,w,H,?_,S,B,List.prefix_refl _,hn,hvs,hr⟩
    obtain ⟨io,hio,hsz,hby⟩:=zaI hke
    rcases appK_ok hc hK hvx hnx with ⟨k,kk,h2,rfl,rfl⟩ | ⟨h2,hl,hlen,_⟩
    ·have hasi:∀ w,(asInt (.int kk (0:Int))).run X.P w = .ok (0:Int) w:=fun w => by simp [asInt,asIntOf]
     have hw0:IntKind.i64.wrap 0=0:=by decide
     cases A <;> simp [Builtin.append_,ht,ht2,run_underlying hu,run_underlying h2,zaz hke,hasi,hw0,typeInfo,hio,hmC,storeCells]
    ·have hf:(Builtin.firstCells (mkTI X.P e).sz 0 vx).run X.P w = .ok #[] w:=by
      obtain ⟨vs0,a1,a2,a3⟩:=zcE (w0:=X.w0) (base:=X.base) (P:=X.P) hr (s:=(mkTI X.P e).sz) (n:=0) (l:=[]) (by simp [firstE]) hl (Nat.le_refl _) hvx
      simp only [VRL] at a1
      subst a1
      exact a3 w S
     have hlen:=hlen w
     cases A <;> rcases h2 with h2 | ⟨e2,h2⟩ <;> simp [Builtin.append_,ht,ht2,run_underlying hu,run_underlying h2,zaz hke,hlen,hf,hmC,storeCells]
   ·cases hq
  ·rename_i n'
   split at hq
   ·rename_i hb
    simp only [Bool.and_eq_true] at hb
    obtain ⟨b1,b2,b3,b4⟩:=hb
    have b1:=zal.1 b1
    have b2:=zal.1 b2
    have b3:=zal.1 b3
    obtain ⟨zc,hzc⟩:∃ z,cells (mkTI X.P e).zero=some z:=by
     unfold hasZ at b4
     split at b4
     ·rename_i z hz; exact ⟨z,hz⟩
     ·cases b4
    have hzn:(mkTI X.P e).zero≠.undef:=fun e => by rw [e] at hzc; cases hzc
    obtain ⟨_,zv,z1,z2,z3,z4⟩:=zaZ (P:=X.P) (t:=e) B hzn
    have hz1:=(zaB z3 hzc).2
    unfold appS at hq
    split at hq
    ·rename_i hby
     rw [Bool.and_eq_true] at hby
     obtain ⟨s1,s2,s3⟩:=zcJ hc hby.1
     have hz0:=isZ_ok hby.2
     split at hq
     ·rename_i y hy
      have hnews:∃ new:List UInt8,new.length=n' + 1∧bytesNum new=y∧AppX X.P X.w0 X.base H e t2 (mkTI X.P e).sz vx (n' + 1) (new.map byt):=by
       rcases appK_ok hc hK hvx hnx with ⟨k,kk,h2,rfl,rfl⟩ | ⟨h2,hl,hlen,hni⟩
       ·simp only [zedN] at hy
        cases hy
        rw [hz0] at z3
        simp only [VR] at z3
        subst z3
        exact ⟨List.replicate (n' + 1) 0,by simp,zeb _,.inr ⟨k,kk,_,h2,rfl,b1,z1,z4,(zeM _).symm⟩⟩
       ·have hy:firstN h (n' + 1) x=some y:=by
         cases x <;> first | exact hy | exact absurd rfl (hni _ _)
        obtain ⟨l,l1,l2,l3,_⟩:=zcD (w0:=X.w0) (base:=X.base) (P:=X.P) hr hy hl (Nat.le_refl _) hvx
        exact ⟨l,l1,l2,.inl ⟨h2,hlen,by rw [s1]; exact l3⟩⟩
      obtain ⟨new,n1,n2,n3⟩:=hnews
      subst n2
      exact appN_ok hn hr (⟨ht,ht2,hu,hke,n3,b3,b1,fun c hc => by obtain ⟨u,_,rfl⟩:=List.mem_map.1 hc; rfl,by rw [List.length_map,n1,s1,Nat.mul_one]⟩) n1 s1 b2 (by omega) z1 hz1 z4 hvs hm hq S
     ·cases hq
    ·split at hq
     ·rename_i l hl0
      split at hq
      ·rename_i hll
       have hll:=zaa.1 hll
       have hnews:∃ news:List Value,VRL B l news∧(∀ c ∈ news,c.oneCell' = true)∧AppX X.P X.w0 X.base H e t2 (mkTI X.P e).sz vx (n' + 1) news:=by
        rcases appK_ok hc hK hvx hnx with ⟨k,kk,h2,rfl,rfl⟩ | ⟨h2,hl,hlen,hni⟩
        ·simp only [zedE] at hl0
         split at hl0
         ·rename_i z hz
          cases hl0
          obtain ⟨c1,c2⟩:=zaB z3 hz
          exact ⟨_,c1.rep _,zdH c2 _,.inr ⟨k,kk,zv,h2,rfl,b1,z1,z4,rfl⟩⟩
         ·cases hl0
        ·have hl0:firstE h (mkTI X.P e).sz (n' + 1) x=some l:=by
          cases x <;> first | exact hl0 | exact absurd rfl (hni _ _)
         obtain ⟨vs0,a1,a2,a3⟩:=zcE (w0:=X.w0) (base:=X.base) (P:=X.P) hr hl0 hl (Nat.le_refl _) hvx
         exact ⟨vs0,a1,a2,.inl ⟨h2,hlen,a3⟩⟩
       obtain ⟨news,n1,n2,n3⟩:=hnews
       exact appC_ok hn hr n1 (⟨ht,ht2,hu,hke,n3,b3,b1,n2,by rw [n1.len]; exact hll⟩) b2 (by omega) z1 hz1 z4 hvs hm hq S
      ·cases hq
     ·cases hq
   ·cases hq
 ·cases hq
end
variable {G:List (Nat×Obj)}
section
variable {X:Pt}{E:Env}{H:List Seg}{B:BB}{h h' : LH}{cx:Cx}{f:SlF}{lv:LV}{nx nx' : Nat}
theorem MR.newO (hr:HR G B h H) (hn:B.length=nx) (b:Nat) {obj:Obj}{lo:LO}{v:Value}(hor:OR B ⟨b,0,0,0⟩ obj lo) (hv:VR (B++[⟨b,0,0,0⟩]) lv v):MR G B lv (nx + 1) (Tr.set .gone lo h nx) v ([(b,obj)]::H) :=
 ⟨_,List.prefix_append _ _,by simp [hn],hv,hr.new hn (k:=⟨b,0,0,0⟩) (hor.mono (List.prefix_append _ _))⟩
theorem range_ok (hc:CxOk X.P X.w0 X.base cx) (hr:HR G B h H) (hn:B.length=nx) (hE:ER B f E) {t:TypeId}{x:Operand}(hq:rangeE (cx.ty t).kind (evO x f) nx h = .ok lv nx' h'):MoOk G X E H B (.range t x) lv nx' h':=by
 rw [hc.ty] at hq
 unfold rangeE at hq
 split at hq
 ·rename_i k e hk hx
  obtain ⟨rfl,rfl,rfl⟩:=zbg hq
  obtain ⟨vx,x1,x2⟩:=hE.ev x (by rw [hx]; simp)
  rw [hx] at x2; simp only [VR] at x2; subst x2
  have hu:=(k_map hk).1
  exact Does.core rfl fun dst ty pos after g ρ w hρ S => ⟨.pointer (some ⟨w.heap.size,0,none⟩),_,_,by simp [execOp,hρ _ _ x1,Instr.range,run_underlying hu],S.alloc (.mapIter none 0 #[] 0),
   MR.newO hr hn _ ⟨rfl,none,#[],rfl,rfl,rfl⟩ (by simp only [VR]; exact ⟨_,zaC hn,rfl⟩)⟩
 ·rename_i k e i hk hx
  split at hq
  ·rename_i clock bs es hm
   obtain ⟨rfl,rfl,rfl⟩:=zbg hq
   obtain ⟨vx,x1,x2⟩:=hE.ev x (by rw [hx]; simp)
   rw [hx] at x2; simp only [VR] at x2
   obtain ⟨km,hkm,rfl⟩:=x2
   have hu:=(k_map hk).1
   obtain ⟨jm,ents,b1,b2,b3⟩:=hr.map hm hkm
   refine Does.core rfl fun dst ty pos after g ρ w hρ S => ?_
   have hb:=(S.at_ b1 (j:=0) rfl).1
   exact ⟨.pointer (some ⟨w.heap.size,0,none⟩),_,_,by simp [execOp,hρ _ _ x1,Instr.range,run_underlying hu,zam hb],S.alloc (.mapIter (some km.b) clock #[] clock),
    MR.newO hr hn _ ⟨rfl,some km.b,#[],rfl,rfl,km,hkm,rfl⟩ (by simp only [VR]; exact ⟨_,zaC hn,rfl⟩)⟩
  ·cases hq
 ·cases hq
def LR (B:BB):List (Nat×LV×LV)→List MapEntry→Prop
 | [],m => m=[]
 | q::l,m => ∃ e m',m=e::m'∧e.born=q.1∧VR B q.2.1 e.key∧VR B q.2.2 e.val∧LR B l m'
theorem zfL (n:Nat):∀ l:List Nat,memN l n=l.contains n
 | [] => rfl
 | m::l => by
  simp only [memN,List.contains_cons]
  cases hb:Nat.beq m n with
  | true => have:=zaa.1 hb; subst this; simp
  | false =>
   have:¬ n=m:=fun e => by rw [zaa.2 e.symm] at hb; cases hb
   simp only [zfL n l]
   simp [this]
theorem leftM_ok {seen:List Nat}:∀ {bs:List Nat}{es:List (LV×LV)}{m:List MapEntry},m.map (·.born)=bs→MRL B es m→LR B (leftM seen bs es) (m.filter fun e => !seen.contains e.born)
 | [],es,m,hb,hm => by
  simp only [List.map_eq_nil_iff] at hb
  subst hb
  cases es <;> rfl
 | c::bs,[],m,hb,hm => by
  simp only [MRL] at hm; subst hm; rfl
 | c::bs,p::es,m,hb,hm => by
  obtain ⟨k,v⟩:=p
  simp only [MRL] at hm
  obtain ⟨e,m',rfl,h1,h2,h3⟩:=hm
  simp only [List.map_cons,List.cons.injEq] at hb
  have ih:=leftM_ok (seen:=seen) hb.2 h3
  simp only [leftM,zfL]
  cases hs:seen.contains c with
  | true =>
   simp only
   rw [List.filter_cons_of_neg (by rw [hb.1,hs]; simp)]
   exact ih
  | false =>
   simp only
   rw [List.filter_cons_of_pos (by rw [hb.1,hs]; simp)]
   exact ⟨e,_,rfl,hb.1,h1,h2,ih⟩
theorem noneN_iff {l:List Nat}:noneN l=l.isEmpty:=by cases l <;> rfl
theorem next_ok (hr:HR G B h H) (hn:B.length=nx) (hE:ER B f E) {x:Operand}(hq:nextE (evO x f) nx h = .ok lv nx' h'):MoOk G X E H B (.next x false) lv nx' h':=by
 unfold nextE at hq
 split at hq
 ·rename_i r hx
  obtain ⟨vx,x1,x2⟩:=hE.ev x (by rw [hx]; simp)
  rw [hx] at x2; simp only [VR] at x2
  obtain ⟨k,hk,rfl⟩:=x2
  split at hq
  ·rename_i since seen last hit
   cases hq
   obtain ⟨h0,j,m',sn,a1,a2,a3⟩:=hr.iter hit hk
   rw [h0] at x1
   have a3:m' = none:=a3
   subst a3
   refine Does.core rfl fun dst ty pos after g ρ w hρ S => ⟨.tuple #[.bool false],w,H,?_,S,B,List.prefix_refl _,hn,by simp only [VR]; exact ⟨_,rfl,VRL.cons_ (zay rfl) VRL.nil_⟩,hr⟩
   have hb:=(S.at_ a1 (j:=0) rfl).1
   have hit2:(getObj k.b).run X.P w = .ok (.mapIter none since sn last) w:=by simp [getObj,Sem.run,hb]
   simp [execOp,hρ _ _ x1,Instr.next,hit2]
  ·rename_i m since seen last hit
   unfold nextL at hq
   split at hq
   ·rename_i clock bs es hmp
    split at hq
    ·rename_i hold
     obtain ⟨h0,j,m',sn,a1,a2,a3⟩:=hr.iter hit hk
     rw [h0] at x1
     obtain ⟨km,hkm,rfl⟩:=a3
     obtain ⟨jm,ents,b1,b2,b3⟩:=hr.map hmp hkm
     have hleft:=leftM_ok (seen:=seen) b2 b3
     have hfil:(ents.filter fun e => !sn.contains e.born).toList=ents.toList.filter fun e => !seen.contains e.born:=by
      rw [Array.toList_filter]
      congr 1
      funext e
      rw [← a2]; simp
     have hno:(!sn.isEmpty && !ents.isEmpty && ents.all (·.born ≥ last))=false:=by
      rw [noneN_iff,noneN_iff,← a2,← b2] at hold
      rw [← Array.isEmpty_toList,← Array.isEmpty_toList,← Array.all_toList]
      cases h1:sn.toList.isEmpty with
      | true => rfl
      | false =>
       cases h2:ents.toList.isEmpty with
       | true => rfl
       | false =>
        rw [h1,List.isEmpty_map,h2] at hold
        simp only [Bool.false_or,List.any_map,List.any_eq_true,Function.comp] at hold
        obtain ⟨e,e1,e2⟩:=hold
        have e2:=zal.1 e2
        simp only [Bool.not_false,Bool.true_and,List.all_eq_false]
        exact ⟨e,e1,by simp; exact e2⟩
     have hitx:∀ w,Sep X.w0 X.base w H→(getObj k.b).run X.P w = .ok (.mapIter (some km.b) since sn last) w∧(getObj km.b).run X.P w = .ok (.map ents clock) w:=fun w S =>
      ⟨by simp [getObj,Sem.run,(S.at_ a1 (j:=0) rfl).1],zam (S.at_ b1 (j:=0) rfl).1⟩
     unfold stepL at hq
     split at hq
     ·rename_i hl
      rw [hl] at hleft
      have hleft:ents.toList.filter (fun e => !seen.contains e.born)=[]:=hleft
      rw [hleft] at hfil
      have hfil:(ents.filter fun e => !sn.contains e.born) = #[]:=Array.ext' hfil
      cases hq
      refine Does.core rfl fun dst ty pos after g ρ w hρ S => ⟨.tuple #[.bool false],w,H,?_,S,B,List.prefix_refl _,hn,by simp only [VR]; exact ⟨_,rfl,VRL.cons_ (zay rfl) VRL.nil_⟩,hr⟩
      obtain ⟨g1,g2⟩:=hitx w S
      simp only [execOp,hρ _ _ x1,Instr.next,Sem.run_bind,g1,g2,Result.andThen_ok,Nat.zero_add,hno,hfil,Bool.false_eq_true,if_false,Sem.run_pure]
      simp [Question.forced]
     ·rename_i b kv vv hl
      split at hq
      ·rename_i hlt
       have hlt:=zal.1 hlt
       rw [hl] at hleft
       obtain ⟨e,m2,e1,e2,e3,e4,e5⟩:=hleft
       have e5:m2=[]:=e5
       subst e5
       rw [e1] at hfil
       have hfil:(ents.filter fun e => !sn.contains e.born) = #[e]:=Array.ext' hfil
       unfold putB at hq
       rw [zaN] at hq
       cases hq
       obtain ⟨j2,obj,c1,c2,c3⟩:=hr.put (i:=r) (by rw [hit]; rfl) hk
       rw [hit] at c2
       obtain ⟨_,m3,sn3,rfl,c4,c5⟩:=c2
       obtain ⟨km3,hkm3,rfl⟩:=c5
       rw [hkm] at hkm3; cases hkm3
       have hsn:sn3=sn:=Array.ext' (c4.trans a2.symm)
       subst hsn
       refine Does.core rfl fun dst ty pos after g ρ w hρ S => ?_
       obtain ⟨g1,g2⟩:=hitx w S
       have hb:=(S.at_ c1 (j:=0) rfl).1
       have hlt2:k.b < w.heap.size:=(Array.getElem?_eq_some_iff.1 hb).1
       refine ⟨.tuple #[.bool true,e.key,e.val],{ w with heap:=w.heap.setIfInBounds k.b (.mapIter (some km.b) since (sn3.push e.born) clock) },_,?_,S.write (j:=0) c1 rfl (w':={ w with heap:=w.heap.setIfInBounds k.b (.mapIter (some km.b) since (sn3.push e.born) clock) }) (.mapIter (some km.b) since (sn3.push e.born) clock) rfl rfl rfl (by simp) (by simp [hlt2]) (fun m hm => by
  rw [Array.getElem?_setIfInBounds,if_neg (fun e => hm e.symm)]),B,List.prefix_refl _,hn,by simp only [VR]; exact ⟨_,rfl,VRL.cons_ (zay rfl) (VRL.cons_ e3 (VRL.cons_ e4 VRL.nil_))⟩,c3 _ _ ⟨h0,some km.b,sn3.push e.born,rfl,by rw [Array.toList_push,a2,e2],km,hkm,rfl⟩⟩
       have e2' : e.born < since:=by rw [e2]; exact hlt
       have hset:(setObj k.b (.mapIter (some km.b) since (sn3.push e.born) clock)).run X.P w = .ok () { w with heap:=w.heap.setIfInBounds k.b (.mapIter (some km.b) since (sn3.push e.born) clock) }:=by simp [setObj,Sem.run,hb]
       simp only [execOp,hρ _ _ x1,Instr.next,Sem.run_bind,g1,g2,Result.andThen_ok,Nat.zero_add,hno,hfil,Bool.false_eq_true,if_false,Sem.run_pure]
       simp [Question.forced,e2',hset,Nat.not_le.2 e2']
      ·cases hq
     ·cases hq
    ·cases hq
   ·cases hq
  ·cases hq
 ·cases hq
end
variable {G:List (Nat×Obj)}
section
variable {X:Pt}{E:Env}{H:List Seg}{B:BB}{h h' : LH}{cx:Cx}{f:SlF}{lv:LV}{nx nx' : Nat}
theorem minN_eq (m n:Nat):minN m n=Nat.min n m:=by
  unfold minN
  cases hb:Nat.ble n m with
  | true => have:=zaf.1 hb; simp only; exact (Nat.min_eq_left this).symm
  | false => have : ¬ n ≤ m := fun h => by rw [zaf.2 h] at hb; cases hb
             simp only; exact (Nat.min_eq_right (by omega)).symm
theorem lenE_run {P:Program}{x:LV}{vx:Value}{n:Nat}(hl:lenE x=some n) (hx:VR B x vx) (w:World):(Builtin.lenOf vx).run P w = .ok n w:=by
 cases x <;> simp only [lenE] at hl <;> try (cases hl; done)
 case str => cases hl; simp only [VR] at hx; obtain ⟨l,rfl,rfl,_⟩:=hx; simp [str,Builtin.lenOf,za9]
 case nils => cases hl; simp only [VR] at hx; subst hx; simp [Builtin.lenOf]
 case sle => cases hl; simp only [VR] at hx; obtain ⟨A,c,rfl⟩:=hx; simp [Builtin.lenOf]
 case sl => cases hl; simp only [VR] at hx; obtain ⟨k,_,rfl⟩:=hx; simp [Builtin.lenOf]
 case slo => cases hl; simp only [VR] at hx; obtain ⟨k,c,A,_,rfl,_⟩:=hx; simp [Builtin.lenOf]
theorem slice_of {s:LV}{vs:Value}{m:Nat}(hl:lenSl s=some m) (hv:VR B s vs):∃ A C,vs = .slice A m C:=by
 cases s <;> simp only [lenSl] at hl <;> try (cases hl; done)
 case nils => cases hl; simp only [VR] at hv; exact ⟨none,0,hv⟩
 case sle => cases hl; simp only [VR] at hv; obtain ⟨A,c,rfl⟩:=hv; exact ⟨A,c,rfl⟩
 case sl => cases hl; simp only [VR] at hv; obtain ⟨k,_,rfl⟩:=hv; exact ⟨_,_,rfl⟩
 case slo => cases hl; simp only [VR] at hv; obtain ⟨k,c,A,_,rfl,_⟩:=hv; exact ⟨_,_,rfl⟩
theorem zdy {P:Program}{t e:TypeId}{ts:Array TypeId}{ty:TypeId}(ht:ts[0]? = some t) (hu:P.underlying t=some (.slice e)) (hke:known P e=true) {A:Option Addr}{m C n:Nat}{vx:Value}{vs:List Value}{w w' : World}(hlen:(Builtin.lenOf vx).run P w = .ok n w)
  (hf:(Builtin.firstCells (mkTI P e).sz (Nat.min n m) vx).run P w = .ok vs.toArray w) (hst:match A with | some a => (storeCells a vs).run P w = .ok () w' | none => w' = w):(Builtin.copy_ ts ty #[.slice A m C,vx]).run P w = .ok (goInt (Nat.min n m:Nat)) w':=by
 cases A with
 | none => subst hst; simp [Builtin.copy_,ht,run_underlying hu,zaz hke,hlen,hf]
 | some a =>
  have hst:(storeCells a vs).run P w = .ok () w':=hst
  simp [Builtin.copy_,ht,run_underlying hu,zaz hke,hlen,hf,hst]
theorem goN_vr (n:Nat):VR B (goN n) (goInt (n:Nat)):=by unfold goN; rw [frN_eq]; simp only [VR]; rfl
theorem copy_ok (hc:CxOk X.P X.w0 X.base cx) (hr:HR G B h H) (hn:B.length=nx) (hE:ER B f E) {xs:Array Operand}{ts:Array TypeId}{t:TypeId}{rest:List TypeId}(hts:ts.toList=t::rest) {e:TypeId}(hk:(mkTI X.P t).kind = .slice e) {d x:LV}(hxs:evL xs.toList f=[d,x]) (hd:defd (evL xs.toList f)=true)
  (hq:copyE cx e d x nx h = .ok lv nx' h'):MoOk G X E H B (.call ⟨.builtin .copy,xs,ts⟩) lv nx' h':=by
 obtain ⟨us,u1,u2⟩:=zc4 hE xs.toList (zbR hd)
 rw [hxs] at u2
 simp only [VRL] at u2
 obtain ⟨vd,us,rfl,hvd,vx,us',rfl,hvx,rfl⟩:=u2
 have ht:ts[0]? = some t:=by rw [← Array.getElem?_toList,hts]; rfl
 obtain ⟨hu,hke⟩:=zaL hk
 suffices hh:∀ w ty,Sep X.w0 X.base w H→∃ v w' H',(Builtin.copy_ ts ty #[vd,vx]).run X.P w = .ok v w'∧Sep X.w0 X.base w' H'∧MR G B lv nx' h' v H' by
  refine zaW u1 fun w ty consts S => ?_
  obtain ⟨v,w',H',r1,r2,r3⟩:=hh w ty S
  exact ⟨v,w',H',by simp only [builtin,Sem.run_bind]; rw [r1]; rfl,r2,r3⟩
 intro w ty S
 unfold copyE at hq
 split at hq
 ·rename_i m n hm hnx
  have hlen:=lenE_run (P:=X.P) hnx hvx w
  rw [minN_eq] at hq
  split at hq
  ·rename_i h0
   cases hq
   obtain ⟨A,C,rfl⟩:=slice_of hm hvd
   obtain ⟨vs0,a1,a2,a3⟩:=zcE (w0:=X.w0) (base:=X.base) (P:=X.P) hr (s:=(mkTI X.P e).sz) (n:=0) (l:=[]) (by simp [firstE]) hnx (Nat.zero_le _) hvx
   simp only [VRL] at a1
   subst a1
   have:=zdy (ty:=ty) (A:=A) (C:=C) ht hu hke hlen (vs:=[]) (by rw [h0]; exact a3 w S) (w':=w) (by cases A with | none => rfl | some a => rfl)
   rw [h0] at this
   exact ⟨_,w,H,this,S,B,List.prefix_refl _,hn,goN_vr 0,hr⟩
  ·rename_i k' h0
   have hkn:k' + 1≤n:=by have h9:Nat.min n m≤n:=Nat.min_le_left n m; rw [h0] at h9; exact h9
   split at hq
   ·rename_i hby
    obtain ⟨s1,s2,s3⟩:=zcJ hc hby
    unfold copyN at hq
    split at hq
    ·cases hq
    ·rename_i y hy
     obtain ⟨l,l1,l2,l3,_⟩:=zcD (w0:=X.w0) (base:=X.base) (P:=X.P) hr hy hnx hkn hvx
     subst l2
     have one:∀ c ∈ l.map byt,c.oneCell' = true:=fun c hc => by obtain ⟨u,_,rfl⟩:=List.mem_map.1 hc; rfl
     split at hq
     ·rename_i i o len c
      simp only [VR] at hvd; obtain ⟨k,hk1,rfl⟩:=hvd
      simp only [lenSl] at hm; cases hm
      obtain ⟨lo,hw,rfl,rfl,rfl⟩:=zdb hq
      rw [← l1] at hw
      obtain ⟨H',w',r1,r2,r3⟩:=zc8 (P:=X.P) S hr hk1 (zcn hw) (o:=o) one (fun obj hor => hor.writeM hw)
      have:=zdy (ty:=ty) (A:=some ⟨k.b,k.off + o,none⟩) (C:=c) ht hu hke hlen (vs:=l.map byt) (by rw [h0,s1]; exact l3 w S) r1
      rw [h0] at this
      exact ⟨_,w',H',this,r2,B,List.prefix_refl _,hn,goN_vr _,r3⟩
     ·rename_i i o len ad
      simp only [VR] at hvd; obtain ⟨k,c,A,hk1,rfl,q1,q2,q3,q4,q5⟩:=hvd
      simp only [lenSl] at hm; cases hm
      have hkm:k' + 1≤m:=by have h9:Nat.min n m≤m:=Nat.min_le_right n m; rw [h0] at h9; exact h9
      have:=q3 (by omega)
      subst this
      obtain ⟨lo,hw,rfl,rfl,rfl⟩:=zdb hq
      rw [← l1] at hw
      obtain ⟨H',w',r1,r2,r3⟩:=zc8 (P:=X.P) S hr hk1 (zcn hw) (o:=o) one (fun obj hor => hor.writeM hw)
      have:=zdy (ty:=ty) (A:=some ⟨k.b,k.off + o,none⟩) (C:=c) ht hu hke hlen (vs:=l.map byt) (by rw [h0,s1]; exact l3 w S) r1
      rw [h0] at this
      exact ⟨_,w',H',this,r2,B,List.prefix_refl _,hn,goN_vr _,r3⟩
     ·cases hq
   ·unfold copyC at hq
    rw [hc.ty] at hq
    split at hq
    ·cases hq
    ·rename_i l hl
     obtain ⟨vs,v1,v2,v3⟩:=zcE (w0:=X.w0) (base:=X.base) (P:=X.P) hr hl hnx hkn hvx
     split at hq
     ·rename_i i o len c
      simp only [VR] at hvd; obtain ⟨k,hk1,rfl⟩:=hvd
      simp only [lenSl] at hm; cases hm
      obtain ⟨lo,hw,rfl,rfl,rfl⟩:=zb3 hq
      obtain ⟨H',w',r1,r2,r3⟩:=zc8 (P:=X.P) S hr hk1 (zbo hw) (o:=o) v2 (fun obj hor => hor.write v1 v2 hw)
      have:=zdy (ty:=ty) (A:=some ⟨k.b,k.off + o,none⟩) (C:=c) ht hu hke hlen (vs:=vs) (by rw [h0]; exact v3 w S) r1
      rw [h0] at this
      exact ⟨_,w',H',this,r2,B,List.prefix_refl _,hn,goN_vr _,r3⟩
     ·rename_i i o len ad
      simp only [VR] at hvd; obtain ⟨k,c,A,hk1,rfl,q1,q2,q3,q4,q5⟩:=hvd
      simp only [lenSl] at hm; cases hm
      have hkm:k' + 1≤m:=by have h9:Nat.min n m≤m:=Nat.min_le_right n m; rw [h0] at h9; exact h9
      have:=q3 (by omega)
      subst this
      obtain ⟨lo,hw,rfl,rfl,rfl⟩:=zb3 hq
      obtain ⟨H',w',r1,r2,r3⟩:=zc8 (P:=X.P) S hr hk1 (zbo hw) (o:=o) v2 (fun obj hor => hor.write v1 v2 hw)
      have:=zdy (ty:=ty) (A:=some ⟨k.b,k.off + o,none⟩) (C:=c) ht hu hke hlen (vs:=vs) (by rw [h0]; exact v3 w S) r1
      rw [h0] at this
      exact ⟨_,w',H',this,r2,B,List.prefix_refl _,hn,goN_vr _,r3⟩
     ·cases hq
 ·cases hq
theorem map_set (hr:HR G B h H) {i clock:Nat}{bs:List Nat}{es:List (LV×LV)}(hi:atB h i=LO.map clock bs es) {k:Bk}(hk:B[i]? = some k):∃ (j:Nat) (ents:Array MapEntry),H[j]? = some [(k.b,.map ents clock)]∧ents.toList.map (·.born)=bs∧MRL B es ents.toList ∧
  ∀ (ents' : Array MapEntry) (clock' : Nat) (bs' : List Nat) (es' : List (LV×LV)) (w:World),ents'.toList.map (·.born)=bs'→MRL B es' ents'.toList→Sep X.w0 X.base w H→∃ w' H',(setObj k.b (.map ents' clock')).run X.P w = .ok () w'∧Sep X.w0 X.base w' H'∧HR G B (Tr.set .gone (.map clock' bs' es') h i) H':=by
 obtain ⟨j,obj,a1,a2,a3⟩:=hr.put (live_map hi) hk
 rw [hi] at a2
 obtain ⟨ents,rfl,a4,a5⟩:=a2
 refine ⟨j,ents,a1,a4,a5,fun ents' clock' bs' es' w hbs hm S => ?_⟩
 have hb:=(S.at_ a1 (j:=0) rfl).1
 have hlt:k.b < w.heap.size:=(Array.getElem?_eq_some_iff.1 hb).1
 refine ⟨{ w with heap:=w.heap.setIfInBounds k.b (.map ents' clock') },H.set j [(k.b,.map ents' clock')],by simp [setObj,Sem.run,hb],?_,a3 _ _ ⟨ents',rfl,hbs,hm⟩⟩
 have:=S.write (j:=0) a1 rfl (w':={ w with heap:=w.heap.setIfInBounds k.b (.map ents' clock') }) (.map ents' clock') rfl rfl rfl (by simp) (by simp [hlt]) (fun m hm => by
  rw [Array.getElem?_setIfInBounds,if_neg (fun e => hm e.symm)])
 exact this
theorem zen {i clock:Nat}{bs:List Nat}{es:List (LV×LV)}(hq:putM h i clock bs es nx = .ok lv nx' h'):lv = .tup []∧nx' = nx∧h' = Tr.set .gone (.map clock bs es) h i:=by
 unfold putM putB at hq
 rw [zaN] at hq
 cases hq
 exact ⟨rfl,rfl,rfl⟩
theorem setL_ok {i clock:Nat}{bs:List Nat}{es:List (LV×LV)}{k v:LV}{p:Option (Option Nat)}(hq:setL h i clock bs es k v nx p = .ok lv nx' h'):lv = .tup []∧nx' = nx ∧
  ((p=some none∧h' = Tr.set .gone (.map (clock + 1) (bs++[clock]) (es++[(k,v)])) h i)∨∃ j u,p=some (some j)∧es[j]? = some (k,u)∧h' = Tr.set .gone (.map clock bs (es.set j (k,v))) h i):=by
 unfold setL at hq
 split at hq
 ·rw [frN_eq] at hq
  obtain ⟨h1,h2,h3⟩:=zen hq
  exact ⟨h1,h2,.inl ⟨rfl,h3⟩⟩
 ·rename_i j
  split at hq
  ·rename_i a u hj
   split at hq
   ·rename_i hs
    have:=samePl_ok 6 _ _ hs
    subst this
    obtain ⟨h1,h2,h3⟩:=zen hq
    exact ⟨h1,h2,.inr ⟨j,u,rfl,hj,h3⟩⟩
   ·cases hq
  ·cases hq
 ·cases hq
theorem map_erase {α β:Type}(g:α→β):∀ (l:List α) (i:Nat),(l.eraseIdx i).map g=(l.map g).eraseIdx i
 | [],i => by simp
 | a::l,0 => by simp
 | a::l,i + 1 => by simp [map_erase g l i]
theorem delL_ok {i clock:Nat}{bs:List Nat}{es:List (LV×LV)}{p:Option (Option Nat)}(hq:delL h i clock bs es nx p = .ok lv nx' h'):lv = .tup []∧nx' = nx ∧
  ((p=some none∧h' = Tr.set .gone (.map clock bs es) h i)∨∃ j,p=some (some j)∧h' = Tr.set .gone (.map clock (bs.eraseIdx j) (es.eraseIdx j)) h i):=by
 unfold delL at hq
 split at hq
 ·obtain ⟨h1,h2,h3⟩:=zen hq
  exact ⟨h1,h2,.inl ⟨rfl,h3⟩⟩
 ·obtain ⟨h1,h2,h3⟩:=zen hq
  exact ⟨h1,h2,.inr ⟨_,rfl,h3⟩⟩
 ·cases hq
theorem upd_ok (hc:CxOk X.P X.w0 X.base cx) (hr:HR G B h H) (hn:B.length=nx) (hE:ER B f E) {t:TypeId}{m k v:Operand}(hq:updateE cx t (evO m f) (evO k f) (evO v f) nx h = .ok lv nx' h') {op:Op}(hop:op = .mapUpdate t m k v∨op = .insert t m k v):MoOk G X E H B op lv nx' h':=by
 unfold updateE at hq
 rw [hc.ty] at hq
 cases hkk:(mkTI X.P t).kind <;> simp only [hkk] at hq
 case map kt e =>
  obtain ⟨hu,hkt,hke⟩:=k_map hkk
  obtain ⟨d,hd⟩:=zey hkt
  split at hq
  ·rename_i v' hkey hv'
   obtain ⟨rfl,hvn⟩:=zdQ hv'
   unfold updM at hq
   split at hq
   ·rename_i i hm
    split at hq
    ·rename_i clock bs es hes
     obtain ⟨rfl,rfl,hset⟩:=setL_ok hq
     obtain ⟨vm,m1,m2⟩:=hE.ev m (by rw [hm]; simp)
     rw [hm] at m2; simp only [VR] at m2
     obtain ⟨kb,hkb,rfl⟩:=m2
     obtain ⟨kp,kn⟩:=zfc hkey
     obtain ⟨vk,k1,k2⟩:=hE.ev k kn
     obtain ⟨vv,v1,v2⟩:=hE.ev v hvn
     obtain ⟨j,ents,a1,ab,a2,a3⟩:=map_set (X:=X) hr hes hkb
     have main:∀ w,Sep X.w0 X.base w H→∃ w' H',(Instr.mapUpdate t (.map (some kb.b)) vk vv).run X.P w = .ok () w'∧Sep X.w0 X.base w' H'∧HR G B h' H':=by
      intro w S
      have hb:=(S.at_ a1 (j:=0) rfl).1
      rcases hset with ⟨p1,rfl⟩ | ⟨ix,u,p1,p3,rfl⟩
      ·have hf:=zbe hc S hr k2 hd a2 p1
       obtain ⟨w',H',s1,s2,s3⟩:=a3 (ents.push ⟨vk,vv,clock⟩) (clock + 1) (bs++[clock]) (es++[(evO k f,evO v f)]) w (by rw [Array.toList_push,List.map_append,ab]; rfl) (by rw [Array.toList_push]; exact a2.app k2 v2) S
       refine ⟨w',H',?_,s2,s3⟩
       simp only [Option.bind_none] at hf
       simp only [Instr.mapUpdate,Sem.run_bind,run_underlying hu,Result.andThen_ok,zam hb,zco hc hkey k2,hf]
       exact s1
      ·have hf:=zbe hc S hr k2 hd a2 p1
       obtain ⟨en,e1,e2,e3⟩:=a2.get p3
       have hkey2:en.key=vk:=ze6 5 _ kp _ _ e2 k2
       have e1' : ents[ix]? = some en:=by simpa using e1
       have hmod:(ents.modify ix fun e => { e with key:=vk,val:=vv }).toList=ents.toList.set ix ⟨vk,vv,en.born⟩:=by
        rw [Array.toList_modify]
        apply List.ext_getElem?
        intro n
        rw [List.getElem?_modify,List.getElem?_set]
        split
        ·rename_i hn; subst hn
         rw [e1]
         have hlt:=(List.getElem?_eq_some_iff.1 e1).1
         have hlt2:ix < ents.size:=by simpa using hlt
         simp [hlt2]
        ·simp
       obtain ⟨w',H',s1,s2,s3⟩:=a3 (ents.modify ix fun e => { e with key:=vk,val:=vv }) clock bs (es.set ix (evO k f,evO v f)) w (by
        rw [hmod,List.map_set,← ab]
        apply List.ext_getElem?
        intro n
        rw [List.getElem?_set]
        split
        ·rename_i hn; subst hn
         rw [List.getElem?_map,e1]
         have hlt:=(List.getElem?_eq_some_iff.1 e1).1
         simp only [List.length_map,hlt,if_true,Option.map_some]
        ·rfl) (by
        rw [hmod]
        exact a2.set k2 v2) S
       refine ⟨w',H',?_,s2,s3⟩
       simp only [Option.bind_some,e1,Option.map_some] at hf
       simp only [Instr.mapUpdate,Sem.run_bind,run_underlying hu,Result.andThen_ok,zam hb,zco hc hkey k2,hf,e1',Option.map_some,Option.getD_some,hkey2,zdX kp k2]
       exact s1
     rcases hop with rfl | rfl
     ·refine Does.coreU rfl fun dst ty pos after g ρ w hρ S => ?_
      obtain ⟨w',H',r1,r2,r3⟩:=main w S
      exact ⟨w',H',by simp [execOp,hρ _ _ m1,hρ _ _ k1,hρ _ _ v1,r1],r2,B,List.prefix_refl _,hn,zbJ,r3⟩
     ·refine Does.coreU rfl fun dst ty pos after g ρ w hρ S => ?_
      obtain ⟨w',H',r1,r2,r3⟩:=main w S
      exact ⟨w',H',by simp [execOp,hρ _ _ m1,hρ _ _ k1,hρ _ _ v1,r1],r2,B,List.prefix_refl _,hn,zbJ,r3⟩
    ·cases hq
   ·cases hq
  ·cases hq
 all_goals cases hq
theorem posM_lt {t:TypeId}{k:LV}:∀ {l:List (LV×LV)}{i:Nat},posM cx t k l=some (some i)→∃ q,l[i]? = some q
 | [],i,h => by simp only [posM] at h; cases h
 | (a,v)::l,i,h => by
  simp only [posM] at h
  cases he:eqKey cx t k a with
  | none => simp only [he] at h; cases h
  | some b =>
   cases b with
   | true => simp only [he] at h; cases h; exact ⟨_,rfl⟩
   | false =>
    simp only [he] at h
    split at h
    ·rename_i j hj
     cases h
     obtain ⟨q,hq⟩:=posM_lt hj
     exact ⟨q,by simpa using hq⟩
    ·rename_i hne
     cases hp:posM cx t k l with
     | none => rw [hp] at h; cases h
     | some r => cases r with
      | none => rw [hp] at h; cases h
      | some j => exact absurd hp (hne j)
theorem zdf:VR B (.tup []) (.tuple #[]):=by simp only [VR]; exact ⟨#[],rfl,VRL.nil_⟩
theorem del_ok (hc:CxOk X.P X.w0 X.base cx) (hr:HR G B h H) (hn:B.length=nx) (hE:ER B f E) {xs:Array Operand}{ts:Array TypeId}{t:TypeId}{rest:List TypeId}(hts:ts.toList=t::rest) {kt e:TypeId}(hkk:(mkTI X.P t).kind = .map kt e) {x k:LV}(hxs:evL xs.toList f=[x,k]) (hd:defd (evL xs.toList f)=true)
  (hq:delE cx kt x k nx h = .ok lv nx' h'):MoOk G X E H B (.call ⟨.builtin .delete,xs,ts⟩) lv nx' h':=by
 obtain ⟨us,u1,u2⟩:=zc4 hE xs.toList (zbR hd)
 rw [hxs] at u2
 simp only [VRL] at u2
 obtain ⟨vx,us,rfl,hvx,vk,us',rfl,hvk,rfl⟩:=u2
 have ht:ts[0]? = some t:=by rw [← Array.getElem?_toList,hts]; rfl
 obtain ⟨hu,hkt,hke⟩:=k_map hkk
 obtain ⟨d,hd2⟩:=zey hkt
 unfold delE at hq
 split at hq
 ·rename_i hkey
  split at hq
  ·rename_i i
   split at hq
   ·rename_i clock bs es hes
    obtain ⟨rfl,rfl,hset⟩:=delL_ok hq
    simp only [VR] at hvx
    obtain ⟨kb,hkb,rfl⟩:=hvx
    obtain ⟨j,ents,a1,ab,a2,a3⟩:=map_set (X:=X) hr hes hkb
    refine zaW u1 fun w ty consts S => ?_
    have hb:=(S.at_ a1 (j:=0) rfl).1
    rcases hset with ⟨p1,rfl⟩ | ⟨ix,p1,rfl⟩
    ·have hf:=zbe hc S hr hvk hd2 a2 p1
     obtain ⟨w',H',s1,s2,s3⟩:=a3 ents clock bs es w ab a2 S
     refine ⟨.tuple #[],w',H',?_,s2,B,List.prefix_refl _,hn,zdf,s3⟩
     simp only [Option.bind_none] at hf
     simp [builtin,Builtin.delete_,ht,run_underlying hu,zam hb,zco hc hkey hvk,hf,s1]
    ·have hf:=zbe hc S hr hvk hd2 a2 p1
     have hel:(ents.eraseIdxIfInBounds ix).toList=ents.toList.eraseIdx ix:=by simp [Array.toList_eraseIdxIfInBounds]
     obtain ⟨w',H',s1,s2,s3⟩:=a3 (ents.eraseIdxIfInBounds ix) clock (bs.eraseIdx ix) (es.eraseIdx ix) w (by rw [hel,← ab,map_erase]) (by
      rw [hel]; exact a2.erase) S
     refine ⟨.tuple #[],w',H',?_,s2,B,List.prefix_refl _,hn,zdf,s3⟩
     have hlt:∃ en,ents.toList[ix]? = some en:=by
      obtain ⟨q,hq⟩:=posM_lt p1
      obtain ⟨en,hen,_⟩:=a2.get hq
      exact ⟨en,hen⟩
     obtain ⟨en,hen⟩:=hlt
     simp only [Option.bind_some,hen,Option.map_some] at hf
     simp [builtin,Builtin.delete_,ht,run_underlying hu,zam hb,zco hc hkey hvk,hf,s1]
   ·cases hq
  ·cases hq
   simp only [VR] at hvx; subst hvx
   refine zaW u1 fun w ty consts S => ⟨.tuple #[],w,H,?_,S,B,List.prefix_refl _,hn,zdf,hr⟩
   simp [builtin,Builtin.delete_,ht,run_underlying hu,zco hc hkey hvk]
  ·cases hq
 ·cases hq
theorem clrC_ok (hr:HR G B h H) {z:Option (List LV)}{e:TypeId}(hz:∀ l,z=some l→∃ zv,(∀ w,(zeroValue e).run X.P w = .ok zv w)∧VRL B l zv.cells.toList∧∀ c ∈ zv.cells.toList,c.oneCell' = true) {i o n:Nat}(hq:clrC z i o n nx h = .ok lv nx' h') :
  (n=0∧lv = .tup []∧nx' = nx∧h' = h)∨(0 < n∧∃ zv lo vs,(∀ w,(zeroValue e).run X.P w = .ok zv w)∧vs=(List.replicate n zv.cells.toList).flatten∧(∀ c ∈ vs,c.oneCell' = true)∧∃ l,VRL B l vs∧writeO (atB h i) o l=some lo∧lv = .tup []∧nx' = nx∧h' = Tr.set .gone lo h i):=by
 unfold clrC at hq
 split at hq
 ·cases hq; exact .inl ⟨rfl,rfl,rfl,rfl⟩
 ·rename_i n z'
  obtain ⟨zv,z1,z2,z3⟩:=hz _ rfl
  obtain ⟨lo,hw,rfl,rfl,rfl⟩:=zb3 hq
  exact .inr ⟨by omega,zv,lo,_,z1,rfl,zdH z3 _,_,z2.rep _,hw,rfl,rfl,rfl⟩
 ·cases hq
theorem clr_ok (hc:CxOk X.P X.w0 X.base cx) (hr:HR G B h H) (hn:B.length=nx) (hE:ER B f E) {xs:Array Operand}{ts:Array TypeId}{t:TypeId}{rest:List TypeId}(hts:ts.toList=t::rest) {x:LV}(hxs:evL xs.toList f=[x]) (hd:defd (evL xs.toList f)=true)
  (hq:clrE cx (mkTI X.P t).kind x nx h = .ok lv nx' h'):MoOk G X E H B (.call ⟨.builtin .clear,xs,ts⟩) lv nx' h':=by
 obtain ⟨us,u1,u2⟩:=zc4 hE xs.toList (zbR hd)
 rw [hxs] at u2
 simp only [VRL] at u2
 obtain ⟨vx,us,rfl,hvx,rfl⟩:=u2
 have ht:ts[0]? = some t:=by rw [← Array.getElem?_toList,hts]; rfl
 have zero:∀ {e:TypeId}(l:List LV),cells (cx.ty e).zero=some l→∃ zv,(∀ w,(zeroValue e).run X.P w = .ok zv w)∧VRL B l zv.cells.toList∧∀ c ∈ zv.cells.toList,c.oneCell' = true:=by
  intro e l hl
  rw [hc.ty] at hl
  obtain ⟨_,zv,z1,z2,z3,z4⟩:=zaZ (P:=X.P) (t:=e) B (fun e => by rw [e] at hl; cases hl)
  exact ⟨zv,z1,(zaB z3 hl).1,(zaB z3 hl).2⟩
 have fill:∀ {e:TypeId}{i o n C:Nat}{A:Option Addr}{k:Bk},X.P.underlying t=some (.slice e)→B[i]? = some k→(0 < n→A=some ⟨k.b,k.off + o,none⟩)→vx = .slice A n C→clrC (cells (cx.ty e).zero) i o n nx h = .ok lv nx' h'→MoOk G X E H B (.call ⟨.builtin .clear,xs,ts⟩) lv nx' h':=by
  intro e i o n C A k hu hk hA hvv hq
  subst hvv
  refine zaW u1 fun w ty consts S => ?_
  rcases clrC_ok (X:=X) (e:=e) hr (zero (e:=e)) hq with ⟨rfl,rfl,rfl,rfl⟩ | ⟨hn0,zv,lo,vs,z1,rfl,z3,l,z4,hw,rfl,rfl,rfl⟩
  ·refine ⟨.tuple #[],w,H,?_,S,B,List.prefix_refl _,hn,zdf,hr⟩
   cases A <;> simp [builtin,Builtin.clear_,ht,run_underlying hu]
  ·rw [hA hn0]
   obtain ⟨H',w',r1,r2,r3⟩:=zc8 (P:=X.P) S hr hk (zbo hw) (o:=o) z3 (fun obj hor => hor.write z4 z3 hw)
   refine ⟨.tuple #[],w',H',?_,r2,B,List.prefix_refl _,hn,zdf,r3⟩
   cases n with
   | zero => omega
   | succ n =>
    have hzc:(Builtin.zeroCells zv.cells (n + 1)).toList=(List.replicate (n + 1) zv.cells.toList).flatten:=by rw [zbf]
    rw [← hzc] at r1
    simp [builtin,Builtin.clear_,ht,run_underlying hu,z1]
    rw [r1]; rfl
 unfold clrE at hq
 split at hq
 ·rename_i kt e i hk
  split at hq
  ·rename_i clock bs es hes
   obtain ⟨rfl,rfl,rfl⟩:=zen hq
   have hu:=(k_map hk).1
   simp only [VR] at hvx
   obtain ⟨kb,hkb,rfl⟩:=hvx
   obtain ⟨j,ents,a1,ab,a2,a3⟩:=map_set (X:=X) hr hes hkb
   refine zaW u1 fun w ty consts S => ?_
   have hb:=(S.at_ a1 (j:=0) rfl).1
   obtain ⟨w',H',s1,s2,s3⟩:=a3 #[] clock [] [] w rfl (by simp [MRL]) S
   refine ⟨.tuple #[],w',H',?_,s2,B,List.prefix_refl _,hn,zdf,s3⟩
   simp [builtin,Builtin.clear_,ht,run_underlying hu,zam hb,s1]
  ·cases hq
 ·rename_i kt e hk
  cases hq
  have hu:=(k_map hk).1
  simp only [VR] at hvx; subst hvx
  refine zaW u1 fun w ty consts S => ⟨.tuple #[],w,H,?_,S,B,List.prefix_refl _,hn,zdf,hr⟩
  simp [builtin,Builtin.clear_,ht,run_underlying hu]
 ·rename_i e i o n c hk
  simp only [VR] at hvx; obtain ⟨k,hk1,rfl⟩:=hvx
  exact fill (zaL hk).1 hk1 (fun _ => rfl) rfl hq
 ·rename_i e i o n ad hk
  simp only [VR] at hvx; obtain ⟨k,c,A,hk1,rfl,q1,q2,q3,q4,q5⟩:=hvx
  exact fill (zaL hk).1 hk1 (fun h0 => by rw [q3 (by omega)]) rfl hq
 ·rename_i e hk
  cases hq
  have hu:=(zaL hk).1
  simp only [VR] at hvx; subst hvx
  refine zaW u1 fun w ty consts S => ⟨.tuple #[],w,H,?_,S,B,List.prefix_refl _,hn,zdf,hr⟩
  simp [builtin,Builtin.clear_,ht,run_underlying hu]
 ·cases hq
theorem builtM_ok (hc:CxOk X.P X.w0 X.base cx) (hr:HR G B h H) (hn:B.length=nx) (hE:ER B f E) {b:Builtin}{xs:Array Operand}{ts:Array TypeId}(hd:defd (evL xs.toList f)=true) (hq:(builtM cx b ts.toList).go (evL xs.toList f) nx h = .ok lv nx' h'):MoOk G X E H B (.call ⟨.builtin b,xs,ts⟩) lv nx' h':=by
 unfold builtM at hq
 split at hq
 ·rename_i t t2 rest hts
  split at hq
  ·rename_i e hk
   rw [hc.ty] at hk
   simp only [W.go_mk] at hq
   split at hq
   ·rename_i s x hx
    split at hq
    ·rename_i hK
     rw [hc.ty] at hK
     exact append_ok hc hr hn hE hts hk hx hd hK hq
    ·cases hq
   ·cases hq
  ·cases hq
 ·rename_i t rest hts
  split at hq
  ·rename_i e hk
   rw [hc.ty] at hk
   simp only [W.go_mk] at hq
   split at hq
   ·rename_i d x hx
    exact copy_ok hc hr hn hE hts hk hx hd hq
   ·cases hq
  ·cases hq
 ·rename_i t rest hts
  split at hq
  ·rename_i kt e hk
   rw [hc.ty] at hk
   simp only [W.go_mk] at hq
   split at hq
   ·rename_i x k hx
    exact del_ok hc hr hn hE hts hk hx hd hq
   ·cases hq
  ·cases hq
 ·rename_i t rest hts
  simp only [W.go_mk] at hq
  rw [hc.ty] at hq
  split at hq
  ·rename_i x hx
   exact clr_ok hc hr hn hE hts hx hd hq
  ·cases hq
 ·cases hq
theorem s2b_ok (hc:CxOk X.P X.w0 X.base cx) (hr:HR G B h H) (hn:B.length=nx) (hE:ER B f E) {s d:TypeId}{x:Operand}(hss:(mkTI X.P s).kind = .str) (hq:s2b cx (cx.ty d).kind (evO x f) nx h = .ok lv nx' h'):MoOk G X E H B (.convert s d x) lv nx' h':=by
 unfold s2b at hq
 rw [hc.ty] at hq
 split at hq
 ·rename_i e n y hk hx
  split at hq
  ·rename_i hb
   rw [Bool.and_eq_true] at hb
   obtain ⟨s1,s2,s3⟩:=zcJ hc hb.1
   have hlt:=zal.1 hb.2
   obtain ⟨rfl,rfl,rfl⟩:=zbg hq
   obtain ⟨vx,x1,x2⟩:=hE.ev x (by rw [hx]; simp)
   rw [hx] at x2; simp only [VR] at x2
   obtain ⟨l,rfl,rfl,rfl⟩:=x2
   have hu:=(zaL hk).1
   refine Does.core rfl fun dst' ty pos after g ρ w hρ S => ?_
   have hrun:=run_bytes_of_string (P:=X.P) w s d e ⟨⟨l⟩⟩ (k_str hss) hu s2
   have hge:=grownCap_ge w l.length 0 e
   have erow:(bytesRow ⟨⟨l⟩⟩ (grownCap w l.length 0 e)).toList=l.map byt++List.replicate (grownCap w l.length 0 e - l.length) (byt 0):=by
    unfold bytesRow
    simp [byt,za9]
   have hsz:(bytesRow ⟨⟨l⟩⟩ (grownCap w l.length 0 e)).size=grownCap w l.length 0 e:=by
    have:=congrArg List.length erow
    simp at this
    omega
   refine ⟨.slice (some ⟨w.heap.size,0,none⟩) l.length (grownCap w l.length 0 e),w.drew.alloc (.cells (bytesRow ⟨⟨l⟩⟩ (grownCap w l.length 0 e)) e ((bytesRow ⟨⟨l⟩⟩ (grownCap w l.length 0 e)).size,(bytesRow ⟨⟨l⟩⟩ (grownCap w l.length 0 e)).size + 1)),_,?_,(S.drawn (w.drawn + 1)).alloc _,?_⟩
   ·rw [za9] at hrun
    have hrun' : (convert s d (str l)).run X.P w=_:=hrun
    simp [execOp,hρ _ _ x1,hrun']
   ·refine MR.new hr hn (sz:=1) (vs:=l.map byt) (lo:=.bytes l.length (bytesNum l)) ⟨rfl,l,rfl,rfl,by rw [List.length_map]; exact Nat.le_refl _,List.take_of_length_le (by rw [List.length_map]; exact Nat.le_refl _)⟩ erow ?_ ?_ (.inl fun _ _ _ h => by cases h) _ ?_
    ·intro c hcm
     rw [erow] at hcm
     rcases List.mem_append.1 hcm with h | h
     ·obtain ⟨u,_,rfl⟩:=List.mem_map.1 h; rfl
     ·rw [List.eq_of_mem_replicate h]; rfl
    ·intro j hj
     rw [Bool.and_eq_false_iff,decide_eq_false_iff_not]
     left
     show ¬ _≤j
     omega
    ·simp only [VR]
     refine ⟨_,grownCap w l.length 0 e,_,zaC hn,rfl,hge,?_,fun _ => rfl,fun _ => rfl,by have:=grownCap_le_maxLen w l.length 0 e (by simp only [maxLen]; omega); simp only [maxLen] at this; exact this⟩
     show 0 + 0 + grownCap w l.length 0 e * 1=(bytesRow ⟨⟨l⟩⟩ (grownCap w l.length 0 e)).size
     omega
  ·cases hq
 ·cases hq
theorem nan_word (t:Nat):nanW ((t % 2) * 2 ^ 63 + 0x7ff0000000000000 + 1 + (t / 2) % (2 ^ 52 - 1)):=by
 have h1:t % 2 < 2:=Nat.mod_lt _ (by decide)
 have h2:t / 2 % (2 ^ 52 - 1) < 2 ^ 52 - 1:=Nat.mod_lt _ (by decide)
 generalize t % 2=a at *
 generalize t / 2 % (2 ^ 52 - 1)=b at *
 refine ⟨by omega,(zfy _).2 (by omega)⟩
theorem flA_none {op:BinOp}{g:Nat→Nat→Option Nat}(hg:flA op=some g):(∀ m n,nanW m→g m n=none)∧(∀ m n,nanW n→g m n=none)∧(∀ m n t,binOp op t (.float .f64 m) (.float .f64 n)=(do match g m n with | some r => pure (.float .f64 r) | none => pure (.float .f64 (← choose (.nanBits .f64 m n))):Sem Value))∧(∀ t x y a b,eqGuard op t x y a b=pure ()):=by
 unfold flA at hg
 split at hg <;> cases hg
 all_goals
  refine ⟨fun m n h => ?_,fun m n h => ?_,fun m n t => ?_,fun t x y a b => rfl⟩
  ·obtain ⟨_,s,f,h⟩:=h
   simp only [Ieee.Format.add,Ieee.Format.sub,Ieee.Format.mul,h]
   rfl
  ·obtain ⟨_,s,f,h⟩:=h
   simp only [Ieee.Format.add,Ieee.Format.sub,Ieee.Format.mul,h]
   cases Ieee.double.read m <;> rfl
  ·simp only [binOp,Op.floatArith,FloatKind.format]
   rfl
theorem flM_ok (hr:HR G B h H) (hn:B.length=nx) (hE:ER B f E) {op:BinOp}{g:Nat→Nat→Option Nat}(hg:flA op=some g) {t tz:TypeId}{x y:Operand}(hq:flM g (evO x f) (evO y f) nx h = .ok lv nx' h'):MoOk G X E H B (.binOp op t x y tz) lv nx' h':=by
 obtain ⟨g1,g2,g3,g4⟩:=flA_none hg
 have nan:∀ {m n:Nat},g m n=none→∀ {u v:Value},u = .float .f64 m→v = .float .f64 n→ev E x=some u→ev E y=some v→MoOk G X E H B (.binOp op t x y tz) .nan nx h:=by
  rintro m n hmn u v rfl rfl hx hy
  refine Does.core rfl fun dst ty pos after g' ρ w hρ S => ⟨.float .f64 ((Question.nanBits .f64 m n).cut (w.tape w.drawn (.nanBits .f64 m n))),_,H,?_,S.drawn (w.drawn + 1),B,List.prefix_refl _,hn,?_,hr⟩
  rotate_left 2
  ·simp [execOp,hρ _ _ hx,hρ _ _ hy,g3,g4,hmn,Question.forced]
  ·simp only [VR]
   exact ⟨_,rfl,nan_word _⟩
 unfold flM at hq
 split at hq
 ·rename_i m n hx hy
  obtain ⟨vx,x1,x2⟩:=hE.ev x (by rw [hx]; simp)
  rw [hx] at x2; simp only [VR] at x2; subst x2
  obtain ⟨vy,y1,y2⟩:=hE.ev y (by rw [hy]; simp)
  rw [hy] at y2; simp only [VR] at y2; subst y2
  unfold flR at hq
  split at hq
  ·rename_i r hr'
   rw [frN_eq] at hq
   cases hq
   refine Does.core rfl fun dst ty pos after g' ρ w hρ S => ⟨.float .f64 r,w,H,?_,S,B,List.prefix_refl _,hn,by simp only [VR],hr⟩
   simp [execOp,hρ _ _ x1,hρ _ _ y1,g3,g4,hr']
  ·rename_i hr'
   cases hq
   exact nan hr' rfl rfl x1 y1
 ·rename_i n hx hy
  cases hq
  obtain ⟨vx,x1,x2⟩:=hE.ev x (by rw [hx]; simp)
  rw [hx] at x2; simp only [VR] at x2; obtain ⟨m,rfl,hm⟩:=x2
  obtain ⟨vy,y1,y2⟩:=hE.ev y (by rw [hy]; simp)
  rw [hy] at y2; simp only [VR] at y2; subst y2
  exact nan (g1 m n hm) rfl rfl x1 y1
 ·rename_i m hx hy
  cases hq
  obtain ⟨vx,x1,x2⟩:=hE.ev x (by rw [hx]; simp)
  rw [hx] at x2; simp only [VR] at x2; subst x2
  obtain ⟨vy,y1,y2⟩:=hE.ev y (by rw [hy]; simp)
  rw [hy] at y2; simp only [VR] at y2; obtain ⟨n,rfl,hn'⟩:=y2
  exact nan (g2 m n hn') rfl rfl x1 y1
 ·rename_i hx hy
  cases hq
  obtain ⟨vx,x1,x2⟩:=hE.ev x (by rw [hx]; simp)
  rw [hx] at x2; simp only [VR] at x2; obtain ⟨m,rfl,hm⟩:=x2
  obtain ⟨vy,y1,y2⟩:=hE.ev y (by rw [hy]; simp)
  rw [hy] at y2; simp only [VR] at y2; obtain ⟨n,rfl,hn'⟩:=y2
  exact nan (g1 m n hm) rfl rfl x1 y1
 ·cases hq
theorem opM_ok (hc:CxOk X.P X.w0 X.base cx) (hr:HR G B h H) (hn:B.length=nx) (hE:ER B f E) {op:Op}(hq:(opM cx op).go f nx h = .ok lv nx' h'):MoOk G X E H B op lv nx' h':=by
 unfold opM at hq
 split at hq
 ·exact alloc_ok hc hr hn hq
 ·exact box_ok hc hr hn hE hq
 ·exact bsl_ok hc hr hn hE hq
 ·exact store_ok hc hr hn hE hq
 ·exact makeMap_ok hc hr hn hE hq
 ·exact mkSl_ok hc hr hn hE hq
 ·exact upd_ok hc hr hn hE hq (.inr rfl)
 ·exact upd_ok hc hr hn hE hq (.inl rfl)
 ·rename_i s d x
  rw [hc.ty] at hq
  split at hq
  ·rename_i hss
   simp only [W.go_mk] at hq
   exact s2b_ok hc hr hn hE hss (by rw [hc.ty]; exact hq)
  ·cases hq
 ·exact range_ok hc hr hn hE hq
 ·split at hq
  ·exact next_ok hr hn hE hq
  ·cases hq
 ·split at hq
  ·rename_i hg
   exact flM_ok hr hn hE hg hq
  ·cases hq
 ·simp only [W.go_mk] at hq
  unfold evC at hq
  split at hq
  ·rename_i hd
   exact builtM_ok hc hr hn hE hd hq
  ·cases hq
 ·cases hq
end
variable {G:List (Nat×Obj)}
def okI (n:Nat):AI→Bool
 | .code c => okC n c
 | .lp b => okC n b
 | .scp b => okC n b
 | .reg all _ => okOps n all
 | _ => true
def IR (B:BB):AI→Item→Prop
 | .code c,.code c' => c=c'
 | .blk i,.inBlock j => i=j
 | .lp b,.inLoop b' => b=b'
 | .scp b,.inScope b' => b=b'
 | .reg all rest,.inRegion ops is => ops.toList=all∧is.map (fun i => ops[i]?)=rest.map some
 | .rng l,.inRangeFunc b => ∃ k,B[l]? = some k∧b=k.b
 | .endr l,.endRangeFunc b => ∃ k,B[l]? = some k∧b=k.b
 | .beg,.beginRound => True
 | _,_ => False
def IRL (B:BB) (n:Nat):List AI→List Item→Prop
 | [],l => l=[]
 | a::l,m => ∃ b m',m=b::m'∧IR B a b∧okI n a=true∧IRL B n l m'
theorem IR.mono {B B' : BB}(hp:B <+: B') {a:AI}{b:Item}(h:IR B a b):IR B' a b:=by
 cases a <;> cases b <;> first | exact h | (obtain ⟨k,h1,h2⟩:=h; exact ⟨k,zaP hp h1,h2⟩)
theorem IRL.mono {B B' : BB}(hp:B <+: B') {n:Nat}:∀ {l:List AI}{m:List Item},IRL B n l m→IRL B' n l m
 | [],m,h => h
 | a::l,m,h => by obtain ⟨b,m',h1,h2,h3,h4⟩:=h; exact ⟨b,m',h1,h2.mono hp,h3,IRL.mono hp h4⟩
def RdR (B:BB):Option Nat→Option Nat→Prop
 | none,none => True
 | some l,some b => ∃ k,B[l]? = some k∧b=k.b
 | _,_ => False
theorem RdR.mono {B B' : BB}(hp:B <+: B') {a b:Option Nat}(h:RdR B a b):RdR B' a b:=by
 cases a <;> cases b <;> first | exact h | (obtain ⟨k,h1,h2⟩:=h; exact ⟨k,zaP hp h1,h2⟩)
structure FB (B:BB) (s:SF) (f:Fr) (c:Ctx) (a:Array Value) (ds:List Deferred):Prop where
  fn:c.fn=s.g
  kind:c.kind=match s.dfd with | true => .deferred | false => .normal
  rd:RdR B s.rd c.round
  slots:FR B f a
  bound:∀ t,Tr.get .undef f t≠.undef→t < a.size
  ds:ADL B s.ds ds
theorem FB.mono {B B' : BB}(hp:B <+: B') {s:SF}{f:Fr}{c:Ctx}{a:Array Value}{ds:List Deferred}(h:FB B s f c a ds):FB B' s f c a ds :=
 ⟨h.fn,h.kind,h.rd.mono hp,h.slots.mono hp,h.bound,ADL.mono hp h.ds⟩
def CHR (B:BB):List (LV×Bool)→List PanicEntry→Prop
 | [],l => l=[]
 | p::l,m => ∃ u m',m = { v:=u,recovered:=p.2,goexit:=false }::m'∧VR B p.1 u∧CHR B l m'
theorem CHR.mono {B B' : BB}(hp:B <+: B'):∀ {l:List (LV×Bool)}{m:List PanicEntry},CHR B l m→CHR B' l m
 | [],m,h => h
 | p::l,m,h => by obtain ⟨u,m',h1,h2,h3⟩:=h; exact ⟨u,m',h1,VR.mono hp _ _ h2,CHR.mono hp h3⟩
theorem CHR.app {B:BB}:∀ {l:List (LV×Bool)}{m:List PanicEntry}{l' : List (LV×Bool)}{m' : List PanicEntry},CHR B l m→CHR B l' m'→CHR B (l++l') (m++m')
 | [],m,l',m',h,h' => by simp only [CHR] at h; subst h; simpa using h'
 | p::l,m,l',m',h,h' => by obtain ⟨u,m1,h1,h2,h3⟩:=h; subst h1; exact ⟨u,m1++m',rfl,h2,CHR.app h3 h'⟩
def FrR (B:BB):AF→Frame→Prop
 | .run s f k,fr => ∃ c a ds todo,FB B s f c a ds∧IRL B a.size k todo∧fr=c.fr a ds todo
 | .ret s f,fr => ∃ (c:Ctx) (a:Array Value) (ds:List Deferred) (todo:List Item),FB B s f c a ds∧fr = { c.fr a ds todo with mode:=.returning }
 | .pan s f ch,fr => ∃ (c:Ctx) (a:Array Value) (ds:List Deferred) (todo:List Item) (ch' : List PanicEntry),FB B s f c a ds∧CHR B ch ch'∧fr = { c.fr a ds todo with mode:=.panicking ch' }
theorem FrR.mono {B B' : BB}(hp:B <+: B') {a:AF}{b:Frame}(h:FrR B a b):FrR B' a b:=by
 cases a with
 | run s f k => obtain ⟨c,a,ds,todo,h1,h2,h3⟩:=h; exact ⟨c,a,ds,todo,h1.mono hp,h2.mono hp,h3⟩
 | ret s f => obtain ⟨c,a,ds,todo,h1,h3⟩:=h; exact ⟨c,a,ds,todo,h1.mono hp,h3⟩
 | pan s f ch => obtain ⟨c,a,ds,todo,ch',h1,h2,h3⟩:=h; exact ⟨c,a,ds,todo,ch',h1.mono hp,h2.mono hp,h3⟩
def CsR (B:BB):List AF→List Frame→Prop
 | [],l => l=[]
 | a::l,m => ∃ b m',m=b::m'∧FrR B a b∧CsR B l m'
theorem CsR.mono {B B' : BB}(hp:B <+: B'):∀ {l:List AF}{m:List Frame},CsR B l m→CsR B' l m
 | [],m,h => h
 | a::l,m,h => by obtain ⟨b,m',h1,h2,h3⟩:=h; exact ⟨b,m',h1,h2.mono hp,CsR.mono hp h3⟩
def sfOf:AF→SF
 | .run s _ _ => s
 | .ret s _ => s
 | .pan s _ _ => s
def pairOf (a:AF):FuncId×Bool:=((sfOf a).g,(sfOf a).rd.isSome)
def botP (p:FuncId×Bool):List AF→FuncId×Bool
 | [] => p
 | c::cs => botP (pairOf c) cs
def Fin (G:List (Nat×Obj)) (P:Program) (w0:World) (base:Nat) (B:BB) (v:LV) (nx:Nat) (h:LH) (bt:FuncId×Bool) (cs0:List Frame) (m:Machine):Prop :=
 ∃ u B' H' w',B <+: B'∧B'.length=nx∧VR B' v u∧HR G B' h H'∧Sep w0 base w' H'∧match bt.2 with
  | false => ∃ fr,m=lone fr cs0 w'∧fr.fn=bt.1∧fr.leaving P w' (.returned u)
  | true => ∃ c cs1,cs0=c::cs1∧m=lone (c.finish u) cs1 w'
theorem Fin.mono {P:Program}{w0:World}{base:Nat}{B B1:BB}(hp:B <+: B1) {v:LV}{nx:Nat}{h:LH}{bt:FuncId×Bool}{cs0:List Frame}{m:Machine}(hf:Fin G P w0 base B1 v nx h bt cs0 m):Fin G P w0 base B v nx h bt cs0 m:=by
 obtain ⟨u,B',H',w',h1,h2⟩:=hf
 exact ⟨u,B',H',w',hp.trans h1,h2⟩
theorem Ev.into {P:Program}{m:Machine}{G G' : Machine→Prop}(h:Ev P m G) (hg:∀ m,G m→G' m):Ev P m G':=by
 obtain ⟨m',h1,h2⟩:=h; exact ⟨m',h1,hg _ h2⟩
structure Mem (G:List (Nat×Obj)) (w0:World) (base:Nat) (B:BB) (nx:Nat) (h:LH) (H:List Seg) (w:World):Prop where
  len:B.length=nx
  hr:HR G B h H
  sep:Sep w0 base w H
def Goes (G:List (Nat×Obj)) (P:Program) (w0:World) (base:Nat) (B:BB) (bt:FuncId×Bool) (cs0:List Frame) (m:Machine) (r:Res):Prop :=
 ∀ v nx' h',r = .done v nx' h'→Ev P m (Fin G P w0 base B v nx' h' bt cs0)
def Sim (P:Program) (w0:World) (base:Nat) (run:Run):Prop :=
 ∀ {G:List (Nat×Obj)} fr cs nx h B rf rcs w H,FrR B fr rf→CsR B cs rcs→Mem G w0 base B nx h H w→∀ cs0,((botP (pairOf fr) cs).2=true→cs0≠[])→Goes G P w0 base B (botP (pairOf fr) cs) cs0 (lone rf (rcs++cs0) w) (run fr cs nx h)
def fullE (a:Array Value):Env:=(List.range a.size).map fun t => (t,a.getD t Go.undef)
theorem fullE_get (a:Array Value) {t:Nat}(ht:t < a.size):Env.get (fullE a) t=some (a.getD t Go.undef):=by
 have:∀ (l:List Nat),t ∈ l→Env.get (l.map fun t => (t,a.getD t Go.undef)) t=some (a.getD t Go.undef):=by
  intro l
  induction l with
  | nil => intro h; simp at h
  | cons b l ih =>
   intro h
   simp only [List.map_cons,Env.get]
   cases hb:Nat.beq b t with
   | true => rw [zaa.1 hb]
   | false =>
    rcases List.mem_cons.1 h with rfl | h
    ·rw [zaa.2 rfl] at hb; cases hb
    ·exact ih h
 exact this _ (List.mem_range.2 ht)
theorem zff (a:Array Value) {t:Nat}{v:Value}(h:Env.get (fullE a) t=some v):a.getD t Go.undef=v:=by
 have:∀ (l:List Nat),Env.get (l.map fun t => (t,a.getD t Go.undef)) t=some v→a.getD t Go.undef=v:=by
  intro l
  induction l with
  | nil => intro h; simp [Env.get] at h
  | cons b l ih =>
   intro h
   simp only [List.map_cons,Env.get] at h
   cases hb:Nat.beq b t with
   | true => rw [hb] at h; cases h; rw [zaa.1 hb]
   | false => rw [hb] at h; exact ih h
 exact this _ h
theorem zcZ (a:Array Value) {x:Operand}{v:Value}(h:ev (fullE a) x=some v):evA a x=v:=by
 cases x with
 | tmp t => exact zff a h
 | const u => exact Option.some.inj h
 | global g => exact Option.some.inj h
 | func g => exact Option.some.inj h
section
variable {B:BB}{s:SF}{f:Fr}{c:Ctx}{a:Array Value}{ds:List Deferred}
theorem FB.er (hb:FB B s f c a ds):ER B (gF f) (fullE a):=fun t ht => ⟨_,fullE_get a (hb.bound t ht),hb.slots t⟩
noncomputable def pS (d:Option Nat) (v:LV) (f:Fr):Fr:=match d with
 | none => f
 | some d => Tr.set .undef v f d
theorem pF_eq {β:Type}(d:Option Nat) (v:LV) (f:Fr) (k:Fr→β):pF d v f k=k (pS d v f):=by
 cases d with
 | none => rfl
 | some d => exact zaN _ _ _ _ _
theorem FB.put (hb:FB B s f c a ds) {d:Option Nat}(hd:∀ t,d=some t→t < a.size) {v:LV}{u:Value}(hv:VR B v u):FB B s (pS d v f) c (putA a d u) ds:=by
 cases d with
 | none => exact hb
 | some d =>
  have hlt:=hd d rfl
  refine ⟨hb.fn,hb.kind,hb.rd,fun t => ?_,fun t ht => ?_,hb.ds⟩
  ·show VR B (Tr.get .undef (Tr.set .undef v f d) t) ((a.setIfInBounds d u).getD t Go.undef)
   rw [zb2]
   by_cases e:t=d
   ·subst e
    rw [if_pos rfl]
    have:(a.setIfInBounds t u).getD t Go.undef=u:=by simp [Array.getD_eq_getD_getElem?,hlt]
    rw [this]; exact hv
   ·rw [if_neg e]
    have:(a.setIfInBounds d u).getD t Go.undef=a.getD t Go.undef:=by
     simp only [Array.getD_eq_getD_getElem?]
     rw [Array.getElem?_setIfInBounds,if_neg (fun h => e h.symm)]
    rw [this]; exact hb.slots t
  ·show t < (a.setIfInBounds d u).size
   rw [Array.size_setIfInBounds]
   have ht:Tr.get .undef (Tr.set .undef v f d) t≠.undef:=ht
   rw [zb2] at ht
   split at ht
   ·rename_i e; rw [e]; exact hlt
   ·exact hb.bound t ht
theorem zcx (a:Array Value) (d:Option Nat) (u:Value):(putA a d u).size=a.size:=by cases d <;> simp [putA]
theorem zer {n:Nat}{all:List Oper}(h:okOps n all=true) {o:Oper}(ho:o ∈ all):∀ t,o.dst=some t→t < n:=by
 intro t ht
 have:=List.all_eq_true.1 h o ho
 rw [ht,Bool.and_eq_true] at this
 exact zal.1 this.1
end
noncomputable def argsS:List LV→Nat→Fr→Fr
  | [],_,f => f
  | v::l,i,f => argsS l (i + 1) (Tr.set .undef v f i)
theorem argsF_eq {β:Type}(c:Fr→β):∀ (l:List LV) (i:Nat) (f:Fr),argsF c l i f=c (argsS l i f)
 | [],i,f => rfl
 | v::l,i,f => by
  rw [argsF,zaN,frN_eq,argsF_eq c l]; rfl
theorem zeI:∀ (l:List LV) (i:Nat) (f:Fr) (t:Nat),Tr.get .undef (argsS l i f) t=if i≤t∧t < i + l.length then l.getD (t - i) .undef else Tr.get .undef f t
 | [],i,f,t => by rw [argsS,if_neg (by simp)]
 | v::l,i,f,t => by
  rw [argsS,zeI l]
  simp only [List.length_cons]
  by_cases h1:i + 1≤t∧t < i + 1 + l.length
  ·rw [if_pos h1,if_pos (by omega)]
   have:t - i=(t - (i + 1)) + 1:=by omega
   rw [this,List.getD_cons_succ]
  ·rw [if_neg h1,zb2]
   by_cases h2:t=i
   ·subst h2; rw [if_pos rfl,if_pos (by omega)]; simp
   ·rw [if_neg h2,if_neg (by omega)]
variable {G:List (Nat×Obj)}
def PrR (P:Program) (w0:World) (base:Nat) (g:FuncId) (us:List Value) (H:List Seg) (R:Value→List Seg→Prop):Prop :=
 (∀ w,Sep w0 base w H→∃ v w' H',(callFunc g us.toArray).run P w = .ok (.value v) w'∧Sep w0 base w' H'∧R v H')∨(Body P g∧SCalls P g us w0 base H R)
structure CxF (P:Program) (w0:World) (base:Nat) (cx:Cx):Prop where
  ok:CxOk P w0 base cx
  fn:∀ g f,cx.fn g=some f→P.funcs[g]? = some f∧okFn f=true
  mt:cx.mt=mtOf P
  pr:∀ (G:List (Nat×Obj)) g p,cx.pr g=some p→∀ args nx h lv nx' h' B H us,p args nx h = .ok lv nx' h'→VRL B args us→B.length=nx→HR G B h H→PrR P w0 base g us H (MR G B lv nx' h')
  mo:P.follows .mixedOrders=true
section
variable {P:Program}{w0:World}{base:Nat}{B B1:BB}{bt:FuncId×Bool}{cs0:List Frame}{m m' : Machine}{r:Res}
theorem Goes.bad {n:Nat}:Goes G P w0 base B bt cs0 m (.bad n):=fun _ _ _ h => by cases h
theorem Goes.steps (st:Steps P m m') (h:Goes G P w0 base B bt cs0 m' r):Goes G P w0 base B bt cs0 m r:=fun v nx h' e => .steps st (h v nx h' e)
theorem Goes.step (st:step P m = .next m') (h:Goes G P w0 base B bt cs0 m' r):Goes G P w0 base B bt cs0 m r:=fun v nx h' e => .step st (h v nx h' e)
theorem Goes.mono (hp:B <+: B1) (h:Goes G P w0 base B1 bt cs0 m r):Goes G P w0 base B bt cs0 m r:=fun v nx h' e => (h v nx h' e).into fun _ hf => hf.mono hp
end
theorem exit_ok {B:BB}{n id:Nat}:∀ {k:List AI}{todo:List Item},IRL B n k todo→match exitA id k with
  | some k' => ∃ todo',exitTo id todo=some todo'∧IRL B n k' todo'
  | none => exitTo id todo=none
 | [],todo,h => by simp only [IRL] at h; subst h; rfl
 | a::k,todo,h => by
  obtain ⟨b,m,rfl,h1,h2,h3⟩:=h
  have ih:=exit_ok (id:=id) h3
  cases a with
  | blk j =>
   cases b <;> try exact h1.elim
   rename_i i
   have h1:j=i:=h1
   subst h1
   simp only [exitA]
   cases hb:Nat.beq j id with
   | true =>
    have hb:=zaa.1 hb; subst hb
    exact ⟨m,by simp [exitTo],h3⟩
   | false =>
    have hb:¬ j=id:=fun e => by rw [zaa.2 e] at hb; cases hb
    simp only [exitTo,beq_iff_eq,hb,if_false]
    exact ih
  | _ => cases b <;> first | exact h1.elim | exact ih
theorem findLabel_ok {n l:Nat}:∀ {c r:Code},okC n c=true→findLabel c l=some r→okC n r=true:=by
 intro c
 induction c with
 | seq a b iha ihb =>
  intro r hc h
  simp only [okC,Bool.and_eq_true] at hc
  simp only [findLabel] at h
  split at h
  ·rename_i rest hr
   cases h
   simp only [okC,Bool.and_eq_true]
   exact ⟨iha hc.1 hr,hc.2⟩
  ·exact ihb hc.2 h
 | label l' =>
  intro r hc h
  simp only [findLabel] at h
  split at h
  ·cases h; rfl
  ·cases h
 | _ => intro r hc h; simp only [findLabel] at h; cases h
theorem goto_ok {B:BB}{n l:Nat}:∀ {k:List AI}{todo:List Item},IRL B n k todo→match gotoA l k with
  | some k' => ∃ todo',gotoIn l todo=some todo'∧IRL B n k' todo'
  | none => gotoIn l todo=none
 | [],todo,h => by simp only [IRL] at h; subst h; rfl
 | a::k,todo,h => by
  obtain ⟨b,m,rfl,h1,h2,h3⟩:=h
  have ih:=goto_ok (l:=l) h3
  cases a with
  | scp c =>
   cases b <;> try exact h1.elim
   rename_i c'
   have h1:c=c':=h1
   subst h1
   simp only [gotoA,gotoIn]
   cases hb:findLabel c l with
   | some r => exact ⟨_,rfl,.code r,_,rfl,rfl,findLabel_ok h2 hb,.inScope c,m,rfl,rfl,h2,h3⟩
   | none => exact ih
  | _ => cases b <;> first | exact h1.elim | exact ih
section
variable {B:BB}{s:SF}{f:Fr}{c:Ctx}{a:Array Value}{ds:List Deferred}
theorem FB.asB (hb:FB B s f c a ds) {t:Nat}{w b u0:Bool}(hu:gF f t = .bool u0) (h:asB w (gF f t)=some b):∃ u,a[t]? = some (.bool u)∧b=(u == w):=by
 rw [hu] at h
 have hs:=hb.slots t
 have hn:=hb.bound t (by show gF f t≠_; rw [hu]; simp)
 have hu' : Tr.get .undef f t = .bool u0:=hu
 rw [hu'] at hs; simp only [VR] at hs
 refine ⟨u0,?_,?_⟩
 ·rw [Array.getD_eq_getD_getElem?,Array.getElem?_eq_getElem hn] at hs
  rw [Array.getElem?_eq_getElem hn]
  simpa using hs
 ·cases w <;> (cases h; cases u0 <;> rfl)
theorem FB.wanted (hb:FB B s f c a ds) {ops:Array Oper}{o:Oper}{b:Bool}(h:wantE ops.toList o.guard (gF f)=some b):Region.wanted o (yielded ops a)=b:=by
 unfold wantE at h
 split at h
 ·rename_i hg; cases h; simp [Region.wanted,hg]
 ·rename_i j w hg
  split at h
  ·rename_i t ht
   unfold dstAt at ht
   split at ht
   ·rename_i oj hj
    have hj' : ops[j]? = some oj:=by rw [← Array.getElem?_toList]; exact hj
    cases htup:gF f t with
    | tup l =>
     have hn:=hb.bound t (by show gF f t≠_; rw [htup]; simp)
     have hs:=hb.slots t
     have hu' : Tr.get .undef f t = .tup l:=htup
     rw [hu'] at hs; simp only [VR] at hs
     obtain ⟨vs,hvs,_⟩:=hs
     have hv:a[t]? = some (.tuple vs):=by
      rw [Array.getD_eq_getD_getElem?,Array.getElem?_eq_getElem hn] at hvs
      rw [Array.getElem?_eq_getElem hn]
      simpa using hvs
     have hb0:b=false:=by
      rw [htup] at h
      cases l with
      | nil => cases h; rfl
      | cons x l => cases h
     subst hb0
     simp [Region.wanted,hg,yielded,hj',ht,hv]
    | bool u0 =>
     obtain ⟨u,h1,rfl⟩:=hb.asB (u0:=u0) htup h
     have hy:yielded ops a j=some u:=by simp [yielded,hj',ht,h1]
     simp only [Region.wanted,hg,hy]
     cases u <;> cases w <;> rfl
    | _ => rw [htup] at h; cases h
   ·cases ht
  ·cases h
theorem FB.evA (hb:FB B s f c a ds) {x:Operand}(hx:evO x (gF f)≠.undef):VR B (evO x (gF f)) (evA a x):=by
 obtain ⟨v,h1,h2⟩:=hb.er.ev x hx
 rw [zcZ a h1]; exact h2
end
inductive Leaves:List Item→Option Code→Prop where
  | end_:Leaves [] none
  | ret (k:List Item):Leaves (.code .ret::k) (some .ret)
  | exit {id:Nat}{k:List Item}(h:exitTo id k=none):Leaves (.code (.exit id)::k) (some (.exit id))
  | goto {l:Nat}{k:List Item}(h:gotoIn l k=none):Leaves (.code (.goto l)::k) (some (.goto l))
theorem Leaves.round {P:Program}{c:Ctx}{a:Array Value}{ds:List Deferred}{todo:List Item}{jump:Option Code}(hl:Leaves todo jump) {l:Nat}(hr:c.round=some l) (hk:c.kind = .normal) {fr:Frame}{cs:List Frame}{w:World}{L:Loop}(hb:w.heap[l]? = some (.loop L)) :
  step P (lone (c.fr a ds todo) (fr::cs) w) = .next (lone (fr.finish (.bool jump.isNone)) cs { w with heap:=w.heap.setIfInBounds l (.loop { L with state:=if jump.isNone then .ready else .done,pending:=jump }) }):=by
 have hrun:=zcH (P:=P) hb jump
 refine step_lone_go ?_
 cases hl with
 | end_ =>
  simp only [stepG,stepG.exec,Ctx.fr,hr,Sem.runT_eq,hrun,GStep.bare_after,doReturn,hk]
  rfl
 | ret k =>
  simp only [stepG,stepG.exec,Ctx.fr,hr,Sem.runT_eq,hrun,GStep.bare_after,doReturn,hk]
  rfl
 | exit h =>
  simp only [stepG,stepG.exec,Ctx.fr,hr,h,Option.elim_none,Sem.runT_eq,hrun,GStep.bare_after,doReturn,hk]
  rfl
 | goto h =>
  simp only [stepG,stepG.exec,Ctx.fr,hr,h,Option.elim_none,Sem.runT_eq,hrun,GStep.bare_after,doReturn,hk]
  rfl
variable {G:List (Nat×Obj)}
section
variable {P:Program}{w0:World}{base:Nat}{cx:Cx}{ih:Run}{B:BB}{s:SF}{f:Fr}{c:Ctx}{a:Array Value}{ds:List Deferred}{cs:List AF}{rcs:List Frame}{nx:Nat}{h:LH}{H:List Seg}{w:World}{cs0:List Frame}
theorem Mem.loop (M:Mem G w0 base B nx h H w) {l:Nat}{st:LoopState}{pend:Option Code}{fn:FuncId}{lf:Fr}{ps:List Tmp}{assign body:Code}{dfs:Nat}(hi:atB h l = .loop st pend fn lf ps assign body dfs) {k:Bk}(hk:B[l]? = some k) :
  ∃ L,w.heap[k.b]? = some (.loop L)∧LoopR B L st pend fn lf ps assign body dfs∧∀ st' pend',(∀ c,pend' = some c→∀ n,okC n c=true) →
   ∃ H',Mem G w0 base B nx (Tr.set .gone (.loop st' pend' fn lf ps assign body dfs) h l) H' { w with heap:=w.heap.setIfInBounds k.b (.loop { L with state:=st',pending:=pend' }) }:=by
 obtain ⟨j,obj,a1,a2,a3⟩:=M.hr.put (i:=l) (by rw [hi]; rfl) hk
 rw [hi] at a2
 obtain ⟨L,rfl,a4⟩:=a2
 exact ⟨L,(M.sep.at_ a1 (j:=0) rfl).1,a4,fun st' pend' hj => ⟨H.set j [(k.b,.loop { L with state:=st',pending:=pend' })],M.len,a3 _ _ ⟨_,rfl,⟨a4.okA,a4.okB,a4.okP,hj,rfl,rfl,a4.fn,a4.slots,a4.params,a4.assign,a4.body,a4.dfs,a4.bound⟩⟩,M.sep.setObj a1 (j:=0) rfl _⟩⟩
theorem CsR.cons {a:AF}{l:List AF}{m:List Frame}(h:CsR B (a::l) m):∃ b m',m=b::m'∧FrR B a b∧CsR B l m':=h
theorem Goes.run (hs:Sim P w0 base ih) (hb:FB B s f c a ds) {k:List AI}{todo:List Item}(hk:IRL B a.size k todo) (hcs:CsR B cs rcs) (M:Mem G w0 base B nx h H w) (hne:(botP (s.g,s.rd.isSome) cs).2=true→cs0≠[]) :
  Goes G P w0 base B (botP (s.g,s.rd.isSome) cs) cs0 (lone (c.fr a ds todo) (rcs++cs0) w) (ih (.run s f k) cs nx h) :=
 hs (.run s f k) cs nx h B _ rcs w H ⟨c,a,ds,todo,hb,hk,rfl⟩ hcs M cs0 hne
theorem zd8 (hs:Sim P w0 base ih) {fr:AF}{rf:Frame}(hf:FrR B fr rf) (hcs:CsR B cs rcs) (M:Mem G w0 base B nx h H w) (hne:(botP (pairOf fr) cs).2=true→cs0≠[]) {v:LV}{u:Value}(hv:VR B v u) :
  Goes G P w0 base B (botP (pairOf fr) cs) cs0 (lone (rf.finish u) (rcs++cs0) w) (finA v fr fun fr => ih fr cs nx h):=by
 cases fr with
 | ret s f => exact Goes.bad
 | pan s f ch => exact Goes.bad
 | run s f k =>
  obtain ⟨c,a,ds,todo,hb,hk,rfl⟩:=hf
  simp only [finA]
  unfold finK
  split
  ·rename_i all o os k
   obtain ⟨i,m,rfl,h1,h2,h3⟩:=hk
   cases i <;> try exact h1.elim
   rename_i ops is
   obtain ⟨e1,e2⟩:=h1
   subst e1
   cases is with
   | nil => simp at e2
   | cons i is =>
    simp only [List.map_cons,List.cons.injEq] at e2
    obtain ⟨ho,e2⟩:=e2
    rw [zax ho,pF_eq]
    have hmem:o ∈ ops.toList:=by
     rw [← Array.getElem?_toList] at ho
     exact List.mem_of_getElem? ho
    exact Goes.run hs (hb.put (zer h2 hmem) hv) (k:=.reg ops.toList os::k) (todo:=.inRegion ops is::m) ⟨_,_,rfl,⟨rfl,e2⟩,by rw [zcx]; exact h2,by rw [zcx]; exact h3⟩ hcs M hne
  ·rename_i l k
   obtain ⟨i,m,rfl,h1,h2,h3⟩:=hk
   cases i <;> try exact h1.elim
   rename_i b
   exact Goes.run hs hb (k:=.endr l::k) (todo:=.endRangeFunc b::m) ⟨_,_,rfl,h1,rfl,h3⟩ hcs M hne
  ·exact Goes.bad
theorem end_goes (hs:Sim P w0 base ih) {bt:FuncId}(hcs:CsR B cs rcs) (M:Mem G w0 base B nx h H w) (hne:(botP (bt,true) cs).2=true→cs0≠[]) {v:LV}{u:Value}(hv:VR B v u) {m:Machine}(st:∀ fr rest,rcs++cs0=fr::rest→Steps P m (lone (fr.finish u) rest w)) :
  Goes G P w0 base B (botP (bt,true) cs) cs0 m (endR ih v cs nx h):=by
 cases cs with
 | nil =>
  simp only [CsR] at hcs
  subst hcs
  have hne:=hne rfl
  cases cs0 with
  | nil => exact absurd rfl hne
  | cons c0 cs1 =>
   intro v' nx' h' e
   cases e
   exact ⟨_,st c0 cs1 rfl,u,B,H,w,List.prefix_refl _,M.len,hv,M.hr,M.sep,c0,cs1,rfl,rfl⟩
 | cons fr cs =>
  obtain ⟨b,rcs,rfl,hf,hcs⟩:=hcs
  exact Goes.steps (st b (rcs++cs0) rfl) (zd8 hs hf hcs M hne hv)
theorem zdL (hs:Sim P w0 base ih) (hb:FB B s f c a ds) (hcs:CsR B cs rcs) (M:Mem G w0 base B nx h H w) (hne:(botP (s.g,s.rd.isSome) cs).2=true→cs0≠[]) {todo:List Item}{jump:Option Code}(hl:Leaves todo jump) :
  Goes G P w0 base B (botP (s.g,s.rd.isSome) cs) cs0 (lone (c.fr a ds todo) (rcs++cs0) w) (leaveA ih s f jump cs nx h):=by
 unfold leaveA
 have hrd:=hb.rd
 split
 ·rename_i l hl2
  rw [hl2] at hrd hne ⊢
  cases hcr:c.round with
  | none => rw [hcr] at hrd; exact hrd.elim
  | some b =>
   rw [hcr] at hrd
   obtain ⟨k,hk,rfl⟩:=hrd
   unfold leaveR
   split
   ·rename_i hdf
    split
    ·rename_i st pend fn lf ps assign body dfs hlo hds
     rw [zaN]
     obtain ⟨L,h1,h2,h3⟩:=M.loop hlo hk
     have hkind:c.kind = .normal:=by rw [hb.kind,hdf]
     obtain ⟨H',M'⟩:=h3 (if jump.isNone then .ready else .done) jump (fun c hc n => by subst hc; cases hl <;> rfl)
     have e:stJ jump=(if jump.isNone then .ready else .done):=by cases jump <;> rfl
     rw [e]
     refine end_goes hs (bt:=s.g) hcs M' hne (zay (B:=B) rfl) fun fr rest he => ?_
     rw [he]
     exact .one (hl.round hcr hkind h1)
    ·exact Goes.bad
   ·exact Goes.bad
 ·rename_i hl2
  rw [hl2] at hrd
  have hcr:c.round=none:=by
   cases hcr:c.round with
   | none => rfl
   | some b => rw [hcr] at hrd; exact hrd.elim
  have hne' : (botP (pairOf (.ret s f)) cs).2=true→cs0≠[]:=hne
  split
  ·cases hl
   exact Goes.step (go_end hcr) (hs (.ret s f) cs nx h B _ rcs w H ⟨c,a,ds,_,hb,rfl⟩ hcs M cs0 hne')
  ·cases hl
   exact Goes.step (go_ret hcr) (hs (.ret s f) cs nx h B _ rcs w H ⟨c,a,ds,_,hb,rfl⟩ hcs M cs0 hne')
  ·exact Goes.bad
theorem to_goes (hs:Sim P w0 base ih) (hb:FB B s f c a ds) (hcs:CsR B cs rcs) (M:Mem G w0 base B nx h H w) (hne:(botP (s.g,s.rd.isSome) cs).2=true→cs0≠[]) {todo:List Item}{k' : Option (List AI)}{j:Code}(hto:match k' with
   | some k' => ∃ todo',step P (lone (c.fr a ds todo) (rcs++cs0) w) = .next (lone (c.fr a ds todo') (rcs++cs0) w)∧IRL B a.size k' todo'
   | none => Leaves todo (some j)) :
  Goes G P w0 base B (botP (s.g,s.rd.isSome) cs) cs0 (lone (c.fr a ds todo) (rcs++cs0) w) (toA ih k' s f j cs nx h):=by
 unfold toA
 split
 ·obtain ⟨todo',st,hk⟩:=hto
  exact Goes.step st (hs (.run s f _) cs nx h B _ rcs w H ⟨c,a,ds,_,hb,hk,rfl⟩ hcs M cs0 hne)
 ·exact zdL hs hb hcs M hne hto
end
variable {G:List (Nat×Obj)}
theorem nilchk (P:Program) (p:Addr) (a b:ByteArray) (ty:TypeId) (ts:Array TypeId) (w:World):(Builtin.ssaWrapNilChk_ ts ty #[.pointer (some p),.string a,.string b]).run P w = .ok (.pointer (some p)) w:=rfl
theorem clF_round (g:FuncId) (q:Q) (args:List LV) (l:Nat) (largs:List LV):clF g q args≠.round l largs:=by
 cases q <;> (intro h; cases h)
theorem clM_round {cx:Cx}(m:Option Mw) (v:LV) (args:List LV) (h:LH) (l:Nat) (largs:List LV):clM cx m v args h≠.round l largs:=by
 cases m with
 | none => intro h; cases h
 | some m => cases m with
  | plain g => intro h; cases h
  | loads g e => exact clF_round _ _ _ _ _
  | fields g o => exact clF_round _ _ _ _ _
section
variable {P:Program}{w0:World}{base:Nat}{cx:Cx}{B:BB}{h:LH}{H:List Seg}{f:SlF}{E:Env}
theorem mt_run (X:Pt) (hc:CxF X.P X.w0 X.base cx) (hr:HR G B h H) {t:TypeId}{m:String}{lv:LV}{v:Value}(hv:VR B lv v) {args:List LV}{us:List Value}(hu:VRL B args us) {g:FuncId}{largs:List LV}(hq:clM cx (cx.mt t m) lv args h = .fn g largs) :
  ∃ us',VRL B largs us'∧∀ w,Sep X.w0 X.base w H→(callMethod (.iface t v) m us.toArray).run X.P w=(callFunc g us'.toArray).run X.P w:=by
 rw [hc.mt] at hq
 unfold mtOf at hq
 cases hi:X.P.info? t with
 | none => rw [hi] at hq; cases hq
 | some i =>
  rw [hi] at hq
  simp only at hq
  cases hm:i.methods.find? (fun r => r.name == m) with
  | none => rw [hm] at hq; cases hq
  | some r =>
   rw [hm] at hq
   simp only at hq
   obtain ⟨fuel,hf⟩:∃ fuel,X.P.types.size + Made.depth=fuel + 1:=⟨X.P.types.size + 99,rfl⟩
   have hti:∀ w,(typeInfo t).run X.P w = .ok i w:=fun w => by simp [typeInfo,hi]
   have key:∀ (rv:Value) (us' : List Value),us' = rv::us→(∀ w,Sep X.w0 X.base w H→(method (fuel + 1) t v m).run X.P w = .ok (g,rv) w)→∀ w,Sep X.w0 X.base w H→(callMethod (.iface t v) m us.toArray).run X.P w=(callFunc g us'.toArray).run X.P w:=by
    rintro rv us' rfl hmr w S
    unfold callMethod
    simp only [Sem.run_bind,run_program,Result.andThen_ok]
    rw [hf,hmr w S]
    simp only [Result.andThen_ok]
    congr 2
    apply Array.ext'
    simp
   unfold mtR at hq
   split at hq
   ·rename_i fn hp hfn
    split at hq
    ·rename_i e hu2
     simp only [clM] at hq
     cases hq
     refine ⟨v::us,VRL.cons_ hv hu,key v _ rfl fun w S => ?_⟩
     simp only [method,Sem.run_bind,hti,Result.andThen_ok,hm,hp,hfn,follow,Sem.run_pure,receiverAt,run_underlying hu2,Place.get]
    ·cases hq
   ·rename_i fn hp hfn
    have hpe:r.path.isEmpty=true:=by simpa using hp
    split at hq
    ·rename_i e hu2
     simp only [clM,clF] at hq
     split at hq
     ·rename_i lv' hl
      cases hq
      obtain ⟨p,u,rfl,h3,h4⟩:=zfO (X:=X) hc.ok hr hl hv
      refine ⟨u::us,VRL.cons_ h3 hu,key u _ rfl fun w S => ?_⟩
      have:=h4 w S
      simp only [method,Sem.run_bind,hti,Result.andThen_ok,hm,hp,hfn,follow,Sem.run_pure,receiverAt,run_underlying hu2,Place.get,hpe,if_true,strVal,nilchk,asAddr,this]
     ·cases hq
    ·rename_i d hne hu2
     simp only [clM] at hq
     cases hq
     refine ⟨v::us,VRL.cons_ hv hu,key v _ rfl fun w S => ?_⟩
     simp only [method,Sem.run_bind,hti,Result.andThen_ok,hm,hp,hfn,follow,Sem.run_pure,receiverAt,run_underlying hu2]
     cases d <;> first | exact absurd rfl (hne _) | simp only [Place.get,Sem.run_pure,Result.andThen_ok]
    ·cases hq
   ·rename_i s j fn hp hfn
    split at hq
    ·rename_i fs hus
     split at hq
     ·rename_i fd hfd
      split at hq
      ·rename_i n hag hsz
       simp only [clM,clF] at hq
       split at hq
       ·rename_i lv' hl
        cases hq
        obtain ⟨b,o,rfl,h3⟩:=addP_ok hl hv
        refine ⟨_::us,VRL.cons_ h3 hu,key _ _ rfl fun w S => ?_⟩
        have hs:(sizeOf fd.type).run X.P w = .ok (n + 1) w:=by
         unfold szOf at hsz
         cases hif:X.P.info? fd.type with
         | none => rw [hif] at hsz; cases hsz
         | some inf => rw [hif] at hsz; simp [sizeOf,typeInfo,hif,hsz]
        simp only [method,Sem.run_bind,hti,Result.andThen_ok,hm,hp,hfn,follow,run_underlying hus,hfd,if_true,Place.get,Sem.run_pure,asAddr,fieldPlace,hs,Nat.succ_ne_zero,if_false]
        cases hut:X.P.underlying fd.type with
        | none => rw [hut] at hag; cases hag
        | some d =>
         rw [hut] at hag
         cases d <;> first | (cases hag; done) | simp [receiverAt,run_underlying hut,Addr.add]
       ·cases hq
      ·cases hq
     ·cases hq
    ·cases hq
   ·cases hq
def ClR (X:Pt) (B:BB) (H:List Seg) (E:Env) (cl:Callee) (xs:Array Operand):Cl→Prop
 | .none => True
 | .fn g args => ∃ us,VRL B args us∧∀ ρ,(∀ x v,ev E x=some v→ρ x=v)→∀ ts ty w,Sep X.w0 X.base w H→(do let d ← resolve ρ ⟨cl,xs,ts⟩ ty; invoke d.target d.args).run X.P w=(callFunc g us.toArray).run X.P w
 | .round l args => ∃ k us,B[l]? = some k∧VRL B args us∧∀ ρ,(∀ x v,ev E x=some v→ρ x=v)→∀ ts ty w,Sep X.w0 X.base w H→(do let d ← resolve ρ ⟨cl,xs,ts⟩ ty; invoke d.target d.args).run X.P w=(Instr.yield k.b us.toArray).run X.P w
theorem callee_ok (X:Pt) (hc:CxF X.P X.w0 X.base cx) (hr:HR G B h H) (hE:ER B f E) {cl:Callee}{xs:Array Operand}:ClR X B H E cl xs ((calleeE cx cl xs.toList).go f h):=by
 have args:∀ {k:List LV→Cl},(∀ us,defd (evL xs.toList f)=true→evs E xs.toList=some us→VRL B (evL xs.toList f) us→ClR X B H E cl xs (k (evL xs.toList f)))→ClR X B H E cl xs (evC .none k (evL xs.toList f)):=by
  intro k hk
  unfold evC
  split
  ·rename_i hd
   obtain ⟨us,u1,u2⟩:=zc4 hE xs.toList (zbR hd)
   exact hk us hd u1 u2
  ·trivial
 unfold calleeE
 split
 ·rename_i g
  simp only [W.go_mk]
  refine args fun us hd u1 u2 => ⟨us,u2,fun ρ hρ ts ty w S => ?_⟩
  have hg:ρ (.func g) = .func (.func g) #[] #[]:=hρ _ _ rfl
  simp [resolve,hg,Deferred.ofValue,zbb hρ u1,invoke]
 ·rename_i x hne
  simp only [W.go_mk]
  refine args fun us hd u1 u2 => ?_
  unfold clV
  split
  ·rename_i g u c hx
   obtain ⟨vx,x1,x2⟩:=hE.ev x (by rw [hx]; simp)
   rw [hx] at x2; simp only [VR] at x2
   obtain ⟨ua,ca,rfl,y1,y2⟩:=x2
   refine ⟨ua.toList++(us++ca.toList),VRL.app y1 (VRL.app u2 y2),fun ρ hρ ts ty w S => ?_⟩
   have hg:=hρ _ _ x1
   have e:ua++us.toArray++ca=(ua.toList++(us++ca.toList)).toArray:=by
    apply Array.ext'
    simp
   simp only [resolve,hg,Deferred.ofValue,zbb hρ u1,invoke,Sem.run_bind,Sem.run_pure,Result.andThen_ok,e]
  ·rename_i l hx
   obtain ⟨vx,x1,x2⟩:=hE.ev x (by rw [hx]; simp)
   rw [hx] at x2; simp only [VR] at x2
   obtain ⟨k,hk,rfl⟩:=x2
   refine ⟨k,us,hk,u2,fun ρ hρ ts ty w S => ?_⟩
   have hg:=hρ _ _ x1
   simp [resolve,hg,Deferred.ofValue,zbb hρ u1,invoke]
  ·trivial
 ·rename_i r m
  simp only [W.go_mk]
  refine args fun us hd u1 u2 => ?_
  unfold clI
  split
  ·rename_i t v hx
   obtain ⟨vx,x1,x2⟩:=hE.ev r (by rw [hx]; simp)
   rw [hx] at x2; simp only [VR] at x2
   obtain ⟨u,rfl,x3⟩:=x2
   cases hq:clM cx (cx.mt t m) v (evL xs.toList f) h with
   | none => trivial
   | round l largs =>
    exact absurd hq (clM_round _ _ _ _ _ _)
   | fn g largs =>
    obtain ⟨us',z1,z2⟩:=mt_run X hc hr x3 u2 hq
    refine ⟨us',z1,fun ρ hρ ts ty w S => ?_⟩
    have hg:=hρ _ _ x1
    rw [← z2 w S]
    have e:(#[Value.iface t u]++us.toArray).extract 1 (#[Value.iface t u]++us.toArray).size=us.toArray:=by
     apply Array.ext'
     simp
    have e0:(#[Value.iface t u]++us.toArray)[0]? = some (Value.iface t u):=by simp
    simp only [resolve,hg,zbb hρ u1,invoke,Sem.run_bind,Sem.run_pure,Result.andThen_ok,e0,e]
  ·trivial
 ·trivial
end
variable {G:List (Nat×Obj)}
def kindD (dfd:Bool):CallKind:=match dfd with
 | true => .deferred
 | false => .normal
theorem VRL.at {B:BB}:∀ {l:List LV}{m:List Value},VRL B l m→∀ i,VR B (l.getD i .undef) (m.getD i Go.undef)
 | [],m,h,i => by simp only [VRL] at h; subst h; simp [VR]
 | a::l,m,h,i => by
  simp only [VRL] at h; obtain ⟨b,m',rfl,h1,h2⟩:=h
  cases i with
  | zero => simpa using h1
  | succ i => simpa using VRL.at h2 i
theorem e_get (t:Nat):Tr.get LV.undef (.e:Fr) t = .undef:=by
 have:∀ p:List Bool,getP LV.undef p (.e:Fr) = .undef:=by
  intro p
  cases p with
  | nil => rfl
  | cons b p => cases b <;> rfl
 exact this _
section
variable {P:Program}{w0:World}{base:Nat}{cx:Cx}{ih:Run}{B:BB}{s:SF}{f:Fr}{c:Ctx}{a:Array Value}{ds:List Deferred}{cs:List AF}{rcs:List Frame}{nx:Nat}{h:LH}{H:List Seg}{w:World}{cs0:List Frame}
theorem FB.args {args:List LV}{us:List Value}(hu:VRL B args us) {n:Nat}(hn:args.length≤n) (g:FuncId) (dfd:Bool) :
  FB B ⟨g,[],dfd,none⟩ (argsS args 0 .e) ⟨g,kindD dfd,none⟩ (us.toArray++Array.replicate (n - us.length) Go.undef) []:=by
 have hl:=hu.len
 refine ⟨rfl,by cases dfd <;> rfl,trivial,fun t => ?_,fun t ht => ?_,rfl⟩
 ·rw [zeI,e_get]
  split
  ·rename_i h1
   rw [Nat.sub_zero]
   have h2:t < us.length:=by omega
   have:(us.toArray++Array.replicate (n - us.length) Go.undef).getD t Go.undef=us.getD t Go.undef:=by
    rw [Array.getD_eq_getD_getElem?,Array.getElem?_append_left (by simpa using h2)]
    simp
   rw [this]
   exact hu.at t
  ·simp only [VR]
 ·rw [zeI,e_get] at ht
  split at ht
  ·simp; omega
  ·exact absurd rfl ht
theorem zbI (hc:CxF P w0 base cx) (hs:Sim P w0 base ih) {g:FuncId}{dfd:Bool}{args:List LV}{us:List Value}(hu:VRL B args us) (hcs:CsR B cs rcs) (M:Mem G w0 base B nx h H w) (hne:(botP (g,false) cs).2=true→cs0≠[]) {m:Machine}(st:Body P g→Steps P m (lone (Frame.enter P g us.toArray (kindD dfd)) (rcs++cs0) w)) :
  Goes G P w0 base B (botP (g,false) cs) cs0 m (enterE cx g dfd args fun fr => ih fr cs nx h):=by
 unfold enterE
 split
 ·exact Goes.bad
 ·rename_i fn hf
  obtain ⟨hf,hok⟩:=hc.fn g fn hf
  unfold okFn at hok
  rw [Bool.and_eq_true] at hok
  split
  ·exact Goes.bad
  ·rename_i b hb
   split
   ·rename_i hle
    have hle:=zaf.1 hle
    rw [argsF_eq]
    have hbody:Body P g:=⟨fn,hf,by simpa using hok.1,by rw [hb]; rfl⟩
    have henter:Frame.enter P g us.toArray (kindD dfd)=Ctx.fr ⟨g,kindD dfd,none⟩ (us.toArray++Array.replicate (fn.ntmps - us.length) Go.undef) [] [.code b]:=by
     simp [Frame.enter,Ctx.fr,hf,hb]
    refine Goes.steps (st hbody) ?_
    rw [henter]
    have hokc:okC fn.ntmps b=true:=by have:=hok.2; rw [hb] at this; exact this
    have hsz:(us.toArray++Array.replicate (fn.ntmps - us.length) Go.undef).size=fn.ntmps:=by
     have:=hu.len
     simp; omega
    exact Goes.run (s:=⟨g,[],dfd,none⟩) hs (FB.args hu hle g dfd) (k:=[.code b]) (todo:=[.code b]) ⟨_,_,rfl,rfl,by rw [hsz]; exact hokc,rfl⟩ hcs M hne
   ·exact Goes.bad
noncomputable def putsS:List Nat→List LV→Fr→Fr
 | t::ts,v::vs,f => putsS ts vs (Tr.set .undef v f t)
 | _,_,f => f
theorem zfz {β:Type}(c:Fr→β):∀ (ts:List Nat) (vs:List LV) (f:Fr),putsF c ts vs f=c (putsS ts vs f)
 | [],vs,f => rfl
 | t::ts,[],f => rfl
 | t::ts,v::vs,f => by rw [putsF,zaN,zfz c ts]; rfl
theorem FB.puts:∀ (ts:List Nat) (vs:List LV) (us:List Value) {f:Fr}{a:Array Value},VRL B vs us→ts.all (fun t => Nat.blt t a.size)=true→FB B s f c a ds →
  FB B s (putsS ts vs f) c ((ts.zip us).foldl (fun tmps p => tmps.setIfInBounds p.1 p.2) a) ds∧((ts.zip us).foldl (fun tmps p => tmps.setIfInBounds p.1 p.2) a).size=a.size
 | [],vs,us,f,a,hv,ht,hb => ⟨hb,rfl⟩
 | t::ts,[],us,f,a,hv,ht,hb => by simp only [VRL] at hv; subst hv; exact ⟨hb,rfl⟩
 | t::ts,v::vs,us,f,a,hv,ht,hb => by
  simp only [VRL] at hv; obtain ⟨u,us,rfl,h1,h2⟩:=hv
  simp only [List.all_cons,Bool.and_eq_true] at ht
  have h3:=hb.put (d:=some t) (fun t' e => by cases e; exact zal.1 ht.1) h1
  have hsz:(putA a (some t) u).size=a.size:=zcx a (some t) u
  have h4:=FB.puts ts vs us (f:=pS (some t) v f) (a:=putA a (some t) u) h2 (by rw [hsz]; exact ht.2) h3
  exact ⟨h4.1,by rw [← hsz]; exact h4.2⟩
theorem ze4 (hs:Sim P w0 base ih) {l:Nat}{args:List LV}{us:List Value}{k:Bk}(hk:B[l]? = some k) (hu:VRL B args us) (hcs:CsR B cs rcs) (M:Mem G w0 base B nx h H w) {m:Machine}{st:LoopState}{pend:Option Code}{fn:FuncId}{lf:Fr}{ps:List Tmp}{assign body:Code}{dfs:Nat}(hl:atB h l = .loop st pend fn lf ps assign body dfs) (hlen:args.length=ps.length)
  (hne:(botP (fn,true) cs).2=true→cs0≠[])
  (stp:∀ f tmps assign body,(Instr.yield k.b us.toArray).run P w = .ok (.round k.b f tmps assign body) w→Steps P m (lone (Frame.round k.b f tmps assign body .normal) (rcs++cs0) w)) :
  Goes G P w0 base B (botP (fn,true) cs) cs0 m (ih (.run ⟨fn,[],false,some l⟩ (putsS ps args lf) [.code assign,.beg,.code body]) cs nx h):=by
 obtain ⟨L,h1,h2,_⟩:=M.loop hl hk
 have hul:=hu.len
 have hpl:L.params.size=ps.length:=by rw [← h2.params]; simp
 have hy:(Instr.yield k.b us.toArray).run P w = .ok (.round k.b L.fn ((L.params.zip us.toArray).foldl (fun tmps (t,a) => tmps.setIfInBounds t a) L.tmps) L.assign L.body) w:=by
  unfold Instr.yield
  simp only [Sem.run_bind,zaM h1,Result.andThen_ok]
  rw [if_neg (by simp; omega)]
  rfl
 refine Goes.steps (stp _ _ _ _ hy) ?_
 have hz:(L.params.zip us.toArray).foldl (fun tmps (t,a) => tmps.setIfInBounds t a) L.tmps=(ps.zip us).foldl (fun tmps p => tmps.setIfInBounds p.1 p.2) L.tmps:=by
  rw [← h2.params,← Array.foldl_toList,Array.toList_zip]
 rw [hz]
 obtain ⟨f1,f2⟩:=FB.puts (B:=B) (s:=⟨fn,[],false,some l⟩) (c:=⟨L.fn,.normal,some k.b⟩) (ds:=[]) ps args us (f:=lf) (a:=L.tmps) hu h2.okP ⟨h2.fn,rfl,⟨k,hk,rfl⟩,h2.slots,h2.bound,rfl⟩
 have hfr:Frame.round k.b L.fn ((ps.zip us).foldl (fun tmps p => tmps.setIfInBounds p.1 p.2) L.tmps) L.assign L.body .normal=Ctx.fr ⟨L.fn,.normal,some k.b⟩ ((ps.zip us).foldl (fun tmps p => tmps.setIfInBounds p.1 p.2) L.tmps) [] [.code assign,.beginRound,.code body]:=by
  simp [Frame.round,Ctx.fr,h2.assign,h2.body]
 rw [hfr]
 exact Goes.run (s:=⟨fn,[],false,some l⟩) hs f1 (k:=[.code assign,.beg,.code body]) (todo:=[.code assign,.beginRound,.code body]) ⟨_,_,rfl,rfl,by rw [f2]; exact h2.okA,_,_,rfl,trivial,rfl,_,_,rfl,rfl,by rw [f2]; exact h2.okB,rfl⟩ hcs M hne
end
variable {G:List (Nat×Obj)}
section
variable {P:Program}{w0:World}{base:Nat}{cx:Cx}{ih:Run}{B:BB}{s:SF}{f:Fr}{c:Ctx}{a:Array Value}{ds:List Deferred}{cs:List AF}{rcs:List Frame}{nx:Nat}{h:LH}{H:List Seg}{w:World}{cs0:List Frame}
  {ops:Array Oper}{i:Nat}{is:List Nat}{o:Oper}{os:List Oper}{k:List AI}{todo:List Item}
theorem Mem.mono {B' : BB}(M:Mem G w0 base B' nx h H w):B'.length=nx:=M.len
theorem zbP (hs:Sim P w0 base ih) (hb:FB B s f c a ds) (ho:ops[i]? = some o) (his:is.map (fun i => ops[i]?)=os.map some) (hok:okOps a.size ops.toList=true) (hk:IRL B a.size k todo) (hcs:CsR B cs rcs) (hne:(botP (s.g,s.rd.isSome) cs).2=true→cs0≠[])
  {B' : BB}(hp:B <+: B') {nx' : Nat}{h' : LH}{H' : List Seg}{w' : World}(M:Mem G w0 base B' nx' h' H' w') {v:LV}{u:Value}(hv:VR B' v u) {m:Machine}(st:Steps P m (lone (c.fr (putA a o.dst u) ds (.inRegion ops is::todo)) (rcs++cs0) w')) :
  Goes G P w0 base B (botP (s.g,s.rd.isSome) cs) cs0 m (pF o.dst v f fun f => ih (.run s f (.reg ops.toList os::k)) cs nx' h'):=by
 rw [pF_eq]
 have hmem:o ∈ ops.toList:=by
  rw [← Array.getElem?_toList] at ho
  exact List.mem_of_getElem? ho
 refine (Goes.steps st ?_).mono hp
 exact Goes.run hs ((hb.mono hp).put (zer hok hmem) hv) (k:=.reg ops.toList os::k) (todo:=.inRegion ops is::todo) ⟨_,_,rfl,⟨rfl,his⟩,by rw [zcx]; exact hok,by rw [zcx]; exact hk.mono hp⟩ (hcs.mono hp) M hne
def ptOf (P:Program) (c:Ctx) (a:Array Value) (cs:List Frame) (w0:World) (base:Nat):Pt:=⟨P,c,a.size,cs,fun _ => True,w0,base⟩
theorem q_goes (hc:CxF P w0 base cx) (hs:Sim P w0 base ih) (hb:FB B s f c a ds) (ho:ops[i]? = some o) (hw:Region.wanted o (yielded ops a)=true) (his:is.map (fun i => ops[i]?)=os.map some) (hok:okOps a.size ops.toList=true) (hk:IRL B a.size k todo) (hcs:CsR B cs rcs) (M:Mem G w0 base B nx h H w) (hne:(botP (s.g,s.rd.isSome) cs).2=true→cs0≠[]) :
  Goes G P w0 base B (botP (s.g,s.rd.isSome) cs) cs0 (lone (c.fr a ds (.inRegion ops (i::is)::todo)) (rcs++cs0) w) (qK s.g ((opQ cx o.op).go (gF f) h) fun v => pF o.dst v f fun f => ih (.run s f (.reg ops.toList os::k)) cs nx h):=by
 cases hq:(opQ cx o.op).go (gF f) h with
 | bad n => exact Goes.bad
 | ok v =>
  simp only [qK]
  obtain ⟨u,hv,hd⟩:=opQ_ok (X:=ptOf P c a (rcs++cs0) w0 base) hc.ok M.hr hb.er hq
  obtain ⟨u',H',w',⟨rfl,rfl⟩,S',st⟩:=hd o.dst o.type o.pos o.after o.guard ops i is todo ds a w ho hw (fun x v h => zcZ a h) M.sep
  exact zbP hs hb ho his hok hk hcs hne (List.prefix_refl _) ⟨M.len,M.hr,S'⟩ hv st
theorem m_goes (hc:CxF P w0 base cx) (hs:Sim P w0 base ih) (hb:FB B s f c a ds) (ho:ops[i]? = some o) (hw:Region.wanted o (yielded ops a)=true) (his:is.map (fun i => ops[i]?)=os.map some) (hok:okOps a.size ops.toList=true) (hk:IRL B a.size k todo) (hcs:CsR B cs rcs) (M:Mem G w0 base B nx h H w) (hne:(botP (s.g,s.rd.isSome) cs).2=true→cs0≠[]) :
  Goes G P w0 base B (botP (s.g,s.rd.isSome) cs) cs0 (lone (c.fr a ds (.inRegion ops (i::is)::todo)) (rcs++cs0) w) (rsR s.g ((opM cx o.op).go (gF f) nx h) fun v nx h => pF o.dst v f fun f => ih (.run s f (.reg ops.toList os::k)) cs nx h):=by
 cases hq:(opM cx o.op).go (gF f) nx h with
 | bad n => exact Goes.bad
 | ok v nx' h' =>
  simp only [rsR]
  have hd:=opM_ok (X:=ptOf P c a (rcs++cs0) w0 base) hc.ok M.hr M.len hb.er hq
  obtain ⟨u,H',w',⟨B',hp,hl,hv,hr'⟩,S',st⟩:=hd o.dst o.type o.pos o.after o.guard ops i is todo ds a w ho hw (fun x v h => zcZ a h) M.sep
  exact zbP hs hb ho his hok hk hcs hne hp ⟨hl,hr',S'⟩ hv st
theorem call_goes (hc:CxF P w0 base cx) (hs:Sim P w0 base ih) (hb:FB B s f c a ds) (ho:ops[i]? = some o) (hw:Region.wanted o (yielded ops a)=true) (his:is.map (fun i => ops[i]?)=os.map some) (hok:okOps a.size ops.toList=true) (hk:IRL B a.size k todo) (hcs:CsR B cs rcs) (M:Mem G w0 base B nx h H w) (hne:(botP (s.g,s.rd.isSome) cs).2=true→cs0≠[])
  {cl:Callee}{xs:Array Operand}{ts:Array TypeId}(hop:o.op = .call ⟨cl,xs,ts⟩) :
  Goes G P w0 base B (botP (s.g,s.rd.isSome) cs) cs0 (lone (c.fr a ds (.inRegion ops (i::is)::todo)) (rcs++cs0) w) (callA cx ih ((calleeE cx cl xs.toList).go (gF f) h) (.run s f (.reg ops.toList (o::os)::k)) cs nx h):=by
 have hcl:=callee_ok (ptOf P c a (rcs++cs0) w0 base) (cl:=cl) (xs:=xs) hc M.hr hb.er
 have hnd:Op.isDefer o.op=false:=by rw [hop]; rfl
 have hex:execOp (evA a) o=(do let d ← resolve (evA a) ⟨cl,xs,ts⟩ o.type; invoke d.target d.args:Sem Next):=by
  cases o; simp only at hop; subst hop; rfl
 have hfr:FrR B (.run s f (.reg ops.toList (o::os)::k)) (c.fr a ds (.inRegion ops (i::is)::todo)) :=
  ⟨c,a,ds,.inRegion ops (i::is)::todo,hb,⟨.inRegion ops (i::is),todo,rfl,⟨rfl,by simp [ho,his]⟩,hok,hk⟩,rfl⟩
 unfold callA
 split
 ·rename_i g args hcal
  rw [hcal] at hcl
  obtain ⟨us,hu,hrun⟩:=hcl
  have hrun:(execOp (evA a) o).run P w=(callFunc g us.toArray).run P w:=by rw [hex]; exact hrun (evA a) (fun x v h => zcZ a h) ts o.type w M.sep
  split
  ·rename_i p hpr
   cases hq:p args nx h with
   | bad n => exact Goes.bad
   | ok v nx' h' =>
    simp only [rsR]
    rcases hc.pr G g p hpr _ _ _ _ _ _ B H us hq hu M.len M.hr with hv0 | ⟨hbody,hsc⟩
    ·obtain ⟨u,w',H',r1,r2,B',hp,hl,hv,hr'⟩:=hv0 w M.sep
     rw [r1] at hrun
     refine (Goes.step (zez ho hw (.inl hnd) hrun) ?_).mono hp
     rw [← zax ho]
     exact zd8 hs (hfr.mono hp) (hcs.mono hp) ⟨hl,hr',r2⟩ hne hv
    ·obtain ⟨e,w',fr,⟨u,H',rfl,⟨B',hp,hl,hv,hr'⟩,r2⟩,hcomes,_,hleave⟩:=hsc w M.sep (c.fr a ds (.inRegion ops (i::is)::todo)::(rcs++cs0))
     rw [zbt hbody] at hrun
     refine (Goes.steps (.head (zbQ ho hw (.inl hnd) hrun) (Steps.trans hcomes (.one (step_leave_returned hleave)))) ?_).mono hp
     exact zd8 hs (hfr.mono hp) (hcs.mono hp) ⟨hl,hr',r2⟩ hne hv
  ·refine zbI (dfd:=false) hc hs hu (cs:=.run s f (.reg ops.toList (o::os)::k)::cs) (rcs:=c.fr a ds (.inRegion ops (i::is)::todo)::rcs) ⟨_,_,rfl,hfr,hcs⟩ M hne fun hbody => ?_
   rw [zbt hbody] at hrun
   exact .one (zbQ ho hw (.inl hnd) hrun)
 ·rename_i l args hcal
  rw [hcal] at hcl
  obtain ⟨kb,us,hkb,hu,hrun⟩:=hcl
  have hrun:=hrun (evA a) (fun x v h => zcZ a h) ts o.type w M.sep
  rw [← hex] at hrun
  unfold roundA
  split
  ·rename_i st pend fn lf ps assign body dfs hlo
   split
   ·rename_i hlen
    have hlen:=zaa.1 hlen
    rw [zfz]
    refine ze4 hs hkb hu (cs:=.run s f (.reg ops.toList (o::os)::k)::cs) (rcs:=c.fr a ds (.inRegion ops (i::is)::todo)::rcs) ⟨_,_,rfl,hfr,hcs⟩ M hlo hlen hne fun fn tmps assign body hy => ?_
    have hrun:(execOp (evA a) o).run P w=(Instr.yield kb.b us.toArray).run P w:=hrun
    rw [hy] at hrun
    refine .one (step_lone_go ?_)
    rw [za3 ho hw (.inl hnd)]
    simp [stepG.apply,hrun,Ctx.fr]
   ·exact Goes.bad
  ·exact Goes.bad
 ·exact Goes.bad
theorem rec_goes (hs:Sim P w0 base ih) (hb:FB B s f c a ds) (ho:ops[i]? = some o) (hw:Region.wanted o (yielded ops a)=true) (his:is.map (fun i => ops[i]?)=os.map some) (hok:okOps a.size ops.toList=true) (hk:IRL B a.size k todo) (hcs:CsR B cs rcs) (M:Mem G w0 base B nx h H w) (hne:(botP (s.g,s.rd.isSome) cs).2=true→cs0≠[])
  {xs:Array Operand}{ts:Array TypeId}(hop:o.op = .call ⟨.builtin .recover,xs,ts⟩) :
  Goes G P w0 base B (botP (s.g,s.rd.isSome) cs) cs0 (lone (c.fr a ds (.inRegion ops (i::is)::todo)) (rcs++cs0) w) (recA ih o.dst s f (.reg ops.toList os::k) cs nx h):=by
 have hnd:Op.isDefer o.op=false:=by rw [hop]; rfl
 have hr:(execOp (evA a) o).run P w = .ok .recover w:=by
  cases o; simp only at hop; subst hop
  simp [execOp,resolve,invoke,builtin]
 unfold recA
 split
 ·rename_i s' f' v old cs hd hrd
  have hround:c.round=none:=by
   have:=hb.rd
   rw [hrd] at this
   cases hcr:c.round with
   | none => rfl
   | some b => rw [hcr] at this; exact this.elim
  have hkind:c.kind = .deferred:=by rw [hb.kind,hd]
  obtain ⟨rf,rcs,rfl,⟨c',a',ds',todo',ch',hb',hch,rfl⟩,hcs'⟩:=hcs
  obtain ⟨u,ch2,rfl,hv,hch2⟩:=hch
  have hcsn:CsR B (.pan s' f' ((v,true)::old)::cs) ({ c'.fr a' ds' todo' with mode:=.panicking ({ v:=u,recovered:=true,goexit:=false }::ch2) }::rcs):=⟨_,_,rfl,⟨c',a',ds',todo',_,hb',⟨u,ch2,rfl,hv,hch2⟩,rfl⟩,hcs'⟩
  refine zbP hs hb ho his hok hk (cs:=.pan s' f' ((v,true)::old)::cs) hcsn hne (List.prefix_refl _) M hv (.one (step_lone_go ?_))
  rw [za3 ho hw (.inl hnd),← zax ho]
  simp [stepG.apply,hr,Ctx.fr,tryRecover,hround,hkind]
 ·rename_i s' f' cs hd hrd
  have hround:c.round=none:=by
   have:=hb.rd
   rw [hrd] at this
   cases hcr:c.round with
   | none => rfl
   | some b => rw [hcr] at this; exact this.elim
  have hkind:c.kind = .deferred:=by rw [hb.kind,hd]
  have hcs0:=hcs
  obtain ⟨rf,rcs,rfl,⟨c',a',ds',todo',hb',rfl⟩,hcs'⟩:=hcs
  refine zbP hs hb ho his hok hk (cs:=.ret s' f'::cs) hcs0 hne (List.prefix_refl _) M (v:=.nili) (u:=.nilIface) (by simp only [VR]) (.one (step_lone_go ?_))
  rw [za3 ho hw (.inl hnd),← zax ho]
  simp [stepG.apply,hr,Ctx.fr,tryRecover,hround,hkind]
 ·exact Goes.bad
theorem pan_goes (hs:Sim P w0 base ih) (hb:FB B s f c a ds) (ho:ops[i]? = some o) (hw:Region.wanted o (yielded ops a)=true) (hcs:CsR B cs rcs) (M:Mem G w0 base B nx h H w) (hne:(botP (s.g,s.rd.isSome) cs).2=true→cs0≠[])
  {x:Operand}(hop:o.op = .panic x) :
  Goes G P w0 base B (botP (s.g,s.rd.isSome) cs) cs0 (lone (c.fr a ds (.inRegion ops (i::is)::todo)) (rcs++cs0) w) (panE ih (evO x (gF f)) s f cs nx h):=by
 have hnd:Op.isDefer o.op=false:=by rw [hop]; rfl
 unfold panE
 split
 ·rename_i t v hx
  have hv:=hb.evA (x:=x) (by rw [hx]; simp)
  rw [hx] at hv
  have hv0:=hv
  simp only [VR] at hv
  obtain ⟨u,hu,_⟩:=hv
  rw [hu] at hv0
  have hr:(execOp (evA a) o).run P w = .halt (.panic (.iface t u)) w:=by
   cases o; simp only at hop; subst hop
   simp [execOp,hu,Instr.panic]
  refine Goes.step (m':=lone { c.fr a ds (.inRegion ops (i::is)::todo) with mode:=.panicking [{ v:=.iface t u,recovered:=false }] } (rcs++cs0) w) (step_lone_go ?_) ?_
  ·rw [za3 ho hw (.inl hnd)]
   simp [stepG.apply,hr,Frame.raise,Ctx.fr]
  ·exact hs (.pan s f [(.ifc t v,false)]) cs nx h B _ rcs w H ⟨c,a,ds,.inRegion ops (i::is)::todo,_,hb,⟨_,_,rfl,hv0,rfl⟩,rfl⟩ hcs M cs0 hne
 ·exact Goes.bad
end
variable {G:List (Nat×Obj)}
section
variable {P:Program}{w0:World}{base:Nat}{cx:Cx}{ih:Run}{B:BB}{s:SF}{f:Fr}{c:Ctx}{a:Array Value}{ds:List Deferred}{cs:List AF}{rcs:List Frame}{nx:Nat}{h:LH}{H:List Seg}{w:World}{cs0:List Frame}
  {ops:Array Oper}{i:Nat}{is:List Nat}{o:Oper}{os:List Oper}{k:List AI}{todo:List Item}
theorem Mem.defd (M:Mem G w0 base B nx h H w) {r:Nat}{es:Option (List AD)}(hi:atB h r = .defd es) {k:Bk}(hk:B[r]? = some k) :
  ∃ ds',w.heap[k.b]? = some (.deferred ds')∧DOR B es ds'∧∀ es2 ds2,DOR B es2 ds2→∃ H',Mem G w0 base B nx (Tr.set .gone (.defd es2) h r) H' { w with heap:=w.heap.setIfInBounds k.b (.deferred ds2) }:=by
 obtain ⟨j,obj,a1,a2,a3⟩:=M.hr.put (i:=r) (by rw [hi]; rfl) hk
 rw [hi] at a2
 obtain ⟨ds',rfl,a4⟩:=a2
 exact ⟨ds',(M.sep.at_ a1 (j:=0) rfl).1,a4,fun es2 ds2 hd => ⟨H.set j [(k.b,.deferred ds2)],M.len,a3 _ _ ⟨_,rfl,hd⟩,M.sep.setObj a1 (j:=0) rfl _⟩⟩
theorem defer_ok (hb:FB B s f c a ds) {x:Operand}{xs:Array Operand}{g:FuncId}{args:List LV}(hq:(calleeE cx (.value x) xs.toList).go (gF f) h = .fn g args) :
  ∃ d,ADR B (.call g args) d∧∀ ts ty w,(resolve (evA a) ⟨.value x,xs,ts⟩ ty).run P w = .ok d w:=by
 have hev:∀ x v,ev (fullE a) x=some v→evA a x=v:=fun x v h => zcZ a h
 have args:∀ {k:List LV→Cl},evC Cl.none k (evL xs.toList (gF f)) = .fn g args→∃ us,evs (fullE a) xs.toList=some us∧VRL B (evL xs.toList (gF f)) us∧k (evL xs.toList (gF f)) = .fn g args:=by
  intro k hk
  unfold evC at hk
  split at hk
  ·rename_i hd
   obtain ⟨us,u1,u2⟩:=zc4 hb.er xs.toList (zbR hd)
   exact ⟨us,u1,u2,hk⟩
  ·cases hk
 unfold calleeE at hq
 split at hq
 ·rename_i g' he
  cases he
  simp only [W.go_mk] at hq
  obtain ⟨us,u1,u2,u3⟩:=args hq
  cases u3
  refine ⟨⟨.fn (.func g) #[],us.toArray⟩,⟨#[],us.toArray,rfl,by simpa using u2⟩,fun ts ty w => ?_⟩
  have hg:evA a (.func g) = .func (.func g) #[] #[]:=hev _ _ rfl
  simp [resolve,hg,Deferred.ofValue,zbb hev u1]
 ·rename_i x' hne he
  cases he
  simp only [W.go_mk] at hq
  obtain ⟨us,u1,u2,u3⟩:=args hq
  unfold clV at u3
  split at u3
  ·rename_i g u c hx
   cases u3
   obtain ⟨vx,x1,x2⟩:=hb.er.ev x (by rw [hx]; simp)
   rw [hx] at x2; simp only [VR] at x2
   obtain ⟨ua,ca,rfl,y1,y2⟩:=x2
   refine ⟨⟨.fn (.func g) ca,ua++us.toArray⟩,⟨ca,ua++us.toArray,rfl,?_⟩,fun ts ty w => ?_⟩
   ·rw [Array.toList_append,List.append_assoc]
    exact VRL.app y1 (VRL.app u2 y2)
   ·simp [resolve,hev _ _ x1,Deferred.ofValue,zbb hev u1]
  ·cases u3
  ·cases u3
 ·rename_i he; cases he
 ·rename_i he; cases he
theorem go_op_deferR {cs:List Frame}{k:List Item}(ho:ops[i]? = some o) (hw:Region.wanted o (yielded ops a)=true) {cl:Call}(hop:o.op = .defer cl) {l:Nat}(hr:c.round=some l) {w' : World}
  (hrun:(do Instr.deferInRound l (← resolve (evA a) cl o.type); pure .skip:Sem Next).run P w = .ok .skip w') :
  step P (lone (c.fr a ds (.inRegion ops (i::is)::k)) cs w) = .next (lone (c.fr (putA a o.dst undef) ds (.inRegion ops is::k)) cs w'):=by
 refine step_lone_go ?_
 have he:=zd7 (c:=c) (a:=a) (ds:=ds) (k:=.inRegion ops (i::is)::k)
 rw [← zax ho]
 simp only [Ctx.fr] at he ⊢
 simp only [stepG,stepG.exec,stepG.oper,Frame.oper?,ho,hw,he,Option.map_some,Option.getD_some,if_true,hr,hop] at he ⊢
 simp only [he,stepG.apply,Sem.runT_eq,if_true,hrun,GStep.bare_after]
 rfl
theorem def_goes (hs:Sim P w0 base ih) (hb:FB B s f c a ds) (ho:ops[i]? = some o) (hw:Region.wanted o (yielded ops a)=true) (his:is.map (fun i => ops[i]?)=os.map some) (hok:okOps a.size ops.toList=true) (hk:IRL B a.size k todo) (hcs:CsR B cs rcs) (M:Mem G w0 base B nx h H w) (hne:(botP (s.g,s.rd.isSome) cs).2=true→cs0≠[])
  {x:Operand}{xs:Array Operand}{ts:Array TypeId}(hop:o.op = .defer ⟨.value x,xs,ts⟩) :
  Goes G P w0 base B (botP (s.g,s.rd.isSome) cs) cs0 (lone (c.fr a ds (.inRegion ops (i::is)::todo)) (rcs++cs0) w) (defE ih ((calleeE cx (.value x) xs.toList).go (gF f) h) o.dst s f (.reg ops.toList os::k) cs nx h):=by
 unfold defE
 split
 ·rename_i g args hcal
  obtain ⟨d,hd,hrun⟩:=defer_ok (P:=P) hb hcal
  have hrd:=hb.rd
  split
  ·rename_i hr
   rw [hr] at hrd
   have hcr:c.round=none:=by
    cases hcr:c.round with
    | none => rfl
    | some b => rw [hcr] at hrd; exact hrd.elim
   have hr2:(execOp (evA a) o).run P w = .ok (.defer d) w:=by
    have:=hrun ts o.type w
    cases o; simp only at hop; subst hop
    simp [execOp,this]
   have hb2:FB B ⟨s.g,.call g args::s.ds,s.dfd,s.rd⟩ f c a (d::ds):=⟨hb.fn,hb.kind,hb.rd,hb.slots,hb.bound,d,ds,rfl,hd,hb.ds⟩
   exact zbP hs hb2 ho his hok hk hcs hne (List.prefix_refl _) M zbJ (.one (zeA ho hw (.inr hcr) hr2))
  ·rename_i l hr
   rw [hr] at hrd
   cases hcr:c.round with
   | none => rw [hcr] at hrd; exact hrd.elim
   | some b =>
    rw [hcr] at hrd
    obtain ⟨kl,hkl,rfl⟩:=hrd
    unfold defR
    split
    ·rename_i st pend fn lf ps assign body r hlo
     obtain ⟨L,l1,l2,_⟩:=M.loop hlo hkl
     obtain ⟨kr,hkr,ldf⟩:=l2.dfs
     split
     ·rename_i es hes
      obtain ⟨ds',d1,d2,d3⟩:=M.defd hes hkr
      cases ds' with
      | none => exact d2.elim
      | some ds' =>
       obtain ⟨H',M'⟩:=d3 (some (.call g args::es)) (some (d::ds')) ⟨d,ds',rfl,hd,d2⟩
       rw [zaN]
       have hrr:=hrun ts o.type w
       have hgo:(getObj kr.b).run P w = .ok (.deferred (some ds')) w:=by simp [getObj,Sem.run,d1]
       refine zbP hs hb ho his hok hk hcs hne (List.prefix_refl _) M' zbJ (.one (go_op_deferR ho hw hop hcr ?_))
       simp only [Sem.run_bind,hrr,Result.andThen_ok,Instr.deferInRound,zaM l1,hgo,ldf,zaH d1 rfl,Sem.run_pure]
     ·exact Goes.bad
    ·exact Goes.bad
 ·exact Goes.bad
end
variable {G:List (Nat×Obj)}
section
variable {P:Program}{w0:World}{base:Nat}{cx:Cx}{ih:Run}{B:BB}{s:SF}{f:Fr}{c:Ctx}{a:Array Value}{ds:List Deferred}{cs:List AF}{rcs:List Frame}{nx:Nat}{h:LH}{H:List Seg}{w:World}{cs0:List Frame}
  {ops:Array Oper}{i:Nat}{is:List Nat}{o:Oper}{os:List Oper}{k:List AI}{todo:List Item}
theorem Mem.new (M:Mem G w0 base B nx h H w) {obj:Obj}{lo:LO}(hor:OR (B++[⟨w.heap.size,0,0,0⟩]) ⟨w.heap.size,0,0,0⟩ obj lo) :
  Mem G w0 base (B++[⟨w.heap.size,0,0,0⟩]) (nx + 1) (Tr.set .gone lo h nx) ([(w.heap.size,obj)]::H) (w.alloc obj) :=
 ⟨by simp [M.len],M.hr.new M.len (k:=⟨w.heap.size,0,0,0⟩) hor,M.sep.alloc obj⟩
theorem ze5 {x:Operand}{params:Array Tmp}{assign body:Code}{gf:FuncId}{u ca:Array Value}{kk:List Item}{cs:List Frame}(hb:Body P gf) (hf:evA a x = .func (.func gf) u ca) {l:Nat}{mark:List Deferred}{w' : World}
  (henter:(Instr.enterLoop c.fn a params assign body c.round).run P w = .ok (l,mark) w') :
  step P (lone (c.fr a ds (.code (.rangeFunc x params assign body)::kk)) cs w) = .next (lone (Frame.enter P gf (u.toList++([Value.func (Fn.yield l) #[] #[]]++ca.toList)).toArray .normal) (c.fr a (mark++ds) (.inRangeFunc l::kk)::cs) w'):=by
 refine step_lone_go ?_
 have hfe:=zd7 (c:=c) (a:=a) (ds:=mark++ds) (k:=.inRangeFunc l::kk)
 have e1:∀ y:Value,(u++#[y]++ca)=(u.toList++([y]++ca.toList)).toArray:=by
  intro y
  apply Array.ext'
  simp
 simp only [Ctx.fr] at hfe
 have hrun:∀ (y:Value) (w:World),(do let d ← resolve (evA a) { callee:=.value x,args:=#[.const y],argTypes:=#[] } 0; invoke d.target d.args:Sem Next).run P w = .ok (.enter gf (u++#[y]++ca)) w:=by
  intro y w
  have hcy:evA a (.const y)=y:=rfl
  simp [resolve,hf,Deferred.ofValue,invoke,zbt hb,hcy]
 simp only [stepG,stepG.exec,Ctx.fr,Sem.runT_eq,henter,GStep.bare_after,hfe]
 simp only [stepG.apply,Sem.runT_eq,if_true,hrun,GStep.bare_after]
 rw [← e1]
 rfl
theorem range_goes (hc:CxF P w0 base cx) (hs:Sim P w0 base ih) (hb:FB B s f c a ds) (hk:IRL B a.size k todo) (hcs:CsR B cs rcs) (M:Mem G w0 base B nx h H w) (hne:(botP (s.g,s.rd.isSome) cs).2=true→cs0≠[])
  {x:Operand}{ps:Array Tmp}{assign body:Code}(hok:okC a.size (.rangeFunc x ps assign body)=true) :
  Goes G P w0 base B (botP (s.g,s.rd.isSome) cs) cs0 (lone (c.fr a ds (.code (.rangeFunc x ps assign body)::todo)) (rcs++cs0) w) (rangeA cx ih (evO x (gF f)) ps.toList assign body s f k cs nx h):=by
 simp only [okC,Bool.and_eq_true] at hok
 obtain ⟨⟨hok1,hok2⟩,hok3⟩:=hok
 unfold rangeA
 split
 ·rename_i g u ca hx
  have hv:=hb.evA (x:=x) (by rw [hx]; simp)
  rw [hx] at hv
  simp only [VR] at hv
  obtain ⟨ua,cca,hva,y1,y2⟩:=hv
  have hrd:=hb.rd
  split
  ·rename_i hr
   rw [hr] at hrd
   have hcr:c.round=none:=by
    cases hcr:c.round with
    | none => rfl
    | some b => rw [hcr] at hrd; exact hrd.elim
   unfold rangeN
   split
   ·rw [zaN,frN_eq,zaN,frN_eq]
    have M1:=M.new (obj:=.deferred (some [])) (lo:=.defd (some [])) ⟨some [],rfl,rfl⟩
    have hsz:(w.alloc (.deferred (some []))).heap.size=w.heap.size + 1:=by simp
    have hp1:B <+: B++[⟨w.heap.size,0,0,0⟩]:=List.prefix_append _ _
    have hp2:B++[⟨w.heap.size,0,0,0⟩] <+: (B++[⟨w.heap.size,0,0,0⟩])++[(⟨(w.alloc (.deferred (some []))).heap.size,0,0,0⟩:Bk)]:=List.prefix_append _ _
    have hp:=hp1.trans hp2
    have M2:=M1.new (obj:=.loop ⟨.ready,none,c.fn,a,ps,assign,body,w.heap.size⟩) (lo:=.loop .ready none s.g f ps.toList assign body nx)
     ⟨_,rfl,hok2,hok3,hok1,(fun _ h => by cases h),rfl,rfl,hb.fn,hb.slots.mono hp,rfl,rfl,rfl,⟨_,zaP hp2 (zaC M.len),rfl⟩,hb.bound⟩
    rw [hsz] at M2 hp2 hp
    have hyl:VR ((B++[⟨w.heap.size,0,0,0⟩])++[(⟨w.heap.size + 1,0,0,0⟩:Bk)]) (.yield (nx + 1)) (.func (.yield (w.heap.size + 1)) #[] #[]):=by
     simp only [VR]
     exact ⟨_,zaC M1.len,rfl⟩
    have hu:=VRL.app (VRL.mono hp _ _ y1) (VRL.cons_ hyl (VRL.mono hp _ _ y2))
    have henter:(Instr.enterLoop c.fn a ps assign body c.round).run P w = .ok (w.heap.size + 1,[{ target:=.collected w.heap.size,args:=#[] }]) ((w.alloc (.deferred (some []))).alloc (.loop ⟨.ready,none,c.fn,a,ps,assign,body,w.heap.size⟩)):=by
     rw [hcr]
     unfold Instr.enterLoop
     simp only [Sem.run_bind,run_newObj,Result.andThen_ok,Sem.run_pure]
     show Result.ok ((w.heap.push _).size,_) _=_
     rw [Array.size_push]
     rfl
    refine Goes.mono hp ?_
    refine zbI (dfd:=false) hc hs hu (cs:=.run ⟨s.g,.coll nx::s.ds,s.dfd,s.rd⟩ f (.rng (nx + 1)::k)::cs) (rcs:=c.fr a ({ target:=.collected w.heap.size,args:=#[] }::ds) (.inRangeFunc (w.heap.size + 1)::todo)::rcs) ⟨_,_,rfl,?_,hcs.mono hp⟩ M2 hne fun hbody => .one (ze5 hbody hva henter)
    have hb2:=hb.mono hp
    exact ⟨c,a,_,_,⟨hb2.fn,hb2.kind,hb2.rd,hb2.slots,hb2.bound,_,_,rfl,⟨_,zaP hp2 (zaC M.len),rfl⟩,hb2.ds⟩,⟨.inRangeFunc (w.heap.size + 1),todo,rfl,⟨_,zaC M1.len,rfl⟩,rfl,hk.mono hp⟩,rfl⟩
   ·exact Goes.bad
  ·rename_i l hr
   rw [hr] at hrd
   cases hcr:c.round with
   | none => rw [hcr] at hrd; exact hrd.elim
   | some b =>
    rw [hcr] at hrd
    obtain ⟨kl,hkl,rfl⟩:=hrd
    unfold rangeI
    split
    ·rename_i st pend fn lf ps2 assign2 body2 r hlo _
     obtain ⟨L,l1,l2,_⟩:=M.loop hlo hkl
     obtain ⟨kr,hkr,ldf⟩:=l2.dfs
     rw [zaN,frN_eq]
     have hp:B <+: B++[(⟨w.heap.size,0,0,0⟩:Bk)]:=List.prefix_append _ _
     have M2:=M.new (obj:=.loop ⟨.ready,none,c.fn,a,ps,assign,body,kr.b⟩) (lo:=.loop .ready none s.g f ps.toList assign body r)
      ⟨_,rfl,hok2,hok3,hok1,(fun _ h => by cases h),rfl,rfl,hb.fn,hb.slots.mono hp,rfl,rfl,rfl,⟨_,zaP hp hkr,rfl⟩,hb.bound⟩
     have hyl:VR (B++[(⟨w.heap.size,0,0,0⟩:Bk)]) (.yield nx) (.func (.yield w.heap.size) #[] #[]):=by
      simp only [VR]
      exact ⟨_,zaC M.len,rfl⟩
     have hu:=VRL.app (VRL.mono hp _ _ y1) (VRL.cons_ hyl (VRL.mono hp _ _ y2))
     have henter:(Instr.enterLoop c.fn a ps assign body c.round).run P w = .ok (w.heap.size,[]) (w.alloc (.loop ⟨.ready,none,c.fn,a,ps,assign,body,kr.b⟩)):=by
      rw [hcr]
      unfold Instr.enterLoop
      simp only [Sem.run_bind,zaM l1,run_newObj,Result.andThen_ok,Sem.run_pure,ldf]
      rfl
     refine Goes.mono hp ?_
     refine zbI (dfd:=false) hc hs hu (cs:=.run s f (.rng nx::k)::cs) (rcs:=c.fr a ds (.inRangeFunc w.heap.size::todo)::rcs) ⟨_,_,rfl,?_,hcs.mono hp⟩ M2 hne fun hbody => .one (ze5 hbody hva henter)
     exact ⟨c,a,ds,_,hb.mono hp,⟨.inRangeFunc w.heap.size,todo,rfl,⟨_,zaC M.len,rfl⟩,rfl,hk.mono hp⟩,rfl⟩
    ·exact Goes.bad
 ·exact Goes.bad
theorem endr_goes (hs:Sim P w0 base ih) (hb:FB B s f c a ds) (hk:IRL B a.size k todo) (hcs:CsR B cs rcs) (M:Mem G w0 base B nx h H w) (hne:(botP (s.g,s.rd.isSome) cs).2=true→cs0≠[]) {l:Nat}{kl:Bk}(hkl:B[l]? = some kl) :
  Goes G P w0 base B (botP (s.g,s.rd.isSome) cs) cs0 (lone (c.fr a ds (.endRangeFunc kl.b::todo)) (rcs++cs0) w) (endA ih l (atB h l) s f k cs nx h):=by
 unfold endA
 split
 ·exact Goes.bad
 ·rename_i st pend fn lf ps assign body dfs hst hlo
  obtain ⟨L,l1,l2,l3⟩:=M.loop hlo hkl
  rw [zaN]
  obtain ⟨H',M'⟩:=l3 .exhausted pend (fun c hc => l2.okJ c hc)
  have hns:L.state≠.busy:=by rw [l2.state]; intro e; exact hst (by rw [e])
  have hend:(Instr.endLoop kl.b).run P w = .ok L.pending { w with heap:=w.heap.setIfInBounds kl.b (.loop { L with state:=.exhausted }) }:=by
   have hnb:(L.state == LoopState.busy)=false:=by simpa using hns
   unfold Instr.endLoop
   simp only [Sem.run_bind,zaM l1,Result.andThen_ok,hnb,Bool.false_eq_true,if_false,zaH l1 rfl,Sem.run_pure]
  have hL:({ L with state:=.exhausted,pending:=pend }:Loop) = { L with state:=.exhausted }:=by rw [← l2.pend]
  rw [hL] at M'
  refine Goes.step (m':=lone (c.fr a ds ((L.pending.map Item.code).toList++todo)) (rcs++cs0) { w with heap:=w.heap.setIfInBounds kl.b (.loop { L with state:=.exhausted }) }) (step_lone_go ?_) ?_
  ·simp only [stepG,stepG.exec,Ctx.fr,Sem.runT_eq,hend,GStep.bare_after]
   rfl
  ·refine Goes.run hs hb ?_ hcs M' hne
   rw [l2.pend]
   cases pend with
   | none => exact hk
   | some j => exact ⟨_,_,rfl,rfl,l2.okJ j rfl _,hk⟩
 ·exact Goes.bad
theorem beg_goes (hs:Sim P w0 base ih) (hb:FB B s f c a ds) (hk:IRL B a.size k todo) (hcs:CsR B cs rcs) (M:Mem G w0 base B nx h H w) (hne:(botP (s.g,s.rd.isSome) cs).2=true→cs0≠[]) {l:Nat}(hr:s.rd=some l) :
  Goes G P w0 base B (botP (s.g,s.rd.isSome) cs) cs0 (lone (c.fr a ds (.beginRound::todo)) (rcs++cs0) w) (begA ih l (atB h l) s f k cs nx h):=by
 have hrd:=hb.rd
 rw [hr] at hrd
 cases hcr:c.round with
 | none => rw [hcr] at hrd; exact hrd.elim
 | some b =>
  rw [hcr] at hrd
  obtain ⟨kl,hkl,rfl⟩:=hrd
  unfold begA
  split
  ·rename_i pend fn lf ps assign body dfs hlo
   obtain ⟨L,l1,l2,l3⟩:=M.loop hlo hkl
   rw [zaN]
   obtain ⟨H',M'⟩:=l3 .busy pend (fun c hc => l2.okJ c hc)
   have hL:({ L with state:=.busy,pending:=pend }:Loop) = { L with state:=.busy }:=by rw [← l2.pend]
   rw [hL] at M'
   have hrun:(Instr.beginRound kl.b).run P w = .ok () { w with heap:=w.heap.setIfInBounds kl.b (.loop { L with state:=.busy }) }:=by
    unfold Instr.beginRound
    simp only [Sem.run_bind,zaM l1,Result.andThen_ok,zaH l1 rfl,l2.state,Sem.run_pure]
   refine Goes.step (m':=lone (c.fr a ds todo) (rcs++cs0) { w with heap:=w.heap.setIfInBounds kl.b (.loop { L with state:=.busy }) }) (step_lone_go ?_) (Goes.run hs hb hk hcs M' hne)
   have hr2:(do (Instr.beginRound kl.b); pure .skip:Sem Next).run P w = .ok .skip { w with heap:=w.heap.setIfInBounds kl.b (.loop { L with state:=.busy }) }:=by
    simp only [Sem.run_bind,hrun,Result.andThen_ok,Sem.run_pure]
   simp only [stepG,stepG.exec,Ctx.fr,hcr,Option.elim_some,stepG.apply,Sem.runT_eq,if_true,hr2,GStep.bare_after,Frame.finish]
   rfl
  ·exact Goes.bad
theorem op_goes (hc:CxF P w0 base cx) (hs:Sim P w0 base ih) (hb:FB B s f c a ds) (ho:ops[i]? = some o) (hw:Region.wanted o (yielded ops a)=true) (his:is.map (fun i => ops[i]?)=os.map some) (hok:okOps a.size ops.toList=true) (hk:IRL B a.size k todo) (hcs:CsR B cs rcs) (M:Mem G w0 base B nx h H w) (hne:(botP (s.g,s.rd.isSome) cs).2=true→cs0≠[]) :
  Goes G P w0 base B (botP (s.g,s.rd.isSome) cs) cs0 (lone (c.fr a ds (.inRegion ops (i::is)::todo)) (rcs++cs0) w) ((compP cx ops.toList o os).go ih s f k cs nx h):=by
 unfold compP
 split
 ·exact q_goes hc hs hb ho hw his hok hk hcs M hne
 ·exact m_goes hc hs hb ho hw his hok hk hcs M hne
 ·split
  ·rename_i cl xs ts hop
   exact call_goes hc hs hb ho hw his hok hk hcs M hne hop
  ·exact Goes.bad
 ·rename_i hK
  have hop:∃ xs ts,o.op = .call ⟨.builtin .recover,xs,ts⟩:=by
   unfold opK at hK
   split at hK <;> first | (cases hK; done) | skip
   ·split at hK <;> cases hK
   ·split at hK <;> cases hK
   ·split at hK <;> first | (cases hK; done) | (rename_i heq; exact ⟨_,_,heq⟩)
  obtain ⟨xs,ts,hop⟩:=hop
  exact rec_goes hs hb ho hw his hok hk hcs M hne hop
 ·rename_i x hK
  have hop:o.op = .panic x:=by
   unfold opK at hK
   split at hK <;> first | (cases hK; done) | (cases hK; assumption) | skip
   ·split at hK <;> cases hK
   ·split at hK <;> cases hK
   ·split at hK <;> cases hK
  exact pan_goes hs hb ho hw hcs M hne hop
 ·rename_i cl hK
  have hop:o.op = .defer cl:=by
   unfold opK at hK
   split at hK <;> first | (cases hK; done) | (cases hK; assumption) | skip
   ·split at hK <;> cases hK
   ·split at hK <;> cases hK
   ·split at hK <;> cases hK
  obtain ⟨ce,xs,ts⟩:=cl
  split
  ·rename_i x hx
   have hx:ce = .value x:=hx
   subst hx
   exact def_goes hs hb ho hw his hok hk hcs M hne hop
  ·exact Goes.bad
theorem oper_goes (hc:CxF P w0 base cx) (hs:Sim P w0 base ih) (hb:FB B s f c a ds) (ho:ops[i]? = some o) (his:is.map (fun i => ops[i]?)=os.map some) (hok:okOps a.size ops.toList=true) (hk:IRL B a.size k todo) (hcs:CsR B cs rcs) (M:Mem G w0 base B nx h H w) (hne:(botP (s.g,s.rd.isSome) cs).2=true→cs0≠[]) :
  Goes G P w0 base B (botP (s.g,s.rd.isSome) cs) cs0 (lone (c.fr a ds (.inRegion ops (i::is)::todo)) (rcs++cs0) w) ((compO cx ops.toList o os).go ih s f k cs nx h):=by
 unfold compO
 split
 ·rename_i hg
  exact op_goes hc hs hb ho (by simp [Region.wanted,hg]) his hok hk hcs M hne
 ·rename_i g hg
  simp only [W.go_mk]
  unfold wantK
  split
  ·rename_i hwt
   exact op_goes hc hs hb ho (hb.wanted (by rw [hg]; exact hwt)) his hok hk hcs M hne
  ·rename_i hwt
   have:=hb.wanted (o:=o) (ops:=ops) (b:=false) (by rw [hg]; exact hwt)
   exact zbP hs hb ho his hok hk hcs hne (List.prefix_refl _) M zbJ (.one (zcY ho this))
  ·exact Goes.bad
end
variable {G:List (Nat×Obj)}
section
variable {P:Program}{w0:World}{base:Nat}{cx:Cx}{ih:Run}{B:BB}{s:SF}{f:Fr}{c:Ctx}{a:Array Value}{ds:List Deferred}{cs:List AF}{rcs:List Frame}{nx:Nat}{h:LH}{H:List Seg}{w:World}{cs0:List Frame}{todo:List Item}
theorem res_ok (hc:CxOk P w0 base cx) (hr:HR G B h H) (hb:FB B s f c a ds):∀ (rs:List ResultVar) (vs:List LV),resE cx h f rs=some vs→∃ us,VRL B vs us∧∀ w,Sep w0 base w H →
  (rs.mapM (m:=Sem) fun (r:ResultVar) => match r with
   | .tmp t => (Pure.pure (a.getD t undef):Sem Value)
   | .cell x t => do loadVar t (← asAddr (a.getD x undef))).run P w = .ok us w
 | [],vs,hq => by
  simp only [resE] at hq; cases hq
  exact ⟨[],VRL.nil_,fun w S => rfl⟩
 | .tmp t::rs,vs,hq => by
  simp only [resE] at hq
  split at hq
  ·rename_i vs' hv
   cases hq
   obtain ⟨us,h1,h2⟩:=res_ok hc hr hb rs vs' hv
   refine ⟨a.getD t undef::us,VRL.cons_ (hb.slots t) h1,fun w S => ?_⟩
   rw [List.mapM_cons]
   simp only [Sem.run_bind,Sem.run_pure,Result.andThen_ok,h2 w S]
  ·cases hq
 | .cell x t::rs,vs,hq => by
  simp only [resE] at hq
  split at hq
  ·rename_i vs' hv
   split at hq
   ·rename_i v hl
    cases hq
    obtain ⟨us,h1,h2⟩:=res_ok hc hr hb rs vs' hv
    obtain ⟨p,u,h3,h4,h5⟩:=zfO (X:=ptOf P c a [] w0 base) hc hr hl (hb.slots x)
    refine ⟨u::us,VRL.cons_ h4 h1,fun w S => ?_⟩
    have hp:(asAddr (a.getD x undef)).run P w = .ok p w:=by rw [show a.getD x undef = .pointer (some p) from h3]; rfl
    have h6:(loadVar t p).run P w = .ok u w:=h5 w S
    rw [List.mapM_cons]
    simp only [Sem.run_bind,Sem.run_pure,Result.andThen_ok,h2 w S,hp,h6]
   ·cases hq
  ·cases hq
theorem oneE_ok:∀ {vs:List LV}{us:List Value},VRL B vs us→VR B (oneE vs) (oneOf us)
 | [],us,h => by simp only [VRL] at h; subst h; exact zdf
 | [v],us,h => by
  simp only [VRL] at h; obtain ⟨u,m,rfl,h1,rfl⟩:=h
  exact h1
 | v::v'::vs,us,h => by
  have h0:=h
  simp only [VRL] at h; obtain ⟨u,m,rfl,h1,u',m',rfl,h2⟩:=h
  show VR B (.tup (v::v'::vs)) (.tuple (u::u'::m').toArray)
  simp only [VR]
  exact ⟨_,rfl,by simpa using h0⟩
theorem results_ok (hc:CxOk P w0 base cx) (M:Mem G w0 base B nx h H w) (hb:FB B s f c a ds) {fn:Func}{vs:List LV}(hq:resE cx h f fn.results.toList=some vs):∃ u,VR B (oneE vs) u∧(results fn a).run P w = .ok u w:=by
 obtain ⟨us,h1,h2⟩:=res_ok hc M.hr hb _ _ hq
 refine ⟨oneOf us,oneE_ok h1,?_⟩
 have:=h2 w M.sep
 unfold results
 rw [Array.mapM_eq_mapM_toList]
 simp only [Sem.run_bind,map_eq_pure_bind,Sem.run_pure] at this ⊢
 refine Eq.trans ?_ (congrArg (fun r => Result.ok r w) (show (if h:us.toArray.size=1 then us.toArray[0] else .tuple us.toArray)=oneOf us from ?_))
 ·exact (congrArg (fun r => Result.andThen r _) (congrArg (fun r => Result.andThen r _) this)).trans (by simp [Result.andThen_ok])
 ·match us with
  | [] => rfl
  | [v] => rfl
  | v::u::vs => rfl
theorem ADL.app:∀ {l:List AD}{m:List Deferred}{l' : List AD}{m' : List Deferred},ADL B l m→ADL B l' m'→ADL B (l++l') (m++m')
 | [],m,l',m',h,h' => by simp only [ADL] at h; subst h; exact h'
 | a::l,m,l',m',h,h' => by obtain ⟨b,m1,rfl,h1,h2⟩:=h; exact ⟨b,m1++m',rfl,h1,ADL.app h2 h'⟩
theorem CHR.drop:∀ {l:List (LV×Bool)}{m:List PanicEntry},CHR B l m→m.dropWhile (!·.goexit)=[]
 | [],m,h => by simp only [CHR] at h; subst h; rfl
 | p::l,m,h => by
  obtain ⟨u,m1,rfl,h1,h2⟩:=h
  rw [List.dropWhile_cons_of_pos (by rfl)]
  exact CHR.drop h2
theorem retD_goes (hc:CxF P w0 base cx) (hs:Sim P w0 base ih) (hb:FB B s f c a ds) (hcs:CsR B cs rcs) (M:Mem G w0 base B nx h H w) (hne:(botP (s.g,s.rd.isSome) cs).2=true→cs0≠[]) {m:FrameMode}(hm:(match m with | .run => false | _ => true)=true) {mk:SF→AF}
  (hmk:∀ B' s' ds',B <+: B'→FB B' s' f c a ds'→FrR B' (mk s') { c.fr a ds' todo with mode:=m }) (hpair:∀ s',pairOf (mk s')=(s'.g,s'.rd.isSome)) {d:AD}{ads:List AD}(hds:s.ds=d::ads) :
  Goes G P w0 base B (botP (s.g,s.rd.isSome) cs) cs0 (lone { c.fr a ds todo with mode:=m } (rcs++cs0) w) (retD cx ih s mk d ads cs nx h):=by
 have hd:=hb.ds
 rw [hds] at hd
 obtain ⟨d',ds',rfl,hd1,hd2⟩:=hd
 unfold retD
 split
 ·rename_i r
  obtain ⟨kr,hkr,rfl⟩:=hd1
  unfold takeE
  split
  ·rename_i es hes
   rw [zaN]
   obtain ⟨ds0,d1,d2,d3⟩:=M.defd hes hkr
   cases ds0 with
   | none => exact d2.elim
   | some ds0 =>
    obtain ⟨H',M'⟩:=d3 none none trivial
    have hrun:(Instr.takeDeferred kr.b).run P w = .ok ds0 { w with heap:=w.heap.setIfInBounds kr.b (.deferred none) }:=by
     unfold Instr.takeDeferred
     have h1:(getObj kr.b).run P w = .ok (.deferred (some ds0)) w:=by simp [getObj,Sem.run,d1]
     simp only [Sem.run_bind,h1,Result.andThen_ok,zaH d1 rfl,Sem.run_pure]
    have happ:ADL B (es++ads) (ds0++ds'):=ADL.app d2 hd2
    have hb2:FB B ⟨s.g,es++ads,s.dfd,s.rd⟩ f c a (ds0++ds'):=⟨hb.fn,hb.kind,hb.rd,hb.slots,hb.bound,happ⟩
    refine Goes.step (m':=lone { c.fr a (ds0++ds') todo with mode:=m } (rcs++cs0) { w with heap:=w.heap.setIfInBounds kr.b (.deferred none) }) (step_lone_go ?_) ?_
    ·cases m with
     | run => cases hm
     | returning => simp only [stepG,unwind,Ctx.fr,Sem.runT_eq,hrun,GStep.bare_after]; rfl
     | panicking ch => simp only [stepG,unwind,Ctx.fr,Sem.runT_eq,hrun,GStep.bare_after]; rfl
    ·have hp:=hpair ⟨s.g,es++ads,s.dfd,s.rd⟩
     have:=hs (mk ⟨s.g,es++ads,s.dfd,s.rd⟩) cs nx _ B _ rcs _ H' (hmk B _ _ (List.prefix_refl _) hb2) hcs M' cs0 (by rw [hp]; exact hne)
     rw [hp] at this
     exact this
  ·exact Goes.bad
 ·rename_i g args
  obtain ⟨cap,zs,rfl,hu⟩:=hd1
  have hb2:FB B ⟨s.g,ads,s.dfd,s.rd⟩ f c a ds':=⟨hb.fn,hb.kind,hb.rd,hb.slots,hb.bound,hd2⟩
  have hp:=hpair ⟨s.g,ads,s.dfd,s.rd⟩
  have hbot:botP (g,false) (mk ⟨s.g,ads,s.dfd,s.rd⟩::cs)=botP (s.g,s.rd.isSome) cs:=by
   show botP (pairOf _) cs=_
   rw [hp]
  rw [← hbot] at hne ⊢
  refine zbI (dfd:=true) hc hs hu (cs:=mk ⟨s.g,ads,s.dfd,s.rd⟩::cs) (rcs:={ c.fr a ds' todo with mode:=m }::rcs) ⟨_,_,rfl,hmk B _ _ (List.prefix_refl _) hb2,hcs⟩ M hne fun hbody => .one (step_lone_go ?_)
  have e:zs++cap=(zs.toList++cap.toList).toArray:=by
   apply Array.ext'
   simp
  have hinv:(invoke (.fn (.func g) cap) zs).run P w = .ok (.enter g (zs++cap)) w:=by simp [invoke,zbt hbody]
  rw [← e]
  cases m with
  | run => cases hm
  | returning =>
   simp only [stepG,unwind,Ctx.fr,callDeferred,Bool.and_false,Bool.false_eq_true,if_false,Sem.runT_eq,hinv,GStep.bare_after]
   rfl
  | panicking ch =>
   simp only [stepG,unwind,Ctx.fr,callDeferred,Bool.false_and,Bool.false_eq_true,if_false,Sem.runT_eq,hinv,GStep.bare_after]
   rfl
theorem ret_goes (hc:CxF P w0 base cx) (hs:Sim P w0 base ih) (hb:FB B s f c a ds) (hcs:CsR B cs rcs) (M:Mem G w0 base B nx h H w) (hne:(botP (s.g,s.rd.isSome) cs).2=true→cs0≠[]) :
  Goes G P w0 base B (botP (s.g,s.rd.isSome) cs) cs0 (lone { c.fr a ds todo with mode:=.returning } (rcs++cs0) w) (retA cx ih s f cs nx h):=by
 unfold retA
 split
 ·rename_i d ads hds
  exact retD_goes hc hs hb hcs M hne (m:=.returning) rfl (mk:=fun s => .ret s f) (fun B' s' ds' hp hb' => ⟨c,a,ds',todo,hb',rfl⟩) (fun _ => rfl) hds
 ·rename_i hds
  have hd:=hb.ds
  rw [hds] at hd
  have hd:ds=[]:=hd
  subst hd
  unfold retE
  split
  ·rename_i fn hf
   obtain ⟨hf,_⟩:=hc.fn _ _ hf
   rw [← hb.fn] at hf
   split
   ·rename_i vs hvs
    obtain ⟨u,hu,hrun⟩:=results_ok hc.ok M hb hvs
    unfold backA
    split
    ·split
     ·rename_i hdf
      simp only [CsR] at hcs
      subst hcs
      have hleave:Frame.leaving P { c.fr a [] todo with mode:=.returning } w (.returned u):=⟨rfl,rfl,by show c.kind=_; rw [hb.kind,hdf],fn,hf,hrun⟩
      intro v' nx' h' e
      cases e
      cases hrd:s.rd with
      | none => exact ⟨_,.refl P _,u,B,H,w,List.prefix_refl _,M.len,hu,M.hr,M.sep,_,rfl,hb.fn,hleave⟩
      | some l =>
       have hne:=hne (by rw [hrd]; rfl)
       cases cs0 with
       | nil => exact absurd rfl hne
       | cons c0 cs1 => exact ⟨_,.one (step_leave_returned hleave),u,B,H,w,List.prefix_refl _,M.len,hu,M.hr,M.sep,c0,cs1,rfl,rfl⟩
     ·exact Goes.bad
    ·rename_i c' cs'
     obtain ⟨b,rcs,rfl,hfr,hcs⟩:=hcs
     split
     ·rename_i hdf
      have hleave:Frame.leaving P { c.fr a [] todo with mode:=.returning } w (.returned u):=⟨rfl,rfl,by show c.kind=_; rw [hb.kind,hdf],fn,hf,hrun⟩
      exact Goes.step (step_leave_returned hleave) (zd8 hs hfr hcs M hne hu)
     ·rename_i hdf
      have hkind:c.kind = .deferred:=by rw [hb.kind,hdf]
      have main:∀ b',FrR B (afterA c') b'→pairOf (afterA c')=pairOf c'→step P (lone { c.fr a [] todo with mode:=.returning } (b::(rcs++cs0)) w) = .next (lone b' (rcs++cs0) w)→Goes G P w0 base B (botP (pairOf c') cs') cs0 (lone { c.fr a [] todo with mode:=.returning } (b::(rcs++cs0)) w) (ih (afterA c') cs' nx h):=by
       intro b' h1 h2 h3
       have:=hs (afterA c') cs' nx h B b' rcs w H h1 hcs M cs0 (by rw [h2]; exact hne)
       rw [h2] at this
       exact Goes.step h3 this
      have st:∀ b',(match b.mode with | .panicking ({ recovered:=true,.. }::older) => (match older.dropWhile (!·.goexit) with | [] => { b with mode:=.returning } | rest => { b with mode:=.panicking rest }) | _ => b)=b'→step P (lone { c.fr a [] todo with mode:=.returning } (b::(rcs++cs0)) w) = .next (lone b' (rcs++cs0) w):=by
       rintro b' rfl
       refine step_lone_go ?_
       simp only [Ctx.fr,stepG,unwind,hf,doReturn,hkind]
       simp only [Sem.runT_eq,hrun,GStep.bare_after]
       rfl
      cases c' with
      | run s' f' k' =>
       obtain ⟨c1,a1,ds1,todo1,hb1,hk1,rfl⟩:=hfr
       exact main _ ⟨c1,a1,ds1,todo1,hb1,hk1,rfl⟩ rfl (st _ rfl)
      | ret s' f' =>
       obtain ⟨c1,a1,ds1,todo1,hb1,rfl⟩:=hfr
       exact main _ ⟨c1,a1,ds1,todo1,hb1,rfl⟩ rfl (st _ rfl)
      | pan s' f' ch =>
       obtain ⟨c1,a1,ds1,todo1,ch1,hb1,hch,rfl⟩:=hfr
       cases ch with
       | nil =>
        simp only [CHR] at hch
        subst hch
        exact main _ ⟨c1,a1,ds1,todo1,[],hb1,rfl,rfl⟩ rfl (st _ rfl)
       | cons p ch =>
        obtain ⟨v,r⟩:=p
        obtain ⟨u1,m1,rfl,g1,g2⟩:=hch
        cases r with
        | false => exact main _ ⟨c1,a1,ds1,todo1,_,hb1,⟨u1,m1,rfl,g1,g2⟩,rfl⟩ rfl (st _ rfl)
        | true =>
         have hdrop:m1.dropWhile (!·.goexit)=[]:=g2.drop
         exact main { c1.fr a1 ds1 todo1 with mode:=.returning } ⟨c1,a1,ds1,todo1,hb1,rfl⟩ rfl (st _ (by simp only [hdrop]))
   ·exact Goes.bad
  ·exact Goes.bad
theorem zfG (hc:CxF P w0 base cx) (hs:Sim P w0 base ih) (hb:FB B s f c a ds) (hcs:CsR B cs rcs) (M:Mem G w0 base B nx h H w) (hne:(botP (s.g,s.rd.isSome) cs).2=true→cs0≠[]) {ch:List (LV×Bool)}{ch' : List PanicEntry}(hch:CHR B ch ch') :
  Goes G P w0 base B (botP (s.g,s.rd.isSome) cs) cs0 (lone { c.fr a ds todo with mode:=.panicking ch' } (rcs++cs0) w) (panA cx ih s f ch cs nx h):=by
 unfold panA
 split
 ·rename_i d ads hds
  exact retD_goes hc hs hb hcs M hne (m:=.panicking ch') rfl (mk:=fun s => .pan s f ch) (fun B' s' ds' hp hb' => ⟨c,a,ds',todo,ch',hb',by
   have:∀ {l:List (LV×Bool)}{m:List PanicEntry},CHR B l m→CHR B' l m:=fun h => h.mono hp
   exact this hch,rfl⟩) (fun _ => rfl) hds
 ·rename_i hds
  have hd:=hb.ds
  rw [hds] at hd
  have hd:ds=[]:=hd
  subst hd
  split
  ·rename_i fn c' cs' hf
   obtain ⟨hf,_⟩:=hc.fn _ _ hf
   rw [← hb.fn] at hf
   obtain ⟨b,rcs,rfl,hfr,hcs⟩:=hcs
   have hst:step P (lone { c.fr a [] todo with mode:=.panicking ch' } (b::(rcs++cs0)) w) = .next (lone (b.raise ch') (rcs++cs0) w) :=
    step_leave_panicked ⟨rfl,rfl,fn,hf⟩
   have hraise:FrR B (raiseA c' ch) (b.raise ch')∧pairOf (raiseA c' ch)=pairOf c':=by
    cases c' with
    | run s' f' k' =>
     obtain ⟨c1,a1,ds1,todo1,hb1,hk1,rfl⟩:=hfr
     exact ⟨⟨c1,a1,ds1,todo1,ch',hb1,hch,rfl⟩,rfl⟩
    | ret s' f' =>
     obtain ⟨c1,a1,ds1,todo1,hb1,rfl⟩:=hfr
     exact ⟨⟨c1,a1,ds1,todo1,ch',hb1,hch,rfl⟩,rfl⟩
    | pan s' f' ch0 =>
     obtain ⟨c1,a1,ds1,todo1,ch1,hb1,hch1,rfl⟩:=hfr
     exact ⟨⟨c1,a1,ds1,todo1,ch'++ch1,hb1,hch.app hch1,rfl⟩,rfl⟩
   have:=hs (raiseA c' ch) cs' nx h B _ rcs w H hraise.1 hcs M cs0 (by rw [hraise.2]; exact hne)
   rw [hraise.2] at this
   exact Goes.step hst this
  ·exact Goes.bad
end
end Go.Proofs.YtdncjmehhahidaaGreatDoor
