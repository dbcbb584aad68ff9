/- TopCarried: the law holds of every input: it returns true, and each argument reads as it did. -/
import Derived.Test.YtjmnjkoekabioaaGreatDoorQC01
import Derived.Test.YtjmnjkoekabioaaGreatDoorQC14
import Derived.Test.YtjmnjkoekabioaaGreatDoorQC15
import Derived.Test.YtjmnjkoekabioaaGreatDoorQC19
import Derived.Test.YtjmnjkoekabioaaGreatDoorQC20
import Derived.Test.YtjmnjkoekabioaaGreatDoorQC21
namespace Go.Proofs.YtjmnjkoekabioaaGreatDoor.pTopCarried
set_option maxHeartbeats 400000
open Go.ChangeShapes Go.WideShapes Go.ChangeAt Go.RowKit Go.Deep
open Go.ChangeMaps (open_string shut_string)
set_option linter.unusedVariables false
set_option maxRecDepth 100000 in
theorem lifted (os:Os) (started:os.Started) (H:Type) (enc:TypeId×Value→H) :
  ReturnsInHanded {} Tryz.checked os 3 .any (fun w args => (Rows.topCarriedSpec.pre enc Tryz.prog Tryz.f3 Rows.topCarriedRow.domain false w args∧laidMetH Tryz.prog [("unicode/utf8.first",Rows.laid_unicode_utf8_first),("unicode/utf8.acceptRanges",Rows.laid_unicode_utf8_acceptRanges),("strconv.ErrSyntax",Rows.laid_strconv_ErrSyntax),("strconv.ErrRange",Rows.laid_strconv_ErrRange),("internal/strconv.uint64pow10",Rows.laid_internal_strconv_uint64pow10),("math/bits.deBruijn32tab",Rows.laid_math_bits_deBruijn32tab),("math/bits.deBruijn64tab",Rows.laid_math_bits_deBruijn64tab),("bytes.ErrTooLarge",Rows.laid_bytes_ErrTooLarge)] w)∧sizedMet enc Tryz.prog Tryz.f3 (OpenSpec.ofChange Rows.topCarriedSpec) false w args) (Rows.topCarriedSpec.post enc Tryz.prog Tryz.f3 false true false false):=by
 refine zjI (C:=Tryz.checked) (X:=fun w _ => laidMetH Tryz.prog [("unicode/utf8.first",Rows.laid_unicode_utf8_first),("unicode/utf8.acceptRanges",Rows.laid_unicode_utf8_acceptRanges),("strconv.ErrSyntax",Rows.laid_strconv_ErrSyntax),("strconv.ErrRange",Rows.laid_strconv_ErrRange),("internal/strconv.uint64pow10",Rows.laid_internal_strconv_uint64pow10),("math/bits.deBruijn32tab",Rows.laid_math_bits_deBruijn32tab),("math/bits.deBruijn64tab",Rows.laid_math_bits_deBruijn64tab),("bytes.ErrTooLarge",Rows.laid_bytes_ErrTooLarge)] w) (fun _ _ _ hh h => h.of_heap hh) own started wi0 Tryz.func3
  (ChangeSpec.witness_shaped (enc:=enc) (C:=Tryz.checked) (os:=os) (X:=fun w _ => laidMetH Tryz.prog [("unicode/utf8.first",Rows.laid_unicode_utf8_first),("unicode/utf8.acceptRanges",Rows.laid_unicode_utf8_acceptRanges),("strconv.ErrSyntax",Rows.laid_strconv_ErrSyntax),("strconv.ErrRange",Rows.laid_strconv_ErrRange),("internal/strconv.uint64pow10",Rows.laid_internal_strconv_uint64pow10),("math/bits.deBruijn32tab",Rows.laid_math_bits_deBruijn32tab),("math/bits.deBruijn64tab",Rows.laid_math_bits_deBruijn64tab),("bytes.ErrTooLarge",Rows.laid_bytes_ErrTooLarge)] w) false (World.laidAll Tryz.prog os [("unicode/utf8.first",Rows.laid_unicode_utf8_first),("unicode/utf8.acceptRanges",Rows.laid_unicode_utf8_acceptRanges),("strconv.ErrSyntax",Rows.laid_strconv_ErrSyntax),("strconv.ErrRange",Rows.laid_strconv_ErrRange),("internal/strconv.uint64pow10",Rows.laid_internal_strconv_uint64pow10),("math/bits.deBruijn32tab",Rows.laid_math_bits_deBruijn32tab),("math/bits.deBruijn64tab",Rows.laid_math_bits_deBruijn64tab),("bytes.ErrTooLarge",Rows.laid_bytes_ErrTooLarge)]) #[.agg #[vV 0,vV 0,.slice none 0 0,.slice none 0 0,.slice none 0 0,.slice none 0 0],vV 0,vV 0] 8 (World.laidAll_os _ _ _) (World.shaped_of_ZipB (wi1 os) (wi2 os)) (wi3 os) (wi4 os H enc) (wi5 os H enc) (by rw [MakeChecks.laidMetH_plain _ _ _ wi6]; exact laidMet_laidAll _ (wi7 os) (wi8 os))) ?_
 intro W base args ds gs before hval0 hW hcnd hsz0 hlaid hsh
 have hlaid' : laidMet Tryz.prog [("unicode/utf8.first",Rows.laid_unicode_utf8_first),("unicode/utf8.acceptRanges",Rows.laid_unicode_utf8_acceptRanges),("strconv.ErrSyntax",Rows.laid_strconv_ErrSyntax),("strconv.ErrRange",Rows.laid_strconv_ErrRange),("internal/strconv.uint64pow10",Rows.laid_internal_strconv_uint64pow10),("math/bits.deBruijn32tab",Rows.laid_math_bits_deBruijn32tab),("math/bits.deBruijn64tab",Rows.laid_math_bits_deBruijn64tab),("bytes.ErrTooLarge",Rows.laid_bytes_ErrTooLarge)] W:=hlaid
 have hTabs:Tabs W W.heap.size:=zyI hsh (Go.Lib.laidMet.reads hlaid' (n:= "unicode/utf8.first") (d:=Rows.laid_unicode_utf8_first) (.head _)) (Go.Lib.laidMet.reads hlaid' (n:= "unicode/utf8.acceptRanges") (d:=Rows.laid_unicode_utf8_acceptRanges) (.tail _ (.head _)))
 have hT10:Tab10 W W.heap.size:=zvq (Go.Lib.laidMet.reads hlaid' (n:= "internal/strconv.uint64pow10") (d:=Rows.laid_internal_strconv_uint64pow10) (.tail _ (.tail _ (.tail _ (.tail _ (.head _))))))
 have hET:ErrTab W W.heap.size:=ztA (Go.Lib.laidMet.reads hlaid' (n:= "strconv.ErrSyntax") (d:=Rows.laid_strconv_ErrSyntax) (.tail _ (.tail _ (.head _)))) (Go.Lib.laidMet.reads hlaid' (n:= "strconv.ErrRange") (d:=Rows.laid_strconv_ErrRange) (.tail _ (.tail _ (.tail _ (.head _)))))
 have hsz:∀ (j:Nat) t d,Tryz.f3.params.toList[j]? = some t→ds[j]? = some d→∀ n ∈ d.weights Tryz.prog t,n≤140737488351232:=fun j t d ht hd n hn => by
  have h1:=zDa.1 hsz0 n (DataW.weights_mem_each (j:=j) (t:=t) (d:=d) (by rw [zEa (zDv.1 ht).1]; exact ht) (by rw [zEa (zDv.1 hd).1]; exact hd) n hn)
  exact zDf h1
 have hval:∀ (j:Nat) t v,Tryz.f3.params[j]? = some t→args[j]? = some v→Value.okWide Tryz.prog W .any base t v:=hval0
 have hW':=hW
 obtain ⟨p,q,hA0,hV,rfl,hfz,hnd⟩:=hW
 have hA:DataW.TrodAll enc Tryz.prog W 0 (fun _ => true) true Tryz.f3.params.toList args.toList ds p:=hA0
 rw [Tryz.params3] at hA hval hsz
 obtain ⟨v0,vs0,d0,ds0,p0,q0,hargs,rfl,rfl,h0,tr0⟩:=trodAll_cons hA
 obtain ⟨v1,vs1,d1,ds1,p1,q1,rfl,rfl,rfl,h1,tr1⟩:=trodAll_cons tr0
 obtain ⟨v2,vs2,d2,ds2,p2,q2,rfl,rfl,rfl,h2,tr2⟩:=trodAll_cons tr1
 obtain ⟨rfl,rfl,rfl⟩:=trodAll_nil tr2
 obtain rfl:args = #[v0,v1,v2]:=by cases args; simp_all
 obtain ⟨rfl,rfl⟩:=trodVars_none hV
 have k0:=h0
 have lt0:∀ x ∈ p0,x.block < W.heap.size:=by obtain ⟨m,hm⟩:=k0; exact DataW.trod_lt m _ _ _ hm
 obtain ⟨a0,rfl,q0⟩:=zqZ Tryz.underlying25 (Reads.struct (T:=tyMsg) (Q':=fun x => (Rd tyQn W W.heap.size [] x.2.2.1.A x.2.2.1.C x.2.2.1.l∧x.2.2.1.l.length≤140737488351232)∧(Rd tyRec W W.heap.size [] x.2.2.2.1.A x.2.2.2.1.C x.2.2.2.1.l∧x.2.2.2.1.l.length≤140737488351232)∧(Rd tyRec W W.heap.size [] x.2.2.2.2.1.A x.2.2.2.2.1.C x.2.2.2.2.1.l∧x.2.2.2.2.1.l.length≤140737488351232)∧(Rd tyRec W W.heap.size [] x.2.2.2.2.2.A x.2.2.2.2.2.C x.2.2.2.2.2.l∧x.2.2.2.2.2.l.length≤140737488351232)) (ReadsF.cons 0 1 3 kW (Reads.int Tryz.underlying3) (ReadsF.cons 1 1 3 kW (Reads.int Tryz.underlying3) (ReadsF.cons 2 1 22 kW (Reads.slice Tryz.underlying22 kW kE 32 kW (Reads.struct (T:=tyQn) (Q':=fun x => x.1.length≤140737488351232) (ReadsF.cons 0 1 9 kW (Reads.str Tryz.underlying9) (ReadsF.cons 1 1 3 kW (Reads.int Tryz.underlying3) (ReadsF.cons 2 1 3 kW (Reads.int Tryz.underlying3) (ReadsF.nil 3)))) (fun (b:yB×Int×Int×Unit) => (b.1,b.2.1,b.2.2.1)) Tryz.underlying77 rfl kW (fun _ => rfl) (by intro b h; exact h.1))) (ReadsF.cons 3 1 23 kW (Reads.slice Tryz.underlying23 kW kE 56 kW (Reads.struct (T:=tyRec) (Q':=fun x => x.1.length≤140737488351232∧x.2.2.2.2.length≤140737488351232) (ReadsF.cons 0 1 9 kW (Reads.str Tryz.underlying9) (ReadsF.cons 1 1 3 kW (Reads.int Tryz.underlying3) (ReadsF.cons 2 1 3 kW (Reads.int Tryz.underlying3) (ReadsF.cons 3 1 3 kW (Reads.int Tryz.underlying3) (ReadsF.cons 4 1 9 kW (Reads.str Tryz.underlying9) (ReadsF.nil 5)))))) (fun (b:yB×Int×Int×Int×yB×Unit) => (b.1,b.2.1,b.2.2.1,b.2.2.2.1,b.2.2.2.2.1)) Tryz.underlying51 rfl kW (fun _ => rfl) (by intro b h; exact ⟨h.1,h.2.2.2.2.1⟩))) (ReadsF.cons 4 1 23 kW (Reads.slice Tryz.underlying23 kW kE 56 kW (Reads.struct (T:=tyRec) (Q':=fun x => x.1.length≤140737488351232∧x.2.2.2.2.length≤140737488351232) (ReadsF.cons 0 1 9 kW (Reads.str Tryz.underlying9) (ReadsF.cons 1 1 3 kW (Reads.int Tryz.underlying3) (ReadsF.cons 2 1 3 kW (Reads.int Tryz.underlying3) (ReadsF.cons 3 1 3 kW (Reads.int Tryz.underlying3) (ReadsF.cons 4 1 9 kW (Reads.str Tryz.underlying9) (ReadsF.nil 5)))))) (fun b => (b.1,b.2.1,b.2.2.1,b.2.2.2.1,b.2.2.2.2.1)) Tryz.underlying51 rfl kW (fun _ => rfl) (by intro b h; exact ⟨h.1,h.2.2.2.2.1⟩))) (ReadsF.cons 5 1 23 kW (Reads.slice Tryz.underlying23 kW kE 56 kW (Reads.struct (T:=tyRec) (Q':=fun x => x.1.length≤140737488351232∧x.2.2.2.2.length≤140737488351232) (ReadsF.cons 0 1 9 kW (Reads.str Tryz.underlying9) (ReadsF.cons 1 1 3 kW (Reads.int Tryz.underlying3) (ReadsF.cons 2 1 3 kW (Reads.int Tryz.underlying3) (ReadsF.cons 3 1 3 kW (Reads.int Tryz.underlying3) (ReadsF.cons 4 1 9 kW (Reads.str Tryz.underlying9) (ReadsF.nil 5)))))) (fun b => (b.1,b.2.1,b.2.2.1,b.2.2.2.1,b.2.2.2.2.1)) Tryz.underlying51 rfl kW (fun _ => rfl) (by intro b h; exact ⟨h.1,h.2.2.2.2.1⟩))) (ReadsF.nil 6))))))) (fun (b:Int×Int×Vs (yB×Int×Int)×Vs (yB×Int×Int×Int×yB)×Vs (yB×Int×Int×Int×yB)×Vs (yB×Int×Int×Int×yB)×Unit) => (b.1,b.2.1,b.2.2.1,b.2.2.2.1,b.2.2.2.2.1,b.2.2.2.2.2.1)) Tryz.underlying25 rfl kW (fun _ => rfl) (by intro b h; exact ⟨⟨h.2.2.1.1,by have:=h.2.2.1.2.1; dsimp only; omega⟩,⟨h.2.2.2.1.1,by have:=h.2.2.2.1.2.1; dsimp only; omega⟩,⟨h.2.2.2.2.1.1,by have:=h.2.2.2.2.1.2.1; dsimp only; omega⟩,⟨h.2.2.2.2.2.1.1,by have:=h.2.2.2.2.2.1.2.1; dsimp only; omega⟩⟩)) (fun _ => ⟨_,rfl⟩) (hval 0 25 v0 rfl rfl) h0 (hsz 0 25 d0 rfl rfl)
 have k1:=h1
 have lt1:∀ x ∈ p1,x.block < W.heap.size:=by obtain ⟨m,hm⟩:=k1; exact DataW.trod_lt m _ _ _ hm
 obtain ⟨a1,rfl,w1⟩:=zuv Tryz.underlying3 (hval 1 3 v1 rfl rfl) h1 (hsz 1 3 d1 rfl rfl)
 have k2:=h2
 have lt2:∀ x ∈ p2,x.block < W.heap.size:=by obtain ⟨m,hm⟩:=k2; exact DataW.trod_lt m _ _ _ hm
 obtain ⟨a2,rfl,w2⟩:=zuv Tryz.underlying3 (hval 2 3 v2 rfl rfl) h2 (hsz 2 3 d2 rfl rfl)
 clear hA0 hval0
 refine (zB3 (zkO (id:=a0.1) (flags:=a0.2.1) q0.1.1 q0.2.1.1 q0.2.2.1.1 q0.2.2.2.1 ⟨(by have h9:=q0.1.2; omega),(by have h9:=q0.2.1.2; omega),(by have h9:=q0.2.2.1.2; omega),(by have h9:=q0.2.2.2.2; omega)⟩ hTabs hET hT10)).mono fun e W' ⟨he,bel⟩ => ?_
 subst he
 exact ⟨_,Z,_,_,_,[],_,[],hW',trodAll_mk1 (shut_bool Z _),(trodAll_cons_mk (Below.trod laidOut kW (zDf kW) k0 bel lt0) (trodAll_cons_mk (Below.trod laidOut kW (zDf kW) k1 bel lt1) (trodAll_cons_mk (Below.trod laidOut kW (zDf kW) k2 bel lt2) trodAll_mk0))),Z,bel.frame _,fun h => by cases h⟩
theorem over:Rows.topCarriedRow.holds Tryz.pinned (OpenSpec.ofChange Rows.topCarriedSpec) :=
 OpenClaim.holds_of_wide 3 Tryz.f3 rfl rfl rfl rfl rfl rfl rfl ⟨rfl,rfl,rfl,rfl,rfl⟩ rfl rfl rfl rfl rfl kW Tryz.func3 jall
  (zDf kW) (by unfold Func.isWrapper; first | (rw [zDi (by decide +kernel)]; kernel_rfl) | (rw [zDb (by decide +kernel)]; exact ⟨rfl,rfl⟩))
  (fun os started H enc _ => lifted os started H enc)
theorem pf0:Rows.topCarriedRow.wfByText (OpenSpec.ofChange Rows.topCarriedSpec)=true:=by kernel_rfl
theorem proved:Rows.TopCarriedCardSaid :=
 Claim7.holds_tied_plain_at .later [] [.pinned,.data,.sentinel,.sentinel,.data,.data,.data,.sentinel] true (true, "51e88aecaf344ecfd5ecdd4c054d84f4f71a032f2d4028ad7ee47344c851dce9") true
  over (fun _ h => by cases h) pf0 (fun _ h => by cases h) zgA rfl ⟨rfl,rfl⟩ zrU rfl
  (fun f fn hf hfn => by
   obtain rfl:f=3:=zDM ((show Tryz.prog.funcNamed "ostiary/ostiarytop.TopCarried" = some 3 by kernel_rfl).symm.trans hf) |>.symm
   obtain rfl:fn=Tryz.f3:=(zDM (Tryz.func3.symm.trans hfn)).symm
   exact ⟨zqh,fun j t ht => by
    rw [Tryz.params3] at ht
    have hm:t ∈ ([25,3,3]:List Nat):=by simpa using Array.mem_of_getElem? ht
    have hall:(([25,3,3]:List Nat).all fun u => !Tryz.prog.wantsStandIn u)=true:=by kernel_rfl
    exact (show Tryz.prog.wantsStandIn t=false by simpa using zDa.1 hall t hm)⟩)
  pf3
end Go.Proofs.YtjmnjkoekabioaaGreatDoor.pTopCarried
