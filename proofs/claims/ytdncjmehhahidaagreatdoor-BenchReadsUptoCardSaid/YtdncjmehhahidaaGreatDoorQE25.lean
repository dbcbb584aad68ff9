/- BenchReads: the law holds of every input: it returns true, and each argument reads as it did. -/
import Derived.Test.YtdncjmehhahidaaGreatDoorQE06
import Derived.Test.YtdncjmehhahidaaGreatDoorQE08
import Derived.Test.YtdncjmehhahidaaGreatDoorQE24
import Derived.Test.YtdncjmehhahidaaGreatDoorFKL
import Derived.Test.YtdncjmehhahidaaGreatDoorBRJ
import Derived.Test.YtdncjmehhahidaaGreatDoorTi
namespace Go.Proofs.YtdncjmehhahidaaGreatDoor.pBenchReads
set_option maxHeartbeats 400000
open Go.ChangeShapes Go.WideShapes Go.ChangeAt Go.RowKit Go.Deep
open Go.ChangeMaps (open_string shut_string)
set_option linter.unusedVariables false
set_option maxRecDepth 100000 in
theorem lifted (os:Os) (started:os.Started) (H:Type) (enc:TypeId×Value→H) (F:Stop.Interp) :
  ReturnsInHanded {} Tryz.checked os 6 .any (fun w args => ((Rows.OpenSpec.upto Rows.benchReadsSpec).pre enc Tryz.prog Tryz.f6 Rows.benchReadsUptoRow.domain false w args∧laidMetH Tryz.prog [("unicode/utf8.first",Rows.laid_unicode_utf8_first),("unicode/utf8.acceptRanges",Rows.laid_unicode_utf8_acceptRanges),("strconv.ErrSyntax",Rows.laid_strconv_ErrSyntax),("strconv.ErrRange",Rows.laid_strconv_ErrRange),("internal/strconv.uint64pow10",Rows.laid_internal_strconv_uint64pow10),("math/bits.deBruijn32tab",Rows.laid_math_bits_deBruijn32tab),("math/bits.deBruijn64tab",Rows.laid_math_bits_deBruijn64tab)] w)∧sizedMet enc Tryz.prog Tryz.f6 (Rows.OpenSpec.upto Rows.benchReadsSpec) false w args) (((Rows.OpenSpec.upto Rows.benchReadsSpec).at F).post enc Tryz.prog Tryz.f6 false true false false):=by
 refine returns_upto (k:=Rows.uptoSmall) (s:=(Rows.OpenSpec.upto Rows.benchReadsSpec)) rfl (C:=Tryz.checked) (X:=fun w _ => laidMetH Tryz.prog [("unicode/utf8.first",Rows.laid_unicode_utf8_first),("unicode/utf8.acceptRanges",Rows.laid_unicode_utf8_acceptRanges),("strconv.ErrSyntax",Rows.laid_strconv_ErrSyntax),("strconv.ErrRange",Rows.laid_strconv_ErrRange),("internal/strconv.uint64pow10",Rows.laid_internal_strconv_uint64pow10),("math/bits.deBruijn32tab",Rows.laid_math_bits_deBruijn32tab),("math/bits.deBruijn64tab",Rows.laid_math_bits_deBruijn64tab)] w) (fun _ _ _ hh h => h.of_heap hh) pBenchKnown.own started wi0 Tryz.func6
  (witness_upto (k:=Rows.uptoSmall) (s:=(Rows.OpenSpec.upto Rows.benchReadsSpec)) rfl (enc:=enc) (C:=Tryz.checked) (os:=os) (X:=fun w _ => laidMetH Tryz.prog [("unicode/utf8.first",Rows.laid_unicode_utf8_first),("unicode/utf8.acceptRanges",Rows.laid_unicode_utf8_acceptRanges),("strconv.ErrSyntax",Rows.laid_strconv_ErrSyntax),("strconv.ErrRange",Rows.laid_strconv_ErrRange),("internal/strconv.uint64pow10",Rows.laid_internal_strconv_uint64pow10),("math/bits.deBruijn32tab",Rows.laid_math_bits_deBruijn32tab),("math/bits.deBruijn64tab",Rows.laid_math_bits_deBruijn64tab)] w) false (World.laidAll Tryz.prog os [("unicode/utf8.first",Rows.laid_unicode_utf8_first),("unicode/utf8.acceptRanges",Rows.laid_unicode_utf8_acceptRanges),("strconv.ErrSyntax",Rows.laid_strconv_ErrSyntax),("strconv.ErrRange",Rows.laid_strconv_ErrRange),("internal/strconv.uint64pow10",Rows.laid_internal_strconv_uint64pow10),("math/bits.deBruijn32tab",Rows.laid_math_bits_deBruijn32tab),("math/bits.deBruijn64tab",Rows.laid_math_bits_deBruijn64tab)]) #[.int .i64 0,.slice none 0 0] 8 (World.laidAll_os _ _ _) (World.shaped_of_ZipB (pBenchKnown.wi1 os) (pBenchKnown.wi2 os)) (wi3 os) (wi4 os H enc) (wc os H) (wk H) (wi5 os H enc) (by rw [MakeChecks.laidMetH_plain _ _ _ pBenchKnown.wi6]; exact laidMet_laidAll _ (pBenchKnown.wi7 os) (pBenchKnown.wi8 os))) ?_
 intro W base args ds gs before hval0 hW hcnd hkk hlaid hsh
 have hlaid' : laidMet Tryz.prog [("unicode/utf8.first",Rows.laid_unicode_utf8_first),("unicode/utf8.acceptRanges",Rows.laid_unicode_utf8_acceptRanges),("strconv.ErrSyntax",Rows.laid_strconv_ErrSyntax),("strconv.ErrRange",Rows.laid_strconv_ErrRange),("internal/strconv.uint64pow10",Rows.laid_internal_strconv_uint64pow10),("math/bits.deBruijn32tab",Rows.laid_math_bits_deBruijn32tab),("math/bits.deBruijn64tab",Rows.laid_math_bits_deBruijn64tab)] W:=hlaid
 have hT10:Tab10 W W.heap.size:=tab10_of (Go.Lib.laidMet.reads hlaid' (n:= "internal/strconv.uint64pow10") (d:=Rows.laid_internal_strconv_uint64pow10) (.tail _ (.tail _ (.tail _ (.tail _ (.head _))))))
 have hML:MaxL W W.heap.size:=maxl_of hsh
 have hval:∀ (j:Nat) t v,Tryz.f6.params[j]? = some t→args[j]? = some v→Value.okWide Tryz.prog W .any base t v:=hval0
 have hW':=hW
 obtain ⟨p,q,hA0,hV,rfl,hfz,hnd⟩:=hW
 have hA:DataW.TrodAll enc Tryz.prog W 0 (fun _ => true) true Tryz.f6.params.toList args.toList ds p:=hA0
 rw [Tryz.params6] at hA hval
 obtain ⟨v0,vs0,d0,ds0,p0,q0,hargs,rfl,rfl,h0,tr0⟩:=trodAll_cons hA
 obtain ⟨v1,vs1,d1,ds1,p1,q1,rfl,rfl,rfl,h1,tr1⟩:=trodAll_cons tr0
 obtain ⟨rfl,rfl,rfl⟩:=trodAll_nil tr1
 obtain rfl:args = #[v0,v1]:=by cases args; simp_all
 obtain ⟨rfl,rfl⟩:=trodVars_none hV
 have hbk1:Rows.uptoBulk d1≤1048576:=by
  have h9:Rows.uptoBulkAll ([d0,d1]++[])≤1048576:=of_decide_eq_true hkk
  simp only [List.append_nil,Rows.uptoBulkAll] at h9
  omega
 have hbk0:Rows.uptoBulk d0≤1048576:=by
  have h9:Rows.uptoBulkAll ([d0,d1]++[])≤1048576:=of_decide_eq_true hkk
  simp only [List.append_nil,Rows.uptoBulkAll] at h9
  omega
 have k0:=h0
 have lt0:∀ x ∈ p0,x.block < W.heap.size:=by obtain ⟨m,hm⟩:=k0; exact DataW.trod_lt m _ _ _ hm
 obtain ⟨a0,rfl,w0⟩:=arg_intB Tryz.underlying3 (hval 0 3 v0 rfl rfl) h0 hbk0
 have k1:=h1
 have lt1:∀ x ∈ p1,x.block < W.heap.size:=by obtain ⟨m,hm⟩:=k1; exact DataW.trod_lt m _ _ _ hm
 obtain ⟨A1,C1,l1,rfl,r1,q1⟩:=arg_sliceB Tryz.underlying73 (by kernel_rfl) (by decide) 32 (by kernel_rfl) (RdsB.struct (T:=tyQn) (Q':=fun x => x.1.length≤1048576) (RdsFB.cons 0 1 9 (by kernel_rfl) (RdsB.str Tryz.underlying9) (RdsFB.cons 1 1 3 (by kernel_rfl) (RdsB.int Tryz.underlying3) (RdsFB.cons 2 1 3 (by kernel_rfl) (RdsB.int Tryz.underlying3) (RdsFB.nil 3)))) (fun (b:List UInt8×Int×Int×Unit) => (b.1,b.2.1,b.2.2.1)) Tryz.underlying86 rfl (by kernel_rfl) (fun _ => rfl) (by intro b h; exact h.1)) (hval 1 73 v1 rfl rfl) h1 hbk1
 clear hA0 hval0
 refine (law_of (zf3 r1 (fun q hq => q1 q hq) hT10 hML)).mono fun e W' ⟨he,bel⟩ => ?_
 subst he
 exact ⟨_,rfl,_,_,_,[],_,[],hW',trodAll_mk1 (shut_bool Tryz.underlying4 _),(trodAll_cons_mk (Below.trod laidOut (by kernel_rfl) (of_decide_eq_true (by kernel_rfl)) k0 bel lt0) (trodAll_cons_mk (Below.trod laidOut (by kernel_rfl) (of_decide_eq_true (by kernel_rfl)) k1 bel lt1) trodAll_mk0)),rfl,bel.frame _,fun h => by cases h⟩
theorem over:Rows.benchReadsUptoRow.holds Tryz.pinned (Rows.OpenSpec.upto Rows.benchReadsSpec) :=
 OpenClaim.holds_of_cond 6 Tryz.f6 rfl rfl rfl rfl rfl rfl rfl ⟨rfl,rfl,rfl,rfl,rfl⟩ rfl rfl rfl rfl rfl (by kernel_rfl) Tryz.func6 jall
  (of_decide_eq_true (by kernel_rfl)) (by unfold Func.isWrapper; first | (rw [if_pos (by decide +kernel)]; kernel_rfl) | (rw [if_neg (by decide +kernel)]; exact ⟨rfl,rfl⟩))
  (fun os started H enc _ F => lifted os started H enc F)
theorem pf0:Rows.benchReadsUptoRow.wfByText (Rows.OpenSpec.upto Rows.benchReadsSpec)=true:=by kernel_rfl
theorem pf3:false=Rows.benchReadsUptoRow.goesBy Tryz.prog:=goes_of no_goes _
theorem proved:Rows.BenchReadsUptoCardSaid :=
 Claim7.holds_tied_plain_at .later [] [.pinned,.data,.sentinel,.sentinel,.data,.data,.data] true (true, "0407d82ba0e12436fa12fcec87ac83b18c854b01f82920dc8001d9f9f3be07b0") true
  over (fun _ h => by cases h) pf0 (fun _ h => by cases h) benchReadsUpto_row_tie rfl ⟨rfl,rfl⟩ seat_main rfl
  (fun f fn hf hfn => by
   obtain rfl:f=6:=Option.some.inj ((show Tryz.prog.funcNamed "ostiary/ostiarylaw32.BenchReads" = some 6 by kernel_rfl).symm.trans hf) |>.symm
   obtain rfl:fn=Tryz.f6:=(Option.some.inj (Tryz.func6.symm.trans hfn)).symm
   exact ⟨seat_looks,fun j t ht => by
    rw [Tryz.params6] at ht
    have hm:t ∈ ([3,73]:List Nat):=by simpa using Array.mem_of_getElem? ht
    have hall:(([3,73]:List Nat).all fun u => !Tryz.prog.wantsStandIn u)=true:=by kernel_rfl
    exact (show Tryz.prog.wantsStandIn t=false by simpa using List.all_eq_true.1 hall t hm)⟩)
  pf3
end Go.Proofs.YtdncjmehhahidaaGreatDoor.pBenchReads
