/- Parts of the proof. -/
import Derived.Test.YtjmnjkoekabioaaGreatDoorQC08
namespace Go.Proofs.YtjmnjkoekabioaaGreatDoor
set_option maxHeartbeats 400000
open Go
def tiL:List (String×DataW Unit):=[("unicode/utf8.acceptRanges",Rows.laid_unicode_utf8_acceptRanges),("strconv.ErrSyntax",Rows.laid_strconv_ErrSyntax),("strconv.ErrRange",Rows.laid_strconv_ErrRange),("internal/strconv.uint64pow10",Rows.laid_internal_strconv_uint64pow10),("math/bits.deBruijn32tab",Rows.laid_math_bits_deBruijn32tab),("math/bits.deBruijn64tab",Rows.laid_math_bits_deBruijn64tab),("bytes.ErrTooLarge",Rows.laid_bytes_ErrTooLarge)]
def tiK:List LaidKind:=[.data,.sentinel,.sentinel,.data,.data,.data,.sentinel]
theorem ti1:Tryz.prog.worded (varsWordLater true)=true:=by kernel_rfl
theorem ti2:Tryz.prog.worded (varsWordLater !true)=false:=by kernel_rfl
theorem ti3:Tryz.prog.worded rootWordLater=true:=by kernel_rfl
theorem ti4:tiL.map (fun x => Tryz.prog.kindOfLater x.1)=tiK.map some:=by kernel_rfl
theorem ti5:(Tryz.prog.funcNamed "gosem.cut.vars").isSome=true:=by kernel_rfl
theorem ti6:varsNamedLaterB Tryz.prog (varsId Tryz.prog) tiL=true:=by kernel_rfl
theorem ti7:∀ os tape,varsDone Tryz.prog 400 (varsId Tryz.prog) os tape=true:=fun _ _ => by kernel_rfl
theorem ti8:∀ os tape,(DataW.laidRun Tryz.prog (varsWorld Tryz.prog 400 (varsId Tryz.prog) os tape).memory 8 (tiL.map (·.1))).map (·.1)=some tiL:=fun _ _ => by kernel_rfl
theorem ti9:∀ os tape,(DataW.laidRun Tryz.prog (varsWorld Tryz.prog 400 (varsId Tryz.prog) os tape).memory 8 (tiL.map (·.1))).map (fun x => decide x.2.Nodup && laidRowsB Tryz.prog (varsWorld Tryz.prog 400 (varsId Tryz.prog) os tape).memory x.2)=some true:=fun _ _ => by kernel_rfl
theorem ti10:(tiL.all fun x => x.2.handleName?.isNone)=true:=by kernel_rfl
theorem tie:Tryz.prog.laidByTextLater [("unicode/utf8.acceptRanges",Rows.laid_unicode_utf8_acceptRanges),("strconv.ErrSyntax",Rows.laid_strconv_ErrSyntax),("strconv.ErrRange",Rows.laid_strconv_ErrRange),("internal/strconv.uint64pow10",Rows.laid_internal_strconv_uint64pow10),("math/bits.deBruijn32tab",Rows.laid_math_bits_deBruijn32tab),("math/bits.deBruijn64tab",Rows.laid_math_bits_deBruijn64tab),("bytes.ErrTooLarge",Rows.laid_bytes_ErrTooLarge)] [.data,.sentinel,.sentinel,.data,.data,.data,.sentinel] true :=
 Program.laidByTextLater_by_run (laid:=tiL) (kinds:=tiK) 400 8 ti1 ti2 ti3 ti4 ti5 ti6 ti7 ti8 ti9 ti10
theorem zdM:Tryz.pinned.checked.prog.pinnedFits "unicode/utf8.first" = true:=by kernel_rfl
theorem znF:Tryz.pinned.checked.prog.headLifts.contains "ownunsafe" = false:=by kernel_rfl
theorem fits1:Tryz.pinned.checked.prog.listedFits [("unicode/utf8.first",Rows.laid_unicode_utf8_first),("unicode/utf8.acceptRanges",Rows.laid_unicode_utf8_acceptRanges),("strconv.ErrSyntax",Rows.laid_strconv_ErrSyntax),("strconv.ErrRange",Rows.laid_strconv_ErrRange),("internal/strconv.uint64pow10",Rows.laid_internal_strconv_uint64pow10),("math/bits.deBruijn32tab",Rows.laid_math_bits_deBruijn32tab),("math/bits.deBruijn64tab",Rows.laid_math_bits_deBruijn64tab),("bytes.ErrTooLarge",Rows.laid_bytes_ErrTooLarge)]=true:=by
 unfold Program.listedFits
 rw [znF]
 kernel_rfl
theorem zgA:Rows.topCarriedRow.laidByTextAt .later Tryz.pinned [.pinned,.data,.sentinel,.sentinel,.data,.data,.data,.sentinel] true :=
 OpenClaim.laidByTextAt_pinned rfl rfl tie rfl rfl rfl rfl (fun y hy _e => by
  simp only [Rows.topCarriedRow,List.zip_cons_cons,List.zip_nil_right,zDp,List.mem_nil_iff,zGr] at hy
  rcases hy with rfl | rfl | rfl | rfl | rfl | rfl | rfl | rfl
  ·exact ⟨zdM,by kernel_rfl⟩
  ·cases _e
  ·cases _e
  ·cases _e
  ·cases _e
  ·cases _e
  ·cases _e
  ·cases _e) fits1
end Go.Proofs.YtjmnjkoekabioaaGreatDoor
