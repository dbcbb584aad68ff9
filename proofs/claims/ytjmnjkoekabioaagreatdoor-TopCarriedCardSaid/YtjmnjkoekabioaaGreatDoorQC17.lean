/- Parts of the proof. -/
import Derived.Test.YtjmnjkoekabioaaGreatDoorQC16
namespace Go.Proofs.YtjmnjkoekabioaaGreatDoor.pTopCarried
set_option maxHeartbeats 400000
open Go.ChangeShapes Go.WideShapes Go.ChangeAt Go.RowKit Go.Deep
set_option linter.unusedVariables false
set_option maxRecDepth 100000
variable {l:List (String×DataW Unit)}{tape:Nat→Question→Nat}{os:Os}{P:Program}
theorem ziV {α:Type}{a:Array α}{x:α}{g:Nat}(h:g < a.size):(a.push x)[g]? = a[g]?:=by
 rw [Array.getElem?_push,zDb kQ]
theorem zmZ {g:Nat}(hg:g < P.globals.size):∃ c b,(begin P tape os).world.heap[g]? = some (if b then .pending ((linked P P.globals[g]).getD ((((P.types[P.globals[g].type]?).bind (·.zero)).map (·.cells)).getD #[])) P.globals[g].type else .cells c P.globals[g].type)∧(b=true∨(P.globals[g].name == "internal/cpu.X86")=true∨c=(linked P P.globals[g]).getD ((((P.types[P.globals[g].type]?).bind (·.zero)).map (·.cells)).getD #[])):=by
 unfold begin
 simp only
 rw [ziV kP,ziV kP,ziV kP,ziV kP,ziV kP,Array.getElem?_mapIdx,zED hg]
 refine ⟨_,(waiting P).getD g false,Z,?_⟩
 by_cases hx:(P.globals[g].name == "internal/cpu.X86")=true
 ·exact .inr (.inl hx)
 ·exact .inr (.inr (by rw [zDb hx]))
theorem zns {g:Nat}(hg:g < P.globals.size):Lay.isRow (World.settled P os).heap.toList[g]? = true:=by
 obtain ⟨c,b,h,_⟩:=zmZ (tape:=fun _ _ => 0) (os:=os) hg
 unfold World.settled
 simp only [zEc,zDE,h]
 cases b <;> rfl
theorem zhA :(begin P tape os).world.heap.size=P.globals.size + 5∧(begin P tape os).world.heap.toList.drop P.globals.size=[.cells ((Array.range P.types.size).map fun t => .int .u64 (Int.ofNat t)) 0,.map #[] 0,.finalizers #[] none,.cells #[.bool false] 0,.finalizers #[] none]:=by
 unfold begin
 simp only
 constructor
 ·simp
 ·simp only [zF1,zDg]
  rw [List.drop_left' kY]
  rfl
theorem zs8 :(World.holding P os { blocks:=#[],args:=#[] }).heap.size=P.globals.size + 5:=by
 unfold World.holding World.settled
 simp [(zhA (P:=P) (tape:=fun _ _ => 0) (os:=os)).1]
def keyF (P:Program) (n:Nat) (l:List (String×DataW Unit)):Bool:=match Lay.layList P n l with
 | some y => decide (y.1.map (·.1)).Nodup && y.1.all fun r => decide (r.1 < P.globals.size)
 | none => false
theorem zz0 (h2:keyF P (P.globals.size + 5) l=true):(World.holding P os { blocks:=#[],args:=#[] }).layFits P l []=true:=by
 unfold World.layFits
 unfold keyF at h2
 rw [← zs8 (os:=os)] at h2
 cases hy:Lay.layList P (World.holding P os { blocks:=#[],args:=#[] }).heap.size l with
 | none => rw [hy] at h2; cases h2
 | some y =>
  rw [hy] at h2
  simp only [zC9] at h2 ⊢
  refine ⟨⟨h2.1,zDa.2 fun r hm => ?_⟩,Z⟩
  have hlt:r.1 < P.globals.size:=zDf (zDa.1 h2.2 r hm)
  have hr:=zns (os:=os) hlt
  have e:(World.holding P os { blocks:=#[],args:=#[] }).heap.toList=(World.settled P os).heap.toList:=by
   unfold World.holding
   simp
  rw [e,hr]
  rfl
theorem zzM {n:Nat}{y:List (Nat×List Value)×List Obj}(h:Lay.layList P n l=some y) (h2:(decide (y.1.map (·.1)).Nodup && y.1.all fun r => decide (r.1 < P.globals.size))=true):keyF P n l=true:=by
 unfold keyF
 rw [h]
 exact h2
theorem fk:keyF Tryz.prog (Tryz.prog.globals.size + 5) [("unicode/utf8.first",Rows.laid_unicode_utf8_first),("unicode/utf8.acceptRanges",Rows.laid_unicode_utf8_acceptRanges),("strconv.ErrSyntax",Rows.laid_strconv_ErrSyntax),("strconv.ErrRange",Rows.laid_strconv_ErrRange),("internal/strconv.uint64pow10",Rows.laid_internal_strconv_uint64pow10),("math/bits.deBruijn32tab",Rows.laid_math_bits_deBruijn32tab),("math/bits.deBruijn64tab",Rows.laid_math_bits_deBruijn64tab),("bytes.ErrTooLarge",Rows.laid_bytes_ErrTooLarge)]=true:=by
 have e:Tryz.prog.globals.size + 5=17:=by kernel_rfl
 rw [e]
 exact zzM (y:=(laR,laO)) ll0 kW
theorem wi7 (os:Os):World.layFits Tryz.prog (World.holding Tryz.prog os { blocks:=#[],args:=#[] }) [("unicode/utf8.first",Rows.laid_unicode_utf8_first),("unicode/utf8.acceptRanges",Rows.laid_unicode_utf8_acceptRanges),("strconv.ErrSyntax",Rows.laid_strconv_ErrSyntax),("strconv.ErrRange",Rows.laid_strconv_ErrRange),("internal/strconv.uint64pow10",Rows.laid_internal_strconv_uint64pow10),("math/bits.deBruijn32tab",Rows.laid_math_bits_deBruijn32tab),("math/bits.deBruijn64tab",Rows.laid_math_bits_deBruijn64tab),("bytes.ErrTooLarge",Rows.laid_bytes_ErrTooLarge)] []=true:=zz0 fk
end Go.Proofs.YtjmnjkoekabioaaGreatDoor.pTopCarried
