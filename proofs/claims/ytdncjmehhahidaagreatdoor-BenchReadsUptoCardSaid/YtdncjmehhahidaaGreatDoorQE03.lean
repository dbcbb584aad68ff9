/- The parts of the proof that this law needs, in the order of their texts: the logic of walks, the plain laws, the walks. -/
import Derived.Test.YtdncjmehhahidaaGreatDoorQE02
namespace Go.Proofs.YtdncjmehhahidaaGreatDoor.pBenchKnown
set_option maxHeartbeats 400000
open Go.ChangeShapes Go.WideShapes Go.ChangeAt Go.RowKit Go.Deep
set_option linter.unusedVariables false
set_option maxRecDepth 100000
theorem zeo {α:Type}{a:Array α}{x:α}{g:Nat}(h:g < a.size):(a.push x)[g]? = a[g]?:=by
 rw [Array.getElem?_push,if_neg (by omega)]
theorem begin_row {P:Program}{tape:Nat→Question→Nat}{os:Os}{g:Nat}(hg:g < P.globals.size):∃ c b,(begin P tape os).world.heap[g]? = some (if b then .pending ((linked P P.globals[g]).getD ((((P.types[P.globals[g].type]?).bind (·.zero)).map (·.cells)).getD #[])) P.globals[g].type else .cells c P.globals[g].type)∧(b=true∨(P.globals[g].name == "internal/cpu.X86")=true∨c=(linked P P.globals[g]).getD ((((P.types[P.globals[g].type]?).bind (·.zero)).map (·.cells)).getD #[])):=by
 unfold begin
 simp only
 rw [zeo (by simp; omega),zeo (by simp; omega),zeo (by simp; omega),zeo (by simp; omega),zeo (by simp; omega),Array.getElem?_mapIdx,Array.getElem?_eq_getElem hg]
 refine ⟨_,(waiting P).getD g false,rfl,?_⟩
 by_cases hx:(P.globals[g].name == "internal/cpu.X86")=true
 ·exact .inr (.inl hx)
 ·exact .inr (.inr (by rw [if_neg hx]))
theorem settled_row {P:Program}{os:Os}{g:Nat}(hg:g < P.globals.size):Lay.isRow (World.settled P os).heap.toList[g]? = true:=by
 obtain ⟨c,b,h,_⟩:=begin_row (tape:=fun _ _ => 0) (os:=os) hg
 unfold World.settled
 simp only [List.getElem?_map,Array.getElem?_toList,h]
 cases b <;> rfl
theorem zdP {P:Program}{tape:Nat→Question→Nat}{os:Os}:(begin P tape os).world.heap.size=P.globals.size + 5∧(begin P tape os).world.heap.toList.drop P.globals.size=[.cells ((Array.range P.types.size).map fun t => .int .u64 (Int.ofNat t)) 0,.map #[] 0,.finalizers #[] none,.cells #[.bool false] 0,.finalizers #[] none]:=by
 unfold begin
 simp only
 constructor
 ·simp
 ·simp only [Array.toList_push,List.append_assoc]
  rw [List.drop_left' (by simp)]
  rfl
theorem hold_size {P:Program}{os:Os}:(World.holding P os { blocks:=#[],args:=#[] }).heap.size=P.globals.size + 5:=by
 unfold World.holding World.settled
 simp [(zdP (P:=P) (tape:=fun _ _ => 0) (os:=os)).1]
def keyF (P:Program) (n:Nat) (l:List (String×DataW Unit)):Bool:=match Lay.layList P n l with
 | some y => decide (y.1.map (·.1)).Nodup && y.1.all fun r => decide (r.1 < P.globals.size)
 | none => false
theorem fits_of {P:Program}{os:Os}{l:List (String×DataW Unit)}(h2:keyF P (P.globals.size + 5) l=true):(World.holding P os { blocks:=#[],args:=#[] }).layFits P l []=true:=by
 unfold World.layFits
 unfold keyF at h2
 rw [← hold_size (os:=os)] at h2
 cases hy:Lay.layList P (World.holding P os { blocks:=#[],args:=#[] }).heap.size l with
 | none => rw [hy] at h2; cases h2
 | some y =>
  rw [hy] at h2
  simp only [Bool.and_eq_true] at h2 ⊢
  refine ⟨⟨h2.1,List.all_eq_true.2 fun r hm => ?_⟩,rfl⟩
  have hlt:r.1 < P.globals.size:=of_decide_eq_true (List.all_eq_true.1 h2.2 r hm)
  have hr:=settled_row (os:=os) hlt
  have e:(World.holding P os { blocks:=#[],args:=#[] }).heap.toList=(World.settled P os).heap.toList:=by
   unfold World.holding
   simp
  rw [e,hr]
  rfl
theorem keyF_of {P:Program}{n:Nat}{l:List (String×DataW Unit)}{y:List (Nat×List Value)×List Obj}(h:Lay.layList P n l=some y) (h2:(decide (y.1.map (·.1)).Nodup && y.1.all fun r => decide (r.1 < P.globals.size))=true):keyF P n l=true:=by
 unfold keyF
 rw [h]
 exact h2
theorem fk:keyF Tryz.prog (Tryz.prog.globals.size + 5) [("unicode/utf8.first",Rows.laid_unicode_utf8_first),("unicode/utf8.acceptRanges",Rows.laid_unicode_utf8_acceptRanges),("strconv.ErrSyntax",Rows.laid_strconv_ErrSyntax),("strconv.ErrRange",Rows.laid_strconv_ErrRange),("internal/strconv.uint64pow10",Rows.laid_internal_strconv_uint64pow10),("math/bits.deBruijn32tab",Rows.laid_math_bits_deBruijn32tab),("math/bits.deBruijn64tab",Rows.laid_math_bits_deBruijn64tab)]=true:=by
 have e:Tryz.prog.globals.size + 5=17:=by kernel_rfl
 rw [e]
 exact keyF_of (y:=(laR,laO)) ll0 (by kernel_rfl)
theorem wi7 (os:Os):World.layFits Tryz.prog (World.holding Tryz.prog os { blocks:=#[],args:=#[] }) [("unicode/utf8.first",Rows.laid_unicode_utf8_first),("unicode/utf8.acceptRanges",Rows.laid_unicode_utf8_acceptRanges),("strconv.ErrSyntax",Rows.laid_strconv_ErrSyntax),("strconv.ErrRange",Rows.laid_strconv_ErrRange),("internal/strconv.uint64pow10",Rows.laid_internal_strconv_uint64pow10),("math/bits.deBruijn32tab",Rows.laid_math_bits_deBruijn32tab),("math/bits.deBruijn64tab",Rows.laid_math_bits_deBruijn64tab)] []=true:=fits_of fk
end Go.Proofs.YtdncjmehhahidaaGreatDoor.pBenchKnown
