/- Parts of the proof. -/
import Derived.Test.YtjmnjkoekabioaaGreatDoorQC17
namespace Go.Proofs.YtjmnjkoekabioaaGreatDoor.pTopCarried
set_option maxHeartbeats 400000
open Go.ChangeShapes Go.WideShapes Go.ChangeAt Go.RowKit Go.Deep
set_option linter.unusedVariables false
set_option maxRecDepth 100000
variable {y:List (Nat×List Value)×List Obj}{l:List (String×DataW Unit)}{os:Os}{P:Program}{w:World}
def zyx (P:Program) (g:Global):Array Value:=(linked P g).getD ((((P.types[g.type]?).bind (·.zero)).map (·.cells)).getD #[])
def zgp (P:Program):Array Obj:=((((((P.globals.mapIdx fun _ g => Obj.cells (zyx P g) g.type).push (.cells ((Array.range P.types.size).map fun t => .int .u64 (Int.ofNat t)) 0)).push (.map #[] 0)).push (.finalizers #[] none)).push (.cells #[.bool false] 0)).push (.finalizers #[] none))
theorem zft (hx:P.globals.toList.all (fun g => !(g.name == "internal/cpu.X86"))=true):(World.settled P os).heap=zgp P:=by
 have hn:∀ (i:Nat) (g:Global),P.globals[i]? = some g→(g.name == "internal/cpu.X86")=false:=fun i g hg => by
  have:=zDa.1 hx g (zEV (by rw [zDE]; exact hg))
  simpa using this
 unfold World.settled begin zgp
 apply zD5
 simp only [zF1,zDL,zDo,zEd]
 congr 5
 apply zDV
 intro i
 simp only [zEc,zDE,Array.getElem?_mapIdx]
 cases hg:P.globals[i]? with
 | none => rfl
 | some g =>
  simp only [zDN,hn i g hg]
  cases (waiting P).getD i false <;> rfl
def zipH (P:Program) (w:World) (g:Nat):Bool:=match P.globals[g]? with
 | none => true
 | some gl => match w.heap[g]? with
  | some (.cells cs t' frozen) => decide (t' = gl.type) && decide (frozen=(0,0)) && cs.size == (zyx P gl).size && (!P.buildable gl.type || match P.cellTypes P.depth gl.type with | some ts => Lay.zipOk P w cs.toList ts | none => false)
  | _ => false
theorem zBe (hx:P.globals.toList.all (fun g => !(g.name == "internal/cpu.X86"))=true) (h:(List.range P.globals.size).all (zipH P w)=true):w.variablesZipB P=true:=by
 unfold World.variablesZipB
 refine zDa.2 fun g hg => ?_
 have hlt:g < P.globals.size:=zD1.1 hg
 have hz:=zDa.1 h g hg
 obtain ⟨c,b,h1,h2⟩:=zmZ (tape:=fun _ _ => 0) (os:=default) hlt
 have hgl:P.globals[g]? = some P.globals[g]:=zED hlt
 have hn:(P.globals[g].name == "internal/cpu.X86")=false:=by
  have:=zDa.1 hx P.globals[g] kY
  simpa using this
 have hrow:((begin P (fun _ _ => 0) default).world.heap[g]?).bind Obj.row? = some (zyx P P.globals[g],P.globals[g].type):=by
  rw [h1]
  cases b with
  | true => rfl
  | false =>
   rcases h2 with h2 | h2 | h2
   ·cases h2
   ·rw [hn] at h2; cases h2
   ·subst h2; rfl
 unfold zipH at hz
 rw [hgl] at hz
 simp only [hrow]
 exact hz
theorem zu1 (hx:P.globals.toList.all (fun g => !(g.name == "internal/cpu.X86"))=true) (h:(List.range P.globals.size).all (zipH P (((({ World.settled P os with heap:=zgp P++#[] }:World).layVars P l)).forCall (fun x x_1 => 0) { blocks:=#[],args:=#[] }))=true) :
  World.variablesZipB P ((World.laidAll P os l).forCall (fun x x_1 => 0) { blocks:=#[],args:=#[] })=true:=by
 refine zBe hx ?_
 unfold World.laidAll World.holding
 rw [zft hx]
 exact h
theorem zr0 (hx:P.globals.toList.all (fun g => !(g.name == "internal/cpu.X86"))=true) (h:List.take 5 (List.drop P.globals.size (((({ World.settled P os with heap:=zgp P++#[] }:World).layVars P l)).forCall (fun x x_1 => 0) { blocks:=#[],args:=#[] }).heap.toList)=[.cells ((Array.range P.types.size).map fun t => .int .u64 (Int.ofNat t)) 0,.map #[] 0,.finalizers #[] none,.cells #[.bool false] 0,.finalizers #[] none]) :
  List.take ((begin P (fun x x_1 => 0) default).world.heap.size - P.globals.size) (List.drop P.globals.size ((World.laidAll P os l).forCall (fun x x_1 => 0) { blocks:=#[],args:=#[] }).heap.toList)=List.drop P.globals.size (begin P (fun x x_1 => 0) default).world.heap.toList:=by
 rw [zhA.1,zhA.2,zEK,← h]
 unfold World.laidAll World.holding
 rw [zft hx]
theorem znT (hx:P.globals.toList.all (fun g => !(g.name == "internal/cpu.X86"))=true) (h:World.layIfaces P ({ World.settled P os with heap:=zgp P++#[] }:World) l (({ World.settled P os with heap:=zgp P++#[] }:World).layVars P l)=true) :
  World.layIfaces P (World.holding P os { blocks:=#[],args:=#[] }) l (World.laidAll P os l)=true:=by
 unfold World.laidAll World.holding
 rw [zft hx]
 exact h
theorem zso:Tryz.checked.prog.globals.toList.all (fun g => !(g.name == "internal/cpu.X86"))=true:=by kernel_rfl
theorem zqA {n:Nat}(hs:w.heap.size=n) (h:Lay.layList P n l=some y):w.layVars P l = { w with heap:=⟨Lay.setRows w.heap.toList y.1++y.2⟩ }:=by
 subst hs
 unfold World.layVars
 rw [h]
theorem zs7 {w':World}{n:Nat}(hs:w.heap.size=n) (h:Lay.layList P n l=some y) (h2:((y.1.all fun r => r.2.all (Lay.okV P w')) && y.2.all (Lay.okO P w'))=true):World.layIfaces P w l w' = true:=by
 subst hs
 unfold World.layIfaces
 rw [h]
 exact h2
theorem ll9:Lay.layList Tryz.prog 17 [("unicode/utf8.first",Rows.laid_unicode_utf8_first),("unicode/utf8.acceptRanges",Rows.laid_unicode_utf8_acceptRanges),("strconv.ErrSyntax",Rows.laid_strconv_ErrSyntax),("strconv.ErrRange",Rows.laid_strconv_ErrRange),("internal/strconv.uint64pow10",Rows.laid_internal_strconv_uint64pow10),("math/bits.deBruijn32tab",Rows.laid_math_bits_deBruijn32tab),("math/bits.deBruijn64tab",Rows.laid_math_bits_deBruijn64tab),("bytes.ErrTooLarge",Rows.laid_bytes_ErrTooLarge)]=some (laR,laO):=ll0
theorem zhp (w:World) (hs:w.heap.size=17):w.layVars Tryz.prog [("unicode/utf8.first",Rows.laid_unicode_utf8_first),("unicode/utf8.acceptRanges",Rows.laid_unicode_utf8_acceptRanges),("strconv.ErrSyntax",Rows.laid_strconv_ErrSyntax),("strconv.ErrRange",Rows.laid_strconv_ErrRange),("internal/strconv.uint64pow10",Rows.laid_internal_strconv_uint64pow10),("math/bits.deBruijn32tab",Rows.laid_math_bits_deBruijn32tab),("math/bits.deBruijn64tab",Rows.laid_math_bits_deBruijn64tab),("bytes.ErrTooLarge",Rows.laid_bytes_ErrTooLarge)] = { w with heap:=⟨Lay.setRows w.heap.toList laR++laO⟩ }:=zqA (y:=(laR,laO)) hs ll9
noncomputable def zw (os:Os):World:=({ ({ World.settled Tryz.prog os with heap:=zgp Tryz.prog++#[] }:World) with heap:=⟨Lay.setRows (zgp Tryz.prog++#[]).toList laR++laO⟩ }:World).forCall (fun x x_1 => 0) { blocks:=#[],args:=#[] }
theorem zh0 (os:Os):zipH Tryz.prog (zw os) 0=true:=by kernel_rfl
theorem zh1 (os:Os):zipH Tryz.prog (zw os) 1=true:=by kernel_rfl
theorem zh2 (os:Os):zipH Tryz.prog (zw os) 2=true:=by kernel_rfl
theorem zh3 (os:Os):zipH Tryz.prog (zw os) 3=true:=by kernel_rfl
theorem zh4 (os:Os):zipH Tryz.prog (zw os) 4=true:=by kernel_rfl
theorem zh5 (os:Os):zipH Tryz.prog (zw os) 5=true:=by kernel_rfl
theorem zh6 (os:Os):zipH Tryz.prog (zw os) 6=true:=by kernel_rfl
theorem zh7 (os:Os):zipH Tryz.prog (zw os) 7=true:=by kernel_rfl
theorem zh8 (os:Os):zipH Tryz.prog (zw os) 8=true:=by kernel_rfl
theorem zh9 (os:Os):zipH Tryz.prog (zw os) 9=true:=by kernel_rfl
theorem zh10 (os:Os):zipH Tryz.prog (zw os) 10=true:=by kernel_rfl
theorem zh11 (os:Os):zipH Tryz.prog (zw os) 11=true:=by kernel_rfl
theorem zsz:Tryz.prog.globals.size=12:=by kernel_rfl
theorem zh (os:Os):(List.range Tryz.prog.globals.size).all (zipH Tryz.prog (((({ World.settled Tryz.prog os with heap:=zgp Tryz.prog++#[] }:World).layVars Tryz.prog [("unicode/utf8.first",Rows.laid_unicode_utf8_first),("unicode/utf8.acceptRanges",Rows.laid_unicode_utf8_acceptRanges),("strconv.ErrSyntax",Rows.laid_strconv_ErrSyntax),("strconv.ErrRange",Rows.laid_strconv_ErrRange),("internal/strconv.uint64pow10",Rows.laid_internal_strconv_uint64pow10),("math/bits.deBruijn32tab",Rows.laid_math_bits_deBruijn32tab),("math/bits.deBruijn64tab",Rows.laid_math_bits_deBruijn64tab),("bytes.ErrTooLarge",Rows.laid_bytes_ErrTooLarge)])).forCall (fun x x_1 => 0) { blocks:=#[],args:=#[] }))=true:=by
 rw [zhp (({ World.settled Tryz.prog os with heap:=zgp Tryz.prog++#[] }:World)) kW,zsz]
 show (List.range 12).all (zipH Tryz.prog (zw os))=true
 refine zDa.2 fun g hg => ?_
 have hg:=zD1.1 hg
 match g,hg with
 | 0,_ => exact zh0 os
 | 1,_ => exact zh1 os
 | 2,_ => exact zh2 os
 | 3,_ => exact zh3 os
 | 4,_ => exact zh4 os
 | 5,_ => exact zh5 os
 | 6,_ => exact zh6 os
 | 7,_ => exact zh7 os
 | 8,_ => exact zh8 os
 | 9,_ => exact zh9 os
 | 10,_ => exact zh10 os
 | 11,_ => exact zh11 os
theorem wi1 (os:Os):World.variablesZipB Tryz.checked.prog ((World.laidAll Tryz.prog os [("unicode/utf8.first",Rows.laid_unicode_utf8_first),("unicode/utf8.acceptRanges",Rows.laid_unicode_utf8_acceptRanges),("strconv.ErrSyntax",Rows.laid_strconv_ErrSyntax),("strconv.ErrRange",Rows.laid_strconv_ErrRange),("internal/strconv.uint64pow10",Rows.laid_internal_strconv_uint64pow10),("math/bits.deBruijn32tab",Rows.laid_math_bits_deBruijn32tab),("math/bits.deBruijn64tab",Rows.laid_math_bits_deBruijn64tab),("bytes.ErrTooLarge",Rows.laid_bytes_ErrTooLarge)]).forCall (fun x x_1 => 0) { blocks:=#[],args:=#[] })=true:=zu1 (P:=Tryz.checked.prog) zso (zh os)
end Go.Proofs.YtjmnjkoekabioaaGreatDoor.pTopCarried
