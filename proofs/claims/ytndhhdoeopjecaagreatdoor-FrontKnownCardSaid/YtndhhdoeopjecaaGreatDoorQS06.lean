/- The parts of the proof that this law needs, in the order of their texts: the logic of walks, the plain laws, the walks. -/
import Derived.Test.YtndhhdoeopjecaaGreatDoorQS05
namespace Go.Proofs.YtndhhdoeopjecaaGreatDoor.pFrontKnown
open Go.ChangeShapes Go.WideShapes Go.ChangeAt Go.RowKit Go.Deep
set_option linter.unusedVariables false
set_option maxRecDepth 100000
def zero0 (P : Program) (g : Global) : Array Value := (linked P g).getD ((((P.types[g.type]?).bind (·.zero)).map (·.cells)).getD #[])
def heap0 (P : Program) : Array Obj := ((((((P.globals.mapIdx fun _ g => Obj.cells (zero0 P g) g.type).push (.cells ((Array.range P.types.size).map fun t => .int .u64 (Int.ofNat t)) 0)).push (.map #[] 0)).push (.finalizers #[] none)).push (.cells #[.bool false] 0)).push (.finalizers #[] none))
theorem settled_heap {P : Program} {os : Os} (hx : P.globals.toList.all (fun g => !(g.name == "internal/cpu.X86")) = true) : (World.settled P os).heap = heap0 P := by
  have hn : ∀ (i : Nat) (g : Global), P.globals[i]? = some g → (g.name == "internal/cpu.X86") = false := fun i g hg => by
    have := List.all_eq_true.1 hx g (List.mem_of_getElem? (by rw [Array.getElem?_toList]; exact hg))
    simpa using this
  unfold World.settled begin heap0
  apply Array.ext'
  simp only [Array.toList_push, List.map_append, List.map_cons, List.map_nil]
  congr 5
  apply List.ext_getElem?
  intro i
  simp only [List.getElem?_map, Array.getElem?_toList, Array.getElem?_mapIdx]
  cases hg : P.globals[i]? with
  | none => rfl
  | some g =>
    simp only [Option.map_some, hn i g hg]
    cases (waiting P).getD i false <;> rfl
def zipH (P : Program) (w : World) (g : Nat) : Bool := match P.globals[g]? with
  | none => true
  | some gl => match w.heap[g]? with
    | some (.cells cs t' frozen) => decide (t' = gl.type) && decide (frozen = (0, 0)) && cs.size == (zero0 P gl).size && (!P.buildable gl.type || match P.cellTypes P.depth gl.type with | some ts => Lay.zipOk P w cs.toList ts | none => false)
    | _ => false
theorem zip_of {P : Program} {w : World} (hx : P.globals.toList.all (fun g => !(g.name == "internal/cpu.X86")) = true) (h : (List.range P.globals.size).all (zipH P w) = true) : w.variablesZipB P = true := by
  unfold World.variablesZipB
  refine List.all_eq_true.2 fun g hg => ?_
  have hlt : g < P.globals.size := List.mem_range.1 hg
  have hz := List.all_eq_true.1 h g hg
  obtain ⟨c, b, h1, h2⟩ := begin_row (tape := fun _ _ => 0) (os := default) hlt
  have hgl : P.globals[g]? = some P.globals[g] := Array.getElem?_eq_getElem hlt
  have hn : (P.globals[g].name == "internal/cpu.X86") = false := by
    have := List.all_eq_true.1 hx P.globals[g] (by simp)
    simpa using this
  have hrow : ((begin P (fun _ _ => 0) default).world.heap[g]?).bind Obj.row? = some (zero0 P P.globals[g], P.globals[g].type) := by
    rw [h1]
    cases b with
    | true => rfl
    | false =>
      rcases h2 with h2 | h2 | h2
      · cases h2
      · rw [hn] at h2; cases h2
      · subst h2; rfl
  unfold zipH at hz
  rw [hgl] at hz
  simp only [hrow]
  exact hz
theorem zip_laid {P : Program} {os : Os} {l : List (String × DataW Unit)} (hx : P.globals.toList.all (fun g => !(g.name == "internal/cpu.X86")) = true) (h : (List.range P.globals.size).all (zipH P (((({ World.settled P os with heap := heap0 P ++ #[] } : World).layVars P l)).forCall (fun x x_1 => 0) { blocks := #[], args := #[] })) = true) :
    World.variablesZipB P ((World.laidAll P os l).forCall (fun x x_1 => 0) { blocks := #[], args := #[] }) = true := by
  refine zip_of hx ?_
  unfold World.laidAll World.holding
  rw [settled_heap hx]
  exact h
theorem no_x86 : Tryz.checked.prog.globals.toList.all (fun g => !(g.name == "internal/cpu.X86")) = true := by kernel_rfl
theorem zh (os : Os) : (List.range Tryz.checked.prog.globals.size).all (zipH Tryz.checked.prog (((({ World.settled Tryz.checked.prog os with heap := heap0 Tryz.checked.prog ++ #[] } : World).layVars Tryz.checked.prog [("unicode/utf8.first", Rows.laid_unicode_utf8_first), ("unicode/utf8.acceptRanges", Rows.laid_unicode_utf8_acceptRanges), ("strconv.ErrSyntax", Rows.laid_strconv_ErrSyntax), ("strconv.ErrRange", Rows.laid_strconv_ErrRange), ("internal/strconv.uint64pow10", Rows.laid_internal_strconv_uint64pow10), ("math/bits.deBruijn32tab", Rows.laid_math_bits_deBruijn32tab), ("math/bits.deBruijn64tab", Rows.laid_math_bits_deBruijn64tab)])).forCall (fun x x_1 => 0) { blocks := #[], args := #[] })) = true := by kernel_rfl
theorem wi1 (os : Os) : World.variablesZipB Tryz.checked.prog ((World.laidAll Tryz.prog os [("unicode/utf8.first", Rows.laid_unicode_utf8_first), ("unicode/utf8.acceptRanges", Rows.laid_unicode_utf8_acceptRanges), ("strconv.ErrSyntax", Rows.laid_strconv_ErrSyntax), ("strconv.ErrRange", Rows.laid_strconv_ErrRange), ("internal/strconv.uint64pow10", Rows.laid_internal_strconv_uint64pow10), ("math/bits.deBruijn32tab", Rows.laid_math_bits_deBruijn32tab), ("math/bits.deBruijn64tab", Rows.laid_math_bits_deBruijn64tab)]).forCall (fun x x_1 => 0) { blocks := #[], args := #[] }) = true := zip_laid (P := Tryz.checked.prog) no_x86 (zh os)
end Go.Proofs.YtndhhdoeopjecaaGreatDoor.pFrontKnown
