/- Parts of the proof. -/
import Derived.Test.YtjmnjkoekabioaaGreatDoorChecked
import Derived.WalkKit
import GoSem.ClaimDataLaid
import Derived.MakeChecks
import Derived.Test.YtjmnjkoekabioaaGreatDoorRows
import Derived.SizedLaws
import Derived.Test.YtjmnjkoekabioaaGreatDoorCards
import Derived.LaidMore
import Derived.LaidOnce
import Derived.Lay
import Derived.SevenTiedAt
import Derived.Stop.Joined
import Derived.ProofKit
import Derived.OpenShut
import Derived.ShutString
import Derived.ChangeOld
import Derived.Below
import Derived.Deep.Slices
import Derived.ChangeArms
import Derived.ChangeShapes
import Derived.WideShapes
import Derived.ChangeMaps5
import Derived.RowKit
import Derived.HandedShaped
import Derived.Shelf.Vars
import Derived.Calls
import Derived.Deep.Draws
import Derived.IntWalk
import Derived.WalkSpells
import Derived.WalkLawsBesides
import Derived.Laws.Cells
import Derived.Laws.CopyRow
import Derived.Laws.AppendOwn
import Derived.Laws.Append
import Derived.Laws.IdiomStrings
import Derived.Laws.BytesArg
import Derived.Laws.MakeOwn
import Derived.Orders
import Derived.Test.YtjmnjkoekabioaaGreatDoorProg
import Derived.Lib.Bytealg
import Derived.Lib.DecodeN
import Derived.Lib.Split
import Derived.Lib.Index
import Derived.Lib.SlTrimSet
import Derived.Lib.Atoi
import Derived.Shelf.Strings.Builder1
import Derived.Shelf.Strings.Builder2
import Derived.Shelf.Strings.Trim
import Derived.Shelf.Small.Utf8
import Derived.Shelf.Small.Strs
import Derived.Shelf.Small.Wraps
import Derived.Shelf.Strconv.Atoi
import Derived.Shelf.Strconv.Itoa0
import Derived.Shelf.Strconv.Itoa1
import Derived.Shelf.LaysM
import Derived.Shelf.Strconv.Itoa2
import Derived.Shelf.Strconv.Itoa3
import Derived.Shelf.Strconv.AtoiErrFast
import Derived.Shelf.Strconv.ParseIntEmpty
import Derived.Shelf.Strconv.AtoiFail
import Derived.Shelf.Strconv.Clone
import Derived.Shelf.Strconv.SyntaxError
import Derived.Shelf.LaysC
import Derived.Shelf.Strconv.ToError
import Derived.Shelf.Strconv.Lower
import Derived.Shelf.Strconv.ParseUint10
import Derived.Shelf.Strconv.ParseUint10Empty
import Derived.Shelf.Strconv.ParseUint10Any
import Derived.Shelf.Strconv.ParseInt10
import Derived.Shelf.Strconv.AtoiLong
import Derived.Shelf.Strconv.AtoiInnerAll
import Derived.Shelf.Strconv.RangeError
import Derived.Shelf.Strconv.ToErrorRange
import Derived.Shelf.Strconv.AtoiAll
import Derived.Shelf.Strings.Search1
import Derived.Shelf.Strings.Search2
import Derived.Shelf.Strings.Search3
import Derived.Shelf.Strings.Cut
import Derived.Shelf.Strings.Count
import Derived.Shelf.Strings.Shaped
import Derived.Shelf.Strings.Prefix
import Derived.Shelf.Strings.Split
import Derived.Shelf.Strings.SplitShaped
import Derived.Shelf.Strings.Runes
import Derived.Shelf.Strings.AsciiSet
import Derived.Shelf.Bits.Mul64
import Derived.Shelf.Unicode.DecodeSlow
import Derived.Shelf.Bytes.SlIndexSmall
import Derived.Shelf.Bytes.SlIndexAt
import Derived.Shelf.Bytes.SlSearch0
import Derived.Shelf.Bytes.SlSearch1
import Derived.Shelf.Bytes.SlSearch2
import Derived.Shelf.Bytes.SlIndexWhole
import Derived.Shelf.Bytes.Small
import Derived.Shelf.Bytes.IndexByte
import Derived.Lib.IndexMore
import Derived.Shelf.Strings.SlTrimAscii
import Derived.Lib.Builder
import Derived.Lib.UnsafeStr
import Derived.Lib.ItoaNum
import Derived.Lib.AtoiTie
import Derived.Lib.AtoiAllCases
import Derived.Lib.SplitLaws
import Derived.Laws.Sem
import Derived.Laws.StructEq
import Derived.ChangeKeysEq
import Derived.Laws.Externs
import Derived.Lib.LaidU8T
import Derived.Lib.LaidTab
import Derived.LaidLaws
import Derived.Shaped
import GoSem.ClaimGoes
import Derived.LaidByTextLater
namespace Go.Proofs.YtjmnjkoekabioaaGreatDoor
set_option maxHeartbeats 400000
open Go
set_option maxRecDepth 100000
def segB (p:Nat→Bool) (a k:Nat):Bool:=(List.range' a k).all p
theorem zcR {p:Nat→Bool}{a k m b s:Nat}(h:segB p a k=true) (h' : segB p b m=true) (e:a + k=b) (e' : k + m=s):segB p a s=true:=by
 subst e e'
 unfold segB at *
 rw [← List.range'_append_1,List.all_append,h,h']; rfl
theorem zvD {p:Nat→Bool}{s m:Nat}(h:segB p 0 s=true) (e:m=s):(List.range m).all p=true:=by
 subst e
 rw [List.range_eq_range']; exact h
theorem lo0:segB (rowFine Tryz.prog) 0 65=true:=by kernel_rfl
theorem lo1:segB (rowFine Tryz.prog) 65 65=true:=by kernel_rfl
theorem lo2:segB (rowFine Tryz.prog) 130 65=true:=by kernel_rfl
theorem lo3:segB (rowFine Tryz.prog) 195 65=true:=by kernel_rfl
theorem lo4:segB (rowFine Tryz.prog) 260 65=true:=by kernel_rfl
theorem lo5:segB (rowFine Tryz.prog) 325 65=true:=by kernel_rfl
theorem lo6:segB (rowFine Tryz.prog) 390 65=true:=by kernel_rfl
theorem lo7:segB (rowFine Tryz.prog) 455 65=true:=by kernel_rfl
theorem lo8:segB (rowFine Tryz.prog) 520 65=true:=by kernel_rfl
theorem lo9:segB (rowFine Tryz.prog) 585 65=true:=by kernel_rfl
theorem lo10:segB (rowFine Tryz.prog) 650 65=true:=by kernel_rfl
theorem lo11:segB (rowFine Tryz.prog) 715 54=true:=by kernel_rfl
theorem ls1:segB (rowFine Tryz.prog) 0 130=true:=zcR lo0 lo1 rfl rfl
theorem ls2:segB (rowFine Tryz.prog) 0 195=true:=zcR ls1 lo2 rfl rfl
theorem ls3:segB (rowFine Tryz.prog) 0 260=true:=zcR ls2 lo3 rfl rfl
theorem ls4:segB (rowFine Tryz.prog) 0 325=true:=zcR ls3 lo4 rfl rfl
theorem ls5:segB (rowFine Tryz.prog) 0 390=true:=zcR ls4 lo5 rfl rfl
theorem ls6:segB (rowFine Tryz.prog) 0 455=true:=zcR ls5 lo6 rfl rfl
theorem ls7:segB (rowFine Tryz.prog) 0 520=true:=zcR ls6 lo7 rfl rfl
theorem ls8:segB (rowFine Tryz.prog) 0 585=true:=zcR ls7 lo8 rfl rfl
theorem ls9:segB (rowFine Tryz.prog) 0 650=true:=zcR ls8 lo9 rfl rfl
theorem ls10:segB (rowFine Tryz.prog) 0 715=true:=zcR ls9 lo10 rfl rfl
theorem ls11:segB (rowFine Tryz.prog) 0 769=true:=zcR ls10 lo11 rfl rfl
theorem zp4:Tryz.prog.types.size=769:=by kernel_rfl
theorem lo_t:(List.range Tryz.prog.types.size).all (rowFine Tryz.prog)=true:=zvD ls11 zp4
theorem lo_g:Tryz.prog.globals.all (fun g => decide (g.type < Tryz.prog.types.size))=true:=by kernel_rfl
theorem lo_f:Tryz.prog.funcs.all (fun f => f.params.all fun t => decide (t < Tryz.prog.types.size))=true:=by kernel_rfl
theorem zzL {P:Program}(h1:(List.range P.types.size).all (rowFine P)=true) (h2:P.globals.all (fun g => decide (g.type < P.types.size))=true) (h3:P.funcs.all (fun f => f.params.all fun t => decide (t < P.types.size))=true):laidOutB P=true:=by
 unfold laidOutB
 rw [h1,h2,h3]; rfl
theorem laidOut:laidOutB Tryz.prog=true:=zzL lo_t lo_g lo_f
end Go.Proofs.YtjmnjkoekabioaaGreatDoor
