/- Parts of the proof. -/
import Derived.Test.YtjmnjkoekabioaaGreatDoorQC08
namespace Go.Proofs.YtjmnjkoekabioaaGreatDoor
set_option maxHeartbeats 400000
open Go
set_option maxRecDepth 100000
variable {d:DataW Unit}{P:Program}
def zi3 (P:Program):Nat→TypeId→Option String
 | 0,_ => none
 | d + 1,t => match P.info? t with
  | some i => match i.desc with
   | .named n _ => some n
   | .pointer e => (zi3 P d e).map ("*" ++ ·)
   | .bool => some i.str
   | .int _ => some i.str
   | .float _ => some i.str
   | .string => some i.str
   | _ => none
  | none => none
theorem zko {P:Program}:∀ (d:Nat) (u:TypeId) (s:String),P.typeName? d u=some s→zi3 P d u=some s
 | 0,u,s,h => by cases h
 | d + 1,u,s,h => by
  unfold Program.typeName? at h
  unfold zi3
  split at h
  ·rename_i i hi
   rw [hi]
   simp only
   split at h
   ·rename_i n m hd
    rw [hd]
    split at h
    ·exact h
    ·cases h
   ·rename_i e hd
    rw [hd]
    simp only
    cases hq:P.typeName? d e with
    | none => rw [hq] at h; cases h
    | some q => rw [hq] at h; rw [zko d e q hq]; exact h
   all_goals first
    | (rename_i hd; rw [hd]; split at h <;> first | exact h | (cases h; done))
    | (rename_i k hd; rw [hd]; split at h <;> first | exact h | (cases h; done))
    | (cases h; done)
  ·cases h
theorem zz3 {name:String}{k n:Nat}(h1:((List.range k).all fun u => !(zi3 P 3 u == some name))=true) (h2:(P.typeName? 3 k == some name)=true) (h3:k < n):(List.range n).find? (fun u => P.typeName? 3 u == some name)=some k:=by
 refine List.find?_range_eq_some.2 ⟨h2,zD1.2 h3,fun j hj => ?_⟩
 have:=zDa.1 h1 j (zD1.2 hj)
 cases hq:P.typeName? 3 j with
 | none => rfl
 | some s =>
  rw [zko 3 j s hq] at this
  simpa using this
theorem fe_no:((List.range 648).all fun u => !(zi3 Tryz.prog 3 u == some "*errors.errorString"))=true:=by kernel_rfl
theorem zCj:(Tryz.prog.typeName? 3 648 == some "*errors.errorString")=true:=by kernel_rfl
theorem fe_lt:648 < Tryz.prog.types.size:=zDf kW
theorem fe:(List.range Tryz.prog.types.size).find? (fun u => Tryz.prog.typeName? 3 u == some "*errors.errorString")=some 648:=zz3 fe_no zCj fe_lt
theorem zfy {n g:Nat}{name:String}{t:TypeId}{y:List Value×List Obj}{r:List (String×DataW Unit)}{z:List (Nat×List Value)×List Obj}(h1:P.globalNamed name=some g) (h2:(P.globals[g]?).map (·.type)=some t) (h3:d.lay P t n=some y) (h4:Lay.layList P (n + y.2.length) r=some z):Lay.layList P n ((name,d)::r)=some ((g,y.1)::z.1,y.2++z.2):=by
 rw [Lay.layList,h1]
 simp only
 cases hg:P.globals[g]? with
 | none => rw [hg] at h2; cases h2
 | some gl =>
  rw [hg] at h2
  cases h2
  simp only [h3,h4]
theorem zi8 {t n u:Nat}{name:String}{ts:Array (String×TypeId)}{x:List Value×List Obj}{v:Value}(h1:P.underlying t=some (.interface ts)) (h2:(List.range P.types.size).find? (fun u => P.typeName? 3 u == some name)=some u) (h3:d.lay P u n=some x) (h4:Lay.pack P u x.1=some v):(DataW.iface name d).lay P t n=some ([.iface u v],x.2):=by
 unfold DataW.lay
 rw [h1,h2]
 simp only [h3,h4]
def litC1:DataW Unit→Value
 | .lit (.int k z) => .int k z
 | _ => undef
def litC:DataW Unit→List Value
 | .agg l => l.map litC1
 | _ => []
def litC2:DataW Unit→List Value
 | .agg l => l.flatMap litC
 | _ => []
def la0:List Value:=litC Rows.laid_unicode_utf8_first
def lb0:List Obj:=[]
theorem ly0:(Rows.laid_unicode_utf8_first:DataW Unit).lay Tryz.prog 587 17=some (la0,lb0):=by kernel_rfl
def la1:List Value:=litC2 Rows.laid_unicode_utf8_acceptRanges
def lb1:List Obj:=[]
theorem ly1:(Rows.laid_unicode_utf8_acceptRanges:DataW Unit).lay Tryz.prog 690 17=some (la1,lb1):=by kernel_rfl
def la2:List Value:=[.iface 648 (.pointer (some ⟨17,0,none⟩))]
def lb2:List Obj:=[.cells #[.string ⟨([105,110,118,97,108,105,100,32,115,121,110,116,97,120]:yB).toArray⟩] 650]
theorem ly2:(Rows.laid_strconv_ErrSyntax:DataW Unit).lay Tryz.prog 103 17=some (la2,lb2) :=
 (zi8 (d:=.ptr (.agg [.lit (.string [105,110,118,97,108,105,100,32,115,121,110,116,97,120])])) (x:=([.pointer (some ⟨17,0,none⟩)],lb2)) (v:=.pointer (some ⟨17,0,none⟩)) Tryz.underlying103 fe kW kW)
def la3:List Value:=[.iface 648 (.pointer (some ⟨18,0,none⟩))]
def lb3:List Obj:=[.cells #[.string ⟨([118,97,108,117,101,32,111,117,116,32,111,102,32,114,97,110,103,101]:yB).toArray⟩] 650]
theorem ly3:(Rows.laid_strconv_ErrRange:DataW Unit).lay Tryz.prog 103 18=some (la3,lb3) :=
 (zi8 (d:=.ptr (.agg [.lit (.string [118,97,108,117,101,32,111,117,116,32,111,102,32,114,97,110,103,101])])) (x:=([.pointer (some ⟨18,0,none⟩)],lb3)) (v:=.pointer (some ⟨18,0,none⟩)) Tryz.underlying103 fe kW kW)
def la4:List Value:=litC Rows.laid_internal_strconv_uint64pow10
def lb4:List Obj:=[]
theorem ly4:(Rows.laid_internal_strconv_uint64pow10:DataW Unit).lay Tryz.prog 550 19=some (la4,lb4):=by kernel_rfl
def la5:List Value:=litC Rows.laid_math_bits_deBruijn32tab
def lb5:List Obj:=[]
theorem ly5:(Rows.laid_math_bits_deBruijn32tab:DataW Unit).lay Tryz.prog 684 19=some (la5,lb5):=by kernel_rfl
def la6:List Value:=litC Rows.laid_math_bits_deBruijn64tab
def lb6:List Obj:=[]
theorem ly6:(Rows.laid_math_bits_deBruijn64tab:DataW Unit).lay Tryz.prog 685 19=some (la6,lb6):=by kernel_rfl
def la7:List Value:=[.iface 648 (.pointer (some ⟨19,0,none⟩))]
def lb7:List Obj:=[.cells #[.string ⟨([98,121,116,101,115,46,66,117,102,102,101,114,58,32,116,111,111,32,108,97,114,103,101]:yB).toArray⟩] 650]
theorem ly7:(Rows.laid_bytes_ErrTooLarge:DataW Unit).lay Tryz.prog 103 19=some (la7,lb7) :=
 (zi8 (d:=.ptr (.agg [.lit (.string [98,121,116,101,115,46,66,117,102,102,101,114,58,32,116,111,111,32,108,97,114,103,101])])) (x:=([.pointer (some ⟨19,0,none⟩)],lb7)) (v:=.pointer (some ⟨19,0,none⟩)) Tryz.underlying103 fe kW kW)
theorem ll7:Lay.layList Tryz.prog 19 [("bytes.ErrTooLarge",Rows.laid_bytes_ErrTooLarge)]=some ([(0,la7)],lb7++[]) :=
 zfy (t:=103) (y:=(la7,lb7)) (z:=([],[])) kW kW ly7 (rfl)
theorem ll6:Lay.layList Tryz.prog 19 [("math/bits.deBruijn64tab",Rows.laid_math_bits_deBruijn64tab),("bytes.ErrTooLarge",Rows.laid_bytes_ErrTooLarge)]=some ([(7,la6),(0,la7)],lb6++lb7++[]) :=
 zfy (t:=685) (y:=(la6,lb6)) (z:=([(0,la7)],lb7++[])) kW kW ly6 (by exact ll7)
theorem ll5:Lay.layList Tryz.prog 19 [("math/bits.deBruijn32tab",Rows.laid_math_bits_deBruijn32tab),("math/bits.deBruijn64tab",Rows.laid_math_bits_deBruijn64tab),("bytes.ErrTooLarge",Rows.laid_bytes_ErrTooLarge)]=some ([(6,la5),(7,la6),(0,la7)],lb5++lb6++lb7++[]) :=
 zfy (t:=684) (y:=(la5,lb5)) (z:=([(7,la6),(0,la7)],lb6++lb7++[])) kW kW ly5 (by exact ll6)
theorem ll4:Lay.layList Tryz.prog 19 [("internal/strconv.uint64pow10",Rows.laid_internal_strconv_uint64pow10),("math/bits.deBruijn32tab",Rows.laid_math_bits_deBruijn32tab),("math/bits.deBruijn64tab",Rows.laid_math_bits_deBruijn64tab),("bytes.ErrTooLarge",Rows.laid_bytes_ErrTooLarge)]=some ([(2,la4),(6,la5),(7,la6),(0,la7)],lb4++lb5++lb6++lb7++[]) :=
 zfy (t:=550) (y:=(la4,lb4)) (z:=([(6,la5),(7,la6),(0,la7)],lb5++lb6++lb7++[])) kW kW ly4 (by exact ll5)
theorem ll3:Lay.layList Tryz.prog 18 [("strconv.ErrRange",Rows.laid_strconv_ErrRange),("internal/strconv.uint64pow10",Rows.laid_internal_strconv_uint64pow10),("math/bits.deBruijn32tab",Rows.laid_math_bits_deBruijn32tab),("math/bits.deBruijn64tab",Rows.laid_math_bits_deBruijn64tab),("bytes.ErrTooLarge",Rows.laid_bytes_ErrTooLarge)]=some ([(4,la3),(2,la4),(6,la5),(7,la6),(0,la7)],lb3++lb4++lb5++lb6++lb7++[]) :=
 zfy (t:=103) (y:=(la3,lb3)) (z:=([(2,la4),(6,la5),(7,la6),(0,la7)],lb4++lb5++lb6++lb7++[])) kW kW ly3 (by exact ll4)
theorem ll2:Lay.layList Tryz.prog 17 [("strconv.ErrSyntax",Rows.laid_strconv_ErrSyntax),("strconv.ErrRange",Rows.laid_strconv_ErrRange),("internal/strconv.uint64pow10",Rows.laid_internal_strconv_uint64pow10),("math/bits.deBruijn32tab",Rows.laid_math_bits_deBruijn32tab),("math/bits.deBruijn64tab",Rows.laid_math_bits_deBruijn64tab),("bytes.ErrTooLarge",Rows.laid_bytes_ErrTooLarge)]=some ([(3,la2),(4,la3),(2,la4),(6,la5),(7,la6),(0,la7)],lb2++lb3++lb4++lb5++lb6++lb7++[]) :=
 zfy (t:=103) (y:=(la2,lb2)) (z:=([(4,la3),(2,la4),(6,la5),(7,la6),(0,la7)],lb3++lb4++lb5++lb6++lb7++[])) kW kW ly2 (by exact ll3)
theorem ll1:Lay.layList Tryz.prog 17 [("unicode/utf8.acceptRanges",Rows.laid_unicode_utf8_acceptRanges),("strconv.ErrSyntax",Rows.laid_strconv_ErrSyntax),("strconv.ErrRange",Rows.laid_strconv_ErrRange),("internal/strconv.uint64pow10",Rows.laid_internal_strconv_uint64pow10),("math/bits.deBruijn32tab",Rows.laid_math_bits_deBruijn32tab),("math/bits.deBruijn64tab",Rows.laid_math_bits_deBruijn64tab),("bytes.ErrTooLarge",Rows.laid_bytes_ErrTooLarge)]=some ([(9,la1),(3,la2),(4,la3),(2,la4),(6,la5),(7,la6),(0,la7)],lb1++lb2++lb3++lb4++lb5++lb6++lb7++[]) :=
 zfy (t:=690) (y:=(la1,lb1)) (z:=([(3,la2),(4,la3),(2,la4),(6,la5),(7,la6),(0,la7)],lb2++lb3++lb4++lb5++lb6++lb7++[])) kW kW ly1 (by exact ll2)
theorem ll0:Lay.layList Tryz.prog 17 [("unicode/utf8.first",Rows.laid_unicode_utf8_first),("unicode/utf8.acceptRanges",Rows.laid_unicode_utf8_acceptRanges),("strconv.ErrSyntax",Rows.laid_strconv_ErrSyntax),("strconv.ErrRange",Rows.laid_strconv_ErrRange),("internal/strconv.uint64pow10",Rows.laid_internal_strconv_uint64pow10),("math/bits.deBruijn32tab",Rows.laid_math_bits_deBruijn32tab),("math/bits.deBruijn64tab",Rows.laid_math_bits_deBruijn64tab),("bytes.ErrTooLarge",Rows.laid_bytes_ErrTooLarge)]=some ([(8,la0),(9,la1),(3,la2),(4,la3),(2,la4),(6,la5),(7,la6),(0,la7)],lb0++lb1++lb2++lb3++lb4++lb5++lb6++lb7++[]) :=
 zfy (t:=587) (y:=(la0,lb0)) (z:=([(9,la1),(3,la2),(4,la3),(2,la4),(6,la5),(7,la6),(0,la7)],lb1++lb2++lb3++lb4++lb5++lb6++lb7++[])) kW kW ly0 (by exact ll1)
def laR:List (Nat×List Value):=[(8,la0),(9,la1),(3,la2),(4,la3),(2,la4),(6,la5),(7,la6),(0,la7)]
def laO:List Obj:=lb0++lb1++lb2++lb3++lb4++lb5++lb6++lb7++[]
end Go.Proofs.YtjmnjkoekabioaaGreatDoor
