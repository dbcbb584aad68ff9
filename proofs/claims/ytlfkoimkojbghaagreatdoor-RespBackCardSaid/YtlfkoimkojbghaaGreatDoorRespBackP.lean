/- RespBack: the law holds of every input: it returns true, and each argument reads as it did. -/
import Derived.Test.YtlfkoimkojbghaaGreatDoorTL4
import Derived.Test.YtlfkoimkojbghaaGreatDoorTV1
import Derived.Test.YtlfkoimkojbghaaGreatDoorV2
import Derived.Test.YtlfkoimkojbghaaGreatDoorTV3
import Derived.Test.YtlfkoimkojbghaaGreatDoorLgN
import Derived.Test.YtlfkoimkojbghaaGreatDoorLgV
import Derived.MakeChecks
import Derived.Test.YtlfkoimkojbghaaGreatDoorChecked
import Derived.Test.YtlfkoimkojbghaaGreatDoorRows
import Derived.SizedLaws
import Derived.Test.YtlfkoimkojbghaaGreatDoorCards
import Derived.Test.YtlfkoimkojbghaaGreatDoorTie
import Derived.LaidMore
import Derived.LaidOnce
import Derived.Lay
import Derived.SevenTiedAt
import Derived.Stop.Joined
import Derived.WalkKit
import Derived.ProofKit
import Derived.OpenShut
import Derived.ShutString
import Derived.ChangeOld
import Derived.Below
import Derived.Deep.Slices
namespace Go.Proofs.YtlfkoimkojbghaaGreatDoor.pRespBack
open Go.ChangeShapes Go.WideShapes Go.ChangeAt Go.RowKit Go.Deep
open Go.ChangeMaps (open_string shut_string)
set_option linter.unusedVariables false

theorem own : ownKnob Tryz.prog.godebug = none := by kernel_rfl
theorem laidOut : laidOutB Tryz.prog = true := by kernel_rfl

set_option maxRecDepth 100000 in
theorem lifted (os : Os) (started : os.Started) (H : Type) (enc : TypeId × Value → H) :
    ReturnsInHanded {} Tryz.checked os 8 .any (fun w args => (Rows.respBackSpec.pre enc Tryz.prog Tryz.f8 Rows.respBackRow.domain false w args ∧ laidMetH Tryz.prog [("math/bits.deBruijn32tab", Rows.laid_math_bits_deBruijn32tab), ("math/bits.deBruijn64tab", Rows.laid_math_bits_deBruijn64tab), ("internal/strconv.uint64pow10", Rows.laid_internal_strconv_uint64pow10), ("unicode/utf8.acceptRanges", Rows.laid_unicode_utf8_acceptRanges), ("strconv.ErrRange", Rows.laid_strconv_ErrRange), ("strconv.ErrSyntax", Rows.laid_strconv_ErrSyntax), ("unicode/utf8.first", Rows.laid_unicode_utf8_first)] w) ∧ sizedMet enc Tryz.prog Tryz.f8 (OpenSpec.ofChange Rows.respBackSpec) false w args) (Rows.respBackSpec.post enc Tryz.prog Tryz.f8 false true false false) := by
  refine returns_listed (C := Tryz.checked) (X := fun w _ => laidMetH Tryz.prog [("math/bits.deBruijn32tab", Rows.laid_math_bits_deBruijn32tab), ("math/bits.deBruijn64tab", Rows.laid_math_bits_deBruijn64tab), ("internal/strconv.uint64pow10", Rows.laid_internal_strconv_uint64pow10), ("unicode/utf8.acceptRanges", Rows.laid_unicode_utf8_acceptRanges), ("strconv.ErrRange", Rows.laid_strconv_ErrRange), ("strconv.ErrSyntax", Rows.laid_strconv_ErrSyntax), ("unicode/utf8.first", Rows.laid_unicode_utf8_first)] w) (fun _ _ _ hh h => h.of_heap hh) own started (by kernel_rfl) Tryz.func8
    (ChangeSpec.witness_shaped (enc := enc) (C := Tryz.checked) (os := os) (X := fun w _ => laidMetH Tryz.prog [("math/bits.deBruijn32tab", Rows.laid_math_bits_deBruijn32tab), ("math/bits.deBruijn64tab", Rows.laid_math_bits_deBruijn64tab), ("internal/strconv.uint64pow10", Rows.laid_internal_strconv_uint64pow10), ("unicode/utf8.acceptRanges", Rows.laid_unicode_utf8_acceptRanges), ("strconv.ErrRange", Rows.laid_strconv_ErrRange), ("strconv.ErrSyntax", Rows.laid_strconv_ErrSyntax), ("unicode/utf8.first", Rows.laid_unicode_utf8_first)] w) false (World.laidAll Tryz.prog os [("math/bits.deBruijn32tab", Rows.laid_math_bits_deBruijn32tab), ("math/bits.deBruijn64tab", Rows.laid_math_bits_deBruijn64tab), ("internal/strconv.uint64pow10", Rows.laid_internal_strconv_uint64pow10), ("unicode/utf8.acceptRanges", Rows.laid_unicode_utf8_acceptRanges), ("strconv.ErrRange", Rows.laid_strconv_ErrRange), ("strconv.ErrSyntax", Rows.laid_strconv_ErrSyntax), ("unicode/utf8.first", Rows.laid_unicode_utf8_first)]) #[.slice none 0 0, .slice none 0 0] 8 (World.laidAll_os _ _ _) (World.shaped_of_ZipB (by kernel_rfl) (by kernel_rfl)) (by kernel_rfl) (by kernel_rfl) (by kernel_rfl) (by rw [MakeChecks.laidMetH_plain _ _ _ (by kernel_rfl)]; exact laidMet_laidAll _ (by kernel_rfl) (by kernel_rfl))) ?_
  intro W base args ds gs before hval0 hW hcnd hsz0 hlaid hsh
  have hlaid' : laidMet Tryz.prog [("math/bits.deBruijn32tab", Rows.laid_math_bits_deBruijn32tab), ("math/bits.deBruijn64tab", Rows.laid_math_bits_deBruijn64tab), ("internal/strconv.uint64pow10", Rows.laid_internal_strconv_uint64pow10), ("unicode/utf8.acceptRanges", Rows.laid_unicode_utf8_acceptRanges), ("strconv.ErrRange", Rows.laid_strconv_ErrRange), ("strconv.ErrSyntax", Rows.laid_strconv_ErrSyntax), ("unicode/utf8.first", Rows.laid_unicode_utf8_first)] W := hlaid
  have hTabs : Tabs W W.heap.size := tabs_of hsh (Go.Lib.laidMet.reads hlaid' (n := "unicode/utf8.first") (d := Rows.laid_unicode_utf8_first) (.tail _ (.tail _ (.tail _ (.tail _ (.tail _ (.tail _ (.head _)))))))) (Go.Lib.laidMet.reads hlaid' (n := "unicode/utf8.acceptRanges") (d := Rows.laid_unicode_utf8_acceptRanges) (.tail _ (.tail _ (.tail _ (.head _)))))
  have hT10 : Tab10 W W.heap.size := tab10_of (Go.Lib.laidMet.reads hlaid' (n := "internal/strconv.uint64pow10") (d := Rows.laid_internal_strconv_uint64pow10) (.tail _ (.tail _ (.head _))))
  have hET : ErrTab W W.heap.size := errtab_of (Go.Lib.laidMet.reads hlaid' (n := "strconv.ErrSyntax") (d := Rows.laid_strconv_ErrSyntax) (.tail _ (.tail _ (.tail _ (.tail _ (.tail _ (.head _))))))) (Go.Lib.laidMet.reads hlaid' (n := "strconv.ErrRange") (d := Rows.laid_strconv_ErrRange) (.tail _ (.tail _ (.tail _ (.tail _ (.head _))))))
  have hsz : ∀ (j : Nat) t d, Tryz.f8.params.toList[j]? = some t → ds[j]? = some d → ∀ n ∈ d.weights Tryz.prog t, n ≤ 140737488351232 := fun j t d ht hd n hn => by
    have h1 := List.all_eq_true.1 hsz0 n (DataW.weights_mem_each (j := j) (t := t) (d := d) (by rw [List.getElem?_append_left (List.getElem?_eq_some_iff.1 ht).1]; exact ht) (by rw [List.getElem?_append_left (List.getElem?_eq_some_iff.1 hd).1]; exact hd) n hn)
    exact of_decide_eq_true h1
  have hval : ∀ (j : Nat) t v, Tryz.f8.params[j]? = some t → args[j]? = some v → Value.okWide Tryz.prog W .any base t v := hval0
  have hW' := hW
  obtain ⟨p, q, hA0, hV, rfl, hfz, hnd⟩ := hW
  have hA : DataW.TrodAll enc Tryz.prog W 0 (fun _ => true) true Tryz.f8.params.toList args.toList ds p := hA0
  rw [Tryz.params8] at hA hval hsz
  obtain ⟨v0, vs0, d0, ds0, p0, q0, hargs, rfl, rfl, h0, tr0⟩ := trodAll_cons hA
  obtain ⟨v1, vs1, d1, ds1, p1, q1, rfl, rfl, rfl, h1, tr1⟩ := trodAll_cons tr0
  obtain ⟨rfl, rfl, rfl⟩ := trodAll_nil tr1
  obtain rfl : args = #[v0, v1] := by cases args; simp_all
  obtain ⟨rfl, rfl⟩ := trodVars_none hV
  have k0 := h0
  have lt0 : ∀ x ∈ p0, x.block < W.heap.size := by obtain ⟨m, hm⟩ := k0; exact DataW.trod_lt m _ _ _ hm
  obtain ⟨A0, C0, l0, rfl, r0, b0, q0⟩ := arg_slice Tryz.underlying53 (by kernel_rfl) (by decide) 64 (by kernel_rfl) (Reads.struct (T := tyResp) (Q' := fun x => (Rd tyField W W.heap.size [] x.2.1.A x.2.1.C x.2.1.l ∧ ∀ f ∈ x.2.1.l, f.1.length ≤ 140737488351232 ∧ f.2.length ≤ 140737488351232) ∧ Rd tyB W W.heap.size [] x.2.2.1.A x.2.2.1.C x.2.2.1.l) (ReadsF.cons 0 1 3 (by kernel_rfl) (Reads.int Tryz.underlying3) (ReadsF.cons 1 1 33 (by kernel_rfl) (Reads.slice Tryz.underlying33 (by kernel_rfl) (by decide) 32 (by kernel_rfl) (Reads.struct (T := tyField) (Q' := fun x => x.1.length ≤ 140737488351232 ∧ x.2.length ≤ 140737488351232) (ReadsF.cons 0 1 9 (by kernel_rfl) (Reads.str Tryz.underlying9) (ReadsF.cons 1 1 9 (by kernel_rfl) (Reads.str Tryz.underlying9) (ReadsF.nil 2))) (fun (b : List UInt8 × List UInt8 × Unit) => (b.1, b.2.1)) Tryz.underlying52 rfl (by kernel_rfl) (fun _ => rfl) (by intro b h; exact ⟨h.1, h.2.1⟩))) (ReadsF.cons 2 1 22 (by kernel_rfl) (Reads.slice Tryz.underlying22 (by kernel_rfl) (by decide) 1 (by kernel_rfl) (Reads.u8 Tryz.underlying5)) (ReadsF.cons 3 1 4 (by kernel_rfl) (Reads.bool Tryz.underlying4) (ReadsF.nil 4))))) (fun (b : Int × Vs (List UInt8 × List UInt8) × Vs UInt8 × Bool × Unit) => (b.1, b.2.1, b.2.2.1, b.2.2.2.1)) Tryz.underlying42 rfl (by kernel_rfl) (fun _ => rfl) (by intro b h; exact ⟨⟨h.2.1.1, h.2.1.2.2⟩, h.2.2.1.1⟩)) (hval 0 53 v0 rfl rfl) h0 (hsz 0 53 d0 rfl rfl)
  have k1 := h1
  have lt1 : ∀ x ∈ p1, x.block < W.heap.size := by obtain ⟨m, hm⟩ := k1; exact DataW.trod_lt m _ _ _ hm
  obtain ⟨A1, C1, l1, rfl, r1, b1, q1⟩ := arg_slice Tryz.underlying22 (by kernel_rfl) (by decide) 1 (by kernel_rfl) (Reads.u8 Tryz.underlying5) (hval 1 22 v1 rfl rfl) h1 (hsz 1 22 d1 rfl rfl)
  clear hA0 hval0
  refine (law_of (respback_ok (l := l0) (more := l1) r0 (fun x hx => ⟨⟨(q0 x hx).1.1, fun f hf => by have := (q0 x hx).1.2 f hf; omega⟩, (q0 x hx).2⟩) r1 hTabs hET hT10)).mono fun e W' ⟨he, bel⟩ => ?_
  subst he
  exact ⟨_, rfl, _, _, _, [], _, [], hW', trodAll_mk1 (shut_bool Tryz.underlying4 _), (trodAll_cons_mk (Below.trod laidOut (by kernel_rfl) (of_decide_eq_true (by kernel_rfl)) k0 bel lt0) (trodAll_cons_mk (Below.trod laidOut (by kernel_rfl) (of_decide_eq_true (by kernel_rfl)) k1 bel lt1) trodAll_mk0)), rfl, bel.frame _, fun h => by cases h⟩

theorem jf0 : (Rows.respBackRow.inPlace == Tryz.prog.inPlace 8) = true := by kernel_rfl
theorem jf1 : (Rows.respBackRow.unfollowed == Tryz.prog.unfollowed 8) = true := by kernel_rfl
theorem jf2 : (Rows.respBackRow.recurses == Tryz.prog.recurses 8) = true := by kernel_rfl
theorem jf3 : (Rows.respBackRow.named == Tryz.prog.varsNamed 8) = true := by kernel_rfl
theorem jall : joinedFacts Tryz.prog 8 Tryz.f8 Rows.respBackSpec Rows.respBackRow = true := by
  unfold joinedFacts
  rw [jf0, jf1, jf2, jf3]
  kernel_rfl

theorem over : Rows.respBackRow.holds Tryz.pinned (OpenSpec.ofChange Rows.respBackSpec) :=
  OpenClaim.holds_of_wide 8 Tryz.f8 rfl rfl rfl rfl rfl rfl rfl ⟨rfl, rfl, rfl, rfl, rfl⟩ rfl rfl rfl rfl rfl (by kernel_rfl) Tryz.func8 jall
    (of_decide_eq_true (by kernel_rfl)) (by unfold Func.isWrapper; first | (rw [if_pos (by decide +kernel)]; kernel_rfl) | (rw [if_neg (by decide +kernel)]; exact ⟨rfl, rfl⟩))
    (fun os started H enc _ => lifted os started H enc)

theorem pf0 : Rows.respBackRow.wfByText (OpenSpec.ofChange Rows.respBackSpec) = true := by kernel_rfl
theorem pf3 : false = Rows.respBackRow.goesBy Tryz.prog := by kernel_rfl
theorem proved : Rows.RespBackCardSaid :=
  Claim7.holds_tied_plain_at .later [] [.data, .data, .data, .data, .sentinel, .sentinel, .pinned] true (true, "8ed97148cf695f543b42e8b197d9f9524c5ff4ad6ae0d9e6b45b99ec10321482") true
    over (fun _ h => by cases h) pf0 (fun _ h => by cases h) respBack_row_tie rfl ⟨rfl, rfl⟩ seat_main rfl
    (fun f fn hf hfn => by
      obtain rfl : f = 8 := Option.some.inj ((show Tryz.prog.funcNamed "ostiary/ostiarylaw15.RespBack" = some 8 by kernel_rfl).symm.trans hf) |>.symm
      obtain rfl : fn = Tryz.f8 := (Option.some.inj (Tryz.func8.symm.trans hfn)).symm
      exact ⟨seat_looks, fun j t ht => by
        rw [Tryz.params8] at ht
        have hm : t ∈ ([53, 22] : List Nat) := by simpa using Array.mem_of_getElem? ht
        have hall : (([53, 22] : List Nat).all fun u => !Tryz.prog.wantsStandIn u) = true := by kernel_rfl
        exact (show Tryz.prog.wantsStandIn t = false by simpa using List.all_eq_true.1 hall t hm)⟩)
    pf3
end Go.Proofs.YtlfkoimkojbghaaGreatDoor.pRespBack
