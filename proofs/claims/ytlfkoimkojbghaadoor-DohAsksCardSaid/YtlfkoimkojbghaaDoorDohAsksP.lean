/- DohAsks: the law holds of every input: it returns true, and each argument reads as it did. -/
import Derived.Test.YtlfkoimkojbghaaDoorE10
import Derived.Test.YtlfkoimkojbghaaDoorEV1
import Derived.Test.YtlfkoimkojbghaaDoorV2
import Derived.Test.YtlfkoimkojbghaaDoorLgN
import Derived.Test.YtlfkoimkojbghaaDoorLgV
import Derived.MakeChecks
import Derived.Test.YtlfkoimkojbghaaDoorChecked
import Derived.Test.YtlfkoimkojbghaaDoorRows
import Derived.SizedLaws
import Derived.Test.YtlfkoimkojbghaaDoorCards
import Derived.Test.YtlfkoimkojbghaaDoorTie
import Derived.LaidMore
import Derived.LaidOnce
import Derived.Lay
import Derived.SevenTiedAt
import Derived.Stop.Joined
import Derived.WalkKit
import Derived.ProofKit
import Derived.OpenShut
import Derived.ShutString
import Derived.ChangeOld
import Derived.Below
import Derived.Deep.Slices
namespace Go.Proofs.YtlfkoimkojbghaaDoor.pDohAsks
open Go.ChangeShapes Go.WideShapes Go.ChangeAt Go.RowKit Go.Deep
open Go.ChangeMaps (open_string shut_string)
set_option linter.unusedVariables false

theorem own : ownKnob Tryd.prog.godebug = none := by kernel_rfl
theorem laidOut : laidOutB Tryd.prog = true := by kernel_rfl

set_option maxRecDepth 100000 in
theorem lifted (os : Os) (started : os.Started) (H : Type) (enc : TypeId × Value → H) :
    ReturnsInHanded {} Tryd.checked os 3 .any (fun w args => (Rows.dohAsksSpec.pre enc Tryd.prog Tryd.f3 Rows.dohAsksRow.domain false w args ∧ laidMetH Tryd.prog [("unicode/utf8.acceptRanges", Rows.laid_unicode_utf8_acceptRanges), ("unicode/utf8.first", Rows.laid_unicode_utf8_first)] w) ∧ sizedMet enc Tryd.prog Tryd.f3 (OpenSpec.ofChange Rows.dohAsksSpec) false w args) (Rows.dohAsksSpec.post enc Tryd.prog Tryd.f3 false true false false) := by
  refine returns_listed (C := Tryd.checked) (X := fun w _ => laidMetH Tryd.prog [("unicode/utf8.acceptRanges", Rows.laid_unicode_utf8_acceptRanges), ("unicode/utf8.first", Rows.laid_unicode_utf8_first)] w) (fun _ _ _ hh h => h.of_heap hh) own started (by kernel_rfl) Tryd.func3
    (ChangeSpec.witness_shaped (enc := enc) (C := Tryd.checked) (os := os) (X := fun w _ => laidMetH Tryd.prog [("unicode/utf8.acceptRanges", Rows.laid_unicode_utf8_acceptRanges), ("unicode/utf8.first", Rows.laid_unicode_utf8_first)] w) false (World.laidAll Tryd.prog os [("unicode/utf8.acceptRanges", Rows.laid_unicode_utf8_acceptRanges), ("unicode/utf8.first", Rows.laid_unicode_utf8_first)]) #[.agg #[.string ByteArray.empty, .string ByteArray.empty, .int .i64 0, .slice none 0 0], .slice none 0 0] 8 (World.laidAll_os _ _ _) (World.shaped_of_ZipB (by kernel_rfl) (by kernel_rfl)) (by kernel_rfl) (by kernel_rfl) (by kernel_rfl) (by rw [MakeChecks.laidMetH_plain _ _ _ (by kernel_rfl)]; exact laidMet_laidAll _ (by kernel_rfl) (by kernel_rfl))) ?_
  intro W base args ds gs before hval0 hW hcnd hsz0 hlaid hsh
  have hlaid' : laidMet Tryd.prog [("unicode/utf8.acceptRanges", Rows.laid_unicode_utf8_acceptRanges), ("unicode/utf8.first", Rows.laid_unicode_utf8_first)] W := hlaid
  have hTabs : Tabs W W.heap.size := tabs_of hsh (Go.Lib.laidMet.reads hlaid' (n := "unicode/utf8.first") (d := Rows.laid_unicode_utf8_first) (.tail _ (.head _))) (Go.Lib.laidMet.reads hlaid' (n := "unicode/utf8.acceptRanges") (d := Rows.laid_unicode_utf8_acceptRanges) (.head _))
  have hsz : ∀ (j : Nat) t d, Tryd.f3.params.toList[j]? = some t → ds[j]? = some d → ∀ n ∈ d.weights Tryd.prog t, n ≤ 140737488351232 := fun j t d ht hd n hn => by
    have h1 := List.all_eq_true.1 hsz0 n (DataW.weights_mem_each (j := j) (t := t) (d := d) (by rw [List.getElem?_append_left (List.getElem?_eq_some_iff.1 ht).1]; exact ht) (by rw [List.getElem?_append_left (List.getElem?_eq_some_iff.1 hd).1]; exact hd) n hn)
    exact of_decide_eq_true h1
  have hval : ∀ (j : Nat) t v, Tryd.f3.params[j]? = some t → args[j]? = some v → Value.okWide Tryd.prog W .any base t v := hval0
  have hW' := hW
  obtain ⟨p, q, hA0, hV, rfl, hfz, hnd⟩ := hW
  have hA : DataW.TrodAll enc Tryd.prog W 0 (fun _ => true) true Tryd.f3.params.toList args.toList ds p := hA0
  rw [Tryd.params3] at hA hval hsz
  obtain ⟨v0, vs0, d0, ds0, p0, q0, hargs, rfl, rfl, h0, tr0⟩ := trodAll_cons hA
  obtain ⟨v1, vs1, d1, ds1, p1, q1, rfl, rfl, rfl, h1, tr1⟩ := trodAll_cons tr0
  obtain ⟨rfl, rfl, rfl⟩ := trodAll_nil tr1
  obtain rfl : args = #[v0, v1] := by cases args; simp_all
  obtain ⟨rfl, rfl⟩ := trodVars_none hV
  have k0 := h0
  have lt0 : ∀ x ∈ p0, x.block < W.heap.size := by obtain ⟨m, hm⟩ := k0; exact DataW.trod_lt m _ _ _ hm
  obtain ⟨a0, rfl, q0⟩ := arg_struct Tryd.underlying24 (Reads.struct (T := tyHead) (Q' := fun x => Rd tyField W W.heap.size [] x.2.2.2.A x.2.2.2.C x.2.2.2.l ∧ ∀ f ∈ x.2.2.2.l, f.1.length ≤ 140737488351232 ∧ f.2.length ≤ 140737488351232) (ReadsF.cons 0 1 9 (by kernel_rfl) (Reads.str Tryd.underlying9) (ReadsF.cons 1 1 9 (by kernel_rfl) (Reads.str Tryd.underlying9) (ReadsF.cons 2 1 3 (by kernel_rfl) (Reads.int Tryd.underlying3) (ReadsF.cons 3 1 22 (by kernel_rfl) (Reads.slice Tryd.underlying22 (by kernel_rfl) (by decide) 32 (by kernel_rfl) (Reads.struct (T := tyField) (Q' := fun x => x.1.length ≤ 140737488351232 ∧ x.2.length ≤ 140737488351232) (ReadsF.cons 0 1 9 (by kernel_rfl) (Reads.str Tryd.underlying9) (ReadsF.cons 1 1 9 (by kernel_rfl) (Reads.str Tryd.underlying9) (ReadsF.nil 2))) (fun (b : List UInt8 × List UInt8 × Unit) => (b.1, b.2.1)) Tryd.underlying67 rfl (by kernel_rfl) (fun _ => rfl) (by intro b h; exact ⟨h.1, h.2.1⟩))) (ReadsF.nil 4))))) (fun (b : List UInt8 × List UInt8 × Int × Vs (List UInt8 × List UInt8) × Unit) => (b.1, b.2.1, b.2.2.1, b.2.2.2.1)) Tryd.underlying24 rfl (by kernel_rfl) (fun _ => rfl) (by intro b h; exact ⟨h.2.2.2.1.1, h.2.2.2.1.2.2⟩)) (fun _ => ⟨_, rfl⟩) (hval 0 24 v0 rfl rfl) h0 (hsz 0 24 d0 rfl rfl)
  have k1 := h1
  have lt1 : ∀ x ∈ p1, x.block < W.heap.size := by obtain ⟨m, hm⟩ := k1; exact DataW.trod_lt m _ _ _ hm
  obtain ⟨A1, C1, l1, rfl, r1, b1, q1⟩ := arg_slice Tryd.underlying25 (by kernel_rfl) (by decide) 1 (by kernel_rfl) (Reads.u8 Tryd.underlying5) (hval 1 25 v1 rfl rfl) h1 (hsz 1 25 d1 rfl rfl)
  clear hA0 hval0
  refine (law_of (dohasks_ok (m := a0.1) (t := a0.2.1) (minor := a0.2.2.1) (fs := a0.2.2.2.l) q0.1 (body := l1) r1 (fun f hf => by have := q0.2 f hf; omega) hTabs)).mono fun e W' ⟨he, bel⟩ => ?_
  subst he
  exact ⟨_, rfl, _, _, _, [], _, [], hW', trodAll_mk1 (shut_bool Tryd.underlying4 _), (trodAll_cons_mk (Below.trod laidOut (by kernel_rfl) (of_decide_eq_true (by kernel_rfl)) k0 bel lt0) (trodAll_cons_mk (Below.trod laidOut (by kernel_rfl) (of_decide_eq_true (by kernel_rfl)) k1 bel lt1) trodAll_mk0)), rfl, bel.frame _, fun h => by cases h⟩

theorem jf0 : (Rows.dohAsksRow.inPlace == Tryd.prog.inPlace 3) = true := by kernel_rfl
theorem jf1 : (Rows.dohAsksRow.unfollowed == Tryd.prog.unfollowed 3) = true := by kernel_rfl
theorem jf2 : (Rows.dohAsksRow.recurses == Tryd.prog.recurses 3) = true := by kernel_rfl
theorem jf3 : (Rows.dohAsksRow.named == Tryd.prog.varsNamed 3) = true := by kernel_rfl
theorem jall : joinedFacts Tryd.prog 3 Tryd.f3 Rows.dohAsksSpec Rows.dohAsksRow = true := by
  unfold joinedFacts
  rw [jf0, jf1, jf2, jf3]
  kernel_rfl

theorem over : Rows.dohAsksRow.holds Tryd.pinned (OpenSpec.ofChange Rows.dohAsksSpec) :=
  OpenClaim.holds_of_wide 3 Tryd.f3 rfl rfl rfl rfl rfl rfl rfl ⟨rfl, rfl, rfl, rfl, rfl⟩ rfl rfl rfl rfl rfl (by kernel_rfl) Tryd.func3 jall
    (of_decide_eq_true (by kernel_rfl)) (by unfold Func.isWrapper; first | (rw [if_pos (by decide +kernel)]; kernel_rfl) | (rw [if_neg (by decide +kernel)]; exact ⟨rfl, rfl⟩))
    (fun os started H enc _ => lifted os started H enc)

theorem pf0 : Rows.dohAsksRow.wfByText (OpenSpec.ofChange Rows.dohAsksSpec) = true := by kernel_rfl
theorem pf3 : false = Rows.dohAsksRow.goesBy Tryd.prog := by kernel_rfl
theorem proved : Rows.DohAsksCardSaid :=
  Claim7.holds_tied_plain_at .later [] [.data, .pinned] true (true, "943b7e5e6c988817b5fb0c4e25fe76673e48efc62b8a3200cc9b6f0694dcc4de") true
    over (fun _ h => by cases h) pf0 (fun _ h => by cases h) dohAsks_row_tie rfl ⟨rfl, rfl⟩ seat_main rfl
    (fun f fn hf hfn => by
      obtain rfl : f = 3 := Option.some.inj ((show Tryd.prog.funcNamed "ostiary/ostiarylaw16.DohAsks" = some 3 by kernel_rfl).symm.trans hf) |>.symm
      obtain rfl : fn = Tryd.f3 := (Option.some.inj (Tryd.func3.symm.trans hfn)).symm
      exact ⟨seat_looks, fun j t ht => by
        rw [Tryd.params3] at ht
        have hm : t ∈ ([24, 25] : List Nat) := by simpa using Array.mem_of_getElem? ht
        have hall : (([24, 25] : List Nat).all fun u => !Tryd.prog.wantsStandIn u) = true := by kernel_rfl
        exact (show Tryd.prog.wantsStandIn t = false by simpa using List.all_eq_true.1 hall t hm)⟩)
    pf3
end Go.Proofs.YtlfkoimkojbghaaDoor.pDohAsks
