/- DohYoung: the law holds of every input: it returns true, and each argument reads as it did. -/
import Derived.Test.YtlkdmbpbjhjkfaaDoorY5
import Derived.Test.YtlkdmbpbjhjkfaaDoorEV1
import Derived.Test.YtlkdmbpbjhjkfaaDoorV2
import Derived.Test.YtlkdmbpbjhjkfaaDoorLgN
import Derived.Test.YtlkdmbpbjhjkfaaDoorLgV
import Derived.MakeChecks
import Derived.Test.YtlkdmbpbjhjkfaaDoorChecked
import Derived.Test.YtlkdmbpbjhjkfaaDoorRows
import Derived.SizedLaws
import Derived.Test.YtlkdmbpbjhjkfaaDoorCards
import Derived.Test.YtlkdmbpbjhjkfaaDoorTie
import Derived.LaidMore
import Derived.LaidOnce
import Derived.Lay
import Derived.SevenTiedAt
import Derived.Stop.Joined
import Derived.WalkKit
import Derived.ProofKit
import Derived.OpenShut
import Derived.ShutString
import Derived.ChangeOld
import Derived.Below
import Derived.Deep.Slices
namespace Go.Proofs.YtlkdmbpbjhjkfaaDoor.pDohYoung
open Go.ChangeShapes Go.WideShapes Go.ChangeAt Go.RowKit Go.Deep
open Go.ChangeMaps (open_string shut_string)
set_option linter.unusedVariables false

theorem own : ownKnob Tryd.prog.godebug = none := by kernel_rfl
theorem laidOut : laidOutB Tryd.prog = true := by kernel_rfl

set_option maxRecDepth 100000 in
theorem lifted (os : Os) (started : os.Started) (H : Type) (enc : TypeId × Value → H) :
    ReturnsInHanded {} Tryd.checked os 4 .any (fun w args => (Rows.dohYoungSpec.pre enc Tryd.prog Tryd.f4 Rows.dohYoungRow.domain false w args ∧ laidMetH Tryd.prog [("unicode/utf8.acceptRanges", Rows.laid_unicode_utf8_acceptRanges), ("unicode/utf8.first", Rows.laid_unicode_utf8_first)] w) ∧ sizedMet enc Tryd.prog Tryd.f4 (OpenSpec.ofChange Rows.dohYoungSpec) false w args) (Rows.dohYoungSpec.post enc Tryd.prog Tryd.f4 false true false false) := by
  refine returns_listed (C := Tryd.checked) (X := fun w _ => laidMetH Tryd.prog [("unicode/utf8.acceptRanges", Rows.laid_unicode_utf8_acceptRanges), ("unicode/utf8.first", Rows.laid_unicode_utf8_first)] w) (fun _ _ _ hh h => h.of_heap hh) own started (by kernel_rfl) Tryd.func4
    (ChangeSpec.witness_shaped (enc := enc) (C := Tryd.checked) (os := os) (X := fun w _ => laidMetH Tryd.prog [("unicode/utf8.acceptRanges", Rows.laid_unicode_utf8_acceptRanges), ("unicode/utf8.first", Rows.laid_unicode_utf8_first)] w) false (World.laidAll Tryd.prog os [("unicode/utf8.acceptRanges", Rows.laid_unicode_utf8_acceptRanges), ("unicode/utf8.first", Rows.laid_unicode_utf8_first)]) #[.agg #[.int .i64 0, .int .i64 0, .slice none 0 0, .slice none 0 0, .slice none 0 0, .slice none 0 0]] 8 (World.laidAll_os _ _ _) (World.shaped_of_ZipB (by kernel_rfl) (by kernel_rfl)) (by kernel_rfl) (by kernel_rfl) (by kernel_rfl) (by rw [MakeChecks.laidMetH_plain _ _ _ (by kernel_rfl)]; exact laidMet_laidAll _ (by kernel_rfl) (by kernel_rfl))) ?_
  intro W base args ds gs before hval0 hW hcnd hsz0 hlaid hsh
  have hlaid' : laidMet Tryd.prog [("unicode/utf8.acceptRanges", Rows.laid_unicode_utf8_acceptRanges), ("unicode/utf8.first", Rows.laid_unicode_utf8_first)] W := hlaid
  have hTabs : Tabs W W.heap.size := tabs_of hsh (Go.Lib.laidMet.reads hlaid' (n := "unicode/utf8.first") (d := Rows.laid_unicode_utf8_first) (.tail _ (.head _))) (Go.Lib.laidMet.reads hlaid' (n := "unicode/utf8.acceptRanges") (d := Rows.laid_unicode_utf8_acceptRanges) (.head _))
  have hsz : ∀ (j : Nat) t d, Tryd.f4.params.toList[j]? = some t → ds[j]? = some d → ∀ n ∈ d.weights Tryd.prog t, n ≤ 140737488351232 := fun j t d ht hd n hn => by
    have h1 := List.all_eq_true.1 hsz0 n (DataW.weights_mem_each (j := j) (t := t) (d := d) (by rw [List.getElem?_append_left (List.getElem?_eq_some_iff.1 ht).1]; exact ht) (by rw [List.getElem?_append_left (List.getElem?_eq_some_iff.1 hd).1]; exact hd) n hn)
    exact of_decide_eq_true h1
  have hval : ∀ (j : Nat) t v, Tryd.f4.params[j]? = some t → args[j]? = some v → Value.okWide Tryd.prog W .any base t v := hval0
  have hW' := hW
  obtain ⟨p, q, hA0, hV, rfl, hfz, hnd⟩ := hW
  have hA : DataW.TrodAll enc Tryd.prog W 0 (fun _ => true) true Tryd.f4.params.toList args.toList ds p := hA0
  rw [Tryd.params4] at hA hval hsz
  obtain ⟨v0, vs0, d0, ds0, p0, q0, hargs, rfl, rfl, h0, tr0⟩ := trodAll_cons hA
  obtain ⟨rfl, rfl, rfl⟩ := trodAll_nil tr0
  obtain rfl : args = #[v0] := by cases args; simp_all
  obtain ⟨rfl, rfl⟩ := trodVars_none hV
  have k0 := h0
  have lt0 : ∀ x ∈ p0, x.block < W.heap.size := by obtain ⟨m, hm⟩ := k0; exact DataW.trod_lt m _ _ _ hm
  obtain ⟨a0, rfl, q0⟩ := arg_struct Tryd.underlying39 (Reads.struct (T := tyMsg) (Q' := fun x => (Rd tyQn W W.heap.size [] x.2.2.1.A x.2.2.1.C x.2.2.1.l ∧ x.2.2.1.l.length ≤ 140737488351232) ∧ (Rd tyRec W W.heap.size [] x.2.2.2.1.A x.2.2.2.1.C x.2.2.2.1.l ∧ x.2.2.2.1.l.length ≤ 140737488351232) ∧ (Rd tyRec W W.heap.size [] x.2.2.2.2.1.A x.2.2.2.2.1.C x.2.2.2.2.1.l ∧ x.2.2.2.2.1.l.length ≤ 140737488351232) ∧ (Rd tyRec W W.heap.size [] x.2.2.2.2.2.A x.2.2.2.2.2.C x.2.2.2.2.2.l ∧ x.2.2.2.2.2.l.length ≤ 140737488351232)) (ReadsF.cons 0 1 3 (by kernel_rfl) (Reads.int Tryd.underlying3) (ReadsF.cons 1 1 3 (by kernel_rfl) (Reads.int Tryd.underlying3) (ReadsF.cons 2 1 36 (by kernel_rfl) (Reads.slice Tryd.underlying36 (by kernel_rfl) (by decide) 32 (by kernel_rfl) (Reads.struct (T := tyQn) (Q' := fun x => x.1.length ≤ 140737488351232) (ReadsF.cons 0 1 9 (by kernel_rfl) (Reads.str Tryd.underlying9) (ReadsF.cons 1 1 3 (by kernel_rfl) (Reads.int Tryd.underlying3) (ReadsF.cons 2 1 3 (by kernel_rfl) (Reads.int Tryd.underlying3) (ReadsF.nil 3)))) (fun (b : List UInt8 × Int × Int × Unit) => (b.1, b.2.1, b.2.2.1)) Tryd.underlying53 rfl (by kernel_rfl) (fun _ => rfl) (by intro b h; exact h.1))) (ReadsF.cons 3 1 37 (by kernel_rfl) (Reads.slice Tryd.underlying37 (by kernel_rfl) (by decide) 56 (by kernel_rfl) (Reads.struct (T := tyRec) (Q' := fun x => x.1.length ≤ 140737488351232 ∧ x.2.2.2.2.length ≤ 140737488351232) (ReadsF.cons 0 1 9 (by kernel_rfl) (Reads.str Tryd.underlying9) (ReadsF.cons 1 1 3 (by kernel_rfl) (Reads.int Tryd.underlying3) (ReadsF.cons 2 1 3 (by kernel_rfl) (Reads.int Tryd.underlying3) (ReadsF.cons 3 1 3 (by kernel_rfl) (Reads.int Tryd.underlying3) (ReadsF.cons 4 1 9 (by kernel_rfl) (Reads.str Tryd.underlying9) (ReadsF.nil 5)))))) (fun (b : List UInt8 × Int × Int × Int × List UInt8 × Unit) => (b.1, b.2.1, b.2.2.1, b.2.2.2.1, b.2.2.2.2.1)) Tryd.underlying43 rfl (by kernel_rfl) (fun _ => rfl) (by intro b h; exact ⟨h.1, h.2.2.2.2.1⟩))) (ReadsF.cons 4 1 37 (by kernel_rfl) (Reads.slice Tryd.underlying37 (by kernel_rfl) (by decide) 56 (by kernel_rfl) (Reads.struct (T := tyRec) (Q' := fun x => x.1.length ≤ 140737488351232 ∧ x.2.2.2.2.length ≤ 140737488351232) (ReadsF.cons 0 1 9 (by kernel_rfl) (Reads.str Tryd.underlying9) (ReadsF.cons 1 1 3 (by kernel_rfl) (Reads.int Tryd.underlying3) (ReadsF.cons 2 1 3 (by kernel_rfl) (Reads.int Tryd.underlying3) (ReadsF.cons 3 1 3 (by kernel_rfl) (Reads.int Tryd.underlying3) (ReadsF.cons 4 1 9 (by kernel_rfl) (Reads.str Tryd.underlying9) (ReadsF.nil 5)))))) (fun (b : List UInt8 × Int × Int × Int × List UInt8 × Unit) => (b.1, b.2.1, b.2.2.1, b.2.2.2.1, b.2.2.2.2.1)) Tryd.underlying43 rfl (by kernel_rfl) (fun _ => rfl) (by intro b h; exact ⟨h.1, h.2.2.2.2.1⟩))) (ReadsF.cons 5 1 37 (by kernel_rfl) (Reads.slice Tryd.underlying37 (by kernel_rfl) (by decide) 56 (by kernel_rfl) (Reads.struct (T := tyRec) (Q' := fun x => x.1.length ≤ 140737488351232 ∧ x.2.2.2.2.length ≤ 140737488351232) (ReadsF.cons 0 1 9 (by kernel_rfl) (Reads.str Tryd.underlying9) (ReadsF.cons 1 1 3 (by kernel_rfl) (Reads.int Tryd.underlying3) (ReadsF.cons 2 1 3 (by kernel_rfl) (Reads.int Tryd.underlying3) (ReadsF.cons 3 1 3 (by kernel_rfl) (Reads.int Tryd.underlying3) (ReadsF.cons 4 1 9 (by kernel_rfl) (Reads.str Tryd.underlying9) (ReadsF.nil 5)))))) (fun (b : List UInt8 × Int × Int × Int × List UInt8 × Unit) => (b.1, b.2.1, b.2.2.1, b.2.2.2.1, b.2.2.2.2.1)) Tryd.underlying43 rfl (by kernel_rfl) (fun _ => rfl) (by intro b h; exact ⟨h.1, h.2.2.2.2.1⟩))) (ReadsF.nil 6))))))) (fun (b : Int × Int × Vs (List UInt8 × Int × Int) × Vs (List UInt8 × Int × Int × Int × List UInt8) × Vs (List UInt8 × Int × Int × Int × List UInt8) × Vs (List UInt8 × Int × Int × Int × List UInt8) × Unit) => (b.1, b.2.1, b.2.2.1, b.2.2.2.1, b.2.2.2.2.1, b.2.2.2.2.2.1)) Tryd.underlying39 rfl (by kernel_rfl) (fun _ => rfl) (by intro b h; exact ⟨⟨h.2.2.1.1, by have := h.2.2.1.2.1; dsimp only; omega⟩, ⟨h.2.2.2.1.1, by have := h.2.2.2.1.2.1; dsimp only; omega⟩, ⟨h.2.2.2.2.1.1, by have := h.2.2.2.2.1.2.1; dsimp only; omega⟩, ⟨h.2.2.2.2.2.1.1, by have := h.2.2.2.2.2.1.2.1; dsimp only; omega⟩⟩)) (fun _ => ⟨_, rfl⟩) (hval 0 39 v0 rfl rfl) h0 (hsz 0 39 d0 rfl rfl)
  clear hA0 hval0
  refine (law_of (dohyoung_ok (id := a0.1) (flags := a0.2.1) q0.1.1 q0.2.1.1 q0.2.2.1.1 q0.2.2.2.1 ⟨(Nat.le_trans q0.1.2 (by decide)), (Nat.le_trans q0.2.1.2 (by decide)), (Nat.le_trans q0.2.2.1.2 (by decide)), (Nat.le_trans q0.2.2.2.2 (by decide))⟩ hTabs)).mono fun e W' ⟨he, bel⟩ => ?_
  subst he
  exact ⟨_, rfl, _, _, _, [], _, [], hW', trodAll_mk1 (shut_bool Tryd.underlying4 _), (trodAll_cons_mk (Below.trod laidOut (by kernel_rfl) (of_decide_eq_true (by kernel_rfl)) k0 bel lt0) trodAll_mk0), rfl, bel.frame _, fun h => by cases h⟩

theorem jf0 : (Rows.dohYoungRow.inPlace == Tryd.prog.inPlace 4) = true := by kernel_rfl
theorem jf1 : (Rows.dohYoungRow.unfollowed == Tryd.prog.unfollowed 4) = true := by kernel_rfl
theorem jf2 : (Rows.dohYoungRow.recurses == Tryd.prog.recurses 4) = true := by kernel_rfl
theorem jf3 : (Rows.dohYoungRow.named == Tryd.prog.varsNamed 4) = true := by kernel_rfl
theorem jall : joinedFacts Tryd.prog 4 Tryd.f4 Rows.dohYoungSpec Rows.dohYoungRow = true := by
  unfold joinedFacts
  rw [jf0, jf1, jf2, jf3]
  kernel_rfl

theorem over : Rows.dohYoungRow.holds Tryd.pinned (OpenSpec.ofChange Rows.dohYoungSpec) :=
  OpenClaim.holds_of_wide 4 Tryd.f4 rfl rfl rfl rfl rfl rfl rfl ⟨rfl, rfl, rfl, rfl, rfl⟩ rfl rfl rfl rfl rfl (by kernel_rfl) Tryd.func4 jall
    (of_decide_eq_true (by kernel_rfl)) (by unfold Func.isWrapper; first | (rw [if_pos (by decide +kernel)]; kernel_rfl) | (rw [if_neg (by decide +kernel)]; exact ⟨rfl, rfl⟩))
    (fun os started H enc _ => lifted os started H enc)

theorem pf0 : Rows.dohYoungRow.wfByText (OpenSpec.ofChange Rows.dohYoungSpec) = true := by kernel_rfl
theorem pf3 : false = Rows.dohYoungRow.goesBy Tryd.prog := by kernel_rfl
theorem proved : Rows.DohYoungCardSaid :=
  Claim7.holds_tied_plain_at .later [] [.data, .pinned] true (true, "113b272c018cbaf87befbe247f24e1371cdd93a73e14f87f7a54592165fc64f2") true
    over (fun _ h => by cases h) pf0 (fun _ h => by cases h) dohYoung_row_tie rfl ⟨rfl, rfl⟩ seat_main rfl
    (fun f fn hf hfn => by
      obtain rfl : f = 4 := Option.some.inj ((show Tryd.prog.funcNamed "ostiary/ostiarylaw16.DohYoung" = some 4 by kernel_rfl).symm.trans hf) |>.symm
      obtain rfl : fn = Tryd.f4 := (Option.some.inj (Tryd.func4.symm.trans hfn)).symm
      exact ⟨seat_looks, fun j t ht => by
        rw [Tryd.params4] at ht
        have hm : t ∈ ([39] : List Nat) := by simpa using Array.mem_of_getElem? ht
        have hall : (([39] : List Nat).all fun u => !Tryd.prog.wantsStandIn u) = true := by kernel_rfl
        exact (show Tryd.prog.wantsStandIn t = false by simpa using List.all_eq_true.1 hall t hm)⟩)
    pf3
end Go.Proofs.YtlkdmbpbjhjkfaaDoor.pDohYoung
