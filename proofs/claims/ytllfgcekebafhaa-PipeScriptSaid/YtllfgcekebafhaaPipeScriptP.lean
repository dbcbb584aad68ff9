/- PipeScript: the law holds of every input: it returns true, and each argument reads as it did. -/
import Derived.Test.YtllfgcekebafhaaP11
import Derived.Test.YtllfgcekebafhaaLgN
import Derived.Test.YtllfgcekebafhaaChecked
import Derived.Test.YtllfgcekebafhaaRows
import Derived.SizedLaws
import Derived.WalkKit
import Derived.ProofKit
import Derived.OpenShut
import Derived.ShutString
import Derived.ChangeOld
import Derived.Below
import Derived.Deep.Slices
namespace Go.Proofs.Ytllfgcekebafhaa.pPipeScript
open Go.ChangeShapes Go.WideShapes Go.ChangeAt Go.RowKit Go.Deep
open Go.ChangeMaps (open_string shut_string)
set_option linter.unusedVariables false

theorem own : ownKnob Try.prog.godebug = none := by kernel_rfl
theorem laidOut : laidOutB Try.prog = true := by kernel_rfl

set_option maxRecDepth 100000 in
theorem lifted (os : Os) (started : os.Started) (H : Type) (enc : TypeId × Value → H) :
    ReturnsInHanded {} Try.checked os 5 .any (Rows.pipeScriptSpec.pre6 enc Try.prog Try.f5 Rows.pipeScriptRow.domain false) (Rows.pipeScriptSpec.post enc Try.prog Try.f5 false true false false) := by
  refine returnsInHanded_of_change_sized (C := Try.checked) own started (by kernel_rfl) Try.func5
    (ChangeSpec.witness6 (enc := enc) (C := Try.checked) false ⟨#[], #[.bool false, .slice none 0 0], []⟩ 8 (by kernel_rfl) (by kernel_rfl) (by kernel_rfl) (by kernel_rfl)) ?_
  intro W base args ds gs before hval0 hW hcnd hsz0 _
  have hsz : ∀ (j : Nat) t d, Try.f5.params.toList[j]? = some t → ds[j]? = some d → ∀ n ∈ d.weights Try.prog t, n ≤ 140737488351232 := fun j t d ht hd n hn => by
    have h1 := List.all_eq_true.1 hsz0 n (DataW.weights_mem_each (j := j) (t := t) (d := d) (by rw [List.getElem?_append_left (List.getElem?_eq_some_iff.1 ht).1]; exact ht) (by rw [List.getElem?_append_left (List.getElem?_eq_some_iff.1 hd).1]; exact hd) n hn)
    exact of_decide_eq_true h1
  have hval : ∀ (j : Nat) t v, Try.f5.params[j]? = some t → args[j]? = some v → Value.okWide Try.prog W .any base t v := hval0
  have hW' := hW
  obtain ⟨p, q, hA0, hV, rfl, hfz, hnd⟩ := hW
  have hA : DataW.TrodAll enc Try.prog W 0 (fun _ => true) true Try.f5.params.toList args.toList ds p := hA0
  rw [Try.params5] at hA hval hsz
  obtain ⟨v0, vs0, d0, ds0, p0, q0, hargs, rfl, rfl, h0, tr0⟩ := trodAll_cons hA
  obtain ⟨v1, vs1, d1, ds1, p1, q1, rfl, rfl, rfl, h1, tr1⟩ := trodAll_cons tr0
  obtain ⟨rfl, rfl, rfl⟩ := trodAll_nil tr1
  obtain rfl : args = #[v0, v1] := by cases args; simp_all
  obtain ⟨rfl, rfl⟩ := trodVars_none hV
  have k0 := h0
  have lt0 : ∀ x ∈ p0, x.block < W.heap.size := by obtain ⟨m, hm⟩ := k0; exact DataW.trod_lt m _ _ _ hm
  obtain ⟨a0, rfl⟩ := arg_bool Try.underlying4 (hval 0 4 v0 rfl rfl) h0 (hsz 0 4 d0 rfl rfl)
  have k1 := h1
  have lt1 : ∀ x ∈ p1, x.block < W.heap.size := by obtain ⟨m, hm⟩ := k1; exact DataW.trod_lt m _ _ _ hm
  obtain ⟨A1, C1, l1, rfl, r1, b1, q1⟩ := arg_slice Try.underlying37 (by kernel_rfl) (by decide) 32 (by kernel_rfl) (Reads.struct (T := tyAct) (Q' := fun x => Rd tyB W W.heap.size [] x.2.A x.2.C x.2.l ∧ x.2.l.length ≤ 140737488351232) (ReadsF.cons 0 1 3 (by kernel_rfl) (Reads.int Try.underlying3) (ReadsF.cons 1 1 22 (by kernel_rfl) (Reads.slice Try.underlying22 (by kernel_rfl) (by decide) 1 (by kernel_rfl) (Reads.u8 Try.underlying5)) (ReadsF.nil 2))) (fun (b : Int × Bs × Unit) => (b.1, b.2.1)) Try.underlying46 rfl (by kernel_rfl) (fun _ => rfl) (by intro b h; exact ⟨h.2.1.1, by have := h.2.1.2.1; dsimp only; omega⟩)) (hval 1 37 v1 rfl rfl) h1 (hsz 1 37 d1 rfl rfl)
  clear hA0 hval0
  refine (law_of ((by cases a0; exact script_f (l := l1) r1 (fun x hx => (q1 x hx).1) (fun x hx => (q1 x hx).2) (by omega); exact script_t (l := l1) r1 (fun x hx => (q1 x hx).1) (fun x hx => (q1 x hx).2) (by omega)))).mono fun e W' ⟨he, bel⟩ => ?_
  subst he
  exact ⟨_, rfl, _, _, _, [], _, [], hW', trodAll_mk1 (shut_bool Try.underlying4 _), (trodAll_cons_mk (Below.trod laidOut (by kernel_rfl) (of_decide_eq_true (by kernel_rfl)) k0 bel lt0) (trodAll_cons_mk (Below.trod laidOut (by kernel_rfl) (of_decide_eq_true (by kernel_rfl)) k1 bel lt1) trodAll_mk0)), rfl, bel.frame _, fun h => by cases h⟩

theorem over : Rows.pipeScriptRow.holds Try.pinned (OpenSpec.ofChange Rows.pipeScriptSpec) :=
  OpenClaim.holds_of_wide 5 Try.f5 rfl rfl rfl rfl rfl rfl rfl ⟨rfl, rfl, rfl, rfl, rfl⟩ rfl rfl rfl rfl rfl (by kernel_rfl) Try.func5 (by kernel_rfl)
    (of_decide_eq_true (by kernel_rfl)) (by unfold Func.isWrapper; first | (rw [if_pos (by decide +kernel)]; kernel_rfl) | (rw [if_neg (by decide +kernel)]; exact ⟨rfl, rfl⟩))
    (fun os started H enc _ => lifted os started H enc)

theorem proved : Rows.PipeScriptSaid := over
end Go.Proofs.Ytllfgcekebafhaa.pPipeScript
