/- A logic for walks: regions that draw their order, in which what acts may come in several orders. -/
import Derived.Test.YtlkdmbpbjhjkfaaGreatDoorLgG
namespace Go.Proofs.YtlkdmbpbjhjkfaaGreatDoor
open Go.RowKit (Below)
set_option linter.unusedVariables false
set_option linter.unusedSimpArgs false
def waitsM (os : List Oper) (val : Env) (fs : List Nat) : Bool := os.zipIdx.all fun (o, i) => isKnown val i || (fs.any fun e => Nat.beq i e) || (depsL o).any fun j => !isKnown val j
def AllM : List Nat → (Nat → Prop) → Prop
  | [], _ => True
  | e :: es, p => p e ∧ AllM es p
theorem AllM.get {p : Nat → Prop} : ∀ {fs : List Nat}, AllM fs p → ∀ e ∈ fs, p e
  | _ :: _, h, e, he => by
    rcases List.mem_cons.1 he with rfl | he
    · exact h.1
    · exact AllM.get h.2 e he
/-- The operations that act, in whatever order the region lets them: fs those that may be next; n how many are left. -/
def PhM (X : Pt) (os : List Oper) (k : List Item) (E0 : Env) (ds : List Deferred) : Nat → List Nat → Env → Env → List Seg → Prop
  | 0, _, pv, xv, H => PureL X os E0 (pv ++ xv) xv H pv ∧ (os.zipIdx.all fun (_, i) => isKnown (pv ++ xv) i) = true ∧ At X k (finE os 0 (pv ++ xv) E0) ds H
  | n + 1, fs, pv, xv, H => PureL X os E0 (pv ++ xv) xv H pv ∧ fs ≠ [] ∧ (fs.all fun x => !isKnown (pv ++ xv) x) = true ∧ waitsM os (pv ++ xv) fs = true ∧
    AllM fs fun e => ∃ o, os[e]? = some o ∧ dstOk X.n o.dst = true ∧ wantsB os (pre os E0 (pv ++ xv) e) o.guard true ∧ ∃ R, Does X (pre os E0 (pv ++ xv) e) H o.op R ∧
      ∀ v H', R v H' → ∃ pv' fs', (pv'.all fun p => !isKnown (pv ++ xv) p.1 && !Nat.beq p.1 e) = true ∧ PhM X os k E0 ds n fs' (pv' ++ pv) ((e, v) :: xv) H'
section
variable {X : Pt} {k : List Item} {E0 : Env} {ds : List Deferred} {ops : Array Oper}
theorem draw_goM (hok : okTmps ops.toList = true) (hdl : okDeps ops.toList = true) (hrd : (ops.toList.all fun o => (readsOf ops.toList o).all fun t => Nat.blt t X.n) = true) :
    ∀ (fuel t : Nat) (l : Array Bool) (n : Nat) (fs : List Nat) (pv xv : Env) (H : List Seg) (a : Array Value) (w : World), l.size = ops.size → (∀ i o, ops.toList[i]? = some o → Dn l i → ∀ j ∈ depsL o, Dn l j) →
      (∀ i o, ops.toList[i]? = some o → Dn l i → isKnown (pv ++ xv) i = true) → (∀ p ∈ xv, Dn l p.1) →
      (ops.size ≤ fuel + ((List.range ops.size).filter fun i => l.getD i false).length) → PhM X ops.toList k E0 ds n fs pv xv H → AgD X.n ops.toList E0 (pv ++ xv) (Dn l) a → Sep X.w0 X.base w H →
      Ev X.P (lone (X.c.fr a ds (.inRegion ops (Region.linearise.go .any ops fuel t l []) :: k)) X.cs w) X.G := by
  intro fuel
  induction fuel with
  | zero =>
    intro t l n fs pv xv H a w hs hcl hkn hxv hf hp ha S
    have hall : ∀ i o, ops.toList[i]? = some o → Dn l i := by
      intro i o ho
      have hlt : i < ops.size := by have := (List.getElem?_eq_some_iff.1 ho).1; simpa using this
      have hle : ((List.range ops.size).filter fun i => l.getD i false).length ≤ ops.size := by
        have := List.length_filter_le (fun i => l.getD i false) (List.range ops.size)
        simpa using this
      have heq : ((List.range ops.size).filter fun i => l.getD i false).length = (List.range ops.size).length := by rw [List.length_range]; omega
      have := List.length_filter_eq_length_iff.1 heq i (List.mem_range.2 hlt)
      exact this
    cases n with
    | succ n =>
      obtain ⟨_, hne, hun, _, hall2⟩ := hp
      cases fs with
      | nil => exact absurd rfl hne
      | cons e es =>
        obtain ⟨o, ho, _⟩ := hall2.1
        have h1 := hkn e o ho (hall e o ho)
        have h2 := List.all_eq_true.1 hun e (by simp)
        rw [h1] at h2; cases h2
    | zero =>
      obtain ⟨_, hkn2, hat⟩ := hp
      simp only [Region.linearise.go, List.reverse_nil]
      refine .step go_region_end (hat a w (ha.fin hall (fun i o ho => ?_)) S)
      exact hkn i o ho (hall i o ho)
  | succ fuel ih =>
    intro t l n fs pv xv H a w hs hcl hkn hxv hf hp ha S
    simp only [Region.linearise.go]
    split
    · rename_i i hi
      rw [linearise_go_acc]
      simp only [List.reverse_cons, List.reverse_nil, List.nil_append, List.singleton_append]
      have hmem : i ∈ Region.ready .any ops l := List.mem_iff_getElem?.2 ⟨_, hi⟩
      obtain ⟨o, ho, hnl, hdeps⟩ := ready_mem hmem
      have hnd := not_dn hnl
      have hoL : ops.toList[i]? = some o := by rw [Array.getElem?_toList]; exact ho
      have hlt : i < ops.size := (Array.getElem?_eq_some_iff.1 ho).1
      have hAg := ha.pre hok hdl hcl hoL hnd hdeps
      have hprelt : ∀ t v, Env.get (pre ops.toList E0 (pv ++ xv) i) t = some v → t < X.n := by
        have h1 := List.all_eq_true.1 hrd o (List.mem_iff_getElem?.2 ⟨i, hoL⟩)
        have key : ∀ ts : List Nat, (∀ t ∈ ts, t < X.n) → ∀ t v, Env.get (preL ops.toList E0 (pv ++ xv) i ts) t = some v → t < X.n := by
          intro ts
          induction ts with
          | nil => intro _ t v hv; simp [preL, Env.get] at hv
          | cons t0 ts ih =>
            intro hts t v hv
            simp only [preL] at hv
            split at hv
            · simp only [Env.get] at hv
              by_cases e : t0 = t
              · subst e; exact hts t0 (by simp)
              · rw [beq_no e] at hv
                exact ih (fun t ht => hts t (by simp [ht])) t v hv
            · exact ih (fun t ht => hts t (by simp [ht])) t v hv
        intro t v hv
        unfold pre at hv
        rw [hoL] at hv
        exact key _ (fun t ht => blt_lt (List.all_eq_true.1 h1 t ht)) t v hv
      -- what is the same in each case behind the operation
      have after : ∀ (n' : Nat) (fs' : List Nat) (pv' xv' : Env) (H' : List Seg) (v : Value) (w' : World), PhM X ops.toList k E0 ds n' fs' pv' xv' H' → Sep X.w0 X.base w' H' → dstOk X.n o.dst = true → Env.get (pv' ++ xv') i = some v →
          (∀ j, isKnown (pv ++ xv) j = true → Env.get (pv' ++ xv') j = Env.get (pv ++ xv) j) → (∀ p ∈ xv', Dn l p.1 ∨ p.1 = i) →
          Ev X.P (lone (X.c.fr (putA a o.dst v) ds (.inRegion ops (Region.linearise.go .any ops fuel (t / (Region.ready .any ops l).length) (l.setIfInBounds i true) []) :: k)) X.cs w') X.G := by
        intro n' fs' pv' xv' H' v w' hp' S' hd hv hsame hxv'
        have hds := dn_set (l := l) (i := i) (by omega)
        have hAgD : AgD X.n ops.toList E0 (pv' ++ xv') (Dn l) a := by
          refine ⟨ha.size, fun j p t u hDj hp hpd hlast hu => ?_, ha.old⟩
          refine ha.done j p t u hDj hp hpd hlast ?_
          rw [← hsame j (hkn j p hp hDj)]
          exact hu
        have hst := hAgD.step hok hdl hcl hoL hnd hd hv
        refine ih _ _ n' fs' pv' xv' H' _ w' (by simpa using hs) ?_ ?_ ?_ ?_ hp' ?_ S'
        · intro j p hj hDj m hm
          rw [hds] at hDj ⊢
          rcases hDj with hDj | rfl
          · exact .inl (hcl j p hj hDj m hm)
          · rw [hoL] at hj; cases hj
            exact .inl (hdeps m hm)
        · intro j p hj hDj
          rw [hds] at hDj
          rcases hDj with hDj | rfl
          · have := hkn j p hj hDj
            unfold isKnown at this ⊢
            rw [hsame j this]; exact this
          · unfold isKnown; rw [hv]; rfl
        · intro p hp
          rw [hds]; exact hxv' p hp
        · have hcount : ((List.range ops.size).filter fun j => (l.setIfInBounds i true).getD j false).length = ((List.range ops.size).filter fun j => l.getD j false).length + 1 := by
            have hp : ∀ j, (l.setIfInBounds i true).getD j false = (l.getD j false || Nat.beq j i) := by
              intro j
              have : (l.setIfInBounds i true).getD j false = true ↔ l.getD j false = true ∨ j = i := hds j
              rw [Bool.eq_iff_iff, Bool.or_eq_true, this]
              constructor
              · rintro (h | h)
                · exact .inl h
                · exact .inr (by subst h; simp)
              · rintro (h | h)
                · exact .inl h
                · exact .inr (Nat.eq_of_beq_eq_true h)
            have hif : l.getD i false = false := by
              cases hb : l.getD i false with
              | false => rfl
              | true => exact absurd hb hnd
            have hset : (List.range ops.size).filter (fun j => (l.setIfInBounds i true).getD j false) = (List.range ops.size).filter fun j => ((fun j => l.getD j false) j || Nat.beq j i) := List.filter_congr fun j _ => hp j
            rw [hset]
            exact count_more _ i hif _ List.nodup_range (List.mem_range.2 hlt)
          omega
        · refine ⟨hst.size, ?_, ?_⟩
          · intro j p t u hDj hp hpd hlast hu
            exact hst.done j p t u ((hds j).1 hDj) hp hpd (fun m hm hDm q hq => hlast m hm ((hds m).2 hDm) q hq) hu
          · intro t u hno hu
            exact hst.old t u (fun m hDm p hp => hno m ((hds m).2 hDm) p hp) hu
      -- an operation whose value is known in this phase
      have pureCase : ∀ v, Env.get pv i = some v → PureL X ops.toList E0 (pv ++ xv) xv H pv →
          Ev X.P (lone (X.c.fr a ds (.inRegion ops (i :: Region.linearise.go .any ops fuel (t / (Region.ready .any ops l).length) (l.setIfInBounds i true) []) :: k)) X.cs w) X.G := by
        intro v hv hpl
        have hone : PureOne X ops.toList E0 (pv ++ xv) H i v := by
          rcases hpl.get hv with h | h
          · obtain ⟨p, hp1, hp2⟩ := List.any_eq_true.1 h
            have hDp := hxv p hp1
            cases hop : ops.toList[p.1]? with
            | none =>
              exfalso
              have hlen : (masks ops.toList []).length = ops.toList.length := by have := masks_len ops.toList []; simpa using this
              have hnone : (masks ops.toList []).getD p.1 0 = 0 := by
                rw [List.getElem?_eq_none_iff] at hop
                simp [List.getD, List.getElem?_eq_none (show (masks ops.toList []).length ≤ p.1 by omega)]
              unfold befB at hp2
              rw [hnone] at hp2
              simp at hp2
            | some q => exact absurd (bef_done hcl hdl p.1 q hop (hcl p.1 q hop hDp) i hp2) hnd
          · exact h
        obtain ⟨o', ho', hd, hor⟩ := hone
        rw [hoL] at ho'; cases ho'
        have hget : Env.get (pv ++ xv) i = some v := by rw [get_app, hv]
        have hcont := fun (w' : World) (S' : Sep X.w0 X.base w' H) => after n fs pv xv H v w' hp S' hd hget (fun j _ => rfl) (fun p hp => .inl (hxv p hp))
        rcases hor with ⟨hw, hdo⟩ | ⟨hw, rfl⟩
        · obtain ⟨v', H', w', ⟨rfl, rfl⟩, S', hst⟩ := hdo o.dst o.type o.pos o.after o.guard ops i _ k ds a w ho (wants_true hAg hprelt hw) (fun x u hx => hAg.ev hx) S
          exact .steps hst (hcont w' S')
        · exact .step (go_op_skip ho (wants_false hAg hprelt hw)) (hcont w S)
      cases n with
      | zero =>
        obtain ⟨hpl, hall, hat⟩ := hp
        have hk1 := List.all_eq_true.1 hall (o, i) (List.mem_iff_getElem?.2 ⟨i, by simp [List.getElem?_zipIdx, hoL]⟩)
        have hk1 : isKnown (pv ++ xv) i = true := hk1
        cases hv : Env.get pv i with
        | some v => exact pureCase v hv hpl
        | none =>
          unfold isKnown at hk1
          rw [get_app, hv] at hk1
          cases hx : Env.get xv i with
          | none => rw [hx] at hk1; cases hk1
          | some u => exact absurd (hxv _ (get_mem hx)) hnd
      | succ n =>
        have hp0 := hp
        obtain ⟨hpl, hne, hek, hwt, hAll⟩ := hp
        have hunk : ∀ x ∈ fs, Env.get (pv ++ xv) x = none := by
          intro x hx
          have := List.all_eq_true.1 hek x hx
          unfold isKnown at this
          cases hg : Env.get (pv ++ xv) x with
          | none => rfl
          | some u => rw [hg] at this; cases this
        by_cases hie : i ∈ fs
        · obtain ⟨oe, hoe, hd, hw, R, hdo, hR⟩ := hAll.get i hie
          rw [hoL] at hoe; cases hoe
          obtain ⟨v, H', w', hRv, S', hst⟩ := hdo o.dst o.type o.pos o.after o.guard ops i (Region.linearise.go .any ops fuel (t / (Region.ready .any ops l).length) (l.setIfInBounds i true) []) k ds a w ho (wants_true hAg hprelt hw) (fun x u hx => hAg.ev hx) S
          obtain ⟨pv', fs', hpv', hp'⟩ := hR v H' hRv
          refine .steps hst ?_
          have hfresh : ∀ j u, Env.get pv' j = some u → Env.get (pv ++ xv) j = none ∧ j ≠ i := by
            intro j u hj
            have hm : ∃ p ∈ pv', p.1 = j := by
              clear hp' hpv'
              induction pv' with
              | nil => simp [Env.get] at hj
              | cons p pv' ihp =>
                simp only [Env.get] at hj
                by_cases e : p.1 = j
                · exact ⟨p, by simp, e⟩
                · rw [beq_no e] at hj
                  obtain ⟨q, hq, hq2⟩ := ihp hj
                  exact ⟨q, by simp [hq], hq2⟩
            obtain ⟨p, hp1, rfl⟩ := hm
            have := List.all_eq_true.1 hpv' p hp1
            rw [Bool.and_eq_true, Bool.not_eq_true', Bool.not_eq_true'] at this
            refine ⟨?_, ?_⟩
            · have h1 := this.1
              unfold isKnown at h1
              cases hg : Env.get (pv ++ xv) p.1 with
              | none => rfl
              | some u => rw [hg] at h1; cases h1
            · intro e
              have h2 := this.2
              rw [e] at h2
              simp at h2
          have hi0 := hunk i hie
          have hpi : Env.get pv i = none := by
            rw [get_app] at hi0
            cases hg : Env.get pv i with
            | none => rfl
            | some u => rw [hg] at hi0; cases hi0
          have hget : Env.get ((pv' ++ pv) ++ ((i, v) :: xv)) i = some v := by
            rw [get_app, get_app]
            cases hg : Env.get pv' i with
            | some u => exact absurd rfl (hfresh i u hg).2
            | none => simp [hpi, Env.get]
          refine after n fs' _ _ H' v w' hp' S' hd hget ?_ ?_
          · intro j hj
            have hj0 : Env.get (pv ++ xv) j ≠ none := by
              unfold isKnown at hj
              intro h; rw [h] at hj; cases hj
            have hji : j ≠ i := by rintro rfl; exact hj0 hi0
            rw [get_app, get_app, get_app]
            cases hg : Env.get pv' j with
            | some u => exact absurd (hfresh j u hg).1 hj0
            | none =>
              cases hg2 : Env.get pv j with
              | some u => rfl
              | none => simp only [Env.get, beq_no (Ne.symm hji)]
          · intro p hp
            rcases List.mem_cons.1 hp with rfl | hp
            · exact .inr rfl
            · exact .inl (hxv p hp)
        · have hk1 := List.all_eq_true.1 hwt (o, i) (List.mem_iff_getElem?.2 ⟨i, by simp [List.getElem?_zipIdx, hoL]⟩)
          have hk1 : (isKnown (pv ++ xv) i || (fs.any fun e => Nat.beq i e) || (depsL o).any fun j => !isKnown (pv ++ xv) j) = true := hk1
          have hany : ((depsL o).any fun j => !isKnown (pv ++ xv) j) = false := by
            cases hb : ((depsL o).any fun j => !isKnown (pv ++ xv) j) with
            | false => rfl
            | true =>
              obtain ⟨j, hj, hjk⟩ := List.any_eq_true.1 hb
              have hDj := hdeps j hj
              have hjlt : j < i := by
                have h1 := List.all_eq_true.1 hdl (o, i) (List.mem_iff_getElem?.2 ⟨i, by simp [List.getElem?_zipIdx, hoL]⟩)
                exact blt_lt (List.all_eq_true.1 h1 j hj)
              have hjl : j < ops.toList.length := by simpa using (show j < ops.size by omega)
              have := hkn j _ (List.getElem?_eq_getElem hjl) hDj
              rw [this] at hjk; cases hjk
          have hfs : (fs.any fun e => Nat.beq i e) = false := by
            cases hb : (fs.any fun e => Nat.beq i e) with
            | false => rfl
            | true =>
              obtain ⟨e, he, he2⟩ := List.any_eq_true.1 hb
              exact absurd (Nat.eq_of_beq_eq_true he2 ▸ he) hie
          rw [hfs, hany, Bool.or_false, Bool.or_false] at hk1
          cases hv : Env.get pv i with
          | some v => exact pureCase v hv hpl
          | none =>
            unfold isKnown at hk1
            rw [get_app, hv] at hk1
            cases hx : Env.get xv i with
            | none => rw [hx] at hk1; cases hk1
            | some u => exact absurd (hxv _ (get_mem hx)) hnd
    · rename_i hnone
      have hempty : Region.ready .any ops l = [] := by
        cases hr : Region.ready .any ops l with
        | nil => rfl
        | cons b r =>
          have hlen : t % (Region.ready .any ops l).length < (Region.ready .any ops l).length := Nat.mod_lt _ (by rw [hr]; simp)
          exact absurd hnone (by
            show ¬ (Region.ready .any ops l)[t % (Region.ready .any ops l).length]? = none
            rw [List.getElem?_eq_getElem hlen]; simp)
      have hall := all_done hdl hs hempty
      cases n with
      | succ n =>
        obtain ⟨_, hne, hun, _, hall2⟩ := hp
        cases fs with
        | nil => exact absurd rfl hne
        | cons e es =>
          obtain ⟨o, ho, _⟩ := hall2.1
          have h1 := hkn e o ho (hall e o ho)
          have h2 := List.all_eq_true.1 hun e (by simp)
          rw [h1] at h2; cases h2
      | zero =>
        obtain ⟨_, hkn2, hat⟩ := hp
        simp only [List.reverse_nil]
        refine .step go_region_end (hat a w (ha.fin hall (fun i o ho => ?_)) S)
        exact hkn i o ho (hall i o ho)
/-- A region that draws its order: what does not act is known ahead, what acts may come in several orders. -/
theorem At.drawM {id : Nat} {n : Nat} {fs : List Nat} {pv : Env} {H : List Seg} (hm : X.P.follows .mixedOrders = true) (hok : okTmps ops.toList = true) (hdl : okDeps ops.toList = true) (hrd : (ops.toList.all fun o => (readsOf ops.toList o).all fun t => Nat.blt t X.n) = true)
    (hp : PhM X ops.toList k E0 ds n fs pv [] H) : At X (.code (.region id ops true) :: k) E0 ds H := by
  intro a w ha S
  refine .step go_region_draw ?_
  have hno : ∀ i, ¬ Dn (Array.replicate ops.size false) i := by
    intro i hi
    unfold Dn at hi
    rw [Array.getD_eq_getD_getElem?, Array.getElem?_replicate] at hi
    split at hi <;> simp at hi
  unfold Region.schedule Region.linearise
  rw [hm, Bool.true_or, if_pos rfl]
  refine draw_goM hok hdl hrd ops.size _ _ n fs pv [] H a _ (by simp) ?_ ?_ ?_ (Nat.le_add_right _ _) hp ⟨ha.size, ?_, ?_⟩ (S.drawn _)
  · exact fun i o _ h => absurd h (hno i)
  · exact fun i o _ h => absurd h (hno i)
  · intro p h; cases h
  · exact fun j o t v h => absurd h (hno j)
  · exact fun t v _ h => ha.get t v h
end
section
variable {X : Pt} {k : List Item} {E : Env} {ds : List Deferred} {H : List Seg} {id : Nat} {rops : Array Oper}
/-- The orders of a region meet behind it: what is known there is told by Q. -/
theorem At.joinQ (Q : Env → List Seg → Prop) (h : (∀ E2 H2, Q E2 H2 → At X k E2 ds H2) → At X (.code (.region id rops true) :: k) E ds H) (K : ∀ E2 H2, Q E2 H2 → At X k E2 ds H2) : At X (.code (.region id rops true) :: k) E ds H := h K
end
end Go.Proofs.YtlkdmbpbjhjkfaaGreatDoor
