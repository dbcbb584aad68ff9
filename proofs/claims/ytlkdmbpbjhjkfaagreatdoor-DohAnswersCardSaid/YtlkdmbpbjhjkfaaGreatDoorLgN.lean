/- A logic for walks: what arguments that come in read as. -/
import Derived.Test.YtlkdmbpbjhjkfaaGreatDoorLgK
import Derived.ChangeArms
import Derived.ChangeShapes
import Derived.WideShapes
import Derived.ChangeMaps5
import Derived.Deep.Slices
import Derived.RowKit
import Derived.SizedLaws
namespace Go.Proofs.YtlkdmbpbjhjkfaaGreatDoor
open Go.RowKit (Below)
open Go.WideShapes Go.ChangeShapes
set_option linter.unusedVariables false
set_option linter.unusedSimpArgs false

theorem cell_skip {W : World} {a : Addr} {v : Value} (h : W.cell? a = some v) : a.block < W.heap.size := by
  unfold World.cell? at h
  split at h
  · rename_i hb
    exact (Array.getElem?_eq_some_iff.1 hb).1
  · simp at h
theorem addr_at {a : Addr} {W : World} {v : Value} (h : W.cell? (a.add 0) = some v) : a = ⟨a.block, a.off, none⟩ := by
  have : a.add 0 = a := by simp [Addr.add]
  rw [this] at h
  have hs := World.cell?_spot h
  cases a
  simp_all
/-- Values of this type that came in read so. -/
def Reads (P : Program) (W : World) (t : TypeId) {α : Type} (T : Ty α) (Q : α → Prop) : Prop :=
  ∀ {H : Type} (enc : TypeId × Value → H) (spare : Nat → Bool) (held : Bool) (fuel : Nat) (cs : List Value) (x : DataW H × List MemPlace), DataW.trod enc P W 0 spare held fuel t cs = some x → (∀ n ∈ x.1.weights P t, n ≤ 140737488351232) → ∃ a, cs = (T.val a).cells.toList ∧ Q a
def I64 (n : Int) : Prop := -9223372036854775808 ≤ n ∧ n ≤ 9223372036854775807
def tyBool : Ty Bool := { val := fun b => .bool b, sz := 1, ok := fun _ => rfl, plain := fun x c hc => by simp [Value.cells] at hc; subst hc; rfl }
theorem Reads.int {P : Program} {W : World} {t : TypeId} (ht : P.underlying t = some (.int .i64)) : Reads P W t tyI I64 := fun enc spare held fuel cs x h hw0 => by
  obtain ⟨n, rfl, _, hw⟩ := DataW.trod_int ht h
  refine ⟨n, rfl, ?_⟩
  simpa [Lit.wf, IntKind.min, IntKind.max, IntKind.signed, IntKind.bits, I64] using hw
theorem Reads.bool {P : Program} {W : World} {t : TypeId} (ht : P.underlying t = some .bool) : Reads P W t tyBool (fun _ => True) := fun enc spare held fuel cs x h hw0 => by
  obtain ⟨b, rfl, _⟩ := DataW.trod_bool ht h
  exact ⟨b, rfl, trivial⟩
theorem Reads.u8 {P : Program} {W : World} {t : TypeId} (ht : P.underlying t = some (.int .u8)) : Reads P W t tyB (fun _ => True) := fun enc spare held fuel cs x h hw0 => by
  obtain ⟨n, rfl, _, hw⟩ := DataW.trod_int ht h
  have hw : 0 ≤ n ∧ n ≤ 255 := by simpa [Lit.wf, IntKind.min, IntKind.max, IntKind.signed, IntKind.bits] using hw
  refine ⟨UInt8.ofNat n.toNat, ?_, trivial⟩
  have e : ((UInt8.ofNat n.toNat).toNat : Int) = n := by
    rw [UInt8.toNat_ofNat_of_lt' (by show n.toNat < 256; omega)]; omega
  show [Value.int .u8 n] = [Value.int .u8 _]
  rw [e]
theorem Reads.str {P : Program} {W : World} {t : TypeId} (ht : P.underlying t = some .string) : Reads P W t tyS (fun l => l.length ≤ 140737488351232) := fun enc spare held fuel cs x h hw0 => by
  obtain ⟨s, rfl, hx, hs⟩ := DataW.trod_string ht h
  subst hx
  exact ⟨s.data.toList, rfl, hw0 _ (by simp [DataW.weights])⟩
theorem weights_mem_all {H : Type} {P : Program} {e : TypeId} : ∀ {ds : List (DataW H)} {d : DataW H}, d ∈ ds → ∀ n ∈ d.weights P e, n ∈ DataW.weightsAll P e ds
  | d0 :: ds, d, hd, n, hn => by
    simp only [DataW.weightsAll, List.mem_append]
    rcases List.mem_cons.1 hd with rfl | hd
    · exact .inl hn
    · exact .inr (weights_mem_all hd n hn)
theorem Reads.slice {P : Program} {W : World} {t e : TypeId} {α : Type} {T : Ty α} {Q : α → Prop} (ht : P.underlying t = some (.slice e)) (hc : P.cellsOf e = T.sz) (hz : 0 < T.sz) (k : Nat) (hk : P.bytesOf e = k) (he : Reads P W e T Q) :
    Reads P W t (tyVs α) (fun v => Rd T W W.heap.size [] v.A v.C v.l ∧ v.l.length * k ≤ 140737488351232 ∧ ∀ x ∈ v.l, Q x) := fun {H} enc spare held fuel cs x h hw0 => by
  rcases Deep.open_slice ht h with ⟨rfl, _⟩ | ⟨a, len, cap, m, n, D, Pl, rfl, hb, hl, hm, hmm, hxe, hx⟩
  · exact ⟨⟨none, 0, []⟩, rfl, Rd.nil_, by simp, by simp⟩
  · have hlm : len ≤ m := by rw [hmm]; split <;> omega
    subst hxe
    have hw1 : len * k ≤ 140737488351232 := by
      have := hw0 _ (by simp only [DataW.weights, ht, List.length_map, List.length_range]; exact List.mem_cons_self ..)
      rw [hk] at this
      exact Nat.le_trans (Nat.mul_le_mul_right _ (by omega)) this
    have hw2 : ∀ i, i < len → ∀ n ∈ (D i).weights P e, n ≤ 140737488351232 := fun i hi n hn => hw0 n (by
      simp only [DataW.weights, ht]
      exact List.mem_cons_of_mem _ (List.mem_append_left _ (weights_mem_all (List.mem_map.2 ⟨i, List.mem_range.2 hi, rfl⟩) n hn)))
    have hv : ∀ i, ∃ y : Option α, i < len → ∃ z, y = some z ∧ Q z ∧ W.cells? 0 (a.add (i * T.sz)) T.sz = some (T.val z).cells.toList := fun i => by
      by_cases hi : i < len
      · obtain ⟨cs', h1, h2⟩ := hx i (by omega)
        obtain ⟨z, rfl, hq⟩ := he enc spare held n cs' _ h2 (hw2 i hi)
        exact ⟨some z, fun _ => ⟨z, rfl, hq, by rw [← hc]; exact h1⟩⟩
      · exact ⟨none, fun hi2 => absurd hi2 hi⟩
    obtain ⟨f, hf⟩ := Classical.axiomOfChoice hv
    have hlist : ∃ l : List α, l.length = len ∧ ∀ i, i < len → ∃ z, l[i]? = some z ∧ Q z ∧ W.cells? 0 (a.add (i * T.sz)) T.sz = some (T.val z).cells.toList := by
      have : ∀ k, k ≤ len → ∃ l : List α, l.length = k ∧ ∀ i, i < k → ∃ z, l[i]? = some z ∧ Q z ∧ W.cells? 0 (a.add (i * T.sz)) T.sz = some (T.val z).cells.toList := by
        intro k
        induction k with
        | zero => exact fun _ => ⟨[], rfl, fun i hi => absurd hi (Nat.not_lt_zero _)⟩
        | succ k ih =>
          intro hk
          obtain ⟨l, hl1, hl2⟩ := ih (by omega)
          obtain ⟨z, _, hq, hz⟩ := hf k (by omega)
          refine ⟨l ++ [z], by simp [hl1], fun i hi => ?_⟩
          by_cases hik : i < k
          · obtain ⟨z', h1, h2⟩ := hl2 i hik
            exact ⟨z', by rw [List.getElem?_append_left (by omega)]; exact h1, h2⟩
          · have : i = k := by omega
            subst this
            exact ⟨z, by rw [List.getElem?_append_right (by omega), hl1]; simp, hq, hz⟩
      exact this len (Nat.le_refl _)
    obtain ⟨l, hlen, hall⟩ := hlist
    subst hlen
    refine ⟨⟨some a, cap, l⟩, rfl, ⟨hl, by simp [maxLen] at hm; show cap ≤ _; omega, (fun hA => by cases hA), fun hne => ?_⟩, hw1, fun x hx => ?_⟩
    · have h0 : 0 < l.length := List.length_pos_iff.2 hne
      obtain ⟨z0, _, _, hz0⟩ := hall 0 h0
      have hs0 := (World.cells?_some hz0).2.2 0 hz
      rw [Nat.zero_mul] at hs0
      have hlt0 : 0 < (T.val z0).cells.toList.length := by rw [Array.length_toList, T.ok]; exact hz
      rw [List.getElem?_eq_getElem hlt0] at hs0
      have haa : a.add 0 = a := by simp [Addr.add]
      rw [haa] at hs0
      have ha := addr_at hs0
      refine ⟨a.block, a.off, by rw [← ha], fun w S j u hu => ?_⟩
      have hj : j < l.length * T.sz := by have := (List.getElem?_eq_some_iff.1 hu).1; rwa [Ty.cells_len] at this
      have hi : j / T.sz < l.length := Nat.div_lt_of_lt_mul (by rw [Nat.mul_comm]; exact hj)
      obtain ⟨z, hz1, _, hz2⟩ := hall (j / T.sz) hi
      have hk : j % T.sz < T.sz := Nat.mod_lt _ hz
      have h1 := (World.cells?_some hz2).2.2 (j % T.sz) hk
      have hlt : j % T.sz < (T.val z).cells.toList.length := by rw [Array.length_toList, T.ok]; exact hk
      have e : j / T.sz * T.sz + j % T.sz = j := by rw [Nat.mul_comm]; exact Nat.div_add_mod j T.sz
      have h2 := Ty.cells_get (T := T) (j := j % T.sz) hz1 (u := (T.val z).cells.toList[j % T.sz]) (by rw [← Array.getElem?_toList]; exact List.getElem?_eq_getElem hlt)
      rw [e, hu] at h2
      rw [List.getElem?_eq_getElem hlt, ← h2, Deep.add_add, e] at h1
      rw [ha, addr_add] at h1
      have hB := cell_skip h1
      rw [S.below.cell hB]
      exact h1
    · obtain ⟨i, hi⟩ := List.mem_iff_getElem?.1 hx
      obtain ⟨z, h1, h2, _⟩ := hall i (List.getElem?_eq_some_iff.1 hi).1
      rw [hi] at h1
      cases h1
      exact h2
/-- The fields of a struct (type, place), from a place on, as values side by side. -/
def ReadsF (P : Program) (W : World) (tot off : Nat) (fs : List (TypeId × Nat)) {β : Type} (cells : β → List Value) (Q : β → Prop) : Prop :=
  ∀ {H : Type} (enc : TypeId × Value → H) (spare : Nat → Bool) (held : Bool) (n : Nat) (cs : List Value) (xs : List (DataW H × List MemPlace)), cs.length = tot → xs.length = fs.length →
    (∀ (i : Nat) (f : TypeId × Nat), fs[i]? = some f → DataW.trod enc P W 0 spare held n f.1 ((cs.drop f.2).take (P.cellsOf f.1)) = xs[i]?) → (∀ m ∈ DataW.weightsEach P (fs.map (·.1)) (xs.map (·.1)), m ≤ 140737488351232) → ∃ b, cs.drop off = cells b ∧ Q b
theorem ReadsF.nil {P : Program} {W : World} (tot : Nat) : ReadsF P W tot tot [] (fun (_ : Unit) => []) (fun _ => True) := fun enc spare held n cs xs hl _ _ _ => ⟨(), by rw [List.drop_eq_nil_of_le (by omega)], trivial⟩
theorem ReadsF.cons {P : Program} {W : World} {tot : Nat} (off k t : Nat) {fs : List (TypeId × Nat)} {α β : Type} {T : Ty α} {cells : β → List Value} {Q1 : α → Prop} {Q : β → Prop} (hk : P.cellsOf t = k) (h1 : Reads P W t T Q1) (h2 : ReadsF P W tot (off + k) fs cells Q) :
    ReadsF P W tot off ((t, off) :: fs) (fun (b : α × β) => (T.val b.1).cells.toList ++ cells b.2) (fun b => Q1 b.1 ∧ Q b.2) := fun enc spare held n cs xs hl hxl hf hw => by
  cases xs with
  | nil => simp at hxl
  | cons x xs =>
    have h0 := hf 0 (t, off) rfl
    rw [hk] at h0
    obtain ⟨a, ha, qa⟩ := h1 enc spare held n _ x h0 (fun m hm => hw m (by simp only [List.map_cons, DataW.weightsEach, List.mem_append]; exact .inl hm))
    obtain ⟨b, hb, qb⟩ := h2 enc spare held n cs xs hl (by simpa using hxl) (fun i g hg => hf (i + 1) g (by simpa using hg)) (fun m hm => hw m (by simp only [List.map_cons, DataW.weightsEach, List.mem_append]; exact .inr hm))
    refine ⟨(a, b), ?_, qa, qb⟩
    show cs.drop off = (T.val a).cells.toList ++ cells b
    rw [← ha, ← hb, ← List.drop_drop, List.take_append_drop]
theorem Reads.struct {P : Program} {W : World} {t tot : Nat} {fs : Array Field} {fl : List (TypeId × Nat)} {β γ : Type} {cells : β → List Value} {Q : β → Prop} {T : Ty γ} {Q' : γ → Prop} (h : ReadsF P W tot 0 fl cells Q) (g : β → γ) (ht : P.underlying t = some (.struct fs)) (hfl : fs.toList.map (fun f => (f.type, f.offset)) = fl) (hc : P.cellsOf t = tot)
    (hg : ∀ b, cells b = (T.val (g b)).cells.toList) (hQ : ∀ b, Q b → Q' (g b)) : Reads P W t T Q' := fun enc spare held fuel cs x hx hw => by
  obtain ⟨xs, n, _, rfl, hl, hxl, hf⟩ := DataW.trod_struct ht hx
  subst hfl
  obtain ⟨b, hb, qb⟩ := h enc spare held n cs xs (hl.trans hc) (by simpa using hxl) (fun i f hi => by
    rw [List.getElem?_map] at hi
    cases hfi : fs.toList[i]? with
    | none => rw [hfi] at hi; cases hi
    | some f0 =>
      rw [hfi] at hi
      cases hi
      exact hf i f0 (by simpa using hfi)) (fun m hm => hw m (by
    simp only [DataW.weights, ht]
    rw [List.map_map] at hm
    exact hm))
  refine ⟨g b, ?_, hQ b qb⟩
  rw [List.drop_zero] at hb
  rw [hb, hg]
/-- A struct that came in. -/
theorem arg_struct {P : Program} {W : World} {t : TypeId} {fs : Array Field} {α : Type} {T : Ty α} {Q : α → Prop} (ht : P.underlying t = some (.struct fs)) (he : Reads P W t T Q) (hT : ∀ a, ∃ cs, T.val a = .agg cs) {r : Reach} {b0 : Nat} {H : Type} {enc : TypeId × Value → H} {spare : Nat → Bool} {held : Bool} {v : Value} {d : DataW H} {ps : List MemPlace} (hval : Value.okWide P W r b0 t v) (h : DataW.Trod enc P W 0 spare held t v d ps) (hw : ∀ n ∈ d.weights P t, n ≤ 140737488351232) : ∃ a, v = T.val a ∧ Q a := by
  obtain ⟨cs, rfl, hsz⟩ := okWide_struct ht hval
  obtain ⟨fuel, hf⟩ := h
  obtain ⟨a, h1, h2⟩ := he enc spare held fuel _ _ hf hw
  obtain ⟨ds, hds⟩ := hT a
  refine ⟨a, ?_, h2⟩
  rw [hds] at h1 ⊢
  have : cs = ds := by
    have h3 : cs.toList = ds.toList := h1
    exact Array.toList_inj.1 h3
  rw [this]
/-- A slice that came in. -/
theorem arg_slice {P : Program} {W : World} {t e : TypeId} {α : Type} {T : Ty α} {Q : α → Prop} (ht : P.underlying t = some (.slice e)) (hc : P.cellsOf e = T.sz) (hz : 0 < T.sz) (k : Nat) (hk : P.bytesOf e = k) (he : Reads P W e T Q) {r : Reach} {b0 : Nat} {H : Type} {enc : TypeId × Value → H} {spare : Nat → Bool} {held : Bool} {v : Value} {d : DataW H} {ps : List MemPlace} (hval : Value.okWide P W r b0 t v) (h : DataW.Trod enc P W 0 spare held t v d ps) (hw : ∀ n ∈ d.weights P t, n ≤ 140737488351232) :
    ∃ (A : Option Addr) (C : Nat) (l : List α), v = .slice A l.length C ∧ Rd T W W.heap.size [] A C l ∧ l.length * k ≤ 140737488351232 ∧ ∀ x ∈ l, Q x := by
  obtain ⟨fuel, hf⟩ := h
  obtain ⟨⟨A, C, l⟩, h1, h2⟩ := Reads.slice ht hc hz k hk he enc spare held fuel _ _ hf hw
  obtain ⟨a, n, c, rfl⟩ := okWide_slice ht hval
  simp [Value.cells, tyVs] at h1
  exact ⟨A, C, l, by simp [h1], h2⟩
theorem arg_int {P : Program} {W : World} {t : TypeId} (ht : P.underlying t = some (.int .i64)) {r : Reach} {b0 : Nat} {H : Type} {enc : TypeId × Value → H} {spare : Nat → Bool} {held : Bool} {v : Value} {d : DataW H} {ps : List MemPlace} (hval : Value.okWide P W r b0 t v) (h : DataW.Trod enc P W 0 spare held t v d ps) (hw : ∀ n ∈ d.weights P t, n ≤ 140737488351232) : ∃ n, v = .int .i64 n ∧ I64 n := by
  obtain ⟨n, rfl⟩ := okWide_int ht hval
  obtain ⟨fuel, hf⟩ := h
  obtain ⟨m, h1, h2⟩ := Reads.int ht enc spare held fuel _ _ hf hw
  simp [Value.cells, tyI] at h1
  exact ⟨n, rfl, h1 ▸ h2⟩
theorem arg_bool {P : Program} {W : World} {t : TypeId} (ht : P.underlying t = some .bool) {r : Reach} {b0 : Nat} {H : Type} {enc : TypeId × Value → H} {spare : Nat → Bool} {held : Bool} {v : Value} {d : DataW H} {ps : List MemPlace} (hval : Value.okWide P W r b0 t v) (h : DataW.Trod enc P W 0 spare held t v d ps) (hw : ∀ n ∈ d.weights P t, n ≤ 140737488351232) : ∃ b, v = .bool b := by
  obtain ⟨b, rfl, _⟩ := Go.RowKit.open_bool ht hval h
  exact ⟨b, rfl⟩
theorem arg_str {P : Program} {W : World} {t : TypeId} (ht : P.underlying t = some .string) {r : Reach} {b0 : Nat} {H : Type} {enc : TypeId × Value → H} {spare : Nat → Bool} {held : Bool} {v : Value} {d : DataW H} {ps : List MemPlace} (hval : Value.okWide P W r b0 t v) (h : DataW.Trod enc P W 0 spare held t v d ps) (hw : ∀ n ∈ d.weights P t, n ≤ 140737488351232) : ∃ l, v = str l ∧ l.length ≤ 140737488351232 := by
  obtain ⟨fuel, hf⟩ := h
  obtain ⟨l, h1, h2⟩ := Reads.str ht enc spare held fuel _ _ hf hw
  obtain ⟨s, rfl⟩ := okWide_string ht hval
  simp [Value.cells, tyS, str] at h1
  exact ⟨l, by rw [h1]; rfl, h2⟩
/-- A walk of a law, from a world as it stands. -/
theorem law_of {P : Program} {f : FuncId} {args : List Value} {W : World} (h : SCalls P f args W W.heap.size [] (fun v H' => v = .bool true ∧ H' = [])) : Calls P f args.toArray W fun e W' => e = .returned (.bool true) ∧ Below W.heap.size W W' :=
  (h W (Sep.start W)).mono fun _ _ ⟨v, H', he, ⟨hv, _⟩, S⟩ => ⟨by rw [he, hv], S.below⟩
end Go.Proofs.YtlkdmbpbjhjkfaaGreatDoor
