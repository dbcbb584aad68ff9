/- The parts of the proof that this law needs, in the order of their texts: the logic of walks, the plain laws, the walks. -/
import Derived.Test.YtlkdmbpbjhjkfaaGreatDoorBackPkC
namespace Go.Proofs.YtlkdmbpbjhjkfaaGreatDoor
set_option linter.unusedVariables false
set_option linter.unusedSimpArgs false
set_option maxRecDepth 100000
structure ErrTab (w0 : World) (base : Nat) : Prop where
  lt1 : 2 < base
  lt2 : 3 < base
  syn : ∃ ev : Value, w0.cell? ⟨2, 0, none⟩ = some ev ∧ (ev = .nilIface ∨ ∃ te pe, ev = .iface te pe)
  rng : ∃ ev : Value, w0.cell? ⟨3, 0, none⟩ = some ev ∧ (ev = .nilIface ∨ ∃ te pe, ev = .iface te pe)
theorem atoi_all {w0 : World} {base : Nat} {H : List Seg} {s : List UInt8} (hs : s.length ≤ 281474976710656) (E : ErrTab w0 base) :
    SCalls Tryz.prog 94 [str s] w0 base H (fun v H' => (∃ te a, v = .tuple #[int (atoiV s), errV te a (atoiK s)]) ∧ H' = H) := by
  refine SCalls.of_belowX fun w S => ?_
  cases h : Lib.atoiAll s
  · rename_i n
    refine (Tryz.strconv_Atoi_ok ⟨⟨s⟩⟩ (by rw [str_size]; omega) n h w).mono ?_
    rintro e w' ⟨rfl, hw⟩
    refine ⟨_, rfl, ⟨0, none, by simp [atoiV, atoiK, h, errV]⟩, ?_⟩
    rcases hw with rfl | ⟨t, rfl⟩
    · exact Go.RowKit.Below.refl _ _
    · exact Lib.bytesWorld_below _ _ _
  · obtain ⟨ev, hv, hev⟩ := E.syn
    refine (Any.strconv_Atoi_syntax Tryz.laysC172 ⟨⟨s⟩⟩ (by rw [str_size]; exact hs) h ev w (S.cellBelow E.lt1 hv) hev).mono ?_
    rintro e w' ⟨N, rfl, _, _, hb⟩
    exact ⟨_, rfl, ⟨_, some ⟨N, 0, none⟩, by simp only [atoiV, atoiK, h, errV]; rfl⟩, hb⟩
  · obtain ⟨ev, hv, hev⟩ := E.rng
    refine (Any.strconv_Atoi_range Tryz.laysC172 ⟨⟨s⟩⟩ (by rw [str_size]; exact hs) h ev w (S.cellBelow E.lt2 hv) hev).mono ?_
    rintro e w' ⟨N, rfl, _, _, hb⟩
    exact ⟨_, rfl, ⟨_, some ⟨N, 0, none⟩, by simp only [atoiV, atoiK, h, errV]; rfl⟩, hb⟩
theorem own_newR {α : Type} (T : Ty α) (e : TypeId) (b : Nat) (l r : List α) (n : Nat) (cs : List Value) (hcs : cs = T.cells (l ++ r)) (hn : n = l.length + r.length) (hle : l.length + r.length ≤ 9223372036854775807) :
    ∃ s, s = [(b, Obj.cells cs.toArray e (0, 0))] ∧ Own T e (some ⟨b, 0, none⟩) n l s := by
  subst hcs; subst hn
  exact ⟨_, rfl, r, rfl, .inr ⟨b, [], [], (0, 0), by simp, by simp, frOut_zero _, hle⟩⟩
theorem cells_str (l : List (List UInt8)) : tyS.cells l = l.map str := by simp [Ty.cells, tyS, str, Value.cells, List.flatMap_singleton', List.map_eq_flatMap]
theorem countF_le (sep : List UInt8) (n : Nat) (s : List UInt8) : Lib.countFrom sep n s ≤ n := by
  induction n generalizing s with
  | zero => simp [Lib.countFrom]
  | succ n ih =>
    rw [Lib.countFrom]
    split
    · omega
    · have := ih (s.drop ((Lib.index s sep).toNat + sep.length)); omega
theorem splitK_le (sep : List UInt8) (k : Nat) (s : List UInt8) : ∀ x ∈ Lib.splitK sep 0 k s, x.length ≤ s.length := by
  induction k generalizing s with
  | zero => intro x hx; simp [Lib.splitK] at hx; subst hx; exact Nat.le_refl _
  | succ k ih =>
    intro x hx
    rw [Lib.splitK] at hx
    split at hx
    · simp at hx; subst hx; exact Nat.le_refl _
    · rcases List.mem_cons.1 hx with rfl | hx
      · rw [List.length_take]; omega
      · have := ih _ x hx; rw [List.length_drop] at this; omega
theorem splitW_len {x : List UInt8} (sep : List UInt8) (h1 : 1 ≤ sep.length) : (Lib.split x sep).length = Lib.countB ⟨⟨x⟩⟩ ⟨⟨sep⟩⟩ + 1 ∧ (Lib.split x sep).length ≤ x.length + 2 := by
  have hb : (Lib.splitB ⟨⟨sep⟩⟩ 0 (Lib.countB ⟨⟨x⟩⟩ ⟨⟨sep⟩⟩) ⟨⟨x⟩⟩).map (fun b => b.data.toList) = Lib.split x sep := by rw [Lib.splitB_data]; rfl
  have hl : (Lib.split x sep).length = Lib.countB ⟨⟨x⟩⟩ ⟨⟨sep⟩⟩ + 1 := by rw [← hb, List.length_map, Lib.splitB_all ⟨⟨sep⟩⟩ (by rw [str_size]; exact h1) 0 _ _ rfl]
  have hc : Lib.countB ⟨⟨x⟩⟩ ⟨⟨sep⟩⟩ ≤ x.length + 1 := countF_le sep (x.length + 1) x
  exact ⟨hl, by omega⟩
theorem splitW_ok {w0 : World} {base : Nat} {H : List Seg} {x : List UInt8} (sep : List UInt8) (h1 : 1 ≤ sep.length) (hx : x.length < 4294967281) (T : Tabs w0 base) :
    SCalls Tryz.prog 92 [str x, str sep] w0 base H (fun v H' => ∃ y : Sl tyS 9, y.l = Lib.split x sep ∧ v = .slice y.A y.l.length y.C ∧ H' = y.s :: H) := by
  obtain ⟨m, hm⟩ := T.max
  have hb : (Lib.splitB ⟨⟨sep⟩⟩ 0 (Lib.countB ⟨⟨x⟩⟩ ⟨⟨sep⟩⟩) ⟨⟨x⟩⟩).map (fun b => b.data.toList) = Lib.split x sep := by rw [Lib.splitB_data]; rfl
  obtain ⟨hl, hle⟩ := splitW_len (x := x) sep h1
  have hcells : ((Lib.splitB ⟨⟨sep⟩⟩ 0 (Lib.countB ⟨⟨x⟩⟩ ⟨⟨sep⟩⟩) ⟨⟨x⟩⟩).map Value.string).toArray = (tyS.cells (Lib.split x sep)).toArray := by
    rw [← hb, cells_str, List.map_map]; rfl
  have hc := SCalls.of_alloc (P := Tryz.prog) (f := 92) (args := [str x, str sep]) (w0 := w0) (base := base) (H := H) (v := fun b => .slice (some ⟨b, 0, none⟩) (Lib.split x sep).length (Lib.split x sep).length) (o := .cells (tyS.cells (Lib.split x sep)).toArray 9) fun w S => by
    have := Tryz.strings_Split ⟨⟨x⟩⟩ ⟨⟨sep⟩⟩ m w (by rw [str_size]; omega) (S.cellBelow T.lt0 hm) (by rw [str_size]; exact h1)
    rw [hcells, ← hl] at this
    exact this.mono fun e w' ⟨h1, h2⟩ => ⟨h1, 0, h2⟩
  refine hc.mono ?_
  rintro v H' ⟨b, rfl, rfl⟩
  obtain ⟨s, hs, ho⟩ := own_new tyS 9 b (Lib.split x sep) (Lib.split x sep).length _ rfl rfl (by omega)
  subst hs
  exact ⟨⟨_, _, _, _, ho⟩, rfl, rfl, rfl⟩
theorem splitN_ok {w0 : World} {base : Nat} {H : List Seg} {x : List UInt8} (sep : List UInt8) (h1 : 1 ≤ sep.length) (hx : x.length < 4294967281) (T : Tabs w0 base) :
    SCalls Tryz.prog 93 [str x, str sep, int 3] w0 base H (fun v H' => ∃ y : Sl tyS 9, y.l = Lib.splitN x sep 3 ∧ v = .slice y.A y.l.length y.C ∧ H' = y.s :: H) := by
  obtain ⟨m, hm⟩ := T.max
  have hsz : (⟨⟨x⟩⟩ : ByteArray).size = x.length := str_size x
  have hb : (Lib.splitB ⟨⟨sep⟩⟩ 0 (min 3 (x.length + 1) - 1) ⟨⟨x⟩⟩).map (fun b => b.data.toList) = Lib.splitN x sep 3 := by rw [Lib.splitB_data]; rfl
  have hl : (Lib.splitB ⟨⟨sep⟩⟩ 0 (min 3 (x.length + 1) - 1) ⟨⟨x⟩⟩).length = (Lib.splitN x sep 3).length := by rw [← hb, List.length_map]
  have hle : (Lib.splitN x sep 3).length ≤ min 3 (x.length + 1) := by
    rw [← hl]; have := Lib.splitB_length_le ⟨⟨sep⟩⟩ 0 (min 3 (x.length + 1) - 1) ⟨⟨x⟩⟩; omega
  have hcells : Lib.cellsOf (Lib.splitB ⟨⟨sep⟩⟩ 0 (min 3 (x.length + 1) - 1) ⟨⟨x⟩⟩) (min 3 (x.length + 1)) = (tyS.cells (Lib.splitN x sep 3 ++ List.replicate (min 3 (x.length + 1) - (Lib.splitN x sep 3).length) [])).toArray := by
    rw [Lib.cellsOf, hl, cells_str, ← hb, List.map_append, List.map_map, List.map_replicate]; rfl
  have hc := SCalls.of_alloc (P := Tryz.prog) (f := 93) (args := [str x, str sep, int 3]) (w0 := w0) (base := base) (H := H) (v := fun b => .slice (some ⟨b, 0, none⟩) (Lib.splitN x sep 3).length (min 3 (x.length + 1))) (o := .cells (tyS.cells (Lib.splitN x sep 3 ++ List.replicate (min 3 (x.length + 1) - (Lib.splitN x sep 3).length) [])).toArray 9) fun w S => by
    have := Tryz.strings_SplitN ⟨⟨x⟩⟩ ⟨⟨sep⟩⟩ 3 m w (by rw [hsz]; omega) (S.cellBelow T.lt0 hm) (by rw [str_size]; exact h1) (by omega) (by omega)
    rw [hsz, hcells, hl] at this
    exact this.mono fun e w' ⟨h1, h2⟩ => ⟨h1, 0, h2⟩
  refine hc.mono ?_
  rintro v H' ⟨b, rfl, rfl⟩
  obtain ⟨s, hs, ho⟩ := own_newR tyS 9 b (Lib.splitN x sep 3) (List.replicate (min 3 (x.length + 1) - (Lib.splitN x sep 3).length) []) (min 3 (x.length + 1)) _ rfl (by rw [List.length_replicate]; omega) (by rw [List.length_replicate]; omega)
  subst hs
  exact ⟨⟨_, _, _, _, ho⟩, rfl, rfl, rfl⟩
set_option maxHeartbeats 400000 in
theorem bequal_ok {w0 : World} {base : Nat} {H : List Seg} {A Aq : Option Addr} {C Cq : Nat} {l m : List UInt8} (h : Rd tyB w0 base H A C l) (hq : Rd tyB w0 base H Aq Cq m) :
    SCalls Tryz.prog 96 [.slice A l.length C, .slice Aq m.length Cq] w0 base (H) (fun v H' => v = .bool (decide (l = m)) ∧ H' = H) := by
  have hle := h.le
  have hcap := h.cap
  have hle2 := hq.le
  have hcap2 := hq.cap
  refine SCalls.of_walk (n := 10) Tryz.func96 rfl rfl rfl fun cs => ?_
  refine At.seq ?_
  refine At.region ?_
  refine AtL.assign (.inl rfl) rfl rfl ?_
  refine AtL.done ?_
  refine At.seq ?_
  refine At.region ?_
  refine AtL.move (.inl rfl) rfl rfl ?_
  refine AtL.strOf h Tryz.underlying22 Tryz.underlying5 Tryz.underlying9 (.inl rfl) rfl rfl ?_
  refine AtL.move (.inl rfl) rfl rfl ?_
  refine AtL.strOf hq Tryz.underlying22 Tryz.underlying5 Tryz.underlying9 (.inl rfl) rfl rfl ?_
  refine AtL.eqs (a := l) (b := m) (.inl rfl) rfl rfl rfl ?_
  refine AtL.assign (.inl rfl) rfl rfl ?_
  refine AtL.done ?_
  exact At.ret Tryz.func96 rfl rfl (⟨rfl, rfl⟩)
theorem Rd.isNone {w0 : World} {base : Nat} {H : List Seg} {A : Option Addr} {C : Nat} {l : List UInt8} (h : Rd tyB w0 base H A C l) (hc : A.isNone = true) : l = [] := by
  cases A with
  | none => have h1 := h.nil rfl; have h2 := h.le; exact List.eq_nil_of_length_eq_zero (by omega)
  | some a => cases hc
theorem pref_iff {l m : List UInt8} : m <+: l ↔ ((m.length : Int) ≤ (l.length : Int) ∧ subl l 0 m.length = m) := by
  rw [subl_to, List.prefix_iff_eq_take]
  constructor
  · intro h
    refine ⟨?_, h.symm⟩
    have := congrArg List.length h
    rw [List.length_take] at this; omega
  · intro h; exact h.2.symm
set_option maxHeartbeats 400000 in
theorem bhasprefix_ok {w0 : World} {base : Nat} {H : List Seg} {A Aq : Option Addr} {C Cq : Nat} {l m : List UInt8} (h : Rd tyB w0 base H A C l) (hq : Rd tyB w0 base H Aq Cq m) :
    SCalls Tryz.prog 57 [.slice A l.length C, .slice Aq m.length Cq] w0 base (H) (fun v H' => v = .bool (decide (m <+: l)) ∧ H' = H) := by
  have hle := h.le
  have hcap := h.cap
  have hle2 := hq.le
  have hcap2 := hq.cap
  refine SCalls.of_walk (n := 18) Tryz.func57 rfl rfl rfl fun cs => ?_
  refine At.seq ?_
  refine At.region ?_
  refine AtL.assign (.inl rfl) rfl rfl ?_
  refine AtL.done ?_
  refine At.seq ?_
  refine At.region ?_
  refine AtL.move (.inl rfl) rfl rfl ?_
  refine AtL.lenL Tryz.underlying22 (.inl rfl) rfl rfl ?_
  refine AtL.move (.inl rfl) rfl rfl ?_
  refine AtL.lenL Tryz.underlying22 (.inl rfl) rfl rfl ?_
  refine AtL.geq (.inl rfl) rfl rfl rfl ?_
  refine AtL.move (.inl rfl) rfl rfl ?_
  refine AtL.join 7 (E' := [(17, .bool (decide (((m.length : Int) ≤ (l.length : Int)) ∧ (subl l 0 m.length = m))))]) (H' := H) (fun J => ?_) ?_
  · refine AtL.split (t := 10) rfl ?_ ?_
    · intro hs10
      have hs10 : (m.length : Int) ≤ (l.length : Int) := of_decide_eq_true hs10
      refine AtL.move (.inr ⟨_, _, _, rfl, rfl, rfl, rfl⟩) rfl rfl ?_
      refine AtL.move (.inr ⟨_, _, _, rfl, rfl, rfl, rfl⟩) rfl rfl ?_
      refine AtL.lenL Tryz.underlying22 (.inr ⟨_, _, _, rfl, rfl, rfl, rfl⟩) rfl rfl ?_
      have hleo3 := Rd.le h
      refine AtL.sliceR 0 0 m.length C h rfl (evBound_some rfl rfl) rfl (by intro h; cases h) (by omega) (by omega) (by omega) (by omega) Tryz.underlying22 tf_sz5 (.inr ⟨_, _, _, rfl, rfl, rfl, rfl⟩) rfl rfl ?_
      clear hleo3
      intro A1 C2 (o3 : Rd tyB w0 base H A1 C2 (subl l 0 m.length))
      have hlo3 : (subl l 0 m.length).length = m.length - 0 := subl_len (by omega)
      refine AtL.move (.inr ⟨_, _, _, rfl, rfl, rfl, rfl⟩) rfl rfl ?_
      refine AtL.call tf_body96 (.inr ⟨_, _, _, rfl, rfl, rfl, rfl⟩) rfl rfl (bequal_ok (l := subl l 0 m.length) (m := m) o3 hq) ?_
      rintro _ _ ⟨rfl, hHq⟩
      obtain rfl := hHq.symm
      refine AtL.pickT (.inl rfl) rfl rfl rfl ?_
      exact J _ (by exact ⟨(boolIs (by clear J; first | (simp [hs10]; done) | (simp_all; done) | grind)), trivial⟩)
    · intro hs10
      have hs10 : ¬ ((m.length : Int) ≤ (l.length : Int)) := of_decide_eq_false hs10
      refine AtL.skipped rfl rfl rfl rfl rfl rfl ?_
      refine AtL.skipped rfl rfl rfl rfl rfl rfl ?_
      refine AtL.skipped rfl rfl rfl rfl rfl rfl ?_
      refine AtL.skipped rfl rfl rfl rfl rfl rfl ?_
      refine AtL.skipped rfl rfl rfl rfl rfl rfl ?_
      refine AtL.skipped rfl rfl rfl rfl rfl rfl ?_
      refine AtL.pickF (.inl rfl) rfl rfl rfl ?_
      exact J _ (by exact ⟨(boolIs (by clear J; first | (simp [hs10]; done) | (simp_all; done) | grind)), trivial⟩)
  · skip
    refine AtL.assign (.inl rfl) rfl rfl ?_
    refine AtL.done ?_
    exact At.ret Tryz.func57 rfl rfl (⟨congrArg Value.bool (decide_eq_decide.2 pref_iff.symm), rfl⟩)
set_option maxHeartbeats 400000 in
theorem bclone_ok {w0 : World} {base : Nat} {H : List Seg} {A : Option Addr} {C : Nat} {l : List UInt8} (h : Rd tyB w0 base H A C l) (hbl : l.length ≤ 4294967280) :
    SCalls Tryz.prog 95 [.slice A l.length C] w0 base (H) (fun v H' => ∃ x : Sl tyB 5, x.l = l ∧ v = .slice x.A x.l.length x.C ∧ H' = x.s :: H) := by
  have hle := h.le
  have hcap := h.cap
  refine SCalls.of_walk (n := 8) Tryz.func95 rfl rfl rfl fun cs => ?_
  refine At.seq ?_
  refine At.region ?_
  refine AtL.assign (.inl rfl) rfl rfl ?_
  refine AtL.done ?_
  refine At.seq ?_
  refine At.seq ?_
  refine At.region ?_
  refine AtL.move (.inl rfl) rfl rfl ?_
  refine AtL.eqSliceNil Tryz.underlying22 (.inl rfl) rfl rfl rfl ?_
  refine AtL.done ?_
  refine At.cond rfl ?_ ?_
  · intro hc1
    have hc1 : A.isNone = true := hc1
    refine At.seq ?_
    refine At.region ?_
    refine AtL.assign (.inl rfl) rfl rfl ?_
    refine AtL.done ?_
    refine At.nil ?_
    exact At.ret Tryz.func95 rfl rfl (⟨Sl.nil, (Rd.isNone h hc1).symm, rfl, rfl⟩)
  · intro hc1
    have hc1 : A.isNone = false := hc1
    refine At.skip ?_
    refine At.seq ?_
    refine At.region ?_
    refine AtL.buildSlice (cs := []) Tryz.underlying22 tf_zero5 tf_sz5 rfl rfl (.inl rfl) rfl rfl rfl ?_
    intro b1
    refine AtL.own1 tyB (l := ([] : List UInt8)) rfl rfl (by first | decide | simp) ?_
    intro s2 o3
    refine AtL.move (.inl rfl) rfl rfl ?_
    refine AtL.append (l := []) (news := l) 0 tf_el22 rfl o3 (Rd.skip 1 h) (by first | omega | (simp only [List.length_append, List.length_cons, List.length_nil]; omega) | (simp; done) | (simp; omega)) (.inl rfl) rfl rfl rfl ?_
    intro A4 C5 s6 o7
    refine AtL.assign (.inl rfl) rfl rfl ?_
    refine AtL.done ?_
    exact At.ret Tryz.func95 rfl rfl (⟨⟨A4, C5, l, s6, o7⟩, by simp, rfl, rfl⟩)
end Go.Proofs.YtlkdmbpbjhjkfaaGreatDoor
namespace Go.Proofs.YtlkdmbpbjhjkfaaGreatDoor
set_option linter.unusedVariables false
set_option linter.unusedSimpArgs false
set_option maxRecDepth 100000
theorem linesP_at {ok : Bool} {st : Int} {body : List UInt8} {acc : List Fld} {L : List (List UInt8)} {k : Nat} (h : k < L.length) : linesP ok st body acc (L.drop k) = if (Lib.cut (L.getD k []) [58, 32]).1 ≠ CL1 then linesP ok st body (acc ++ [((Lib.cut (L.getD k []) [58, 32]).1, (Lib.cut (L.getD k []) [58, 32]).2.1)]) (L.drop (k + 1))
    else if (((((Lib.cut (L.getD k []) [58, 32]).2.2 = false ∨ ok = false) ∨ atoiK (Lib.cut (L.getD k []) [58, 32]).2.1 = false) ∨ atoiV (Lib.cut (L.getD k []) [58, 32]).2.1 < 0) ∨ (body.length : Int) < atoiV (Lib.cut (L.getD k []) [58, 32]).2.1) then none
    else some ⟨st, acc, body.take (atoiV (Lib.cut (L.getD k []) [58, 32]).2.1).toNat, decide (L.drop (k + 1) = [])⟩ := by
  rw [List.drop_eq_getElem_cons h]
  have e : L[k] = L.getD k [] := by simp [List.getD, h]
  rw [e, linesP]
theorem linesP_le {ok : Bool} {st : Int} {body : List UInt8} {n : Nat} (L : List (List UInt8)) (acc : List Fld) {r : RespV} (hL : ∀ x ∈ L, x.length ≤ n) (ha : ∀ f ∈ acc, f.1.length ≤ n ∧ f.2.length ≤ n) (h : linesP ok st body acc L = some r) : (∀ f ∈ r.fs, f.1.length ≤ n ∧ f.2.length ≤ n) ∧ r.body.length ≤ body.length := by
  induction L generalizing acc with
  | nil => rw [linesP] at h; cases h
  | cons x L ih =>
    have hx := hL x (by simp)
    have hc := cutW_le [58, 32] x
    rw [linesP] at h
    split at h
    · refine ih _ (fun y hy => hL y (by simp [hy])) ?_ h
      intro f hf
      rcases List.mem_append.1 hf with hf | hf
      · exact ha f hf
      · simp only [List.mem_singleton] at hf; subst hf; exact ⟨by dsimp only; omega, by dsimp only; omega⟩
    · split at h
      · cases h
      · cases h; exact ⟨ha, by rw [List.length_take]; omega⟩
theorem rparse_le {b : List UInt8} {r : RespV} (h : rparseF b = some r) : (∀ f ∈ r.fs, f.1.length ≤ b.length ∧ f.2.length ≤ b.length) ∧ r.body.length ≤ b.length := by
  unfold rparseF at h
  split at h
  · cases h
  · split at h
    · cases h
    · have := linesP_le _ _ (n := b.length) (fun x hx => by
        have h1 := splitK_le [13, 10] _ _ x (List.mem_of_mem_drop hx)
        rw [List.length_take] at h1; omega) (fun f hf => absurd hf (by simp)) h
      rw [List.length_drop] at this
      exact ⟨this.1, by omega⟩
theorem rp_le {b : List UInt8} {R : RespV} (h : R = (rparseF b).getD RespV.zero) : (∀ f ∈ R.fs, f.1.length ≤ b.length ∧ f.2.length ≤ b.length) ∧ R.body.length ≤ b.length := by
  cases hp : rparseF b with
  | none => rw [hp] at h; subst h; exact ⟨fun f hf => absurd hf (by simp [RespV.zero]), by simp [RespV.zero]⟩
  | some r => rw [hp] at h; subst h; exact rparse_le hp
set_option maxHeartbeats 400000 in
theorem rparse15_ok {w0 : World} {base : Nat} {H : List Seg} {A : Option Addr} {C : Nat} {b : List UInt8} (h : Rd tyB w0 base H A C b) (hbl : b.length ≤ 4294967280) (T : Tabs w0 base) (ET : ErrTab w0 base) :
    SCalls Tryz.prog 56 [.slice A b.length C] w0 base (H) (fun v H' => ∃ R : RespV, R = (rparseF b).getD RespV.zero ∧ ∃ (x : Sl tyField 78) (y : Sl tyB 5), x.l = R.fs ∧ y.l = R.body ∧ v = .tuple #[.agg #[int R.st, .slice x.A x.l.length x.C, .slice y.A y.l.length y.C, .bool R.keep], .bool (rparseF b).isSome] ∧ H' = x.s :: y.s :: H) := by
  have hcap0 := h.cap
  have hle0 := h.le
  refine SCalls.of_walk (n := 115) Tryz.func56 rfl rfl rfl fun cs => ?_
  refine At.seq ?_
  refine At.region ?_
  refine AtL.alloc tf_zero74 (cs := #[.int .i64 0, .slice none 0 0, .slice none 0 0, .bool false]) rfl (.inl rfl) rfl ?_
  intro b1
  refine AtL.assign (.inl rfl) rfl rfl ?_
  refine AtL.done ?_
  refine At.seq ?_
  refine At.region ?_
  refine AtL.move (.inl rfl) rfl rfl ?_
  refine AtL.buildSlice (cs := [.int .u8 13, .int .u8 10, .int .u8 13, .int .u8 10]) Tryz.underlying22 tf_zero5 tf_sz5 rfl rfl (.inl rfl) rfl rfl rfl ?_
  intro b2
  refine AtL.convSl1 (l := [13, 10, 13, 10]) 0 Tryz.underlying22 Tryz.underlying5 rfl rfl rfl (by decide) (.inl rfl) rfl rfl ?_
  intro s3 o4
  refine AtL.call tf_body74 (.inl rfl) rfl rfl (index_ok (l := b) (l2 := [13, 10, 13, 10]) (Rd.skip 2 h) (o4.rd (i := 0) rfl) (by omega) (by decide) T) ?_
  rintro _ _ ⟨rfl, rfl⟩
  refine AtL.assign (.inl rfl) rfl rfl ?_
  refine AtL.done ?_
  refine At.seq ?_
  refine At.seq ?_
  refine At.region ?_
  refine AtL.move (.inl rfl) rfl rfl ?_
  refine AtL.lss (.inl rfl) rfl rfl rfl ?_
  refine AtL.done ?_
  refine At.cond rfl ?_ ?_
  · intro hc1
    have hc1 : (Lib.index b [13, 10, 13, 10] : Int) < 0 := of_decide_eq_true hc1
    refine At.seq ?_
    refine At.region ?_
    refine AtL.build (cs := [.int .i64 0, .slice none 0 0, .slice none 0 0, .bool false]) tf_lay74 (.inl rfl) rfl rfl rfl ?_
    refine AtL.store (H' := s3 :: [(b1, .cells #[.int .i64 0, .slice none 0 0, .slice none 0 0, .bool false] 74 (0, 0))] :: H) 1 0 tf_sz74 (.inl rfl) rfl rfl rfl rfl rfl rfl rfl rfl rfl ?_
    refine AtL.assign (.inl rfl) rfl rfl ?_
    refine AtL.done ?_
    refine At.nil ?_
    refine At.nil ?_
    have hp : rparseF b = none := by rw [rparseF, if_pos (by omega)]
    exact At.retMP (vs := [.agg #[.int .i64 0, .slice none 0 0, .slice none 0 0, .bool false], .bool false]) (H2 := [] :: [] :: H) [0, 1] 4 rfl rfl Tryz.func56 rfl ⟨⟨_, rfl, LoadsTo.agg (cs := [.int .i64 0, .slice none 0 0, .slice none 0 0, .bool false]) tf_agg74 rfl (cellsOwn 3 0 0 rfl rfl rfl)⟩, rfl, trivial⟩ (⟨RespV.zero, by rw [hp]; rfl, Sl.nil, Sl.nil, rfl, rfl, by rw [hp]; rfl, rfl⟩)
  · intro hc1
    have hc1 : ¬ ((Lib.index b [13, 10, 13, 10] : Int) < 0) := of_decide_eq_false hc1
    have hir := Lib.index_room b [13, 10, 13, 10] (by omega)
    obtain ⟨i, hi⟩ : ∃ i : Nat, Lib.index b [13, 10, 13, 10] = (i : Int) := ⟨_, (Int.toNat_of_nonneg (by omega)).symm⟩
    rw [hi] at hir hc1 ⊢
    have hi4 : i + 4 ≤ b.length := by simp only [List.length_cons, List.length_nil] at hir; omega
    refine At.skip ?_
    refine At.seq ?_
    refine At.region ?_
    refine AtL.move (.inl rfl) rfl rfl ?_
    refine AtL.move (.inl rfl) rfl rfl ?_
    have hleo7 := Rd.le h
    refine AtL.sliceR 2 0 i C h rfl (evBound_some rfl rfl) rfl (by intro h; cases h) (by omega) (by omega) (by omega) (by omega) Tryz.underlying22 tf_sz5 (.inl rfl) rfl rfl ?_
    clear hleo7
    intro A5 C6 (o7 : Rd tyB w0 base H A5 C6 (subl b 0 i))
    have hlo7 : (subl b 0 i).length = i - 0 := subl_len (by omega)
    refine AtL.strOf (Rd.skip 2 o7) Tryz.underlying22 Tryz.underlying5 Tryz.underlying9 (.inl rfl) rfl rfl ?_
    refine AtL.call tf_body92 (.inl rfl) rfl rfl (splitW_ok (x := subl b 0 i) [13, 10] (by decide) (by omega) T) ?_
    rintro _ _ ⟨⟨A8, C9, ls, s11, o12⟩, hls13, rfl, rfl⟩
    have hls : ls = Lib.split (subl b 0 i) [13, 10] := hls13
    refine AtL.assign (.inl rfl) rfl rfl ?_
    refine AtL.done ?_
    have hlsl := splitW_len (x := subl b 0 i) [13, 10] (by decide)
    rw [← hls, subl_len (show i ≤ b.length by omega)] at hlsl
    have hsl : ∀ s ∈ ls, s.length ≤ b.length := by rw [hls]; intro s hs; have h1 := splitK_le [13, 10] _ _ s hs; rw [subl_len (show i ≤ b.length by omega)] at h1; omega
    have hl0 := hsl (ls.getD 0 []) (getD_mem (l := ls) (i := 0) (by omega))
    refine At.seq ?_
    refine At.region ?_
    refine AtL.move (.inl rfl) rfl rfl ?_
    refine AtL.indexL 0 (o12.rd (i := 0) rfl) Tryz.underlying109 tf_sz9 (.inl rfl) rfl rfl rfl rfl (by omega) ?_
    refine AtL.load (v := str (ls.getD 0 [])) tf_flat9 (.inl rfl) rfl rfl (Rd.cell0 (o12.rd (i := 0) rfl) (getD_some [] (by omega)) rfl) ?_
    refine AtL.call tf_body93 (.inl rfl) rfl rfl (splitN_ok (x := (ls.getD 0 [])) [32] (by decide) (by omega) T) ?_
    rintro _ _ ⟨⟨A14, C15, ws, s17, o18⟩, hws19, rfl, rfl⟩
    have hws : ws = Lib.splitN (ls.getD 0 []) [32] 3 := hws19
    refine AtL.assign (.inl rfl) rfl rfl ?_
    refine AtL.done ?_
    refine At.seq ?_
    refine At.seq ?_
    refine At.region ?_
    refine AtL.move (.inl rfl) rfl rfl ?_
    refine AtL.lenL Tryz.underlying109 (.inl rfl) rfl rfl ?_
    refine AtL.lss (.inl rfl) rfl rfl rfl ?_
    refine AtL.done ?_
    refine At.cond rfl ?_ ?_
    · intro hc2
      have hc2 : (ws.length : Int) < 2 := of_decide_eq_true hc2
      have hb0 : rparseF b = if ws.length < 2 then none else linesP (atoiK (ws.getD 1 [])) (atoiV (ws.getD 1 [])) (subl b (i + 4) b.length) [] (ls.drop 1) := by rw [rparseF, hi, if_neg (by omega), Int.toNat_natCast, ← subl_to b i, ← hls, ← hws, subl_from]
      have hp : rparseF b = none := by rw [hb0, if_pos (by omega)]
      refine At.seq ?_
      refine At.region ?_
      refine AtL.build (cs := [.int .i64 0, .slice none 0 0, .slice none 0 0, .bool false]) tf_lay74 (.inl rfl) rfl rfl rfl ?_
      refine AtL.store (H' := s17 :: s11 :: s3 :: [(b1, .cells #[.int .i64 0, .slice none 0 0, .slice none 0 0, .bool false] 74 (0, 0))] :: H) 3 0 tf_sz74 (.inl rfl) rfl rfl rfl rfl rfl rfl rfl rfl rfl ?_
      refine AtL.assign (.inl rfl) rfl rfl ?_
      refine AtL.done ?_
      refine At.nil ?_
      refine At.nil ?_
      exact At.retMP (vs := [.agg #[.int .i64 0, .slice none 0 0, .slice none 0 0, .bool false], .bool false]) (H2 := [] :: [] :: H) [0, 1] 6 rfl rfl Tryz.func56 rfl ⟨⟨_, rfl, LoadsTo.agg (cs := [.int .i64 0, .slice none 0 0, .slice none 0 0, .bool false]) tf_agg74 rfl (cellsOwn 5 0 0 rfl rfl rfl)⟩, rfl, trivial⟩ (⟨RespV.zero, by rw [hp]; rfl, Sl.nil, Sl.nil, rfl, rfl, by rw [hp]; rfl, rfl⟩)
    · intro hc2
      have hc2 : ¬ ((ws.length : Int) < 2) := of_decide_eq_false hc2
      have hb0 : rparseF b = if ws.length < 2 then none else linesP (atoiK (ws.getD 1 [])) (atoiV (ws.getD 1 [])) (subl b (i + 4) b.length) [] (ls.drop 1) := by rw [rparseF, hi, if_neg (by omega), Int.toNat_natCast, ← subl_to b i, ← hls, ← hws, subl_from]
      rw [if_neg (by omega)] at hb0
      have hw1 : (ws.getD 1 []).length ≤ b.length := by have h0 : ws.getD 1 [] ∈ Lib.splitN (ls.getD 0 []) [32] 3 := (by rw [← hws]; exact getD_mem (l := ws) (i := 1) (by omega)); have h1 := splitK_le [32] _ _ _ h0; omega
      refine At.skip ?_
      refine At.seq ?_
      refine At.region ?_
      refine AtL.move (.inl rfl) rfl rfl ?_
      refine AtL.indexL 1 (o18.rd (i := 0) rfl) Tryz.underlying109 tf_sz9 (.inl rfl) rfl rfl rfl rfl (by omega) ?_
      refine AtL.load (v := str (ws.getD 1 [])) tf_flat9 (.inl rfl) rfl rfl (Rd.cell0 (o18.rd (i := 0) rfl) (getD_some [] (by omega)) rfl) ?_
      refine AtL.call tf_body94 (.inl rfl) rfl rfl (atoi_all (s := (ws.getD 1 [])) (by omega) ET) ?_
      rintro _ _ ⟨⟨te20, ea21, rfl⟩, rfl⟩
      refine AtL.move (.inl rfl) rfl rfl ?_
      refine AtL.extract (.inl rfl) rfl rfl rfl ?_
      refine AtL.extract (.inl rfl) rfl rfl rfl ?_
      refine AtL.assign (.inl rfl) rfl rfl ?_
      refine AtL.assign (.inl rfl) rfl rfl ?_
      refine AtL.done ?_
      refine At.seq ?_
      refine At.region ?_
      refine AtL.move (.inl rfl) rfl rfl ?_
      refine AtL.build (cs := [.int .i64 (atoiV (ws.getD 1 [])), .slice none 0 0, .slice none 0 0, .bool true]) tf_lay74 (.inl rfl) rfl rfl rfl ?_
      refine AtL.alloc tf_zero74 (cs := #[.int .i64 0, .slice none 0 0, .slice none 0 0, .bool false]) rfl (.inl rfl) rfl ?_
      intro b22
      refine AtL.store (H' := [(b22, .cells #[.int .i64 (atoiV (ws.getD 1 [])), .slice none 0 0, .slice none 0 0, .bool true] 74 (0, 0))] :: s17 :: s11 :: s3 :: [(b1, .cells #[.int .i64 0, .slice none 0 0, .slice none 0 0, .bool false] 74 (0, 0))] :: H) 0 0 tf_sz74 (.inl rfl) rfl rfl rfl rfl rfl rfl rfl rfl rfl ?_
      refine AtL.done ?_
      refine At.seq ?_
      refine At.seq ?_
      refine At.region ?_
      refine AtL.move (.inl rfl) rfl rfl ?_
      have hleo25 := Own.le_cap o12
      refine AtL.sliceO 1 ls.length C9 o12 (evBound_some rfl rfl) rfl rfl (by intro h; cases h) (by omega) (Nat.le_refl _) (by omega) (Nat.le_refl _) Tryz.underlying109 tf_sz9 (.inl rfl) rfl rfl ?_
      rw [show subl ls 1 ls.length = ls.drop 1 from by unfold subl; rw [List.take_of_length_le (by simp)]]
      intro A23 C24 o25
      refine AtL.lenL Tryz.underlying109 (.inl rfl) rfl rfl ?_
      refine AtL.move (.inl rfl) rfl rfl ?_
      refine AtL.done ?_
      refine At.block ?_
      refine At.nil ?_
      refine At.pick (H' := [(b22, .cells #[.int .i64 (atoiV (ws.getD 1 [])), .slice none 0 0, .slice none 0 0, .bool true] 74 (0, 0))] :: [] :: s11 :: [(b1, .cells #[.int .i64 0, .slice none 0 0, .slice none 0 0, .bool false] 74 (0, 0))] :: H) [1, 0, 3, 5] 6 rfl rfl ?_
      have hdl : (ls.drop 1).length = ls.length - 1 := by simp
      refine At.loop2 (fun (k : Nat) (x : Sl tyField 78) => [(0, .slice A b.length C), (2, .pointer (some ⟨b1, 0, none⟩)), (4, .int .i64 (i : Int)), (5, .slice A8 ls.length C9), (8, (errV te20 ea21 (atoiK (ws.getD 1 [])))), (9, .pointer (some ⟨b22, 0, none⟩)), (48, .slice A23 (ls.drop 1).length C24), (49, .int .i64 ((ls.drop 1).length : Int)), (50, .int .i64 (k : Int))]) (fun (k : Nat) (x : Sl tyField 78) => [(b22, .cells #[.int .i64 (atoiV (ws.getD 1 [])), .slice x.A x.l.length x.C, .slice none 0 0, .bool true] 74 (0, 0))] :: x.s :: s11 :: [(b1, .cells #[.int .i64 0, .slice none 0 0, .slice none 0 0, .bool false] 74 (0, 0))] :: H) (fun (k : Nat) (x : Sl tyField 78) => k ≤ (ls.drop 1).length ∧ x.l.length ≤ k ∧ rparseF b = linesP (atoiK (ws.getD 1 [])) (atoiV (ws.getD 1 [])) (subl b (i + 4) b.length) x.l ((ls.drop 1).drop k)) (fun (k : Nat) (x : Sl tyField 78) => (ls.drop 1).length - k) 0 Sl.nil (⟨Nat.zero_le _, by simp [Sl.nil], by rw [hb0]; rfl⟩) ⟨rfl, rfl, rfl, rfl, rfl, rfl, rfl, rfl, rfl, trivial⟩ rfl ?_
      rintro k x ⟨hk, hxk, hpa⟩ ihL1
      have hcap := Own.cap_le x.own
      refine At.seq ?_
      refine At.region ?_
      refine AtL.lss (.inl rfl) rfl rfl rfl ?_
      refine AtL.done ?_
      refine At.seq ?_
      refine At.cond rfl ?_ ?_
      · intro hc3
        have hc3 : (k : Int) < ((ls.drop 1).length : Int) := of_decide_eq_true hc3
        have hst := linesP_at (ok := atoiK (ws.getD 1 [])) (st := atoiV (ws.getD 1 [])) (body := subl b (i + 4) b.length) (acc := x.l) (L := (ls.drop 1)) (k := k) (by omega)
        have hlk := hsl ((ls.drop 1).getD k []) (List.mem_of_mem_drop (getD_mem (l := (ls.drop 1)) (i := k) (by omega)))
        have hcl := cutW_le [58, 32] ((ls.drop 1).getD k [])
        refine At.skip ?_
        refine At.seq ?_
        refine At.block ?_
        refine At.seq ?_
        refine At.region ?_
        refine AtL.move (.inl rfl) rfl rfl ?_
        refine AtL.indexL k (o25.rd (i := 2) rfl) Tryz.underlying109 tf_sz9 (.inl rfl) rfl rfl rfl rfl (by omega) ?_
        refine AtL.load (v := str ((ls.drop 1).getD k [])) tf_flat9 (.inl rfl) rfl rfl (Rd.cell0 (o25.rd (i := 2) rfl) (getD_some [] (by omega)) rfl) ?_
        refine AtL.assign (.inl rfl) rfl rfl ?_
        refine AtL.assign (.inl rfl) rfl rfl ?_
        refine AtL.done ?_
        refine At.seq ?_
        refine At.region ?_
        refine AtL.move (.inl rfl) rfl rfl ?_
        refine AtL.call tf_body53 (.inl rfl) rfl rfl (cutW_ok (x := ((ls.drop 1).getD k [])) [58, 32] (by omega) T) ?_
        rintro _ _ ⟨rfl, rfl⟩
        refine AtL.move (.inl rfl) rfl rfl ?_
        refine AtL.extract (.inl rfl) rfl rfl rfl ?_
        refine AtL.extract (.inl rfl) rfl rfl rfl ?_
        refine AtL.extract (.inl rfl) rfl rfl rfl ?_
        refine AtL.assign (.inl rfl) rfl rfl ?_
        refine AtL.assign (.inl rfl) rfl rfl ?_
        refine AtL.assign (.inl rfl) rfl rfl ?_
        refine AtL.done ?_
        refine At.seq ?_
        refine At.seq ?_
        refine At.region ?_
        refine AtL.move (.inl rfl) rfl rfl ?_
        refine AtL.nes (a := (Lib.cut ((ls.drop 1).getD k []) [58, 32]).1) (b := [67, 111, 110, 116, 101, 110, 116, 45, 76, 101, 110, 103, 116, 104]) (.inl rfl) rfl rfl rfl ?_
        refine AtL.done ?_
        refine At.cond rfl ?_ ?_
        · intro hc4
          have hc4 : ¬ ((Lib.cut ((ls.drop 1).getD k []) [58, 32]).1 = [67, 111, 110, 116, 101, 110, 116, 45, 76, 101, 110, 103, 116, 104]) := of_decide_eq_false (bnot_true hc4)
          have hc4q : (Lib.cut ((ls.drop 1).getD k []) [58, 32]).1 ≠ CL1 := hc4
          refine At.seq ?_
          refine At.region ?_
          refine AtL.fieldAddrB tf_fo74_1 (.inl rfl) rfl rfl rfl ?_
          refine AtL.load tf_flat45 (.inl rfl) rfl rfl (Cell.own 0 0 rfl rfl rfl) ?_
          refine AtL.move (.inl rfl) rfl rfl ?_
          refine AtL.move (.inl rfl) rfl rfl ?_
          refine AtL.build (cs := [str ((Lib.cut ((ls.drop 1).getD k []) [58, 32]).1), str ((Lib.cut ((ls.drop 1).getD k []) [58, 32]).2.1)]) tf_lay78 (.inl rfl) rfl rfl rfl ?_
          refine AtL.buildSlice (cs := [str ((Lib.cut ((ls.drop 1).getD k []) [58, 32]).1), str ((Lib.cut ((ls.drop 1).getD k []) [58, 32]).2.1)]) Tryz.underlying45 tf_zero78 tf_sz78 rfl rfl (.inl rfl) rfl rfl rfl ?_
          intro b26
          refine AtL.own1 tyField (l := ([((Lib.cut ((ls.drop 1).getD k []) [58, 32]).1, (Lib.cut ((ls.drop 1).getD k []) [58, 32]).2.1)] : List (List UInt8 × List UInt8))) rfl rfl (by first | decide | simp) ?_
          intro s27 o28
          refine AtL.append (l := x.l) (news := [((Lib.cut ((ls.drop 1).getD k []) [58, 32]).1, (Lib.cut ((ls.drop 1).getD k []) [58, 32]).2.1)]) 2 tf_el45 rfl x.own (o28.rd (i := 0) rfl) (by first | omega | (simp only [List.length_append, List.length_cons, List.length_nil]; omega) | (simp; done) | (simp; omega)) (.inl rfl) rfl rfl rfl ?_
          intro A29 C30 s31 o32
          refine AtL.fieldAddrB tf_fo74_1 (.inl rfl) rfl rfl rfl ?_
          refine AtL.store (H' := s27 :: [(b22, .cells #[.int .i64 (atoiV (ws.getD 1 [])), .slice A29 (x.l ++ ([((Lib.cut ((ls.drop 1).getD k []) [58, 32]).1, (Lib.cut ((ls.drop 1).getD k []) [58, 32]).2.1)])).length C30, .slice none 0 0, .bool true] 74 (0, 0))] :: s31 :: s11 :: [(b1, .cells #[.int .i64 0, .slice none 0 0, .slice none 0 0, .bool false] 74 (0, 0))] :: H) 1 0 tf_sz45 (.inl rfl) rfl rfl rfl rfl rfl rfl rfl rfl rfl ?_
          refine AtL.done ?_
          refine At.exit rfl ?_
          refine At.region ?_
          refine AtL.add (z := (k : Int) + 1) (.inl rfl) rfl rfl rfl (w64 (by omega) (by omega)) ?_
          refine AtL.move (.inl rfl) rfl rfl ?_
          refine AtL.done ?_
          refine At.pick (H' := [(b22, .cells #[.int .i64 (atoiV (ws.getD 1 [])), .slice A29 (x.l ++ ([((Lib.cut ((ls.drop 1).getD k []) [58, 32]).1, (Lib.cut ((ls.drop 1).getD k []) [58, 32]).2.1)])).length C30, .slice none 0 0, .bool true] 74 (0, 0))] :: s31 :: s11 :: [(b1, .cells #[.int .i64 0, .slice none 0 0, .slice none 0 0, .bool false] 74 (0, 0))] :: H) [1, 2, 3, 4] 5 rfl rfl ?_
          refine ihL1 (k + 1) (⟨A29, C30, x.l ++ ([((Lib.cut ((ls.drop 1).getD k []) [58, 32]).1, (Lib.cut ((ls.drop 1).getD k []) [58, 32]).2.1)]), s31, o32⟩) (⟨by omega, by simp; omega, by rw [hpa, hst, if_pos hc4q]⟩) (by omega) _ ?_
          exact ⟨rfl, rfl, rfl, rfl, rfl, rfl, rfl, rfl, (by first | rfl | exact slLen (by simp []) | exact intEq (by omega) | exact intEq (by simp []) | exact slLen (by simp []; omega)), trivial⟩
        · intro hc4
          have hc4 : (Lib.cut ((ls.drop 1).getD k []) [58, 32]).1 = [67, 111, 110, 116, 101, 110, 116, 45, 76, 101, 110, 103, 116, 104] := of_decide_eq_true (bnot_false hc4)
          have hc4q : ¬ (Lib.cut ((ls.drop 1).getD k []) [58, 32]).1 ≠ CL1 := fun h => h hc4
          rw [if_neg hc4q] at hst
          refine At.skip ?_
          refine At.seq ?_
          refine At.region ?_
          refine AtL.move (.inl rfl) rfl rfl ?_
          refine AtL.call tf_body94 (.inl rfl) rfl rfl (atoi_all (s := (Lib.cut ((ls.drop 1).getD k []) [58, 32]).2.1) (by omega) ET) ?_
          rintro _ _ ⟨⟨te33, ea34, rfl⟩, rfl⟩
          refine AtL.move (.inl rfl) rfl rfl ?_
          refine AtL.extract (.inl rfl) rfl rfl rfl ?_
          refine AtL.extract (.inl rfl) rfl rfl rfl ?_
          refine AtL.assign (.inl rfl) rfl rfl ?_
          refine AtL.assign (.inl rfl) rfl rfl ?_
          refine AtL.done ?_
          refine At.seq ?_
          refine At.region ?_
          refine AtL.move (.inl rfl) rfl rfl ?_
          refine AtL.add (z := (k : Int) + 2) (.inl rfl) rfl rfl rfl (w64 (by omega) (by omega)) ?_
          refine AtL.move (.inl rfl) rfl rfl ?_
          refine AtL.lenL Tryz.underlying109 (.inl rfl) rfl rfl ?_
          refine AtL.eqi (.inl rfl) rfl rfl rfl ?_
          refine AtL.fieldAddrB tf_fo74_3 (.inl rfl) rfl rfl rfl ?_
          refine AtL.store (H' := [(b22, .cells #[.int .i64 (atoiV (ws.getD 1 [])), .slice x.A x.l.length x.C, .slice none 0 0, .bool (decide (((k : Int) + 2) = (ls.length : Int)))] 74 (0, 0))] :: x.s :: s11 :: [(b1, .cells #[.int .i64 0, .slice none 0 0, .slice none 0 0, .bool false] 74 (0, 0))] :: H) 0 0 tf_sz4 (.inl rfl) rfl rfl rfl rfl rfl rfl rfl rfl rfl ?_
          refine AtL.done ?_
          refine At.seq ?_
          refine At.region ?_
          refine AtL.move (.inl rfl) rfl rfl ?_
          refine AtL.move (.inl rfl) rfl rfl ?_
          refine AtL.add (z := (i : Int) + 4) (.inl rfl) rfl rfl rfl (w64 (by omega) (by omega)) ?_
          have hleo37 := Rd.le h
          refine AtL.sliceR 4 (i + 4) b.length C h (evBound_some rfl rfl) rfl rfl (by intro h; cases h) (by omega) (by omega) (by omega) (by omega) Tryz.underlying22 tf_sz5 (.inl rfl) rfl rfl ?_
          clear hleo37
          intro A35 C36 (o37 : Rd tyB w0 base H A35 C36 (subl b (i + 4) b.length))
          have hlo37 : (subl b (i + 4) b.length).length = b.length - (i + 4) := subl_len (by omega)
          refine AtL.assign (.inl rfl) rfl rfl ?_
          refine AtL.done ?_
          refine At.seq ?_
          refine At.seq ?_
          refine At.region ?_
          refine AtL.move (.inl rfl) rfl rfl ?_
          refine AtL.not (.inl rfl) rfl rfl ?_
          refine AtL.move (.inl rfl) rfl rfl ?_
          refine AtL.join 3 (E' := [(91, .bool (decide ((((Lib.cut ((ls.drop 1).getD k []) [58, 32]).2.2) = false) ∨ ((atoiK (ws.getD 1 [])) = false)))), (2, .pointer (some ⟨b1, 0, none⟩)), (9, .pointer (some ⟨b22, 0, none⟩)), (15, .int .i64 (atoiV ((Lib.cut ((ls.drop 1).getD k []) [58, 32]).2.1))), (16, (errV te33 ea34 (atoiK ((Lib.cut ((ls.drop 1).getD k []) [58, 32]).2.1)))), (17, .slice A35 (subl b (i + 4) b.length).length C36)]) (H' := [(b22, .cells #[.int .i64 (atoiV (ws.getD 1 [])), .slice x.A x.l.length x.C, .slice none 0 0, .bool (decide (((k : Int) + 2) = (ls.length : Int)))] 74 (0, 0))] :: x.s :: s11 :: [(b1, .cells #[.int .i64 0, .slice none 0 0, .slice none 0 0, .bool false] 74 (0, 0))] :: H) (fun J => ?_) ?_
          · refine AtL.split (t := 88) rfl ?_ ?_
            · intro hs88
              have hs88 : ((Lib.cut ((ls.drop 1).getD k []) [58, 32]).2.2) = false := bnot_true hs88
              refine AtL.skipped rfl rfl rfl rfl rfl rfl ?_
              refine AtL.skipped rfl rfl rfl rfl rfl rfl ?_
              refine AtL.pickT (.inl rfl) rfl rfl rfl ?_
              exact J _ (by exact ⟨(boolIs (by clear J; first | (simp [hs88]; done) | (simp_all; done) | grind)), rfl, rfl, rfl, rfl, rfl, trivial⟩)
            · intro hs88
              have hs88 : ((Lib.cut ((ls.drop 1).getD k []) [58, 32]).2.2) = true := bnot_false hs88
              refine AtL.move (.inr ⟨_, _, _, rfl, rfl, rfl, rfl⟩) rfl rfl ?_
              refine AtL.neErr Tryz.underlying111 (.inr ⟨_, _, _, rfl, rfl, rfl, rfl⟩) rfl rfl ?_
              refine AtL.pickF (.inl rfl) rfl rfl rfl ?_
              exact J _ (by exact ⟨(boolIs (by clear J; first | (simp [hs88]; done) | (simp_all; done) | grind)), rfl, rfl, rfl, rfl, rfl, trivial⟩)
          · skip
            refine AtL.move (.inl rfl) rfl rfl ?_
            refine AtL.join 3 (E' := [(95, .bool (decide (((((Lib.cut ((ls.drop 1).getD k []) [58, 32]).2.2) = false) ∨ ((atoiK (ws.getD 1 [])) = false)) ∨ ((atoiK ((Lib.cut ((ls.drop 1).getD k []) [58, 32]).2.1)) = false)))), (2, .pointer (some ⟨b1, 0, none⟩)), (9, .pointer (some ⟨b22, 0, none⟩)), (15, .int .i64 (atoiV ((Lib.cut ((ls.drop 1).getD k []) [58, 32]).2.1))), (17, .slice A35 (subl b (i + 4) b.length).length C36)]) (H' := [(b22, .cells #[.int .i64 (atoiV (ws.getD 1 [])), .slice x.A x.l.length x.C, .slice none 0 0, .bool (decide (((k : Int) + 2) = (ls.length : Int)))] 74 (0, 0))] :: x.s :: s11 :: [(b1, .cells #[.int .i64 0, .slice none 0 0, .slice none 0 0, .bool false] 74 (0, 0))] :: H) (fun J => ?_) ?_
            · refine AtL.split (t := 92) rfl ?_ ?_
              · intro hs92
                have hs92 : (((Lib.cut ((ls.drop 1).getD k []) [58, 32]).2.2) = false) ∨ ((atoiK (ws.getD 1 [])) = false) := of_decide_eq_true hs92
                refine AtL.skipped rfl rfl rfl rfl rfl rfl ?_
                refine AtL.skipped rfl rfl rfl rfl rfl rfl ?_
                refine AtL.pickT (.inl rfl) rfl rfl rfl ?_
                exact J _ (by exact ⟨(boolIs (by clear J; first | (simp [hs92]; done) | (simp_all; done) | grind)), rfl, rfl, rfl, rfl, trivial⟩)
              · intro hs92
                have hs92 : ¬ ((((Lib.cut ((ls.drop 1).getD k []) [58, 32]).2.2) = false) ∨ ((atoiK (ws.getD 1 [])) = false)) := of_decide_eq_false hs92
                refine AtL.move (.inr ⟨_, _, _, rfl, rfl, rfl, rfl⟩) rfl rfl ?_
                refine AtL.neErr Tryz.underlying111 (.inr ⟨_, _, _, rfl, rfl, rfl, rfl⟩) rfl rfl ?_
                refine AtL.pickF (.inl rfl) rfl rfl rfl ?_
                exact J _ (by exact ⟨(boolIs (by clear J; first | (simp [hs92]; done) | (simp_all; done) | grind)), rfl, rfl, rfl, rfl, trivial⟩)
            · skip
              refine AtL.move (.inl rfl) rfl rfl ?_
              refine AtL.join 3 (E' := [(99, .bool (decide ((((((Lib.cut ((ls.drop 1).getD k []) [58, 32]).2.2) = false) ∨ ((atoiK (ws.getD 1 [])) = false)) ∨ ((atoiK ((Lib.cut ((ls.drop 1).getD k []) [58, 32]).2.1)) = false)) ∨ ((atoiV ((Lib.cut ((ls.drop 1).getD k []) [58, 32]).2.1) : Int) < 0)))), (2, .pointer (some ⟨b1, 0, none⟩)), (9, .pointer (some ⟨b22, 0, none⟩)), (15, .int .i64 (atoiV ((Lib.cut ((ls.drop 1).getD k []) [58, 32]).2.1))), (17, .slice A35 (subl b (i + 4) b.length).length C36)]) (H' := [(b22, .cells #[.int .i64 (atoiV (ws.getD 1 [])), .slice x.A x.l.length x.C, .slice none 0 0, .bool (decide (((k : Int) + 2) = (ls.length : Int)))] 74 (0, 0))] :: x.s :: s11 :: [(b1, .cells #[.int .i64 0, .slice none 0 0, .slice none 0 0, .bool false] 74 (0, 0))] :: H) (fun J => ?_) ?_
              · refine AtL.split (t := 96) rfl ?_ ?_
                · intro hs96
                  have hs96 : ((((Lib.cut ((ls.drop 1).getD k []) [58, 32]).2.2) = false) ∨ ((atoiK (ws.getD 1 [])) = false)) ∨ ((atoiK ((Lib.cut ((ls.drop 1).getD k []) [58, 32]).2.1)) = false) := of_decide_eq_true hs96
                  refine AtL.skipped rfl rfl rfl rfl rfl rfl ?_
                  refine AtL.skipped rfl rfl rfl rfl rfl rfl ?_
                  refine AtL.pickT (.inl rfl) rfl rfl rfl ?_
                  exact J _ (by exact ⟨(boolIs (by clear J; first | (simp [hs96]; done) | (simp_all; done) | grind)), rfl, rfl, rfl, rfl, trivial⟩)
                · intro hs96
                  have hs96 : ¬ (((((Lib.cut ((ls.drop 1).getD k []) [58, 32]).2.2) = false) ∨ ((atoiK (ws.getD 1 [])) = false)) ∨ ((atoiK ((Lib.cut ((ls.drop 1).getD k []) [58, 32]).2.1)) = false)) := of_decide_eq_false hs96
                  refine AtL.move (.inr ⟨_, _, _, rfl, rfl, rfl, rfl⟩) rfl rfl ?_
                  refine AtL.lss (.inr ⟨_, _, _, rfl, rfl, rfl, rfl⟩) rfl rfl rfl ?_
                  refine AtL.pickF (.inl rfl) rfl rfl rfl ?_
                  exact J _ (by exact ⟨(boolIs (by clear J; first | (simp [hs96]; done) | (simp_all; done) | grind)), rfl, rfl, rfl, rfl, trivial⟩)
              · skip
                refine AtL.move (.inl rfl) rfl rfl ?_
                refine AtL.join 5 (E' := [(105, .bool (decide (((((((Lib.cut ((ls.drop 1).getD k []) [58, 32]).2.2) = false) ∨ ((atoiK (ws.getD 1 [])) = false)) ∨ ((atoiK ((Lib.cut ((ls.drop 1).getD k []) [58, 32]).2.1)) = false)) ∨ ((atoiV ((Lib.cut ((ls.drop 1).getD k []) [58, 32]).2.1) : Int) < 0)) ∨ (((subl b (i + 4) b.length).length : Int) < (atoiV ((Lib.cut ((ls.drop 1).getD k []) [58, 32]).2.1)))))), (2, .pointer (some ⟨b1, 0, none⟩)), (9, .pointer (some ⟨b22, 0, none⟩)), (15, .int .i64 (atoiV ((Lib.cut ((ls.drop 1).getD k []) [58, 32]).2.1))), (17, .slice A35 (subl b (i + 4) b.length).length C36)]) (H' := [(b22, .cells #[.int .i64 (atoiV (ws.getD 1 [])), .slice x.A x.l.length x.C, .slice none 0 0, .bool (decide (((k : Int) + 2) = (ls.length : Int)))] 74 (0, 0))] :: x.s :: s11 :: [(b1, .cells #[.int .i64 0, .slice none 0 0, .slice none 0 0, .bool false] 74 (0, 0))] :: H) (fun J => ?_) ?_
                · refine AtL.split (t := 100) rfl ?_ ?_
                  · intro hs100
                    have hs100 : (((((Lib.cut ((ls.drop 1).getD k []) [58, 32]).2.2) = false) ∨ ((atoiK (ws.getD 1 [])) = false)) ∨ ((atoiK ((Lib.cut ((ls.drop 1).getD k []) [58, 32]).2.1)) = false)) ∨ ((atoiV ((Lib.cut ((ls.drop 1).getD k []) [58, 32]).2.1) : Int) < 0) := of_decide_eq_true hs100
                    refine AtL.skipped rfl rfl rfl rfl rfl rfl ?_
                    refine AtL.skipped rfl rfl rfl rfl rfl rfl ?_
                    refine AtL.skipped rfl rfl rfl rfl rfl rfl ?_
                    refine AtL.skipped rfl rfl rfl rfl rfl rfl ?_
                    refine AtL.pickT (.inl rfl) rfl rfl rfl ?_
                    exact J _ (by exact ⟨(boolIs (by clear J; first | (simp [hs100]; done) | (simp_all; done) | grind)), rfl, rfl, rfl, rfl, trivial⟩)
                  · intro hs100
                    have hs100 : ¬ ((((((Lib.cut ((ls.drop 1).getD k []) [58, 32]).2.2) = false) ∨ ((atoiK (ws.getD 1 [])) = false)) ∨ ((atoiK ((Lib.cut ((ls.drop 1).getD k []) [58, 32]).2.1)) = false)) ∨ ((atoiV ((Lib.cut ((ls.drop 1).getD k []) [58, 32]).2.1) : Int) < 0)) := of_decide_eq_false hs100
                    refine AtL.move (.inr ⟨_, _, _, rfl, rfl, rfl, rfl⟩) rfl rfl ?_
                    refine AtL.move (.inr ⟨_, _, _, rfl, rfl, rfl, rfl⟩) rfl rfl ?_
                    refine AtL.lenL Tryz.underlying22 (.inr ⟨_, _, _, rfl, rfl, rfl, rfl⟩) rfl rfl ?_
                    refine AtL.gtr (.inr ⟨_, _, _, rfl, rfl, rfl, rfl⟩) rfl rfl rfl ?_
                    refine AtL.pickF (.inl rfl) rfl rfl rfl ?_
                    exact J _ (by exact ⟨(boolIs (by clear J; first | (simp [hs100]; done) | (simp_all; done) | grind)), rfl, rfl, rfl, rfl, trivial⟩)
                · skip
                  refine AtL.done ?_
                  refine At.cond rfl ?_ ?_
                  · intro hc5
                    have hc5 : ((((((Lib.cut ((ls.drop 1).getD k []) [58, 32]).2.2) = false) ∨ ((atoiK (ws.getD 1 [])) = false)) ∨ ((atoiK ((Lib.cut ((ls.drop 1).getD k []) [58, 32]).2.1)) = false)) ∨ ((atoiV ((Lib.cut ((ls.drop 1).getD k []) [58, 32]).2.1) : Int) < 0)) ∨ (((subl b (i + 4) b.length).length : Int) < (atoiV ((Lib.cut ((ls.drop 1).getD k []) [58, 32]).2.1))) := of_decide_eq_true hc5
                    have hp : rparseF b = none := by rw [hpa, hst, if_pos hc5]
                    refine At.seq ?_
                    refine At.region ?_
                    refine AtL.build (cs := [.int .i64 0, .slice none 0 0, .slice none 0 0, .bool false]) tf_lay74 (.inl rfl) rfl rfl rfl ?_
                    refine AtL.store (H' := [(b22, .cells #[.int .i64 (atoiV (ws.getD 1 [])), .slice x.A x.l.length x.C, .slice none 0 0, .bool (decide (((k : Int) + 2) = (ls.length : Int)))] 74 (0, 0))] :: x.s :: s11 :: [(b1, .cells #[.int .i64 0, .slice none 0 0, .slice none 0 0, .bool false] 74 (0, 0))] :: H) 3 0 tf_sz74 (.inl rfl) rfl rfl rfl rfl rfl rfl rfl rfl rfl ?_
                    refine AtL.assign (.inl rfl) rfl rfl ?_
                    refine AtL.done ?_
                    refine At.nil ?_
                    refine At.nil ?_
                    exact At.retMP (vs := [.agg #[.int .i64 0, .slice none 0 0, .slice none 0 0, .bool false], .bool false]) (H2 := [] :: [] :: H) [0, 1] 6 rfl rfl Tryz.func56 rfl ⟨⟨_, rfl, LoadsTo.agg (cs := [.int .i64 0, .slice none 0 0, .slice none 0 0, .bool false]) tf_agg74 rfl (cellsOwn 5 0 0 rfl rfl rfl)⟩, rfl, trivial⟩ (⟨RespV.zero, by rw [hp]; rfl, Sl.nil, Sl.nil, rfl, rfl, by rw [hp]; rfl, rfl⟩)
                  · intro hc5
                    have hc5 : ¬ (((((((Lib.cut ((ls.drop 1).getD k []) [58, 32]).2.2) = false) ∨ ((atoiK (ws.getD 1 [])) = false)) ∨ ((atoiK ((Lib.cut ((ls.drop 1).getD k []) [58, 32]).2.1)) = false)) ∨ ((atoiV ((Lib.cut ((ls.drop 1).getD k []) [58, 32]).2.1) : Int) < 0)) ∨ (((subl b (i + 4) b.length).length : Int) < (atoiV ((Lib.cut ((ls.drop 1).getD k []) [58, 32]).2.1)))) := of_decide_eq_false hc5
                    rw [if_neg hc5] at hst
                    simp only [not_or] at hc5
                    have hsub : (subl b (i + 4) b.length).length = b.length - (i + 4) := by rw [subl_len (Nat.le_refl _)]
                    refine At.skip ?_
                    refine At.seq ?_
                    refine At.region ?_
                    refine AtL.move (.inl rfl) rfl rfl ?_
                    refine AtL.move (.inl rfl) rfl rfl ?_
                    have hleo40 := Rd.le o37
                    refine AtL.sliceR 4 0 ((atoiV (Lib.cut ((ls.drop 1).getD k []) [58, 32]).2.1).toNat) C36 o37 rfl (evBound_some rfl (by omega)) rfl (by intro h; cases h) (by omega) (by omega) (by omega) (by omega) Tryz.underlying22 tf_sz5 (.inl rfl) rfl rfl ?_
                    clear hleo40
                    intro A38 C39 (o40 : Rd tyB w0 base H A38 C39 (subl (subl b (i + 4) b.length) 0 ((atoiV (Lib.cut ((ls.drop 1).getD k []) [58, 32]).2.1).toNat)))
                    have hlo40 : (subl (subl b (i + 4) b.length) 0 ((atoiV (Lib.cut ((ls.drop 1).getD k []) [58, 32]).2.1).toNat)).length = ((atoiV (Lib.cut ((ls.drop 1).getD k []) [58, 32]).2.1).toNat) - 0 := subl_len (by omega)
                    refine AtL.call tf_body95 (.inl rfl) rfl rfl (bclone_ok (l := subl (subl b (i + 4) b.length) 0 ((atoiV (Lib.cut ((ls.drop 1).getD k []) [58, 32]).2.1).toNat)) (Rd.skip 4 o40) (by omega)) ?_
                    rintro _ _ ⟨⟨A41, C42, l43, s44, o45⟩, hx46, rfl, rfl⟩
                    obtain rfl : subl (subl b (i + 4) b.length) 0 ((atoiV (Lib.cut ((ls.drop 1).getD k []) [58, 32]).2.1).toNat) = l43 := hx46.symm
                    refine AtL.fieldAddrB tf_fo74_2 (.inl rfl) rfl rfl rfl ?_
                    refine AtL.store (H' := s44 :: [(b22, .cells #[.int .i64 (atoiV (ws.getD 1 [])), .slice x.A x.l.length x.C, .slice A41 (subl (subl b (i + 4) b.length) 0 ((atoiV (Lib.cut ((ls.drop 1).getD k []) [58, 32]).2.1).toNat)).length C42, .bool (decide (((k : Int) + 2) = (ls.length : Int)))] 74 (0, 0))] :: x.s :: s11 :: [(b1, .cells #[.int .i64 0, .slice none 0 0, .slice none 0 0, .bool false] 74 (0, 0))] :: H) 1 0 tf_sz22 (.inl rfl) rfl rfl rfl rfl rfl rfl rfl rfl rfl ?_
                    refine AtL.done ?_
                    refine At.seq ?_
                    refine At.region ?_
                    refine AtL.loadN (cs := [.int .i64 (atoiV (ws.getD 1 [])), .slice x.A x.l.length x.C, .slice A41 (subl (subl b (i + 4) b.length) 0 ((atoiV (Lib.cut ((ls.drop 1).getD k []) [58, 32]).2.1).toNat)).length C42, .bool (decide (((k : Int) + 2) = (ls.length : Int)))]) tf_agg74 (.inl rfl) rfl rfl rfl (cellsOwn 1 0 0 rfl rfl rfl) ?_
                    refine AtL.store (H' := s44 :: [(b22, .cells #[.int .i64 (atoiV (ws.getD 1 [])), .slice x.A x.l.length x.C, .slice A41 (subl (subl b (i + 4) b.length) 0 ((atoiV (Lib.cut ((ls.drop 1).getD k []) [58, 32]).2.1).toNat)).length C42, .bool (decide (((k : Int) + 2) = (ls.length : Int)))] 74 (0, 0))] :: x.s :: s11 :: [(b1, .cells #[.int .i64 (atoiV (ws.getD 1 [])), .slice x.A x.l.length x.C, .slice A41 (subl (subl b (i + 4) b.length) 0 ((atoiV (Lib.cut ((ls.drop 1).getD k []) [58, 32]).2.1).toNat)).length C42, .bool (decide (((k : Int) + 2) = (ls.length : Int)))] 74 (0, 0))] :: H) 4 0 tf_sz74 (.inl rfl) rfl rfl rfl rfl rfl rfl rfl rfl rfl ?_
                    refine AtL.assign (.inl rfl) rfl rfl ?_
                    refine AtL.done ?_
                    have hkp : decide ((ls.drop 1).drop (k + 1) = []) = decide ((k : Int) + 2 = (ls.length : Int)) := decide_eq_decide.2 (by rw [List.drop_eq_nil_iff]; constructor <;> (intro h; omega))
                    have hp : rparseF b = some ⟨atoiV (ws.getD 1 []), x.l, (subl b (i + 4) b.length).take (atoiV (Lib.cut ((ls.drop 1).getD k []) [58, 32]).2.1).toNat, decide ((k : Int) + 2 = (ls.length : Int))⟩ := by rw [hpa, hst, hkp]
                    exact At.retMP (vs := [.agg #[.int .i64 (atoiV (ws.getD 1 [])), .slice x.A x.l.length x.C, .slice A41 (subl (subl b (i + 4) b.length) 0 ((atoiV (Lib.cut ((ls.drop 1).getD k []) [58, 32]).2.1).toNat)).length C42, .bool (decide (((k : Int) + 2) = (ls.length : Int)))], .bool true]) (H2 := x.s :: s44 :: H) [2, 0] 5 rfl rfl Tryz.func56 rfl ⟨⟨_, rfl, LoadsTo.agg (cs := [.int .i64 (atoiV (ws.getD 1 [])), .slice x.A x.l.length x.C, .slice A41 (subl (subl b (i + 4) b.length) 0 ((atoiV (Lib.cut ((ls.drop 1).getD k []) [58, 32]).2.1).toNat)).length C42, .bool (decide (((k : Int) + 2) = (ls.length : Int)))]) tf_agg74 rfl (cellsOwn 4 0 0 rfl rfl rfl)⟩, rfl, trivial⟩ (⟨⟨atoiV (ws.getD 1 []), x.l, (subl b (i + 4) b.length).take (atoiV (Lib.cut ((ls.drop 1).getD k []) [58, 32]).2.1).toNat, decide ((k : Int) + 2 = (ls.length : Int))⟩, by rw [hp]; rfl, x, ⟨A41, C42, subl (subl b (i + 4) b.length) 0 ((atoiV (Lib.cut ((ls.drop 1).getD k []) [58, 32]).2.1).toNat), s44, o45⟩, rfl, by show _ = List.take _ _; rw [← subl_to], by rw [hp]; rfl, rfl⟩)
      · intro hc3
        have hc3 : ¬ ((k : Int) < ((ls.drop 1).length : Int)) := of_decide_eq_false hc3
        have hp : rparseF b = none := by rw [hpa, List.drop_eq_nil_of_le (by omega), linesP]
        refine At.exit rfl ?_
        refine At.seq ?_
        refine At.region ?_
        refine AtL.build (cs := [.int .i64 0, .slice none 0 0, .slice none 0 0, .bool false]) tf_lay74 (.inl rfl) rfl rfl rfl ?_
        refine AtL.store (H' := [(b22, .cells #[.int .i64 (atoiV (ws.getD 1 [])), .slice x.A x.l.length x.C, .slice none 0 0, .bool true] 74 (0, 0))] :: x.s :: s11 :: [(b1, .cells #[.int .i64 0, .slice none 0 0, .slice none 0 0, .bool false] 74 (0, 0))] :: H) 3 0 tf_sz74 (.inl rfl) rfl rfl rfl rfl rfl rfl rfl rfl rfl ?_
        refine AtL.assign (.inl rfl) rfl rfl ?_
        refine AtL.done ?_
        refine At.nil ?_
        refine At.nil ?_
        exact At.retMP (vs := [.agg #[.int .i64 0, .slice none 0 0, .slice none 0 0, .bool false], .bool false]) (H2 := [] :: [] :: H) [0, 1] 6 rfl rfl Tryz.func56 rfl ⟨⟨_, rfl, LoadsTo.agg (cs := [.int .i64 0, .slice none 0 0, .slice none 0 0, .bool false]) tf_agg74 rfl (cellsOwn 5 0 0 rfl rfl rfl)⟩, rfl, trivial⟩ (⟨RespV.zero, by rw [hp]; rfl, Sl.nil, Sl.nil, rfl, rfl, by rw [hp]; rfl, rfl⟩)
theorem read_bad {b : List UInt8} {p : Nat} {R : RespV} (hp : p ≤ b.length) (hR : R = (rparseF (subl b p b.length)).getD RespV.zero) (h : ((rparseF (subl b p b.length)).isSome = false ∨ ¬ respE R = 0) ∨ ¬ respL R <+: subl b p b.length) : readF b (p : Int) = (.zero, 0, 4) := by
  rw [subl_from] at hR h
  refine read_no (by omega) ?_
  rw [Int.toNat_natCast]
  rintro r ho ⟨t, ht⟩
  have hb := rparse_back ho t
  rw [ht] at hb
  rw [hb] at hR h
  subst hR
  have he : respE R = 0 := by rw [respE, if_pos ho]
  have hl : respL R = respB R := by rw [respL, if_pos ho]
  rcases h with (h | h) | h
  · cases h
  · exact h he
  · exact h (by rw [hl]; exact ⟨t, ht⟩)
theorem read_good {b : List UInt8} {p : Nat} {R : RespV} (hp : p ≤ b.length) (h : ¬ (((rparseF (subl b p b.length)).isSome = false ∨ ¬ respE R = 0) ∨ ¬ respL R <+: subl b p b.length)) : readF b (p : Int) = (R, (p : Int) + ((respL R).length : Int), 0) ∧ p + (respL R).length ≤ b.length := by
  simp only [not_or, Classical.not_not] at h
  obtain ⟨⟨_, h2⟩, h3⟩ := h
  have ho := respE_ok h2
  have hl : respL R = respB R := by rw [respL, if_pos ho]
  rw [hl, subl_from] at h3
  have hle := h3.length_le
  rw [List.length_drop] at hle
  rw [hl]
  exact ⟨read_yes (by omega) ho (by rw [Int.toNat_natCast]; exact h3), by omega⟩
set_option maxHeartbeats 400000 in
theorem read15_ok {w0 : World} {base : Nat} {H : List Seg} {A : Option Addr} {C : Nat} {b : List UInt8} (a : Int) (h : Rd tyB w0 base H A C b) (hbl : b.length ≤ 4294967280) (T : Tabs w0 base) (ET : ErrTab w0 base) (T10 : Tab10 w0 base) :
    SCalls Tryz.prog 39 [.slice A b.length C, .int .i64 a] w0 base (H) (fun v H' => ∃ R : RespV, R = (readF b a).1 ∧ ∃ (x : Sl tyField 78) (y : Sl tyB 5), x.l = R.fs ∧ y.l = R.body ∧ v = .tuple #[.agg #[int R.st, .slice x.A x.l.length x.C, .slice y.A y.l.length y.C, .bool R.keep], int (readF b a).2.1, int (readF b a).2.2] ∧ H' = x.s :: y.s :: H) := by
  have hcap0 := h.cap
  have hle0 := h.le
  refine SCalls.of_walk (n := 52) Tryz.func39 rfl rfl rfl fun cs => ?_
  refine At.seq ?_
  refine At.region ?_
  refine AtL.alloc tf_zero74 (cs := #[.int .i64 0, .slice none 0 0, .slice none 0 0, .bool false]) rfl (.inl rfl) rfl ?_
  intro b1
  refine AtL.assign (.inl rfl) rfl rfl ?_
  refine AtL.assign (.inl rfl) rfl rfl ?_
  refine AtL.done ?_
  refine At.seq ?_
  refine At.seq ?_
  refine At.region ?_
  refine AtL.move (.inl rfl) rfl rfl ?_
  refine AtL.lss (.inl rfl) rfl rfl rfl ?_
  refine AtL.move (.inl rfl) rfl rfl ?_
  refine AtL.join 5 (E' := [(18, .bool (decide (((a : Int) < 0) ∨ ((b.length : Int) < a)))), (0, .slice A b.length C), (1, .int .i64 a), (4, .pointer (some ⟨b1, 0, none⟩))]) (H' := [(b1, .cells #[.int .i64 0, .slice none 0 0, .slice none 0 0, .bool false] 74 (0, 0))] :: H) (fun J => ?_) ?_
  · refine AtL.split (t := 13) rfl ?_ ?_
    · intro hs13
      have hs13 : (a : Int) < 0 := of_decide_eq_true hs13
      refine AtL.skipped rfl rfl rfl rfl rfl rfl ?_
      refine AtL.skipped rfl rfl rfl rfl rfl rfl ?_
      refine AtL.skipped rfl rfl rfl rfl rfl rfl ?_
      refine AtL.skipped rfl rfl rfl rfl rfl rfl ?_
      refine AtL.pickT (.inl rfl) rfl rfl rfl ?_
      exact J _ (by exact ⟨(boolIs (by clear J; first | (simp [hs13]; done) | (simp_all; done) | grind)), rfl, rfl, rfl, trivial⟩)
    · intro hs13
      have hs13 : ¬ ((a : Int) < 0) := of_decide_eq_false hs13
      refine AtL.move (.inr ⟨_, _, _, rfl, rfl, rfl, rfl⟩) rfl rfl ?_
      refine AtL.move (.inr ⟨_, _, _, rfl, rfl, rfl, rfl⟩) rfl rfl ?_
      refine AtL.lenL Tryz.underlying22 (.inr ⟨_, _, _, rfl, rfl, rfl, rfl⟩) rfl rfl ?_
      refine AtL.gtr (.inr ⟨_, _, _, rfl, rfl, rfl, rfl⟩) rfl rfl rfl ?_
      refine AtL.pickF (.inl rfl) rfl rfl rfl ?_
      exact J _ (by exact ⟨(boolIs (by clear J; first | (simp [hs13]; done) | (simp_all; done) | grind)), rfl, rfl, rfl, trivial⟩)
  · skip
    refine AtL.done ?_
    refine At.cond rfl ?_ ?_
    · intro hc1
      have hc1 : ((a : Int) < 0) ∨ ((b.length : Int) < a) := of_decide_eq_true hc1
      refine At.seq ?_
      refine At.region ?_
      refine AtL.build (cs := [.int .i64 0, .slice none 0 0, .slice none 0 0, .bool false]) tf_lay74 (.inl rfl) rfl rfl rfl ?_
      refine AtL.store (H' := [(b1, .cells #[.int .i64 0, .slice none 0 0, .slice none 0 0, .bool false] 74 (0, 0))] :: H) 0 0 tf_sz74 (.inl rfl) rfl rfl rfl rfl rfl rfl rfl rfl rfl ?_
      refine AtL.assign (.inl rfl) rfl rfl ?_
      refine AtL.assign (.inl rfl) rfl rfl ?_
      refine AtL.done ?_
      refine At.nil ?_
      refine At.nil ?_
      exact At.retMP (vs := [.agg #[.int .i64 0, .slice none 0 0, .slice none 0 0, .bool false], .int .i64 0, .int .i64 5]) (H2 := [] :: [] :: H) [0, 1] 3 rfl rfl Tryz.func39 rfl ⟨⟨_, rfl, LoadsTo.agg (cs := [.int .i64 0, .slice none 0 0, .slice none 0 0, .bool false]) tf_agg74 rfl (cellsOwn 2 0 0 rfl rfl rfl)⟩, rfl, rfl, trivial⟩ (⟨RespV.zero, by rw [read_range hc1], Sl.nil, Sl.nil, rfl, rfl, by rw [read_range hc1]; rfl, rfl⟩)
    · intro hc1
      have hc1 : ¬ (((a : Int) < 0) ∨ ((b.length : Int) < a)) := of_decide_eq_false hc1
      obtain ⟨p, rfl⟩ : ∃ p : Nat, a = (p : Int) := ⟨a.toNat, by omega⟩
      refine At.skip ?_
      refine At.seq ?_
      refine At.region ?_
      refine AtL.move (.inl rfl) rfl rfl ?_
      refine AtL.move (.inl rfl) rfl rfl ?_
      have hleo4 := Rd.le h
      refine AtL.sliceR 1 p b.length C h (evBound_some rfl rfl) rfl rfl (by intro h; cases h) (by omega) (by omega) (by omega) (by omega) Tryz.underlying22 tf_sz5 (.inl rfl) rfl rfl ?_
      clear hleo4
      intro A2 C3 (o4 : Rd tyB w0 base H A2 C3 (subl b p b.length))
      have hlo4 : (subl b p b.length).length = b.length - p := subl_len (by omega)
      refine AtL.call tf_body56 (.inl rfl) rfl rfl (rparse15_ok (b := subl b p b.length) (Rd.skip 1 o4) (by rw [subl_len (Nat.le_refl _)]; omega) T ET) ?_
      rintro _ _ ⟨R15, hR16, ⟨A5, C6, l7, s8, o9⟩, ⟨A10, C11, l12, s13, o14⟩, hx17, hx18, rfl, rfl⟩
      obtain rfl : R15.fs = l7 := hx17.symm
      obtain rfl : R15.body = l12 := hx18.symm
      have hRb := rp_le hR16
      have hRe := hR16
      refine AtL.move (.inl rfl) rfl rfl ?_
      refine AtL.extract (.inl rfl) rfl rfl rfl ?_
      refine AtL.extract (.inl rfl) rfl rfl rfl ?_
      refine AtL.alloc tf_zero74 (cs := #[.int .i64 0, .slice none 0 0, .slice none 0 0, .bool false]) rfl (.inl rfl) rfl ?_
      intro b19
      refine AtL.store (H' := [(b19, .cells #[.int .i64 R15.st, .slice A5 R15.fs.length C6, .slice A10 R15.body.length C11, .bool R15.keep] 74 (0, 0))] :: s8 :: s13 :: [(b1, .cells #[.int .i64 0, .slice none 0 0, .slice none 0 0, .bool false] 74 (0, 0))] :: H) 0 0 tf_sz74 (.inl rfl) rfl rfl rfl rfl rfl rfl rfl rfl rfl ?_
      refine AtL.assign (.inl rfl) rfl rfl ?_
      refine AtL.done ?_
      refine At.seq ?_
      refine At.region ?_
      refine AtL.loadN (cs := [.int .i64 R15.st, .slice A5 R15.fs.length C6, .slice A10 R15.body.length C11, .bool R15.keep]) tf_agg74 (.inl rfl) rfl rfl rfl (cellsOwn 0 0 0 rfl rfl rfl) ?_
      refine AtL.call tf_body43 (.inl rfl) rfl rfl (rwrite_okP (st := R15.st) (fs := R15.fs) (b := R15.body) (kp := R15.keep) (o9.rd (i := 1) rfl) (o14.rd (i := 2) rfl) (fun f hf => by have h1 := hRb.1 f hf; rw [subl_len (Nat.le_refl _)] at h1; omega) T10) ?_
      rintro _ _ ⟨⟨A20, C21, l22, s23, o24⟩, hx25, rfl, rfl⟩
      obtain rfl : respL ⟨R15.st, R15.fs, R15.body, R15.keep⟩ = l22 := hx25.symm
      refine AtL.move (.inl rfl) rfl rfl ?_
      refine AtL.extract (.inl rfl) rfl rfl rfl ?_
      refine AtL.extract (.inl rfl) rfl rfl rfl ?_
      refine AtL.assign (.inl rfl) rfl rfl ?_
      refine AtL.assign (.inl rfl) rfl rfl ?_
      refine AtL.done ?_
      refine At.seq ?_
      refine At.seq ?_
      refine At.region ?_
      refine AtL.move (.inl rfl) rfl rfl ?_
      refine AtL.not (.inl rfl) rfl rfl ?_
      refine AtL.move (.inl rfl) rfl rfl ?_
      refine AtL.join 3 (E' := [(37, .bool (decide ((((rparseF (subl b p b.length)).isSome) = false) ∨ (¬ ((respE ⟨R15.st, R15.fs, R15.body, R15.keep⟩ : Int) = 0))))), (0, .slice A b.length C), (1, .int .i64 (p : Int)), (4, .pointer (some ⟨b1, 0, none⟩)), (7, .pointer (some ⟨b19, 0, none⟩)), (9, .slice A20 (respL ⟨R15.st, R15.fs, R15.body, R15.keep⟩).length C21)]) (H' := s23 :: [(b19, .cells #[.int .i64 R15.st, .slice A5 R15.fs.length C6, .slice A10 R15.body.length C11, .bool R15.keep] 74 (0, 0))] :: s8 :: s13 :: [(b1, .cells #[.int .i64 0, .slice none 0 0, .slice none 0 0, .bool false] 74 (0, 0))] :: H) (fun J => ?_) ?_
      · refine AtL.split (t := 34) rfl ?_ ?_
        · intro hs34
          have hs34 : ((rparseF (subl b p b.length)).isSome) = false := bnot_true hs34
          refine AtL.skipped rfl rfl rfl rfl rfl rfl ?_
          refine AtL.skipped rfl rfl rfl rfl rfl rfl ?_
          refine AtL.pickT (.inl rfl) rfl rfl rfl ?_
          exact J _ (by exact ⟨(boolIs (by clear J; first | (simp [hs34]; done) | (simp_all; done) | grind)), rfl, rfl, rfl, rfl, rfl, trivial⟩)
        · intro hs34
          have hs34 : ((rparseF (subl b p b.length)).isSome) = true := bnot_false hs34
          refine AtL.move (.inr ⟨_, _, _, rfl, rfl, rfl, rfl⟩) rfl rfl ?_
          refine AtL.nei (.inr ⟨_, _, _, rfl, rfl, rfl, rfl⟩) rfl rfl rfl ?_
          refine AtL.pickF (.inl rfl) rfl rfl rfl ?_
          exact J _ (by exact ⟨(boolIs (by clear J; first | (simp [hs34]; done) | (simp_all; done) | grind)), rfl, rfl, rfl, rfl, rfl, trivial⟩)
      · skip
        refine AtL.move (.inl rfl) rfl rfl ?_
        refine AtL.join 7 (E' := [(45, .bool (decide (((((rparseF (subl b p b.length)).isSome) = false) ∨ (¬ ((respE ⟨R15.st, R15.fs, R15.body, R15.keep⟩ : Int) = 0))) ∨ (¬ ((respL ⟨R15.st, R15.fs, R15.body, R15.keep⟩) <+: (subl b p b.length)))))), (1, .int .i64 (p : Int)), (4, .pointer (some ⟨b1, 0, none⟩)), (7, .pointer (some ⟨b19, 0, none⟩)), (9, .slice A20 (respL ⟨R15.st, R15.fs, R15.body, R15.keep⟩).length C21)]) (H' := s23 :: [(b19, .cells #[.int .i64 R15.st, .slice A5 R15.fs.length C6, .slice A10 R15.body.length C11, .bool R15.keep] 74 (0, 0))] :: s8 :: s13 :: [(b1, .cells #[.int .i64 0, .slice none 0 0, .slice none 0 0, .bool false] 74 (0, 0))] :: H) (fun J => ?_) ?_
        · refine AtL.split (t := 38) rfl ?_ ?_
          · intro hs38
            have hs38 : (((rparseF (subl b p b.length)).isSome) = false) ∨ (¬ ((respE ⟨R15.st, R15.fs, R15.body, R15.keep⟩ : Int) = 0)) := of_decide_eq_true hs38
            refine AtL.skipped rfl rfl rfl rfl rfl rfl ?_
            refine AtL.skipped rfl rfl rfl rfl rfl rfl ?_
            refine AtL.skipped rfl rfl rfl rfl rfl rfl ?_
            refine AtL.skipped rfl rfl rfl rfl rfl rfl ?_
            refine AtL.skipped rfl rfl rfl rfl rfl rfl ?_
            refine AtL.skipped rfl rfl rfl rfl rfl rfl ?_
            refine AtL.pickT (.inl rfl) rfl rfl rfl ?_
            exact J _ (by exact ⟨(boolIs (by clear J; first | (simp [hs38]; done) | (simp_all; done) | grind)), rfl, rfl, rfl, rfl, trivial⟩)
          · intro hs38
            have hs38 : ¬ ((((rparseF (subl b p b.length)).isSome) = false) ∨ (¬ ((respE ⟨R15.st, R15.fs, R15.body, R15.keep⟩ : Int) = 0))) := of_decide_eq_false hs38
            refine AtL.move (.inr ⟨_, _, _, rfl, rfl, rfl, rfl⟩) rfl rfl ?_
            refine AtL.move (.inr ⟨_, _, _, rfl, rfl, rfl, rfl⟩) rfl rfl ?_
            have hleo28 := Rd.le h
            refine AtL.sliceR 5 p b.length C h (evBound_some rfl rfl) rfl rfl (by intro h; cases h) (by omega) (by omega) (by omega) (by omega) Tryz.underlying22 tf_sz5 (.inr ⟨_, _, _, rfl, rfl, rfl, rfl⟩) rfl rfl ?_
            clear hleo28
            intro A26 C27 (o28 : Rd tyB w0 base H A26 C27 (subl b p b.length))
            have hlo28 : (subl b p b.length).length = b.length - p := subl_len (by omega)
            refine AtL.move (.inr ⟨_, _, _, rfl, rfl, rfl, rfl⟩) rfl rfl ?_
            refine AtL.call tf_body57 (.inr ⟨_, _, _, rfl, rfl, rfl, rfl⟩) rfl rfl (bhasprefix_ok (l := subl b p b.length) (m := respL ⟨R15.st, R15.fs, R15.body, R15.keep⟩) (Rd.skip 5 o28) (o24.rd (i := 0) rfl)) ?_
            rintro _ _ ⟨rfl, rfl⟩
            refine AtL.not (.inr ⟨_, _, _, rfl, rfl, rfl, rfl⟩) rfl rfl ?_
            refine AtL.pickF (.inl rfl) rfl rfl rfl ?_
            exact J _ (by exact ⟨(boolIs (by clear J; first | (simp [hs38]; done) | (simp_all; done) | grind)), rfl, rfl, rfl, rfl, trivial⟩)
        · skip
          refine AtL.done ?_
          refine At.cond rfl ?_ ?_
          · intro hc2
            have hc2 : ((((rparseF (subl b p b.length)).isSome) = false) ∨ (¬ ((respE ⟨R15.st, R15.fs, R15.body, R15.keep⟩ : Int) = 0))) ∨ (¬ ((respL ⟨R15.st, R15.fs, R15.body, R15.keep⟩) <+: (subl b p b.length))) := of_decide_eq_true hc2
            refine At.seq ?_
            refine At.region ?_
            refine AtL.build (cs := [.int .i64 0, .slice none 0 0, .slice none 0 0, .bool false]) tf_lay74 (.inl rfl) rfl rfl rfl ?_
            refine AtL.store (H' := s23 :: [(b19, .cells #[.int .i64 R15.st, .slice A5 R15.fs.length C6, .slice A10 R15.body.length C11, .bool R15.keep] 74 (0, 0))] :: s8 :: s13 :: [(b1, .cells #[.int .i64 0, .slice none 0 0, .slice none 0 0, .bool false] 74 (0, 0))] :: H) 4 0 tf_sz74 (.inl rfl) rfl rfl rfl rfl rfl rfl rfl rfl rfl ?_
            refine AtL.assign (.inl rfl) rfl rfl ?_
            refine AtL.assign (.inl rfl) rfl rfl ?_
            refine AtL.done ?_
            refine At.nil ?_
            refine At.nil ?_
            have hrd := read_bad (b := b) (p := p) (by omega) hRe hc2
            exact At.retMP (vs := [.agg #[.int .i64 0, .slice none 0 0, .slice none 0 0, .bool false], .int .i64 0, .int .i64 4]) (H2 := [] :: [] :: H) [0, 1] 7 rfl rfl Tryz.func39 rfl ⟨⟨_, rfl, LoadsTo.agg (cs := [.int .i64 0, .slice none 0 0, .slice none 0 0, .bool false]) tf_agg74 rfl (cellsOwn 6 0 0 rfl rfl rfl)⟩, rfl, rfl, trivial⟩ (⟨RespV.zero, by rw [hrd], Sl.nil, Sl.nil, rfl, rfl, by rw [hrd]; rfl, rfl⟩)
          · intro hc2
            have hc2 : ¬ (((((rparseF (subl b p b.length)).isSome) = false) ∨ (¬ ((respE ⟨R15.st, R15.fs, R15.body, R15.keep⟩ : Int) = 0))) ∨ (¬ ((respL ⟨R15.st, R15.fs, R15.body, R15.keep⟩) <+: (subl b p b.length)))) := of_decide_eq_false hc2
            obtain ⟨hrd, hpl⟩ := read_good (b := b) (p := p) (by omega) hc2
            refine At.skip ?_
            refine At.seq ?_
            refine At.region ?_
            refine AtL.loadN (cs := [.int .i64 R15.st, .slice A5 R15.fs.length C6, .slice A10 R15.body.length C11, .bool R15.keep]) tf_agg74 (.inl rfl) rfl rfl rfl (cellsOwn 1 0 0 rfl rfl rfl) ?_
            refine AtL.move (.inl rfl) rfl rfl ?_
            refine AtL.move (.inl rfl) rfl rfl ?_
            refine AtL.lenL Tryz.underlying22 (.inl rfl) rfl rfl ?_
            refine AtL.add (z := (p : Int) + ((respL ⟨R15.st, R15.fs, R15.body, R15.keep⟩).length : Int)) (.inl rfl) rfl rfl rfl (w64 (by omega) (by omega)) ?_
            refine AtL.store (H' := s23 :: [(b19, .cells #[.int .i64 R15.st, .slice A5 R15.fs.length C6, .slice A10 R15.body.length C11, .bool R15.keep] 74 (0, 0))] :: s8 :: s13 :: [(b1, .cells #[.int .i64 R15.st, .slice A5 R15.fs.length C6, .slice A10 R15.body.length C11, .bool R15.keep] 74 (0, 0))] :: H) 4 0 tf_sz74 (.inl rfl) rfl rfl rfl rfl rfl rfl rfl rfl rfl ?_
            refine AtL.assign (.inl rfl) rfl rfl ?_
            refine AtL.assign (.inl rfl) rfl rfl ?_
            refine AtL.done ?_
            exact At.retMP (vs := [.agg #[.int .i64 R15.st, .slice A5 R15.fs.length C6, .slice A10 R15.body.length C11, .bool R15.keep], .int .i64 ((p : Int) + ((respL ⟨R15.st, R15.fs, R15.body, R15.keep⟩).length : Int)), .int .i64 0]) (H2 := s8 :: s13 :: H) [2, 3] 5 rfl rfl Tryz.func39 rfl ⟨⟨_, rfl, LoadsTo.agg (cs := [.int .i64 R15.st, .slice A5 R15.fs.length C6, .slice A10 R15.body.length C11, .bool R15.keep]) tf_agg74 rfl (cellsOwn 4 0 0 rfl rfl rfl)⟩, rfl, rfl, trivial⟩ (⟨R15, by rw [hrd], ⟨A5, C6, R15.fs, s8, o9⟩, ⟨A10, C11, R15.body, s13, o14⟩, rfl, rfl, by rw [hrd]; rfl, rfl⟩)
end Go.Proofs.YtlkdmbpbjhjkfaaGreatDoor
namespace Go.Proofs.YtlkdmbpbjhjkfaaGreatDoor
set_option linter.unusedVariables false
set_option linter.unusedSimpArgs false
set_option maxRecDepth 100000
theorem anyout16 {s : List UInt8} {p : UInt8 → Bool} {c : UInt8} (h : s.all p = true) (hc : p c = false) : s.any (fun x => x == c) = false := by
  rw [List.any_eq_false]
  intro x hx h2
  have := List.all_eq_true.1 h x hx
  rw [eq_of_beq h2, hc] at this; cases this
theorem indexskip16 {c : UInt8} {l : List UInt8} (rest : List UInt8) (h : l.any (fun x => x == c) = false) : Lib.index (l ++ rest) [c] = if Lib.index rest [c] = -1 then -1 else Lib.index rest [c] + (l.length : Int) := by
  have hg := Lib.index_ge rest [c]
  induction l with
  | nil => simp only [List.nil_append, List.length_nil]; split <;> omega
  | cons a l ih =>
    have h1 : ¬ a = c := by simp at h; exact h.1
    have h2 : l.any (fun x => x == c) = false := by simp at h; simpa using h.2
    have hp : List.isPrefixOf [c] (a :: (l ++ rest)) = false := by
      simp only [List.isPrefixOf, Bool.and_eq_false_iff, beq_eq_false_iff_ne]; exact .inl fun e => h1 e.symm
    rw [List.cons_append, Lib.index, hp, ih h2]
    by_cases h3 : Lib.index rest [c] = -1
    · simp [h3]
    · have h4 : ¬ (Lib.index rest [c] + (l.length : Int) == -1) = true := by simp only [beq_iff_eq]; omega
      simp only [if_neg h3, if_neg h4, Bool.false_eq_true, if_false, List.length_cons]; omega
theorem cuthit16 {c : UInt8} {n v : List UInt8} (h : n.any (fun x => x == c) = false) : Lib.cut (n ++ c :: v) [c] = (n, v, true) := by
  have e : Lib.index (c :: v) [c] = 0 := by rw [Lib.index, if_pos]; simp [List.isPrefixOf]
  have e2 : Lib.index (n ++ c :: v) [c] = (n.length : Int) := by rw [indexskip16 _ h, e]; simp
  unfold Lib.cut
  rw [e2, if_pos (by omega)]
  simp
theorem cutmiss16 {c : UInt8} {n : List UInt8} (h : n.any (fun x => x == c) = false) : Lib.cut n [c] = (n, [], false) := by
  have e2 := indexskip16 [] h
  rw [List.append_nil] at e2
  have e : Lib.index [] [c] = -1 := rfl
  rw [e, if_pos rfl] at e2
  unfold Lib.cut
  rw [e2, if_neg (by decide)]
theorem letout16 {s : List UInt8} (h : okB s = true) {c : UInt8} (hc : ¬ num64 c < 64) : s.any (fun x => x == c) = false := anyout16 h (decide_eq_false hc)
theorem all_imp {p q : UInt8 → Bool} {l : List UInt8} (h : l.all p = true) (hi : ∀ c, p c = true → q c = true) : l.all q = true :=
  List.all_eq_true.2 fun c hc => hi c (List.all_eq_true.1 h c hc)
def digCh (c : UInt8) : Bool := decide (48 ≤ c.toNat ∧ c.toNat ≤ 57)
theorem decF_all (n : Nat) : (decF n).all digCh = true := by
  induction n using Nat.strongRecOn with
  | _ n ih =>
    have hd : ∀ k, k < 10 → digCh (UInt8.ofNat (48 + k)) = true := fun k hk => (by decide +kernel : ∀ k : Fin 10, digCh (UInt8.ofNat (48 + k.val)) = true) ⟨k, hk⟩
    rw [decF]
    split
    · rename_i h; rw [List.all_cons, hd n h]; rfl
    · rw [List.all_append, ih (n / 10) (by omega), List.all_cons, hd (n % 10) (by omega)]; rfl
theorem dig_val {c : UInt8} (h : digCh c = true) : valCh c = true ∧ blankF c = false := by
  have := (by decide +kernel : ∀ n : Fin 256, digCh (UInt8.ofNat n.val) = true → valCh (UInt8.ofNat n.val) = true ∧ blankF (UInt8.ofNat n.val) = false) ⟨c.toNat, c.toNat_lt⟩
  simpa [h] using this
theorem value_max (n : Nat) : valueF (MAX16 ++ decF n) = true := by
  have h1 : (MAX16 ++ decF n).all valCh = true := by
    rw [List.all_append, all_imp (decF_all n) fun c hc => (dig_val hc).1]; decide
  have hne : 0 < (decF n).length := List.length_pos_iff.2 (decF_num n).2.1
  have h2 : trimF (MAX16 ++ decF n) = MAX16 ++ decF n := by
    refine (trim_same _).2 (.inr ⟨(by decide : blankF 109 = false), ?_⟩)
    have e : (MAX16 ++ decF n).getD ((MAX16 ++ decF n).length - 1) 0 = (decF n).getD ((decF n).length - 1) 0 := by
      have hm : MAX16.length = 8 := rfl
      simp only [List.getD]
      rw [List.getElem?_append_right (by rw [List.length_append]; omega), List.length_append, show MAX16.length + (decF n).length - 1 - MAX16.length = (decF n).length - 1 by omega]
    rw [e]
    exact (dig_val (List.all_eq_true.1 (decF_all n) _ (getD_mem (by omega)))).2
  rw [valueF, h1, decide_eq_true h2]; rfl
theorem ansFs_ok (age : Int) (b : List UInt8) (kp : Bool) (hb : b.length ≤ 65535) (hd : (decF age.toNat).length ≤ 19) : okR ⟨200, ansFs age, b, kp⟩ = true := by
  have h1 : fldR (CTN16, MED16) = true := by decide
  have h2 : fldR (CCN16, MAX16 ++ decF age.toNat) = true := by
    have e1 : wordF CCN16 64 = true := by decide
    have e2 : ownF (CCN16, MAX16 ++ decF age.toNat) = false := decide_eq_false (show ¬ (lowerF CCN16 = lowerF CLEN ∨ lowerF CCN16 = lowerF CONN ∨ lowerF CCN16 = lowerF TENC) by decide)
    rw [fldR, fieldOk, e1, value_max, e2]; rfl
  have h3 : sumF (ansFs age) ≤ 4096 := by
    have hm : MAX16.length = 8 := rfl
    have hc : CTN16.length = 12 := rfl
    have hk : CCN16.length = 13 := rfl
    have hq : MED16.length = 23 := rfl
    simp only [sumF, ansFs, List.map_cons, List.map_nil, List.sum_cons, List.sum_nil, List.length_append]
    omega
  have h4 : reasonF 200 ≠ [] := by decide
  have h5 : (ansFs age).length ≤ 16 := by show 2 ≤ 16; decide
  have ha : (ansFs age).all fldR = true := by
    show (fldR (CTN16, MED16) && (fldR (CCN16, MAX16 ++ decF age.toNat) && true)) = true
    rw [h1, h2]; rfl
  show (decide (reasonF 200 ≠ []) && decide ((ansFs age).length ≤ 16) && decide (b.length ≤ 65535) && (ansFs age).all fldR && decide (sumF (ansFs age) ≤ 4096)) = true
  rw [decide_eq_true h4, decide_eq_true h5, decide_eq_true hb, ha, decide_eq_true h3]; rfl
theorem ans_good {b : List UInt8} {age : Int} {kp : Bool} (h1 : 12 ≤ b.length) (h2 : b.length ≤ 65535) (h3 : 0 ≤ age) (h4 : age < 2147483648) : ansF b age kp = (respB ⟨200, ansFs age, b, kp⟩, 0) ∧ readF (respB ⟨200, ansFs age, b, kp⟩) 0 = (⟨200, ansFs age, b, kp⟩, ((respB ⟨200, ansFs age, b, kp⟩).length : Int), 0) := by
  have hd : (decF age.toNat).length ≤ 19 := by
    have h2 : (10 : Nat) ^ 19 = 10000000000000000000 := by decide
    exact (decF_num age.toNat).2.2 18 (by omega)
  have hok := ansFs_ok age b kp h2 hd
  constructor
  · rw [ans_ok (by omega) (by omega) (by omega), respL, if_pos hok, respE, if_pos hok]
  · have := read_yes (b := respB ⟨200, ansFs age, b, kp⟩) (at_ := 0) (r := ⟨200, ansFs age, b, kp⟩) (by omega) hok (by exact List.prefix_refl _)
    rw [this, Int.zero_add]
def HO16 : List Fld := [([72, 111, 115, 116], [120])]
def PF16 : List Fld := [([72, 111, 115, 116], [120]), (CTYPE, MEDIA)]
theorem let_tgt {c : UInt8} (h : num64 c < 64) : tgtCh c = true := by
  rw [← num_let h]
  exact (by decide +kernel : ∀ n : Fin 64, tgtCh (letB.getD n.val 0) = true) ⟨_, h⟩
theorem target_tgt (b : List UInt8) : targetF (TPRE ++ encB b) = true := by
  obtain ⟨_, _, _, ho⟩ := enc_bits b
  have h1 : (encB b).all tgtCh = true := all_imp ho fun c hc => let_tgt (of_decide_eq_true hc)
  have h2 : TPRE.all tgtCh = true := by decide
  rw [targetF_all, List.all_append, h1, h2]; rfl
theorem get_write {t : List UInt8} (ht : t.length ≤ 2048) (h : targetF t = true) : writeE ⟨GETM, t, 1, HO16⟩ = 0 := by
  have h1 : okF ⟨GETM, t, 1, HO16⟩ = true := by
    have e1 : wordF GETM 16 = true := by decide
    have e2 : HO16.all fieldOk = true := by decide
    have e3 : hostsF HO16 1 = true := by decide
    have e4 : decide ((0 : Int) ≤ 1 ∧ (1 : Int) ≤ 1) = true := by decide
    have e5 : decide (HO16.length ≤ 32) = true := by decide
    show (wordF GETM 16 && decide (t.length ≤ 2048) && targetF t && decide ((0 : Int) ≤ 1 ∧ (1 : Int) ≤ 1) && decide (HO16.length ≤ 32) && HO16.all fieldOk && hostsF HO16 1) = true
    rw [e1, e2, e3, h, decide_eq_true ht, e4, e5]; rfl
  have h2 : (headB ⟨GETM, t, 1, HO16⟩).length ≤ 4096 := by
    have e : (headB ⟨GETM, t, 1, HO16⟩).length ≤ t.length + 200 := by
      simp only [headB, lineB, HO16, GETM, fieldsB, fieldB, List.length_append, List.length_cons, List.length_nil, HTTP1]
      omega
    omega
  rw [writeE, if_pos]
  rw [writeOk, h1, decide_eq_true h2]; rfl
theorem post_write : writeE ⟨POSTM, DNSQ, 1, PF16⟩ = 0 := by decide +kernel
theorem part_end {s : List UInt8} (h : okB s = true) : partF (DNSE ++ s) = some s := by
  have h1 : (DNSE ++ s).any (fun x => x == 38) = false := by
    rw [List.any_append, letout16 h (by decide)]; decide
  have hc := cutmiss16 (c := 38) h1
  rw [part_yes (by rw [hc]; exact ⟨s, rfl⟩), hc]; rfl
theorem get_asks {b : List UInt8} (fs : List Fld) (h1 : 12 ≤ b.length) (h2 : b.length ≤ 1400) : askF GETM (TPRE ++ encB b) fs [] = (b, 200) := by
  have e : TPRE ++ encB b = DNSQ ++ 63 :: (DNSE ++ encB b) := rfl
  have hc := cuthit16 (c := 63) (n := DNSQ) (v := DNSE ++ encB b) (by decide)
  obtain ⟨_, _, _, ho⟩ := enc_bits b
  have hp : partF (Lib.cut (DNSQ ++ 63 :: (DNSE ++ encB b)) [63]).2.1 = some (encB b) := by
    rw [hc]; exact part_end ho
  rw [e, ask_get (by rw [hc]) rfl, get_good hp (dec_enc b)]
  exact then_ok (by omega) (by omega)
theorem post_asks {b : List UInt8} (h1 : 12 ≤ b.length) (h2 : b.length ≤ 65535) : askF POSTM DNSQ PF16 b = (b, 200) := by
  have hc : (Lib.cut DNSQ [63]).1 = DNSQ := by decide +kernel
  have hp : postF PF16 b = (b, 200) := by
    rw [postF, if_neg]; decide +kernel
  rw [askF, if_neg (by rw [hc]; simp), if_neg (by decide), if_pos rfl, hp]
  exact then_ok (by omega) (by omega)
theorem askK1 (fs : List Fld) : askF GETM DNSQ fs [] = ([], 400) := by
  have hc : Lib.cut DNSQ [63] = (DNSQ, [], false) := by decide +kernel
  have hn : partF [] = none := part_none (by decide +kernel) (by decide +kernel)
  rw [ask_get (by rw [hc]) rfl, get_none (by rw [hc]; exact hn)]; rfl
theorem askK2 (fs : List Fld) : askF [80, 85, 84] DNSQ fs [] = ([], 405) := by
  have hc : Lib.cut DNSQ [63] = (DNSQ, [], false) := by decide +kernel
  rw [askF, if_neg (by rw [hc]; simp), if_neg (by decide), if_neg (by decide)]
def QAA : List UInt8 := [47, 100, 110, 115, 45, 113, 117, 101, 114, 121, 63, 100, 110, 115, 61, 65, 65]
theorem askK3 (fs : List Fld) : askF GETM QAA fs [] = ([], 400) := by
  have hc : Lib.cut QAA [63] = (DNSQ, DNSE ++ [65, 65], true) := by decide +kernel
  have hp : partF (Lib.cut QAA [63]).2.1 = some [65, 65] := by rw [hc]; exact part_end (by decide +kernel)
  have hd : decB [65, 65] = some [0] := by decide +kernel
  rw [ask_get (by rw [hc]) rfl, get_good hp hd]; rfl
theorem askK4 (b : List UInt8) : askF POSTM DNSQ HO16 b = ([], 415) := by
  have hc : (Lib.cut DNSQ [63]).1 = DNSQ := by decide +kernel
  rw [askF, if_neg (by rw [hc]; simp), if_neg (by decide), if_pos rfl, postF, if_pos (by decide +kernel)]; rfl
theorem askK5 {b : List UInt8} (h : b.length < 12) : askF POSTM DNSQ PF16 b = ([], 400) := by
  have hc : (Lib.cut DNSQ [63]).1 = DNSQ := by decide +kernel
  have hp : postF PF16 b = (b, 200) := by
    rw [postF, if_neg]; decide +kernel
  rw [askF, if_neg (by rw [hc]; simp), if_neg (by decide), if_pos rfl, hp, thenF, if_pos rfl, sizesF, if_pos h]
end Go.Proofs.YtlkdmbpbjhjkfaaGreatDoor
namespace Go.Proofs.YtlkdmbpbjhjkfaaGreatDoor
set_option linter.unusedVariables false
set_option linter.unusedSimpArgs false
set_option maxRecDepth 100000
set_option maxHeartbeats 400000 in
theorem slow_241 {w0 : World} {base : Nat} {H : List Seg} {A : Option Addr} {C : Nat} {l : List UInt8} (h : Rd tyB w0 base H A C l) (T : Tabs w0 base) (hl : l ≠ []) (hx : (Lib.firstT (l.getD 0 0).toNat : Int) = 241)  :
    SCalls Tryz.prog 225 [.slice A l.length C] w0 base (H) (fun v H' => ∃ (r : Int) (n : Nat), v = .tuple #[.int .i32 r, int (n : Int)] ∧ decOk l r n ∧ H' = H) := by
  have hpos := List.length_pos_iff.2 hl
  have hcap := h.cap
  have hle := h.le
  have hb0 := u8_le (l.getD 0 0)
  have hb1 := u8_le (l.getD 1 0)
  have hb2 := u8_le (l.getD 2 0)
  have hb3 := u8_le (l.getD 3 0)
  refine SCalls.of_walk (n := 122) Tryz.func225 rfl rfl rfl fun cs => ?_
  refine At.seq ?_
  refine At.region ?_
  refine AtL.assign (.inl rfl) rfl rfl ?_
  refine AtL.assign (.inl rfl) rfl rfl ?_
  refine AtL.done ?_
  refine At.seq ?_
  refine At.region ?_
  refine AtL.move (.inl rfl) rfl rfl ?_
  refine AtL.lenL Tryz.underlying22 (.inl rfl) rfl rfl ?_
  refine AtL.assign (.inl rfl) rfl rfl ?_
  refine AtL.done ?_
  refine At.seq ?_
  refine At.seq ?_
  refine At.region ?_
  refine AtL.move (.inl rfl) rfl rfl ?_
  refine AtL.lss (.inl rfl) rfl rfl rfl ?_
  refine AtL.done ?_
  refine At.condIs false rfl (decide_eq_false (by omega)) ?_
  refine At.skip ?_
  refine At.seq ?_
  refine At.region ?_
  refine AtL.move (.inl rfl) rfl rfl ?_
  refine AtL.indexL 0 h Tryz.underlying22 tf_sz5 (.inl rfl) rfl rfl rfl rfl (by omega) ?_
  refine AtL.load (v := .int .u8 ((l.getD 0 0).toNat : Int)) tf_flat5 (.inl rfl) rfl rfl (Rd.cell0 h (getD_some 0 (by omega)) rfl) ?_
  refine AtL.assign (.inl rfl) rfl rfl ?_
  refine AtL.done ?_
  refine At.seq ?_
  refine At.region ?_
  refine AtL.move (.inl rfl) rfl rfl ?_
  refine AtL.indexArr (a := ⟨4, 0, none⟩) ((l.getD 0 0).toNat) Tryz.underlying166 tf_sz5 (.inl rfl) rfl rfl rfl rfl (by omega) ?_
  refine AtL.load (v := .int .u8 241) tf_flat5 (.inl rfl) rfl rfl (T.one (l.getD 0 0) hx) ?_
  refine AtL.assign (.inl rfl) rfl rfl ?_
  refine AtL.done ?_
  refine At.seq ?_
  refine At.seq ?_
  refine At.region ?_
  refine AtL.move (.inl rfl) rfl rfl ?_
  refine AtL.geq (.inl rfl) rfl rfl rfl ?_
  refine AtL.done ?_
  refine At.condT rfl ?_
  refine At.seq ?_
  refine At.region ?_
  refine AtL.move (.inl rfl) rfl rfl ?_
  refine AtL.convInt (z := 241) Tryz.underlying5 Tryz.underlying21 (.inl rfl) rfl rfl (by decide) ?_
  refine AtL.shl (z := (-2147483648)) (.inl rfl) rfl rfl rfl (by decide) (by decide) ?_
  refine AtL.shr (z := (-1)) (.inl rfl) rfl rfl rfl (by decide) (by decide) ?_
  refine AtL.assign (.inl rfl) rfl rfl ?_
  refine AtL.done ?_
  refine At.seq ?_
  refine At.region ?_
  refine AtL.move (.inl rfl) rfl rfl ?_
  refine AtL.indexL 0 h Tryz.underlying22 tf_sz5 (.inl rfl) rfl rfl rfl rfl (by omega) ?_
  refine AtL.load (v := .int .u8 ((l.getD 0 0).toNat : Int)) tf_flat5 (.inl rfl) rfl rfl (Rd.cell0 h (getD_some 0 (by omega)) rfl) ?_
  have hB1 := u8_le ((l.getD 0 0))
  refine AtL.convInt (z := ((l.getD 0 0).toNat : Int)) Tryz.underlying5 Tryz.underlying21 (.inl rfl) rfl rfl (w32i (by omega) (by omega)) ?_
  refine AtL.move (.inl rfl) rfl rfl ?_
  refine AtL.bandnot (z := 0) (.inl rfl) rfl rfl rfl (andnot_ones _) ?_
  refine AtL.move (.inl rfl) rfl rfl ?_
  refine AtL.band (z := 65533) (.inl rfl) rfl rfl rfl (by decide) ?_
  refine AtL.bor (z := 65533) (.inl rfl) rfl rfl rfl (by decide) ?_
  refine AtL.assign (.inl rfl) rfl rfl ?_
  refine AtL.assign (.inl rfl) rfl rfl ?_
  refine AtL.done ?_
  exact At.ret Tryz.func225 rfl rfl (⟨_, 1, rfl, ⟨by omega, by omega, fun i h1 h2 => by omega, .inl rfl⟩, rfl⟩)
set_option maxHeartbeats 400000 in
theorem slow_2 {w0 : World} {base : Nat} {H : List Seg} {A : Option Addr} {C : Nat} {l : List UInt8} (h : Rd tyB w0 base H A C l) (T : Tabs w0 base) (hl : l ≠ []) (hx : (Lib.firstT (l.getD 0 0).toNat : Int) = 2) (hp : 194 ≤ (l.getD 0 0).toNat ∧ (l.getD 0 0).toNat < 224) :
    SCalls Tryz.prog 225 [.slice A l.length C] w0 base (H) (fun v H' => ∃ (r : Int) (n : Nat), v = .tuple #[.int .i32 r, int (n : Int)] ∧ decOk l r n ∧ H' = H) := by
  have hpos := List.length_pos_iff.2 hl
  have hcap := h.cap
  have hle := h.le
  have hb0 := u8_le (l.getD 0 0)
  have hb1 := u8_le (l.getD 1 0)
  have hb2 := u8_le (l.getD 2 0)
  have hb3 := u8_le (l.getD 3 0)
  refine SCalls.of_walk (n := 122) Tryz.func225 rfl rfl rfl fun cs => ?_
  refine At.seq ?_
  refine At.region ?_
  refine AtL.assign (.inl rfl) rfl rfl ?_
  refine AtL.assign (.inl rfl) rfl rfl ?_
  refine AtL.done ?_
  refine At.seq ?_
  refine At.region ?_
  refine AtL.move (.inl rfl) rfl rfl ?_
  refine AtL.lenL Tryz.underlying22 (.inl rfl) rfl rfl ?_
  refine AtL.assign (.inl rfl) rfl rfl ?_
  refine AtL.done ?_
  refine At.seq ?_
  refine At.seq ?_
  refine At.region ?_
  refine AtL.move (.inl rfl) rfl rfl ?_
  refine AtL.lss (.inl rfl) rfl rfl rfl ?_
  refine AtL.done ?_
  refine At.condIs false rfl (decide_eq_false (by omega)) ?_
  refine At.skip ?_
  refine At.seq ?_
  refine At.region ?_
  refine AtL.move (.inl rfl) rfl rfl ?_
  refine AtL.indexL 0 h Tryz.underlying22 tf_sz5 (.inl rfl) rfl rfl rfl rfl (by omega) ?_
  refine AtL.load (v := .int .u8 ((l.getD 0 0).toNat : Int)) tf_flat5 (.inl rfl) rfl rfl (Rd.cell0 h (getD_some 0 (by omega)) rfl) ?_
  refine AtL.assign (.inl rfl) rfl rfl ?_
  refine AtL.done ?_
  refine At.seq ?_
  refine At.region ?_
  refine AtL.move (.inl rfl) rfl rfl ?_
  refine AtL.indexArr (a := ⟨4, 0, none⟩) ((l.getD 0 0).toNat) Tryz.underlying166 tf_sz5 (.inl rfl) rfl rfl rfl rfl (by omega) ?_
  refine AtL.load (v := .int .u8 2) tf_flat5 (.inl rfl) rfl rfl (T.one (l.getD 0 0) hx) ?_
  refine AtL.assign (.inl rfl) rfl rfl ?_
  refine AtL.done ?_
  refine At.seq ?_
  refine At.seq ?_
  refine At.region ?_
  refine AtL.move (.inl rfl) rfl rfl ?_
  refine AtL.geq (.inl rfl) rfl rfl rfl ?_
  refine AtL.done ?_
  refine At.condF rfl ?_
  refine At.skip ?_
  refine At.seq ?_
  refine At.region ?_
  refine AtL.move (.inl rfl) rfl rfl ?_
  refine AtL.band (z := 2) (.inl rfl) rfl rfl rfl (by decide) ?_
  refine AtL.convInt (z := 2) Tryz.underlying5 Tryz.underlying3 (.inl rfl) rfl rfl (by decide) ?_
  refine AtL.assign (.inl rfl) rfl rfl ?_
  refine AtL.done ?_
  refine At.seq ?_
  refine At.region ?_
  refine AtL.move (.inl rfl) rfl rfl ?_
  refine AtL.shr (z := 0) (.inl rfl) rfl rfl rfl (by decide) (by decide) ?_
  refine AtL.indexArr (a := ⟨5, 0, none⟩) 0 Tryz.underlying253 tf_sz252 (.inl rfl) rfl rfl rfl rfl (by omega) ?_
  refine AtL.loadN (cs := [.int .u8 128, .int .u8 191]) tf_agg252 (.inl rfl) rfl rfl rfl (T.two 0 (by decide) (by decide) (by decide)) ?_
  refine AtL.alloc tf_zero252 (cs := #[.int .u8 0, .int .u8 0]) rfl (.inl rfl) rfl ?_
  intro b1
  refine AtL.store (H' := [(b1, .cells #[.int .u8 128, .int .u8 191] 252 (0, 0))] :: H) 0 0 tf_sz252 (.inl rfl) rfl rfl rfl rfl rfl rfl rfl rfl rfl ?_
  refine AtL.done ?_
  refine At.seq ?_
  refine At.seq ?_
  refine At.region ?_
  refine AtL.move (.inl rfl) rfl rfl ?_
  refine AtL.move (.inl rfl) rfl rfl ?_
  refine AtL.lss (.inl rfl) rfl rfl rfl ?_
  refine AtL.done ?_
  refine At.cond rfl ?_ ?_
  · intro hc3
    have hc3 : (l.length : Int) < 2 := of_decide_eq_true hc3
    refine At.seq ?_
    refine At.region ?_
    refine AtL.assign (.inl rfl) rfl rfl ?_
    refine AtL.assign (.inl rfl) rfl rfl ?_
    refine AtL.done ?_
    refine At.pick (H' := H) [] 1 rfl rfl ?_
    exact At.ret Tryz.func225 rfl rfl (⟨_, 1, rfl, ⟨by omega, by omega, fun i h1 h2 => by omega, .inl rfl⟩, rfl⟩)
  · intro hc3
    have hc3 : ¬ ((l.length : Int) < 2) := of_decide_eq_false hc3
    refine At.skip ?_
    refine At.seq ?_
    refine At.region ?_
    refine AtL.move (.inl rfl) rfl rfl ?_
    refine AtL.indexL 1 (Rd.skip 1 h) Tryz.underlying22 tf_sz5 (.inl rfl) rfl rfl rfl rfl (by omega) ?_
    refine AtL.load (v := .int .u8 ((l.getD 1 0).toNat : Int)) tf_flat5 (.inl rfl) rfl rfl (Rd.cell0 (Rd.skip 1 h) (getD_some 0 (by omega)) rfl) ?_
    refine AtL.assign (.inl rfl) rfl rfl ?_
    refine AtL.done ?_
    refine At.seq ?_
    refine At.seq ?_
    refine At.region ?_
    refine AtL.move (.inl rfl) rfl rfl ?_
    refine AtL.fieldAddrB tf_fo252_0 (.inl rfl) rfl rfl rfl ?_
    refine AtL.load tf_flat5 (.inl rfl) rfl rfl (Cell.own 0 0 rfl rfl rfl) ?_
    refine AtL.lss (.inl rfl) rfl rfl rfl ?_
    refine AtL.move (.inl rfl) rfl rfl ?_
    refine AtL.join 5 (E' := [(60, .bool (decide ((((l.getD 1 0).toNat : Int) < 128) ∨ (191 < ((l.getD 1 0).toNat : Int))))), (0, .slice A l.length C), (5, .int .u8 ((l.getD 0 0).toNat : Int)), (8, .int .i64 2), (10, .int .u8 ((l.getD 1 0).toNat : Int))]) (H' := [(b1, .cells #[.int .u8 128, .int .u8 191] 252 (0, 0))] :: H) (fun J => ?_) ?_
    · refine AtL.split (t := 55) rfl ?_ ?_
      · intro hs55
        have hs55 : ((l.getD 1 0).toNat : Int) < 128 := of_decide_eq_true hs55
        refine AtL.skipped rfl rfl rfl rfl rfl rfl ?_
        refine AtL.skipped rfl rfl rfl rfl rfl rfl ?_
        refine AtL.skipped rfl rfl rfl rfl rfl rfl ?_
        refine AtL.skipped rfl rfl rfl rfl rfl rfl ?_
        refine AtL.pickT (.inl rfl) rfl rfl rfl ?_
        exact J _ (by exact ⟨(boolIs (by clear J; first | (simp [hs55]; done) | (simp_all; done) | grind)), rfl, rfl, rfl, rfl, trivial⟩)
      · intro hs55
        have hs55 : ¬ (((l.getD 1 0).toNat : Int) < 128) := of_decide_eq_false hs55
        refine AtL.fieldAddrB tf_fo252_1 (.inr ⟨_, _, _, rfl, rfl, rfl, rfl⟩) rfl rfl rfl ?_
        refine AtL.load tf_flat5 (.inr ⟨_, _, _, rfl, rfl, rfl, rfl⟩) rfl rfl (Cell.own 0 0 rfl rfl rfl) ?_
        refine AtL.move (.inr ⟨_, _, _, rfl, rfl, rfl, rfl⟩) rfl rfl ?_
        refine AtL.lss (.inr ⟨_, _, _, rfl, rfl, rfl, rfl⟩) rfl rfl rfl ?_
        refine AtL.pickF (.inl rfl) rfl rfl rfl ?_
        exact J _ (by exact ⟨(boolIs (by clear J; first | (simp [hs55]; done) | (simp_all; done) | grind)), rfl, rfl, rfl, rfl, trivial⟩)
    · skip
      refine AtL.done ?_
      refine At.cond rfl ?_ ?_
      · intro hc4
        have hc4 : (((l.getD 1 0).toNat : Int) < 128) ∨ (191 < ((l.getD 1 0).toNat : Int)) := of_decide_eq_true hc4
        refine At.seq ?_
        refine At.region ?_
        refine AtL.assign (.inl rfl) rfl rfl ?_
        refine AtL.assign (.inl rfl) rfl rfl ?_
        refine AtL.done ?_
        refine At.pick (H' := H) [] 1 rfl rfl ?_
        exact At.ret Tryz.func225 rfl rfl (⟨_, 1, rfl, ⟨by omega, by omega, fun i h1 h2 => by omega, .inl rfl⟩, rfl⟩)
      · intro hc4
        have hc4 : ¬ ((((l.getD 1 0).toNat : Int) < 128) ∨ (191 < ((l.getD 1 0).toNat : Int))) := of_decide_eq_false hc4
        refine At.skip ?_
        refine At.seq ?_
        refine At.seq ?_
        refine At.region ?_
        refine AtL.move (.inl rfl) rfl rfl ?_
        refine AtL.leq (.inl rfl) rfl rfl rfl ?_
        refine AtL.done ?_
        refine At.condT rfl ?_
        refine At.seq ?_
        refine At.region ?_
        refine AtL.move (.inl rfl) rfl rfl ?_
        refine AtL.band (z := ((l.getD 0 0).toNat : Int) % 32) (.inl rfl) rfl rfl rfl (and8 5 (by decide) (by omega) (by omega)) ?_
        refine AtL.convInt (z := ((l.getD 0 0).toNat : Int) % 32) Tryz.underlying5 Tryz.underlying21 (.inl rfl) rfl rfl (w32i (by omega) (by omega)) ?_
        refine AtL.shl (z := (((l.getD 0 0).toNat : Int) % 32) * 64) (.inl rfl) rfl rfl rfl (by omega) (shl_eq32 _ _ 6 rfl (by decide) _ (by decide) (by omega) (by omega)) ?_
        refine AtL.move (.inl rfl) rfl rfl ?_
        refine AtL.band (z := ((l.getD 1 0).toNat : Int) % 64) (.inl rfl) rfl rfl rfl (and8 6 (by decide) (by omega) (by omega)) ?_
        refine AtL.convInt (z := ((l.getD 1 0).toNat : Int) % 64) Tryz.underlying5 Tryz.underlying21 (.inl rfl) rfl rfl (w32i (by omega) (by omega)) ?_
        obtain ⟨z2, hz2, hz2a, hz2b, hz2c⟩ := or32 (a := (((l.getD 0 0).toNat : Int) % 32) * 64) (b := ((l.getD 1 0).toNat : Int) % 64) 31 (by decide) (by omega) (by omega) (by omega) (by omega)
        refine AtL.bor (z := z2) (.inl rfl) rfl rfl rfl hz2 ?_
        refine AtL.assign (.inl rfl) rfl rfl ?_
        refine AtL.assign (.inl rfl) rfl rfl ?_
        refine AtL.done ?_
        refine At.pick (H' := H) [] 1 rfl rfl ?_
        exact At.ret Tryz.func225 rfl rfl (⟨_, 2, rfl, ⟨by omega, by omega, fun i h1 h2 => (by obtain rfl : i = 1 := (by omega); omega), .inr (.inl rfl)⟩, rfl⟩)
set_option maxHeartbeats 400000 in
theorem slow_19 {w0 : World} {base : Nat} {H : List Seg} {A : Option Addr} {C : Nat} {l : List UInt8} (h : Rd tyB w0 base H A C l) (T : Tabs w0 base) (hl : l ≠ []) (hx : (Lib.firstT (l.getD 0 0).toNat : Int) = 19) (hp : (l.getD 0 0).toNat = 224) :
    SCalls Tryz.prog 225 [.slice A l.length C] w0 base (H) (fun v H' => ∃ (r : Int) (n : Nat), v = .tuple #[.int .i32 r, int (n : Int)] ∧ decOk l r n ∧ H' = H) := by
  have hpos := List.length_pos_iff.2 hl
  have hcap := h.cap
  have hle := h.le
  have hb0 := u8_le (l.getD 0 0)
  have hb1 := u8_le (l.getD 1 0)
  have hb2 := u8_le (l.getD 2 0)
  have hb3 := u8_le (l.getD 3 0)
  refine SCalls.of_walk (n := 122) Tryz.func225 rfl rfl rfl fun cs => ?_
  refine At.seq ?_
  refine At.region ?_
  refine AtL.assign (.inl rfl) rfl rfl ?_
  refine AtL.assign (.inl rfl) rfl rfl ?_
  refine AtL.done ?_
  refine At.seq ?_
  refine At.region ?_
  refine AtL.move (.inl rfl) rfl rfl ?_
  refine AtL.lenL Tryz.underlying22 (.inl rfl) rfl rfl ?_
  refine AtL.assign (.inl rfl) rfl rfl ?_
  refine AtL.done ?_
  refine At.seq ?_
  refine At.seq ?_
  refine At.region ?_
  refine AtL.move (.inl rfl) rfl rfl ?_
  refine AtL.lss (.inl rfl) rfl rfl rfl ?_
  refine AtL.done ?_
  refine At.condIs false rfl (decide_eq_false (by omega)) ?_
  refine At.skip ?_
  refine At.seq ?_
  refine At.region ?_
  refine AtL.move (.inl rfl) rfl rfl ?_
  refine AtL.indexL 0 h Tryz.underlying22 tf_sz5 (.inl rfl) rfl rfl rfl rfl (by omega) ?_
  refine AtL.load (v := .int .u8 ((l.getD 0 0).toNat : Int)) tf_flat5 (.inl rfl) rfl rfl (Rd.cell0 h (getD_some 0 (by omega)) rfl) ?_
  refine AtL.assign (.inl rfl) rfl rfl ?_
  refine AtL.done ?_
  refine At.seq ?_
  refine At.region ?_
  refine AtL.move (.inl rfl) rfl rfl ?_
  refine AtL.indexArr (a := ⟨4, 0, none⟩) ((l.getD 0 0).toNat) Tryz.underlying166 tf_sz5 (.inl rfl) rfl rfl rfl rfl (by omega) ?_
  refine AtL.load (v := .int .u8 19) tf_flat5 (.inl rfl) rfl rfl (T.one (l.getD 0 0) hx) ?_
  refine AtL.assign (.inl rfl) rfl rfl ?_
  refine AtL.done ?_
  refine At.seq ?_
  refine At.seq ?_
  refine At.region ?_
  refine AtL.move (.inl rfl) rfl rfl ?_
  refine AtL.geq (.inl rfl) rfl rfl rfl ?_
  refine AtL.done ?_
  refine At.condF rfl ?_
  refine At.skip ?_
  refine At.seq ?_
  refine At.region ?_
  refine AtL.move (.inl rfl) rfl rfl ?_
  refine AtL.band (z := 3) (.inl rfl) rfl rfl rfl (by decide) ?_
  refine AtL.convInt (z := 3) Tryz.underlying5 Tryz.underlying3 (.inl rfl) rfl rfl (by decide) ?_
  refine AtL.assign (.inl rfl) rfl rfl ?_
  refine AtL.done ?_
  refine At.seq ?_
  refine At.region ?_
  refine AtL.move (.inl rfl) rfl rfl ?_
  refine AtL.shr (z := 1) (.inl rfl) rfl rfl rfl (by decide) (by decide) ?_
  refine AtL.indexArr (a := ⟨5, 0, none⟩) 1 Tryz.underlying253 tf_sz252 (.inl rfl) rfl rfl rfl rfl (by omega) ?_
  refine AtL.loadN (cs := [.int .u8 160, .int .u8 191]) tf_agg252 (.inl rfl) rfl rfl rfl (T.two 1 (by decide) (by decide) (by decide)) ?_
  refine AtL.alloc tf_zero252 (cs := #[.int .u8 0, .int .u8 0]) rfl (.inl rfl) rfl ?_
  intro b1
  refine AtL.store (H' := [(b1, .cells #[.int .u8 160, .int .u8 191] 252 (0, 0))] :: H) 0 0 tf_sz252 (.inl rfl) rfl rfl rfl rfl rfl rfl rfl rfl rfl ?_
  refine AtL.done ?_
  refine At.seq ?_
  refine At.seq ?_
  refine At.region ?_
  refine AtL.move (.inl rfl) rfl rfl ?_
  refine AtL.move (.inl rfl) rfl rfl ?_
  refine AtL.lss (.inl rfl) rfl rfl rfl ?_
  refine AtL.done ?_
  refine At.cond rfl ?_ ?_
  · intro hc3
    have hc3 : (l.length : Int) < 3 := of_decide_eq_true hc3
    refine At.seq ?_
    refine At.region ?_
    refine AtL.assign (.inl rfl) rfl rfl ?_
    refine AtL.assign (.inl rfl) rfl rfl ?_
    refine AtL.done ?_
    refine At.pick (H' := H) [] 1 rfl rfl ?_
    exact At.ret Tryz.func225 rfl rfl (⟨_, 1, rfl, ⟨by omega, by omega, fun i h1 h2 => by omega, .inl rfl⟩, rfl⟩)
  · intro hc3
    have hc3 : ¬ ((l.length : Int) < 3) := of_decide_eq_false hc3
    refine At.skip ?_
    refine At.seq ?_
    refine At.region ?_
    refine AtL.move (.inl rfl) rfl rfl ?_
    refine AtL.indexL 1 (Rd.skip 1 h) Tryz.underlying22 tf_sz5 (.inl rfl) rfl rfl rfl rfl (by omega) ?_
    refine AtL.load (v := .int .u8 ((l.getD 1 0).toNat : Int)) tf_flat5 (.inl rfl) rfl rfl (Rd.cell0 (Rd.skip 1 h) (getD_some 0 (by omega)) rfl) ?_
    refine AtL.assign (.inl rfl) rfl rfl ?_
    refine AtL.done ?_
    refine At.seq ?_
    refine At.seq ?_
    refine At.region ?_
    refine AtL.move (.inl rfl) rfl rfl ?_
    refine AtL.fieldAddrB tf_fo252_0 (.inl rfl) rfl rfl rfl ?_
    refine AtL.load tf_flat5 (.inl rfl) rfl rfl (Cell.own 0 0 rfl rfl rfl) ?_
    refine AtL.lss (.inl rfl) rfl rfl rfl ?_
    refine AtL.move (.inl rfl) rfl rfl ?_
    refine AtL.join 5 (E' := [(60, .bool (decide ((((l.getD 1 0).toNat : Int) < 160) ∨ (191 < ((l.getD 1 0).toNat : Int))))), (0, .slice A l.length C), (5, .int .u8 ((l.getD 0 0).toNat : Int)), (8, .int .i64 3), (10, .int .u8 ((l.getD 1 0).toNat : Int))]) (H' := [(b1, .cells #[.int .u8 160, .int .u8 191] 252 (0, 0))] :: H) (fun J => ?_) ?_
    · refine AtL.split (t := 55) rfl ?_ ?_
      · intro hs55
        have hs55 : ((l.getD 1 0).toNat : Int) < 160 := of_decide_eq_true hs55
        refine AtL.skipped rfl rfl rfl rfl rfl rfl ?_
        refine AtL.skipped rfl rfl rfl rfl rfl rfl ?_
        refine AtL.skipped rfl rfl rfl rfl rfl rfl ?_
        refine AtL.skipped rfl rfl rfl rfl rfl rfl ?_
        refine AtL.pickT (.inl rfl) rfl rfl rfl ?_
        exact J _ (by exact ⟨(boolIs (by clear J; first | (simp [hs55]; done) | (simp_all; done) | grind)), rfl, rfl, rfl, rfl, trivial⟩)
      · intro hs55
        have hs55 : ¬ (((l.getD 1 0).toNat : Int) < 160) := of_decide_eq_false hs55
        refine AtL.fieldAddrB tf_fo252_1 (.inr ⟨_, _, _, rfl, rfl, rfl, rfl⟩) rfl rfl rfl ?_
        refine AtL.load tf_flat5 (.inr ⟨_, _, _, rfl, rfl, rfl, rfl⟩) rfl rfl (Cell.own 0 0 rfl rfl rfl) ?_
        refine AtL.move (.inr ⟨_, _, _, rfl, rfl, rfl, rfl⟩) rfl rfl ?_
        refine AtL.lss (.inr ⟨_, _, _, rfl, rfl, rfl, rfl⟩) rfl rfl rfl ?_
        refine AtL.pickF (.inl rfl) rfl rfl rfl ?_
        exact J _ (by exact ⟨(boolIs (by clear J; first | (simp [hs55]; done) | (simp_all; done) | grind)), rfl, rfl, rfl, rfl, trivial⟩)
    · skip
      refine AtL.done ?_
      refine At.cond rfl ?_ ?_
      · intro hc4
        have hc4 : (((l.getD 1 0).toNat : Int) < 160) ∨ (191 < ((l.getD 1 0).toNat : Int)) := of_decide_eq_true hc4
        refine At.seq ?_
        refine At.region ?_
        refine AtL.assign (.inl rfl) rfl rfl ?_
        refine AtL.assign (.inl rfl) rfl rfl ?_
        refine AtL.done ?_
        refine At.pick (H' := H) [] 1 rfl rfl ?_
        exact At.ret Tryz.func225 rfl rfl (⟨_, 1, rfl, ⟨by omega, by omega, fun i h1 h2 => by omega, .inl rfl⟩, rfl⟩)
      · intro hc4
        have hc4 : ¬ ((((l.getD 1 0).toNat : Int) < 160) ∨ (191 < ((l.getD 1 0).toNat : Int))) := of_decide_eq_false hc4
        refine At.skip ?_
        refine At.seq ?_
        refine At.seq ?_
        refine At.region ?_
        refine AtL.move (.inl rfl) rfl rfl ?_
        refine AtL.leq (.inl rfl) rfl rfl rfl ?_
        refine AtL.done ?_
        refine At.condF rfl ?_
        refine At.skip ?_
        refine At.seq ?_
        refine At.region ?_
        refine AtL.move (.inl rfl) rfl rfl ?_
        refine AtL.indexL 2 (Rd.skip 1 h) Tryz.underlying22 tf_sz5 (.inl rfl) rfl rfl rfl rfl (by omega) ?_
        refine AtL.load (v := .int .u8 ((l.getD 2 0).toNat : Int)) tf_flat5 (.inl rfl) rfl rfl (Rd.cell0 (Rd.skip 1 h) (getD_some 0 (by omega)) rfl) ?_
        refine AtL.assign (.inl rfl) rfl rfl ?_
        refine AtL.done ?_
        refine At.seq ?_
        refine At.seq ?_
        refine At.region ?_
        refine AtL.move (.inl rfl) rfl rfl ?_
        refine AtL.lss (.inl rfl) rfl rfl rfl ?_
        refine AtL.move (.inl rfl) rfl rfl ?_
        refine AtL.join 3 (E' := [(79, .bool (decide ((((l.getD 2 0).toNat : Int) < 128) ∨ (191 < ((l.getD 2 0).toNat : Int))))), (0, .slice A l.length C), (5, .int .u8 ((l.getD 0 0).toNat : Int)), (8, .int .i64 3), (10, .int .u8 ((l.getD 1 0).toNat : Int)), (11, .int .u8 ((l.getD 2 0).toNat : Int))]) (H' := [(b1, .cells #[.int .u8 160, .int .u8 191] 252 (0, 0))] :: H) (fun J => ?_) ?_
        · refine AtL.split (t := 76) rfl ?_ ?_
          · intro hs76
            have hs76 : ((l.getD 2 0).toNat : Int) < 128 := of_decide_eq_true hs76
            refine AtL.skipped rfl rfl rfl rfl rfl rfl ?_
            refine AtL.skipped rfl rfl rfl rfl rfl rfl ?_
            refine AtL.pickT (.inl rfl) rfl rfl rfl ?_
            exact J _ (by exact ⟨(boolIs (by clear J; first | (simp [hs76]; done) | (simp_all; done) | grind)), rfl, rfl, rfl, rfl, rfl, trivial⟩)
          · intro hs76
            have hs76 : ¬ (((l.getD 2 0).toNat : Int) < 128) := of_decide_eq_false hs76
            refine AtL.move (.inr ⟨_, _, _, rfl, rfl, rfl, rfl⟩) rfl rfl ?_
            refine AtL.lss (.inr ⟨_, _, _, rfl, rfl, rfl, rfl⟩) rfl rfl rfl ?_
            refine AtL.pickF (.inl rfl) rfl rfl rfl ?_
            exact J _ (by exact ⟨(boolIs (by clear J; first | (simp [hs76]; done) | (simp_all; done) | grind)), rfl, rfl, rfl, rfl, rfl, trivial⟩)
        · skip
          refine AtL.done ?_
          refine At.cond rfl ?_ ?_
          · intro hc6
            have hc6 : (((l.getD 2 0).toNat : Int) < 128) ∨ (191 < ((l.getD 2 0).toNat : Int)) := of_decide_eq_true hc6
            refine At.seq ?_
            refine At.region ?_
            refine AtL.assign (.inl rfl) rfl rfl ?_
            refine AtL.assign (.inl rfl) rfl rfl ?_
            refine AtL.done ?_
            refine At.pick (H' := H) [] 1 rfl rfl ?_
            exact At.ret Tryz.func225 rfl rfl (⟨_, 1, rfl, ⟨by omega, by omega, fun i h1 h2 => by omega, .inl rfl⟩, rfl⟩)
          · intro hc6
            have hc6 : ¬ ((((l.getD 2 0).toNat : Int) < 128) ∨ (191 < ((l.getD 2 0).toNat : Int))) := of_decide_eq_false hc6
            refine At.skip ?_
            refine At.seq ?_
            refine At.seq ?_
            refine At.region ?_
            refine AtL.move (.inl rfl) rfl rfl ?_
            refine AtL.leq (.inl rfl) rfl rfl rfl ?_
            refine AtL.done ?_
            refine At.condT rfl ?_
            refine At.seq ?_
            refine At.region ?_
            refine AtL.move (.inl rfl) rfl rfl ?_
            refine AtL.band (z := ((l.getD 0 0).toNat : Int) % 16) (.inl rfl) rfl rfl rfl (and8 4 (by decide) (by omega) (by omega)) ?_
            refine AtL.convInt (z := ((l.getD 0 0).toNat : Int) % 16) Tryz.underlying5 Tryz.underlying21 (.inl rfl) rfl rfl (w32i (by omega) (by omega)) ?_
            refine AtL.shl (z := (((l.getD 0 0).toNat : Int) % 16) * 4096) (.inl rfl) rfl rfl rfl (by omega) (shl_eq32 _ _ 12 rfl (by decide) _ (by decide) (by omega) (by omega)) ?_
            refine AtL.move (.inl rfl) rfl rfl ?_
            refine AtL.band (z := ((l.getD 1 0).toNat : Int) % 64) (.inl rfl) rfl rfl rfl (and8 6 (by decide) (by omega) (by omega)) ?_
            refine AtL.convInt (z := ((l.getD 1 0).toNat : Int) % 64) Tryz.underlying5 Tryz.underlying21 (.inl rfl) rfl rfl (w32i (by omega) (by omega)) ?_
            refine AtL.shl (z := (((l.getD 1 0).toNat : Int) % 64) * 64) (.inl rfl) rfl rfl rfl (by omega) (shl_eq32 _ _ 6 rfl (by decide) _ (by decide) (by omega) (by omega)) ?_
            obtain ⟨z2, hz2, hz2a, hz2b, hz2c⟩ := or32 (a := (((l.getD 0 0).toNat : Int) % 16) * 4096) (b := (((l.getD 1 0).toNat : Int) % 64) * 64) 16 (by decide) (by omega) (by omega) (by omega) (by omega)
            refine AtL.bor (z := z2) (.inl rfl) rfl rfl rfl hz2 ?_
            refine AtL.move (.inl rfl) rfl rfl ?_
            refine AtL.band (z := ((l.getD 2 0).toNat : Int) % 64) (.inl rfl) rfl rfl rfl (and8 6 (by decide) (by omega) (by omega)) ?_
            refine AtL.convInt (z := ((l.getD 2 0).toNat : Int) % 64) Tryz.underlying5 Tryz.underlying21 (.inl rfl) rfl rfl (w32i (by omega) (by omega)) ?_
            obtain ⟨z3, hz3, hz3a, hz3b, hz3c⟩ := or32 (a := z2) (b := ((l.getD 2 0).toNat : Int) % 64) 16 (by decide) (by omega) (by omega) (by omega) (by omega)
            refine AtL.bor (z := z3) (.inl rfl) rfl rfl rfl hz3 ?_
            refine AtL.assign (.inl rfl) rfl rfl ?_
            refine AtL.assign (.inl rfl) rfl rfl ?_
            refine AtL.done ?_
            refine At.pick (H' := H) [] 1 rfl rfl ?_
            exact At.ret Tryz.func225 rfl rfl (⟨_, 3, rfl, ⟨by omega, by omega, fun i h1 h2 => (by rcases (show i = 1 ∨ i = 2 by omega) with rfl | rfl <;> omega), .inr (.inr (.inl ⟨rfl, by omega, by omega⟩))⟩, rfl⟩)
set_option maxHeartbeats 400000 in
theorem slow_3 {w0 : World} {base : Nat} {H : List Seg} {A : Option Addr} {C : Nat} {l : List UInt8} (h : Rd tyB w0 base H A C l) (T : Tabs w0 base) (hl : l ≠ []) (hx : (Lib.firstT (l.getD 0 0).toNat : Int) = 3) (hp : (225 ≤ (l.getD 0 0).toNat ∧ (l.getD 0 0).toNat < 240)) :
    SCalls Tryz.prog 225 [.slice A l.length C] w0 base (H) (fun v H' => ∃ (r : Int) (n : Nat), v = .tuple #[.int .i32 r, int (n : Int)] ∧ decOk l r n ∧ H' = H) := by
  have hpos := List.length_pos_iff.2 hl
  have hcap := h.cap
  have hle := h.le
  have hb0 := u8_le (l.getD 0 0)
  have hb1 := u8_le (l.getD 1 0)
  have hb2 := u8_le (l.getD 2 0)
  have hb3 := u8_le (l.getD 3 0)
  refine SCalls.of_walk (n := 122) Tryz.func225 rfl rfl rfl fun cs => ?_
  refine At.seq ?_
  refine At.region ?_
  refine AtL.assign (.inl rfl) rfl rfl ?_
  refine AtL.assign (.inl rfl) rfl rfl ?_
  refine AtL.done ?_
  refine At.seq ?_
  refine At.region ?_
  refine AtL.move (.inl rfl) rfl rfl ?_
  refine AtL.lenL Tryz.underlying22 (.inl rfl) rfl rfl ?_
  refine AtL.assign (.inl rfl) rfl rfl ?_
  refine AtL.done ?_
  refine At.seq ?_
  refine At.seq ?_
  refine At.region ?_
  refine AtL.move (.inl rfl) rfl rfl ?_
  refine AtL.lss (.inl rfl) rfl rfl rfl ?_
  refine AtL.done ?_
  refine At.condIs false rfl (decide_eq_false (by omega)) ?_
  refine At.skip ?_
  refine At.seq ?_
  refine At.region ?_
  refine AtL.move (.inl rfl) rfl rfl ?_
  refine AtL.indexL 0 h Tryz.underlying22 tf_sz5 (.inl rfl) rfl rfl rfl rfl (by omega) ?_
  refine AtL.load (v := .int .u8 ((l.getD 0 0).toNat : Int)) tf_flat5 (.inl rfl) rfl rfl (Rd.cell0 h (getD_some 0 (by omega)) rfl) ?_
  refine AtL.assign (.inl rfl) rfl rfl ?_
  refine AtL.done ?_
  refine At.seq ?_
  refine At.region ?_
  refine AtL.move (.inl rfl) rfl rfl ?_
  refine AtL.indexArr (a := ⟨4, 0, none⟩) ((l.getD 0 0).toNat) Tryz.underlying166 tf_sz5 (.inl rfl) rfl rfl rfl rfl (by omega) ?_
  refine AtL.load (v := .int .u8 3) tf_flat5 (.inl rfl) rfl rfl (T.one (l.getD 0 0) hx) ?_
  refine AtL.assign (.inl rfl) rfl rfl ?_
  refine AtL.done ?_
  refine At.seq ?_
  refine At.seq ?_
  refine At.region ?_
  refine AtL.move (.inl rfl) rfl rfl ?_
  refine AtL.geq (.inl rfl) rfl rfl rfl ?_
  refine AtL.done ?_
  refine At.condF rfl ?_
  refine At.skip ?_
  refine At.seq ?_
  refine At.region ?_
  refine AtL.move (.inl rfl) rfl rfl ?_
  refine AtL.band (z := 3) (.inl rfl) rfl rfl rfl (by decide) ?_
  refine AtL.convInt (z := 3) Tryz.underlying5 Tryz.underlying3 (.inl rfl) rfl rfl (by decide) ?_
  refine AtL.assign (.inl rfl) rfl rfl ?_
  refine AtL.done ?_
  refine At.seq ?_
  refine At.region ?_
  refine AtL.move (.inl rfl) rfl rfl ?_
  refine AtL.shr (z := 0) (.inl rfl) rfl rfl rfl (by decide) (by decide) ?_
  refine AtL.indexArr (a := ⟨5, 0, none⟩) 0 Tryz.underlying253 tf_sz252 (.inl rfl) rfl rfl rfl rfl (by omega) ?_
  refine AtL.loadN (cs := [.int .u8 128, .int .u8 191]) tf_agg252 (.inl rfl) rfl rfl rfl (T.two 0 (by decide) (by decide) (by decide)) ?_
  refine AtL.alloc tf_zero252 (cs := #[.int .u8 0, .int .u8 0]) rfl (.inl rfl) rfl ?_
  intro b1
  refine AtL.store (H' := [(b1, .cells #[.int .u8 128, .int .u8 191] 252 (0, 0))] :: H) 0 0 tf_sz252 (.inl rfl) rfl rfl rfl rfl rfl rfl rfl rfl rfl ?_
  refine AtL.done ?_
  refine At.seq ?_
  refine At.seq ?_
  refine At.region ?_
  refine AtL.move (.inl rfl) rfl rfl ?_
  refine AtL.move (.inl rfl) rfl rfl ?_
  refine AtL.lss (.inl rfl) rfl rfl rfl ?_
  refine AtL.done ?_
  refine At.cond rfl ?_ ?_
  · intro hc3
    have hc3 : (l.length : Int) < 3 := of_decide_eq_true hc3
    refine At.seq ?_
    refine At.region ?_
    refine AtL.assign (.inl rfl) rfl rfl ?_
    refine AtL.assign (.inl rfl) rfl rfl ?_
    refine AtL.done ?_
    refine At.pick (H' := H) [] 1 rfl rfl ?_
    exact At.ret Tryz.func225 rfl rfl (⟨_, 1, rfl, ⟨by omega, by omega, fun i h1 h2 => by omega, .inl rfl⟩, rfl⟩)
  · intro hc3
    have hc3 : ¬ ((l.length : Int) < 3) := of_decide_eq_false hc3
    refine At.skip ?_
    refine At.seq ?_
    refine At.region ?_
    refine AtL.move (.inl rfl) rfl rfl ?_
    refine AtL.indexL 1 (Rd.skip 1 h) Tryz.underlying22 tf_sz5 (.inl rfl) rfl rfl rfl rfl (by omega) ?_
    refine AtL.load (v := .int .u8 ((l.getD 1 0).toNat : Int)) tf_flat5 (.inl rfl) rfl rfl (Rd.cell0 (Rd.skip 1 h) (getD_some 0 (by omega)) rfl) ?_
    refine AtL.assign (.inl rfl) rfl rfl ?_
    refine AtL.done ?_
    refine At.seq ?_
    refine At.seq ?_
    refine At.region ?_
    refine AtL.move (.inl rfl) rfl rfl ?_
    refine AtL.fieldAddrB tf_fo252_0 (.inl rfl) rfl rfl rfl ?_
    refine AtL.load tf_flat5 (.inl rfl) rfl rfl (Cell.own 0 0 rfl rfl rfl) ?_
    refine AtL.lss (.inl rfl) rfl rfl rfl ?_
    refine AtL.move (.inl rfl) rfl rfl ?_
    refine AtL.join 5 (E' := [(60, .bool (decide ((((l.getD 1 0).toNat : Int) < 128) ∨ (191 < ((l.getD 1 0).toNat : Int))))), (0, .slice A l.length C), (5, .int .u8 ((l.getD 0 0).toNat : Int)), (8, .int .i64 3), (10, .int .u8 ((l.getD 1 0).toNat : Int))]) (H' := [(b1, .cells #[.int .u8 128, .int .u8 191] 252 (0, 0))] :: H) (fun J => ?_) ?_
    · refine AtL.split (t := 55) rfl ?_ ?_
      · intro hs55
        have hs55 : ((l.getD 1 0).toNat : Int) < 128 := of_decide_eq_true hs55
        refine AtL.skipped rfl rfl rfl rfl rfl rfl ?_
        refine AtL.skipped rfl rfl rfl rfl rfl rfl ?_
        refine AtL.skipped rfl rfl rfl rfl rfl rfl ?_
        refine AtL.skipped rfl rfl rfl rfl rfl rfl ?_
        refine AtL.pickT (.inl rfl) rfl rfl rfl ?_
        exact J _ (by exact ⟨(boolIs (by clear J; first | (simp [hs55]; done) | (simp_all; done) | grind)), rfl, rfl, rfl, rfl, trivial⟩)
      · intro hs55
        have hs55 : ¬ (((l.getD 1 0).toNat : Int) < 128) := of_decide_eq_false hs55
        refine AtL.fieldAddrB tf_fo252_1 (.inr ⟨_, _, _, rfl, rfl, rfl, rfl⟩) rfl rfl rfl ?_
        refine AtL.load tf_flat5 (.inr ⟨_, _, _, rfl, rfl, rfl, rfl⟩) rfl rfl (Cell.own 0 0 rfl rfl rfl) ?_
        refine AtL.move (.inr ⟨_, _, _, rfl, rfl, rfl, rfl⟩) rfl rfl ?_
        refine AtL.lss (.inr ⟨_, _, _, rfl, rfl, rfl, rfl⟩) rfl rfl rfl ?_
        refine AtL.pickF (.inl rfl) rfl rfl rfl ?_
        exact J _ (by exact ⟨(boolIs (by clear J; first | (simp [hs55]; done) | (simp_all; done) | grind)), rfl, rfl, rfl, rfl, trivial⟩)
    · skip
      refine AtL.done ?_
      refine At.cond rfl ?_ ?_
      · intro hc4
        have hc4 : (((l.getD 1 0).toNat : Int) < 128) ∨ (191 < ((l.getD 1 0).toNat : Int)) := of_decide_eq_true hc4
        refine At.seq ?_
        refine At.region ?_
        refine AtL.assign (.inl rfl) rfl rfl ?_
        refine AtL.assign (.inl rfl) rfl rfl ?_
        refine AtL.done ?_
        refine At.pick (H' := H) [] 1 rfl rfl ?_
        exact At.ret Tryz.func225 rfl rfl (⟨_, 1, rfl, ⟨by omega, by omega, fun i h1 h2 => by omega, .inl rfl⟩, rfl⟩)
      · intro hc4
        have hc4 : ¬ ((((l.getD 1 0).toNat : Int) < 128) ∨ (191 < ((l.getD 1 0).toNat : Int))) := of_decide_eq_false hc4
        refine At.skip ?_
        refine At.seq ?_
        refine At.seq ?_
        refine At.region ?_
        refine AtL.move (.inl rfl) rfl rfl ?_
        refine AtL.leq (.inl rfl) rfl rfl rfl ?_
        refine AtL.done ?_
        refine At.condF rfl ?_
        refine At.skip ?_
        refine At.seq ?_
        refine At.region ?_
        refine AtL.move (.inl rfl) rfl rfl ?_
        refine AtL.indexL 2 (Rd.skip 1 h) Tryz.underlying22 tf_sz5 (.inl rfl) rfl rfl rfl rfl (by omega) ?_
        refine AtL.load (v := .int .u8 ((l.getD 2 0).toNat : Int)) tf_flat5 (.inl rfl) rfl rfl (Rd.cell0 (Rd.skip 1 h) (getD_some 0 (by omega)) rfl) ?_
        refine AtL.assign (.inl rfl) rfl rfl ?_
        refine AtL.done ?_
        refine At.seq ?_
        refine At.seq ?_
        refine At.region ?_
        refine AtL.move (.inl rfl) rfl rfl ?_
        refine AtL.lss (.inl rfl) rfl rfl rfl ?_
        refine AtL.move (.inl rfl) rfl rfl ?_
        refine AtL.join 3 (E' := [(79, .bool (decide ((((l.getD 2 0).toNat : Int) < 128) ∨ (191 < ((l.getD 2 0).toNat : Int))))), (0, .slice A l.length C), (5, .int .u8 ((l.getD 0 0).toNat : Int)), (8, .int .i64 3), (10, .int .u8 ((l.getD 1 0).toNat : Int)), (11, .int .u8 ((l.getD 2 0).toNat : Int))]) (H' := [(b1, .cells #[.int .u8 128, .int .u8 191] 252 (0, 0))] :: H) (fun J => ?_) ?_
        · refine AtL.split (t := 76) rfl ?_ ?_
          · intro hs76
            have hs76 : ((l.getD 2 0).toNat : Int) < 128 := of_decide_eq_true hs76
            refine AtL.skipped rfl rfl rfl rfl rfl rfl ?_
            refine AtL.skipped rfl rfl rfl rfl rfl rfl ?_
            refine AtL.pickT (.inl rfl) rfl rfl rfl ?_
            exact J _ (by exact ⟨(boolIs (by clear J; first | (simp [hs76]; done) | (simp_all; done) | grind)), rfl, rfl, rfl, rfl, rfl, trivial⟩)
          · intro hs76
            have hs76 : ¬ (((l.getD 2 0).toNat : Int) < 128) := of_decide_eq_false hs76
            refine AtL.move (.inr ⟨_, _, _, rfl, rfl, rfl, rfl⟩) rfl rfl ?_
            refine AtL.lss (.inr ⟨_, _, _, rfl, rfl, rfl, rfl⟩) rfl rfl rfl ?_
            refine AtL.pickF (.inl rfl) rfl rfl rfl ?_
            exact J _ (by exact ⟨(boolIs (by clear J; first | (simp [hs76]; done) | (simp_all; done) | grind)), rfl, rfl, rfl, rfl, rfl, trivial⟩)
        · skip
          refine AtL.done ?_
          refine At.cond rfl ?_ ?_
          · intro hc6
            have hc6 : (((l.getD 2 0).toNat : Int) < 128) ∨ (191 < ((l.getD 2 0).toNat : Int)) := of_decide_eq_true hc6
            refine At.seq ?_
            refine At.region ?_
            refine AtL.assign (.inl rfl) rfl rfl ?_
            refine AtL.assign (.inl rfl) rfl rfl ?_
            refine AtL.done ?_
            refine At.pick (H' := H) [] 1 rfl rfl ?_
            exact At.ret Tryz.func225 rfl rfl (⟨_, 1, rfl, ⟨by omega, by omega, fun i h1 h2 => by omega, .inl rfl⟩, rfl⟩)
          · intro hc6
            have hc6 : ¬ ((((l.getD 2 0).toNat : Int) < 128) ∨ (191 < ((l.getD 2 0).toNat : Int))) := of_decide_eq_false hc6
            refine At.skip ?_
            refine At.seq ?_
            refine At.seq ?_
            refine At.region ?_
            refine AtL.move (.inl rfl) rfl rfl ?_
            refine AtL.leq (.inl rfl) rfl rfl rfl ?_
            refine AtL.done ?_
            refine At.condT rfl ?_
            refine At.seq ?_
            refine At.region ?_
            refine AtL.move (.inl rfl) rfl rfl ?_
            refine AtL.band (z := ((l.getD 0 0).toNat : Int) % 16) (.inl rfl) rfl rfl rfl (and8 4 (by decide) (by omega) (by omega)) ?_
            refine AtL.convInt (z := ((l.getD 0 0).toNat : Int) % 16) Tryz.underlying5 Tryz.underlying21 (.inl rfl) rfl rfl (w32i (by omega) (by omega)) ?_
            refine AtL.shl (z := (((l.getD 0 0).toNat : Int) % 16) * 4096) (.inl rfl) rfl rfl rfl (by omega) (shl_eq32 _ _ 12 rfl (by decide) _ (by decide) (by omega) (by omega)) ?_
            refine AtL.move (.inl rfl) rfl rfl ?_
            refine AtL.band (z := ((l.getD 1 0).toNat : Int) % 64) (.inl rfl) rfl rfl rfl (and8 6 (by decide) (by omega) (by omega)) ?_
            refine AtL.convInt (z := ((l.getD 1 0).toNat : Int) % 64) Tryz.underlying5 Tryz.underlying21 (.inl rfl) rfl rfl (w32i (by omega) (by omega)) ?_
            refine AtL.shl (z := (((l.getD 1 0).toNat : Int) % 64) * 64) (.inl rfl) rfl rfl rfl (by omega) (shl_eq32 _ _ 6 rfl (by decide) _ (by decide) (by omega) (by omega)) ?_
            obtain ⟨z2, hz2, hz2a, hz2b, hz2c⟩ := or32 (a := (((l.getD 0 0).toNat : Int) % 16) * 4096) (b := (((l.getD 1 0).toNat : Int) % 64) * 64) 16 (by decide) (by omega) (by omega) (by omega) (by omega)
            refine AtL.bor (z := z2) (.inl rfl) rfl rfl rfl hz2 ?_
            refine AtL.move (.inl rfl) rfl rfl ?_
            refine AtL.band (z := ((l.getD 2 0).toNat : Int) % 64) (.inl rfl) rfl rfl rfl (and8 6 (by decide) (by omega) (by omega)) ?_
            refine AtL.convInt (z := ((l.getD 2 0).toNat : Int) % 64) Tryz.underlying5 Tryz.underlying21 (.inl rfl) rfl rfl (w32i (by omega) (by omega)) ?_
            obtain ⟨z3, hz3, hz3a, hz3b, hz3c⟩ := or32 (a := z2) (b := ((l.getD 2 0).toNat : Int) % 64) 16 (by decide) (by omega) (by omega) (by omega) (by omega)
            refine AtL.bor (z := z3) (.inl rfl) rfl rfl rfl hz3 ?_
            refine AtL.assign (.inl rfl) rfl rfl ?_
            refine AtL.assign (.inl rfl) rfl rfl ?_
            refine AtL.done ?_
            refine At.pick (H' := H) [] 1 rfl rfl ?_
            exact At.ret Tryz.func225 rfl rfl (⟨_, 3, rfl, ⟨by omega, by omega, fun i h1 h2 => (by rcases (show i = 1 ∨ i = 2 by omega) with rfl | rfl <;> omega), .inr (.inr (.inl ⟨rfl, by omega, by omega⟩))⟩, rfl⟩)
set_option maxHeartbeats 400000 in
theorem slow_35 {w0 : World} {base : Nat} {H : List Seg} {A : Option Addr} {C : Nat} {l : List UInt8} (h : Rd tyB w0 base H A C l) (T : Tabs w0 base) (hl : l ≠ []) (hx : (Lib.firstT (l.getD 0 0).toNat : Int) = 35) (hp : (l.getD 0 0).toNat = 237) :
    SCalls Tryz.prog 225 [.slice A l.length C] w0 base (H) (fun v H' => ∃ (r : Int) (n : Nat), v = .tuple #[.int .i32 r, int (n : Int)] ∧ decOk l r n ∧ H' = H) := by
  have hpos := List.length_pos_iff.2 hl
  have hcap := h.cap
  have hle := h.le
  have hb0 := u8_le (l.getD 0 0)
  have hb1 := u8_le (l.getD 1 0)
  have hb2 := u8_le (l.getD 2 0)
  have hb3 := u8_le (l.getD 3 0)
  refine SCalls.of_walk (n := 122) Tryz.func225 rfl rfl rfl fun cs => ?_
  refine At.seq ?_
  refine At.region ?_
  refine AtL.assign (.inl rfl) rfl rfl ?_
  refine AtL.assign (.inl rfl) rfl rfl ?_
  refine AtL.done ?_
  refine At.seq ?_
  refine At.region ?_
  refine AtL.move (.inl rfl) rfl rfl ?_
  refine AtL.lenL Tryz.underlying22 (.inl rfl) rfl rfl ?_
  refine AtL.assign (.inl rfl) rfl rfl ?_
  refine AtL.done ?_
  refine At.seq ?_
  refine At.seq ?_
  refine At.region ?_
  refine AtL.move (.inl rfl) rfl rfl ?_
  refine AtL.lss (.inl rfl) rfl rfl rfl ?_
  refine AtL.done ?_
  refine At.condIs false rfl (decide_eq_false (by omega)) ?_
  refine At.skip ?_
  refine At.seq ?_
  refine At.region ?_
  refine AtL.move (.inl rfl) rfl rfl ?_
  refine AtL.indexL 0 h Tryz.underlying22 tf_sz5 (.inl rfl) rfl rfl rfl rfl (by omega) ?_
  refine AtL.load (v := .int .u8 ((l.getD 0 0).toNat : Int)) tf_flat5 (.inl rfl) rfl rfl (Rd.cell0 h (getD_some 0 (by omega)) rfl) ?_
  refine AtL.assign (.inl rfl) rfl rfl ?_
  refine AtL.done ?_
  refine At.seq ?_
  refine At.region ?_
  refine AtL.move (.inl rfl) rfl rfl ?_
  refine AtL.indexArr (a := ⟨4, 0, none⟩) ((l.getD 0 0).toNat) Tryz.underlying166 tf_sz5 (.inl rfl) rfl rfl rfl rfl (by omega) ?_
  refine AtL.load (v := .int .u8 35) tf_flat5 (.inl rfl) rfl rfl (T.one (l.getD 0 0) hx) ?_
  refine AtL.assign (.inl rfl) rfl rfl ?_
  refine AtL.done ?_
  refine At.seq ?_
  refine At.seq ?_
  refine At.region ?_
  refine AtL.move (.inl rfl) rfl rfl ?_
  refine AtL.geq (.inl rfl) rfl rfl rfl ?_
  refine AtL.done ?_
  refine At.condF rfl ?_
  refine At.skip ?_
  refine At.seq ?_
  refine At.region ?_
  refine AtL.move (.inl rfl) rfl rfl ?_
  refine AtL.band (z := 3) (.inl rfl) rfl rfl rfl (by decide) ?_
  refine AtL.convInt (z := 3) Tryz.underlying5 Tryz.underlying3 (.inl rfl) rfl rfl (by decide) ?_
  refine AtL.assign (.inl rfl) rfl rfl ?_
  refine AtL.done ?_
  refine At.seq ?_
  refine At.region ?_
  refine AtL.move (.inl rfl) rfl rfl ?_
  refine AtL.shr (z := 2) (.inl rfl) rfl rfl rfl (by decide) (by decide) ?_
  refine AtL.indexArr (a := ⟨5, 0, none⟩) 2 Tryz.underlying253 tf_sz252 (.inl rfl) rfl rfl rfl rfl (by omega) ?_
  refine AtL.loadN (cs := [.int .u8 128, .int .u8 159]) tf_agg252 (.inl rfl) rfl rfl rfl (T.two 2 (by decide) (by decide) (by decide)) ?_
  refine AtL.alloc tf_zero252 (cs := #[.int .u8 0, .int .u8 0]) rfl (.inl rfl) rfl ?_
  intro b1
  refine AtL.store (H' := [(b1, .cells #[.int .u8 128, .int .u8 159] 252 (0, 0))] :: H) 0 0 tf_sz252 (.inl rfl) rfl rfl rfl rfl rfl rfl rfl rfl rfl ?_
  refine AtL.done ?_
  refine At.seq ?_
  refine At.seq ?_
  refine At.region ?_
  refine AtL.move (.inl rfl) rfl rfl ?_
  refine AtL.move (.inl rfl) rfl rfl ?_
  refine AtL.lss (.inl rfl) rfl rfl rfl ?_
  refine AtL.done ?_
  refine At.cond rfl ?_ ?_
  · intro hc3
    have hc3 : (l.length : Int) < 3 := of_decide_eq_true hc3
    refine At.seq ?_
    refine At.region ?_
    refine AtL.assign (.inl rfl) rfl rfl ?_
    refine AtL.assign (.inl rfl) rfl rfl ?_
    refine AtL.done ?_
    refine At.pick (H' := H) [] 1 rfl rfl ?_
    exact At.ret Tryz.func225 rfl rfl (⟨_, 1, rfl, ⟨by omega, by omega, fun i h1 h2 => by omega, .inl rfl⟩, rfl⟩)
  · intro hc3
    have hc3 : ¬ ((l.length : Int) < 3) := of_decide_eq_false hc3
    refine At.skip ?_
    refine At.seq ?_
    refine At.region ?_
    refine AtL.move (.inl rfl) rfl rfl ?_
    refine AtL.indexL 1 (Rd.skip 1 h) Tryz.underlying22 tf_sz5 (.inl rfl) rfl rfl rfl rfl (by omega) ?_
    refine AtL.load (v := .int .u8 ((l.getD 1 0).toNat : Int)) tf_flat5 (.inl rfl) rfl rfl (Rd.cell0 (Rd.skip 1 h) (getD_some 0 (by omega)) rfl) ?_
    refine AtL.assign (.inl rfl) rfl rfl ?_
    refine AtL.done ?_
    refine At.seq ?_
    refine At.seq ?_
    refine At.region ?_
    refine AtL.move (.inl rfl) rfl rfl ?_
    refine AtL.fieldAddrB tf_fo252_0 (.inl rfl) rfl rfl rfl ?_
    refine AtL.load tf_flat5 (.inl rfl) rfl rfl (Cell.own 0 0 rfl rfl rfl) ?_
    refine AtL.lss (.inl rfl) rfl rfl rfl ?_
    refine AtL.move (.inl rfl) rfl rfl ?_
    refine AtL.join 5 (E' := [(60, .bool (decide ((((l.getD 1 0).toNat : Int) < 128) ∨ (159 < ((l.getD 1 0).toNat : Int))))), (0, .slice A l.length C), (5, .int .u8 ((l.getD 0 0).toNat : Int)), (8, .int .i64 3), (10, .int .u8 ((l.getD 1 0).toNat : Int))]) (H' := [(b1, .cells #[.int .u8 128, .int .u8 159] 252 (0, 0))] :: H) (fun J => ?_) ?_
    · refine AtL.split (t := 55) rfl ?_ ?_
      · intro hs55
        have hs55 : ((l.getD 1 0).toNat : Int) < 128 := of_decide_eq_true hs55
        refine AtL.skipped rfl rfl rfl rfl rfl rfl ?_
        refine AtL.skipped rfl rfl rfl rfl rfl rfl ?_
        refine AtL.skipped rfl rfl rfl rfl rfl rfl ?_
        refine AtL.skipped rfl rfl rfl rfl rfl rfl ?_
        refine AtL.pickT (.inl rfl) rfl rfl rfl ?_
        exact J _ (by exact ⟨(boolIs (by clear J; first | (simp [hs55]; done) | (simp_all; done) | grind)), rfl, rfl, rfl, rfl, trivial⟩)
      · intro hs55
        have hs55 : ¬ (((l.getD 1 0).toNat : Int) < 128) := of_decide_eq_false hs55
        refine AtL.fieldAddrB tf_fo252_1 (.inr ⟨_, _, _, rfl, rfl, rfl, rfl⟩) rfl rfl rfl ?_
        refine AtL.load tf_flat5 (.inr ⟨_, _, _, rfl, rfl, rfl, rfl⟩) rfl rfl (Cell.own 0 0 rfl rfl rfl) ?_
        refine AtL.move (.inr ⟨_, _, _, rfl, rfl, rfl, rfl⟩) rfl rfl ?_
        refine AtL.lss (.inr ⟨_, _, _, rfl, rfl, rfl, rfl⟩) rfl rfl rfl ?_
        refine AtL.pickF (.inl rfl) rfl rfl rfl ?_
        exact J _ (by exact ⟨(boolIs (by clear J; first | (simp [hs55]; done) | (simp_all; done) | grind)), rfl, rfl, rfl, rfl, trivial⟩)
    · skip
      refine AtL.done ?_
      refine At.cond rfl ?_ ?_
      · intro hc4
        have hc4 : (((l.getD 1 0).toNat : Int) < 128) ∨ (159 < ((l.getD 1 0).toNat : Int)) := of_decide_eq_true hc4
        refine At.seq ?_
        refine At.region ?_
        refine AtL.assign (.inl rfl) rfl rfl ?_
        refine AtL.assign (.inl rfl) rfl rfl ?_
        refine AtL.done ?_
        refine At.pick (H' := H) [] 1 rfl rfl ?_
        exact At.ret Tryz.func225 rfl rfl (⟨_, 1, rfl, ⟨by omega, by omega, fun i h1 h2 => by omega, .inl rfl⟩, rfl⟩)
      · intro hc4
        have hc4 : ¬ ((((l.getD 1 0).toNat : Int) < 128) ∨ (159 < ((l.getD 1 0).toNat : Int))) := of_decide_eq_false hc4
        refine At.skip ?_
        refine At.seq ?_
        refine At.seq ?_
        refine At.region ?_
        refine AtL.move (.inl rfl) rfl rfl ?_
        refine AtL.leq (.inl rfl) rfl rfl rfl ?_
        refine AtL.done ?_
        refine At.condF rfl ?_
        refine At.skip ?_
        refine At.seq ?_
        refine At.region ?_
        refine AtL.move (.inl rfl) rfl rfl ?_
        refine AtL.indexL 2 (Rd.skip 1 h) Tryz.underlying22 tf_sz5 (.inl rfl) rfl rfl rfl rfl (by omega) ?_
        refine AtL.load (v := .int .u8 ((l.getD 2 0).toNat : Int)) tf_flat5 (.inl rfl) rfl rfl (Rd.cell0 (Rd.skip 1 h) (getD_some 0 (by omega)) rfl) ?_
        refine AtL.assign (.inl rfl) rfl rfl ?_
        refine AtL.done ?_
        refine At.seq ?_
        refine At.seq ?_
        refine At.region ?_
        refine AtL.move (.inl rfl) rfl rfl ?_
        refine AtL.lss (.inl rfl) rfl rfl rfl ?_
        refine AtL.move (.inl rfl) rfl rfl ?_
        refine AtL.join 3 (E' := [(79, .bool (decide ((((l.getD 2 0).toNat : Int) < 128) ∨ (191 < ((l.getD 2 0).toNat : Int))))), (0, .slice A l.length C), (5, .int .u8 ((l.getD 0 0).toNat : Int)), (8, .int .i64 3), (10, .int .u8 ((l.getD 1 0).toNat : Int)), (11, .int .u8 ((l.getD 2 0).toNat : Int))]) (H' := [(b1, .cells #[.int .u8 128, .int .u8 159] 252 (0, 0))] :: H) (fun J => ?_) ?_
        · refine AtL.split (t := 76) rfl ?_ ?_
          · intro hs76
            have hs76 : ((l.getD 2 0).toNat : Int) < 128 := of_decide_eq_true hs76
            refine AtL.skipped rfl rfl rfl rfl rfl rfl ?_
            refine AtL.skipped rfl rfl rfl rfl rfl rfl ?_
            refine AtL.pickT (.inl rfl) rfl rfl rfl ?_
            exact J _ (by exact ⟨(boolIs (by clear J; first | (simp [hs76]; done) | (simp_all; done) | grind)), rfl, rfl, rfl, rfl, rfl, trivial⟩)
          · intro hs76
            have hs76 : ¬ (((l.getD 2 0).toNat : Int) < 128) := of_decide_eq_false hs76
            refine AtL.move (.inr ⟨_, _, _, rfl, rfl, rfl, rfl⟩) rfl rfl ?_
            refine AtL.lss (.inr ⟨_, _, _, rfl, rfl, rfl, rfl⟩) rfl rfl rfl ?_
            refine AtL.pickF (.inl rfl) rfl rfl rfl ?_
            exact J _ (by exact ⟨(boolIs (by clear J; first | (simp [hs76]; done) | (simp_all; done) | grind)), rfl, rfl, rfl, rfl, rfl, trivial⟩)
        · skip
          refine AtL.done ?_
          refine At.cond rfl ?_ ?_
          · intro hc6
            have hc6 : (((l.getD 2 0).toNat : Int) < 128) ∨ (191 < ((l.getD 2 0).toNat : Int)) := of_decide_eq_true hc6
            refine At.seq ?_
            refine At.region ?_
            refine AtL.assign (.inl rfl) rfl rfl ?_
            refine AtL.assign (.inl rfl) rfl rfl ?_
            refine AtL.done ?_
            refine At.pick (H' := H) [] 1 rfl rfl ?_
            exact At.ret Tryz.func225 rfl rfl (⟨_, 1, rfl, ⟨by omega, by omega, fun i h1 h2 => by omega, .inl rfl⟩, rfl⟩)
          · intro hc6
            have hc6 : ¬ ((((l.getD 2 0).toNat : Int) < 128) ∨ (191 < ((l.getD 2 0).toNat : Int))) := of_decide_eq_false hc6
            refine At.skip ?_
            refine At.seq ?_
            refine At.seq ?_
            refine At.region ?_
            refine AtL.move (.inl rfl) rfl rfl ?_
            refine AtL.leq (.inl rfl) rfl rfl rfl ?_
            refine AtL.done ?_
            refine At.condT rfl ?_
            refine At.seq ?_
            refine At.region ?_
            refine AtL.move (.inl rfl) rfl rfl ?_
            refine AtL.band (z := ((l.getD 0 0).toNat : Int) % 16) (.inl rfl) rfl rfl rfl (and8 4 (by decide) (by omega) (by omega)) ?_
            refine AtL.convInt (z := ((l.getD 0 0).toNat : Int) % 16) Tryz.underlying5 Tryz.underlying21 (.inl rfl) rfl rfl (w32i (by omega) (by omega)) ?_
            refine AtL.shl (z := (((l.getD 0 0).toNat : Int) % 16) * 4096) (.inl rfl) rfl rfl rfl (by omega) (shl_eq32 _ _ 12 rfl (by decide) _ (by decide) (by omega) (by omega)) ?_
            refine AtL.move (.inl rfl) rfl rfl ?_
            refine AtL.band (z := ((l.getD 1 0).toNat : Int) % 64) (.inl rfl) rfl rfl rfl (and8 6 (by decide) (by omega) (by omega)) ?_
            refine AtL.convInt (z := ((l.getD 1 0).toNat : Int) % 64) Tryz.underlying5 Tryz.underlying21 (.inl rfl) rfl rfl (w32i (by omega) (by omega)) ?_
            refine AtL.shl (z := (((l.getD 1 0).toNat : Int) % 64) * 64) (.inl rfl) rfl rfl rfl (by omega) (shl_eq32 _ _ 6 rfl (by decide) _ (by decide) (by omega) (by omega)) ?_
            obtain ⟨z2, hz2, hz2a, hz2b, hz2c⟩ := or32 (a := (((l.getD 0 0).toNat : Int) % 16) * 4096) (b := (((l.getD 1 0).toNat : Int) % 64) * 64) 16 (by decide) (by omega) (by omega) (by omega) (by omega)
            refine AtL.bor (z := z2) (.inl rfl) rfl rfl rfl hz2 ?_
            refine AtL.move (.inl rfl) rfl rfl ?_
            refine AtL.band (z := ((l.getD 2 0).toNat : Int) % 64) (.inl rfl) rfl rfl rfl (and8 6 (by decide) (by omega) (by omega)) ?_
            refine AtL.convInt (z := ((l.getD 2 0).toNat : Int) % 64) Tryz.underlying5 Tryz.underlying21 (.inl rfl) rfl rfl (w32i (by omega) (by omega)) ?_
            obtain ⟨z3, hz3, hz3a, hz3b, hz3c⟩ := or32 (a := z2) (b := ((l.getD 2 0).toNat : Int) % 64) 16 (by decide) (by omega) (by omega) (by omega) (by omega)
            refine AtL.bor (z := z3) (.inl rfl) rfl rfl rfl hz3 ?_
            refine AtL.assign (.inl rfl) rfl rfl ?_
            refine AtL.assign (.inl rfl) rfl rfl ?_
            refine AtL.done ?_
            refine At.pick (H' := H) [] 1 rfl rfl ?_
            exact At.ret Tryz.func225 rfl rfl (⟨_, 3, rfl, ⟨by omega, by omega, fun i h1 h2 => (by rcases (show i = 1 ∨ i = 2 by omega) with rfl | rfl <;> omega), .inr (.inr (.inl ⟨rfl, by omega, by omega⟩))⟩, rfl⟩)
set_option maxHeartbeats 400000 in
theorem slow_52 {w0 : World} {base : Nat} {H : List Seg} {A : Option Addr} {C : Nat} {l : List UInt8} (h : Rd tyB w0 base H A C l) (T : Tabs w0 base) (hl : l ≠ []) (hx : (Lib.firstT (l.getD 0 0).toNat : Int) = 52) (hp : (l.getD 0 0).toNat = 240) :
    SCalls Tryz.prog 225 [.slice A l.length C] w0 base (H) (fun v H' => ∃ (r : Int) (n : Nat), v = .tuple #[.int .i32 r, int (n : Int)] ∧ decOk l r n ∧ H' = H) := by
  have hpos := List.length_pos_iff.2 hl
  have hcap := h.cap
  have hle := h.le
  have hb0 := u8_le (l.getD 0 0)
  have hb1 := u8_le (l.getD 1 0)
  have hb2 := u8_le (l.getD 2 0)
  have hb3 := u8_le (l.getD 3 0)
  refine SCalls.of_walk (n := 122) Tryz.func225 rfl rfl rfl fun cs => ?_
  refine At.seq ?_
  refine At.region ?_
  refine AtL.assign (.inl rfl) rfl rfl ?_
  refine AtL.assign (.inl rfl) rfl rfl ?_
  refine AtL.done ?_
  refine At.seq ?_
  refine At.region ?_
  refine AtL.move (.inl rfl) rfl rfl ?_
  refine AtL.lenL Tryz.underlying22 (.inl rfl) rfl rfl ?_
  refine AtL.assign (.inl rfl) rfl rfl ?_
  refine AtL.done ?_
  refine At.seq ?_
  refine At.seq ?_
  refine At.region ?_
  refine AtL.move (.inl rfl) rfl rfl ?_
  refine AtL.lss (.inl rfl) rfl rfl rfl ?_
  refine AtL.done ?_
  refine At.condIs false rfl (decide_eq_false (by omega)) ?_
  refine At.skip ?_
  refine At.seq ?_
  refine At.region ?_
  refine AtL.move (.inl rfl) rfl rfl ?_
  refine AtL.indexL 0 h Tryz.underlying22 tf_sz5 (.inl rfl) rfl rfl rfl rfl (by omega) ?_
  refine AtL.load (v := .int .u8 ((l.getD 0 0).toNat : Int)) tf_flat5 (.inl rfl) rfl rfl (Rd.cell0 h (getD_some 0 (by omega)) rfl) ?_
  refine AtL.assign (.inl rfl) rfl rfl ?_
  refine AtL.done ?_
  refine At.seq ?_
  refine At.region ?_
  refine AtL.move (.inl rfl) rfl rfl ?_
  refine AtL.indexArr (a := ⟨4, 0, none⟩) ((l.getD 0 0).toNat) Tryz.underlying166 tf_sz5 (.inl rfl) rfl rfl rfl rfl (by omega) ?_
  refine AtL.load (v := .int .u8 52) tf_flat5 (.inl rfl) rfl rfl (T.one (l.getD 0 0) hx) ?_
  refine AtL.assign (.inl rfl) rfl rfl ?_
  refine AtL.done ?_
  refine At.seq ?_
  refine At.seq ?_
  refine At.region ?_
  refine AtL.move (.inl rfl) rfl rfl ?_
  refine AtL.geq (.inl rfl) rfl rfl rfl ?_
  refine AtL.done ?_
  refine At.condF rfl ?_
  refine At.skip ?_
  refine At.seq ?_
  refine At.region ?_
  refine AtL.move (.inl rfl) rfl rfl ?_
  refine AtL.band (z := 4) (.inl rfl) rfl rfl rfl (by decide) ?_
  refine AtL.convInt (z := 4) Tryz.underlying5 Tryz.underlying3 (.inl rfl) rfl rfl (by decide) ?_
  refine AtL.assign (.inl rfl) rfl rfl ?_
  refine AtL.done ?_
  refine At.seq ?_
  refine At.region ?_
  refine AtL.move (.inl rfl) rfl rfl ?_
  refine AtL.shr (z := 3) (.inl rfl) rfl rfl rfl (by decide) (by decide) ?_
  refine AtL.indexArr (a := ⟨5, 0, none⟩) 3 Tryz.underlying253 tf_sz252 (.inl rfl) rfl rfl rfl rfl (by omega) ?_
  refine AtL.loadN (cs := [.int .u8 144, .int .u8 191]) tf_agg252 (.inl rfl) rfl rfl rfl (T.two 3 (by decide) (by decide) (by decide)) ?_
  refine AtL.alloc tf_zero252 (cs := #[.int .u8 0, .int .u8 0]) rfl (.inl rfl) rfl ?_
  intro b1
  refine AtL.store (H' := [(b1, .cells #[.int .u8 144, .int .u8 191] 252 (0, 0))] :: H) 0 0 tf_sz252 (.inl rfl) rfl rfl rfl rfl rfl rfl rfl rfl rfl ?_
  refine AtL.done ?_
  refine At.seq ?_
  refine At.seq ?_
  refine At.region ?_
  refine AtL.move (.inl rfl) rfl rfl ?_
  refine AtL.move (.inl rfl) rfl rfl ?_
  refine AtL.lss (.inl rfl) rfl rfl rfl ?_
  refine AtL.done ?_
  refine At.cond rfl ?_ ?_
  · intro hc3
    have hc3 : (l.length : Int) < 4 := of_decide_eq_true hc3
    refine At.seq ?_
    refine At.region ?_
    refine AtL.assign (.inl rfl) rfl rfl ?_
    refine AtL.assign (.inl rfl) rfl rfl ?_
    refine AtL.done ?_
    refine At.pick (H' := H) [] 1 rfl rfl ?_
    exact At.ret Tryz.func225 rfl rfl (⟨_, 1, rfl, ⟨by omega, by omega, fun i h1 h2 => by omega, .inl rfl⟩, rfl⟩)
  · intro hc3
    have hc3 : ¬ ((l.length : Int) < 4) := of_decide_eq_false hc3
    refine At.skip ?_
    refine At.seq ?_
    refine At.region ?_
    refine AtL.move (.inl rfl) rfl rfl ?_
    refine AtL.indexL 1 (Rd.skip 1 h) Tryz.underlying22 tf_sz5 (.inl rfl) rfl rfl rfl rfl (by omega) ?_
    refine AtL.load (v := .int .u8 ((l.getD 1 0).toNat : Int)) tf_flat5 (.inl rfl) rfl rfl (Rd.cell0 (Rd.skip 1 h) (getD_some 0 (by omega)) rfl) ?_
    refine AtL.assign (.inl rfl) rfl rfl ?_
    refine AtL.done ?_
    refine At.seq ?_
    refine At.seq ?_
    refine At.region ?_
    refine AtL.move (.inl rfl) rfl rfl ?_
    refine AtL.fieldAddrB tf_fo252_0 (.inl rfl) rfl rfl rfl ?_
    refine AtL.load tf_flat5 (.inl rfl) rfl rfl (Cell.own 0 0 rfl rfl rfl) ?_
    refine AtL.lss (.inl rfl) rfl rfl rfl ?_
    refine AtL.move (.inl rfl) rfl rfl ?_
    refine AtL.join 5 (E' := [(60, .bool (decide ((((l.getD 1 0).toNat : Int) < 144) ∨ (191 < ((l.getD 1 0).toNat : Int))))), (0, .slice A l.length C), (5, .int .u8 ((l.getD 0 0).toNat : Int)), (8, .int .i64 4), (10, .int .u8 ((l.getD 1 0).toNat : Int))]) (H' := [(b1, .cells #[.int .u8 144, .int .u8 191] 252 (0, 0))] :: H) (fun J => ?_) ?_
    · refine AtL.split (t := 55) rfl ?_ ?_
      · intro hs55
        have hs55 : ((l.getD 1 0).toNat : Int) < 144 := of_decide_eq_true hs55
        refine AtL.skipped rfl rfl rfl rfl rfl rfl ?_
        refine AtL.skipped rfl rfl rfl rfl rfl rfl ?_
        refine AtL.skipped rfl rfl rfl rfl rfl rfl ?_
        refine AtL.skipped rfl rfl rfl rfl rfl rfl ?_
        refine AtL.pickT (.inl rfl) rfl rfl rfl ?_
        exact J _ (by exact ⟨(boolIs (by clear J; first | (simp [hs55]; done) | (simp_all; done) | grind)), rfl, rfl, rfl, rfl, trivial⟩)
      · intro hs55
        have hs55 : ¬ (((l.getD 1 0).toNat : Int) < 144) := of_decide_eq_false hs55
        refine AtL.fieldAddrB tf_fo252_1 (.inr ⟨_, _, _, rfl, rfl, rfl, rfl⟩) rfl rfl rfl ?_
        refine AtL.load tf_flat5 (.inr ⟨_, _, _, rfl, rfl, rfl, rfl⟩) rfl rfl (Cell.own 0 0 rfl rfl rfl) ?_
        refine AtL.move (.inr ⟨_, _, _, rfl, rfl, rfl, rfl⟩) rfl rfl ?_
        refine AtL.lss (.inr ⟨_, _, _, rfl, rfl, rfl, rfl⟩) rfl rfl rfl ?_
        refine AtL.pickF (.inl rfl) rfl rfl rfl ?_
        exact J _ (by exact ⟨(boolIs (by clear J; first | (simp [hs55]; done) | (simp_all; done) | grind)), rfl, rfl, rfl, rfl, trivial⟩)
    · skip
      refine AtL.done ?_
      refine At.cond rfl ?_ ?_
      · intro hc4
        have hc4 : (((l.getD 1 0).toNat : Int) < 144) ∨ (191 < ((l.getD 1 0).toNat : Int)) := of_decide_eq_true hc4
        refine At.seq ?_
        refine At.region ?_
        refine AtL.assign (.inl rfl) rfl rfl ?_
        refine AtL.assign (.inl rfl) rfl rfl ?_
        refine AtL.done ?_
        refine At.pick (H' := H) [] 1 rfl rfl ?_
        exact At.ret Tryz.func225 rfl rfl (⟨_, 1, rfl, ⟨by omega, by omega, fun i h1 h2 => by omega, .inl rfl⟩, rfl⟩)
      · intro hc4
        have hc4 : ¬ ((((l.getD 1 0).toNat : Int) < 144) ∨ (191 < ((l.getD 1 0).toNat : Int))) := of_decide_eq_false hc4
        refine At.skip ?_
        refine At.seq ?_
        refine At.seq ?_
        refine At.region ?_
        refine AtL.move (.inl rfl) rfl rfl ?_
        refine AtL.leq (.inl rfl) rfl rfl rfl ?_
        refine AtL.done ?_
        refine At.condF rfl ?_
        refine At.skip ?_
        refine At.seq ?_
        refine At.region ?_
        refine AtL.move (.inl rfl) rfl rfl ?_
        refine AtL.indexL 2 (Rd.skip 1 h) Tryz.underlying22 tf_sz5 (.inl rfl) rfl rfl rfl rfl (by omega) ?_
        refine AtL.load (v := .int .u8 ((l.getD 2 0).toNat : Int)) tf_flat5 (.inl rfl) rfl rfl (Rd.cell0 (Rd.skip 1 h) (getD_some 0 (by omega)) rfl) ?_
        refine AtL.assign (.inl rfl) rfl rfl ?_
        refine AtL.done ?_
        refine At.seq ?_
        refine At.seq ?_
        refine At.region ?_
        refine AtL.move (.inl rfl) rfl rfl ?_
        refine AtL.lss (.inl rfl) rfl rfl rfl ?_
        refine AtL.move (.inl rfl) rfl rfl ?_
        refine AtL.join 3 (E' := [(79, .bool (decide ((((l.getD 2 0).toNat : Int) < 128) ∨ (191 < ((l.getD 2 0).toNat : Int))))), (0, .slice A l.length C), (5, .int .u8 ((l.getD 0 0).toNat : Int)), (8, .int .i64 4), (10, .int .u8 ((l.getD 1 0).toNat : Int)), (11, .int .u8 ((l.getD 2 0).toNat : Int))]) (H' := [(b1, .cells #[.int .u8 144, .int .u8 191] 252 (0, 0))] :: H) (fun J => ?_) ?_
        · refine AtL.split (t := 76) rfl ?_ ?_
          · intro hs76
            have hs76 : ((l.getD 2 0).toNat : Int) < 128 := of_decide_eq_true hs76
            refine AtL.skipped rfl rfl rfl rfl rfl rfl ?_
            refine AtL.skipped rfl rfl rfl rfl rfl rfl ?_
            refine AtL.pickT (.inl rfl) rfl rfl rfl ?_
            exact J _ (by exact ⟨(boolIs (by clear J; first | (simp [hs76]; done) | (simp_all; done) | grind)), rfl, rfl, rfl, rfl, rfl, trivial⟩)
          · intro hs76
            have hs76 : ¬ (((l.getD 2 0).toNat : Int) < 128) := of_decide_eq_false hs76
            refine AtL.move (.inr ⟨_, _, _, rfl, rfl, rfl, rfl⟩) rfl rfl ?_
            refine AtL.lss (.inr ⟨_, _, _, rfl, rfl, rfl, rfl⟩) rfl rfl rfl ?_
            refine AtL.pickF (.inl rfl) rfl rfl rfl ?_
            exact J _ (by exact ⟨(boolIs (by clear J; first | (simp [hs76]; done) | (simp_all; done) | grind)), rfl, rfl, rfl, rfl, rfl, trivial⟩)
        · skip
          refine AtL.done ?_
          refine At.cond rfl ?_ ?_
          · intro hc6
            have hc6 : (((l.getD 2 0).toNat : Int) < 128) ∨ (191 < ((l.getD 2 0).toNat : Int)) := of_decide_eq_true hc6
            refine At.seq ?_
            refine At.region ?_
            refine AtL.assign (.inl rfl) rfl rfl ?_
            refine AtL.assign (.inl rfl) rfl rfl ?_
            refine AtL.done ?_
            refine At.pick (H' := H) [] 1 rfl rfl ?_
            exact At.ret Tryz.func225 rfl rfl (⟨_, 1, rfl, ⟨by omega, by omega, fun i h1 h2 => by omega, .inl rfl⟩, rfl⟩)
          · intro hc6
            have hc6 : ¬ ((((l.getD 2 0).toNat : Int) < 128) ∨ (191 < ((l.getD 2 0).toNat : Int))) := of_decide_eq_false hc6
            refine At.skip ?_
            refine At.seq ?_
            refine At.seq ?_
            refine At.region ?_
            refine AtL.move (.inl rfl) rfl rfl ?_
            refine AtL.leq (.inl rfl) rfl rfl rfl ?_
            refine AtL.done ?_
            refine At.condF rfl ?_
            refine At.skip ?_
            refine At.seq ?_
            refine At.region ?_
            refine AtL.move (.inl rfl) rfl rfl ?_
            refine AtL.indexL 3 (Rd.skip 1 h) Tryz.underlying22 tf_sz5 (.inl rfl) rfl rfl rfl rfl (by omega) ?_
            refine AtL.load (v := .int .u8 ((l.getD 3 0).toNat : Int)) tf_flat5 (.inl rfl) rfl rfl (Rd.cell0 (Rd.skip 1 h) (getD_some 0 (by omega)) rfl) ?_
            refine AtL.assign (.inl rfl) rfl rfl ?_
            refine AtL.done ?_
            refine At.seq ?_
            refine At.seq ?_
            refine At.region ?_
            refine AtL.move (.inl rfl) rfl rfl ?_
            refine AtL.lss (.inl rfl) rfl rfl rfl ?_
            refine AtL.move (.inl rfl) rfl rfl ?_
            refine AtL.join 3 (E' := [(103, .bool (decide ((((l.getD 3 0).toNat : Int) < 128) ∨ (191 < ((l.getD 3 0).toNat : Int))))), (5, .int .u8 ((l.getD 0 0).toNat : Int)), (10, .int .u8 ((l.getD 1 0).toNat : Int)), (11, .int .u8 ((l.getD 2 0).toNat : Int)), (12, .int .u8 ((l.getD 3 0).toNat : Int))]) (H' := [(b1, .cells #[.int .u8 144, .int .u8 191] 252 (0, 0))] :: H) (fun J => ?_) ?_
            · refine AtL.split (t := 100) rfl ?_ ?_
              · intro hs100
                have hs100 : ((l.getD 3 0).toNat : Int) < 128 := of_decide_eq_true hs100
                refine AtL.skipped rfl rfl rfl rfl rfl rfl ?_
                refine AtL.skipped rfl rfl rfl rfl rfl rfl ?_
                refine AtL.pickT (.inl rfl) rfl rfl rfl ?_
                exact J _ (by exact ⟨(boolIs (by clear J; first | (simp [hs100]; done) | (simp_all; done) | grind)), rfl, rfl, rfl, rfl, trivial⟩)
              · intro hs100
                have hs100 : ¬ (((l.getD 3 0).toNat : Int) < 128) := of_decide_eq_false hs100
                refine AtL.move (.inr ⟨_, _, _, rfl, rfl, rfl, rfl⟩) rfl rfl ?_
                refine AtL.lss (.inr ⟨_, _, _, rfl, rfl, rfl, rfl⟩) rfl rfl rfl ?_
                refine AtL.pickF (.inl rfl) rfl rfl rfl ?_
                exact J _ (by exact ⟨(boolIs (by clear J; first | (simp [hs100]; done) | (simp_all; done) | grind)), rfl, rfl, rfl, rfl, trivial⟩)
            · skip
              refine AtL.done ?_
              refine At.cond rfl ?_ ?_
              · intro hc8
                have hc8 : (((l.getD 3 0).toNat : Int) < 128) ∨ (191 < ((l.getD 3 0).toNat : Int)) := of_decide_eq_true hc8
                refine At.seq ?_
                refine At.region ?_
                refine AtL.assign (.inl rfl) rfl rfl ?_
                refine AtL.assign (.inl rfl) rfl rfl ?_
                refine AtL.done ?_
                refine At.pick (H' := H) [] 1 rfl rfl ?_
                exact At.ret Tryz.func225 rfl rfl (⟨_, 1, rfl, ⟨by omega, by omega, fun i h1 h2 => by omega, .inl rfl⟩, rfl⟩)
              · intro hc8
                have hc8 : ¬ ((((l.getD 3 0).toNat : Int) < 128) ∨ (191 < ((l.getD 3 0).toNat : Int))) := of_decide_eq_false hc8
                refine At.skip ?_
                refine At.seq ?_
                refine At.region ?_
                refine AtL.move (.inl rfl) rfl rfl ?_
                refine AtL.band (z := ((l.getD 0 0).toNat : Int) % 8) (.inl rfl) rfl rfl rfl (and8 3 (by decide) (by omega) (by omega)) ?_
                refine AtL.convInt (z := ((l.getD 0 0).toNat : Int) % 8) Tryz.underlying5 Tryz.underlying21 (.inl rfl) rfl rfl (w32i (by omega) (by omega)) ?_
                refine AtL.shl (z := (((l.getD 0 0).toNat : Int) % 8) * 262144) (.inl rfl) rfl rfl rfl (by omega) (shl_eq32 _ _ 18 rfl (by decide) _ (by decide) (by omega) (by omega)) ?_
                refine AtL.move (.inl rfl) rfl rfl ?_
                refine AtL.band (z := ((l.getD 1 0).toNat : Int) % 64) (.inl rfl) rfl rfl rfl (and8 6 (by decide) (by omega) (by omega)) ?_
                refine AtL.convInt (z := ((l.getD 1 0).toNat : Int) % 64) Tryz.underlying5 Tryz.underlying21 (.inl rfl) rfl rfl (w32i (by omega) (by omega)) ?_
                refine AtL.shl (z := (((l.getD 1 0).toNat : Int) % 64) * 4096) (.inl rfl) rfl rfl rfl (by omega) (shl_eq32 _ _ 12 rfl (by decide) _ (by decide) (by omega) (by omega)) ?_
                obtain ⟨z2, hz2, hz2a, hz2b, hz2c⟩ := or32 (a := (((l.getD 0 0).toNat : Int) % 8) * 262144) (b := (((l.getD 1 0).toNat : Int) % 64) * 4096) 31 (by decide) (by omega) (by omega) (by omega) (by omega)
                refine AtL.bor (z := z2) (.inl rfl) rfl rfl rfl hz2 ?_
                refine AtL.move (.inl rfl) rfl rfl ?_
                refine AtL.band (z := ((l.getD 2 0).toNat : Int) % 64) (.inl rfl) rfl rfl rfl (and8 6 (by decide) (by omega) (by omega)) ?_
                refine AtL.convInt (z := ((l.getD 2 0).toNat : Int) % 64) Tryz.underlying5 Tryz.underlying21 (.inl rfl) rfl rfl (w32i (by omega) (by omega)) ?_
                refine AtL.shl (z := (((l.getD 2 0).toNat : Int) % 64) * 64) (.inl rfl) rfl rfl rfl (by omega) (shl_eq32 _ _ 6 rfl (by decide) _ (by decide) (by omega) (by omega)) ?_
                obtain ⟨z3, hz3, hz3a, hz3b, hz3c⟩ := or32 (a := z2) (b := (((l.getD 2 0).toNat : Int) % 64) * 64) 31 (by decide) (by omega) (by omega) (by omega) (by omega)
                refine AtL.bor (z := z3) (.inl rfl) rfl rfl rfl hz3 ?_
                refine AtL.move (.inl rfl) rfl rfl ?_
                refine AtL.band (z := ((l.getD 3 0).toNat : Int) % 64) (.inl rfl) rfl rfl rfl (and8 6 (by decide) (by omega) (by omega)) ?_
                refine AtL.convInt (z := ((l.getD 3 0).toNat : Int) % 64) Tryz.underlying5 Tryz.underlying21 (.inl rfl) rfl rfl (w32i (by omega) (by omega)) ?_
                obtain ⟨z4, hz4, hz4a, hz4b, hz4c⟩ := or32 (a := z3) (b := ((l.getD 3 0).toNat : Int) % 64) 31 (by decide) (by omega) (by omega) (by omega) (by omega)
                refine AtL.bor (z := z4) (.inl rfl) rfl rfl rfl hz4 ?_
                refine AtL.assign (.inl rfl) rfl rfl ?_
                refine AtL.assign (.inl rfl) rfl rfl ?_
                refine AtL.done ?_
                refine At.pick (H' := H) [] 1 rfl rfl ?_
                exact At.ret Tryz.func225 rfl rfl (⟨_, 4, rfl, ⟨by omega, by omega, fun i h1 h2 => (by rcases (show i = 1 ∨ i = 2 ∨ i = 3 by omega) with rfl | rfl | rfl <;> omega), .inr (.inr (.inr ⟨rfl, by omega, by omega⟩))⟩, rfl⟩)
set_option maxHeartbeats 400000 in
theorem slow_4 {w0 : World} {base : Nat} {H : List Seg} {A : Option Addr} {C : Nat} {l : List UInt8} (h : Rd tyB w0 base H A C l) (T : Tabs w0 base) (hl : l ≠ []) (hx : (Lib.firstT (l.getD 0 0).toNat : Int) = 4) (hp : 241 ≤ (l.getD 0 0).toNat ∧ (l.getD 0 0).toNat < 244) :
    SCalls Tryz.prog 225 [.slice A l.length C] w0 base (H) (fun v H' => ∃ (r : Int) (n : Nat), v = .tuple #[.int .i32 r, int (n : Int)] ∧ decOk l r n ∧ H' = H) := by
  have hpos := List.length_pos_iff.2 hl
  have hcap := h.cap
  have hle := h.le
  have hb0 := u8_le (l.getD 0 0)
  have hb1 := u8_le (l.getD 1 0)
  have hb2 := u8_le (l.getD 2 0)
  have hb3 := u8_le (l.getD 3 0)
  refine SCalls.of_walk (n := 122) Tryz.func225 rfl rfl rfl fun cs => ?_
  refine At.seq ?_
  refine At.region ?_
  refine AtL.assign (.inl rfl) rfl rfl ?_
  refine AtL.assign (.inl rfl) rfl rfl ?_
  refine AtL.done ?_
  refine At.seq ?_
  refine At.region ?_
  refine AtL.move (.inl rfl) rfl rfl ?_
  refine AtL.lenL Tryz.underlying22 (.inl rfl) rfl rfl ?_
  refine AtL.assign (.inl rfl) rfl rfl ?_
  refine AtL.done ?_
  refine At.seq ?_
  refine At.seq ?_
  refine At.region ?_
  refine AtL.move (.inl rfl) rfl rfl ?_
  refine AtL.lss (.inl rfl) rfl rfl rfl ?_
  refine AtL.done ?_
  refine At.condIs false rfl (decide_eq_false (by omega)) ?_
  refine At.skip ?_
  refine At.seq ?_
  refine At.region ?_
  refine AtL.move (.inl rfl) rfl rfl ?_
  refine AtL.indexL 0 h Tryz.underlying22 tf_sz5 (.inl rfl) rfl rfl rfl rfl (by omega) ?_
  refine AtL.load (v := .int .u8 ((l.getD 0 0).toNat : Int)) tf_flat5 (.inl rfl) rfl rfl (Rd.cell0 h (getD_some 0 (by omega)) rfl) ?_
  refine AtL.assign (.inl rfl) rfl rfl ?_
  refine AtL.done ?_
  refine At.seq ?_
  refine At.region ?_
  refine AtL.move (.inl rfl) rfl rfl ?_
  refine AtL.indexArr (a := ⟨4, 0, none⟩) ((l.getD 0 0).toNat) Tryz.underlying166 tf_sz5 (.inl rfl) rfl rfl rfl rfl (by omega) ?_
  refine AtL.load (v := .int .u8 4) tf_flat5 (.inl rfl) rfl rfl (T.one (l.getD 0 0) hx) ?_
  refine AtL.assign (.inl rfl) rfl rfl ?_
  refine AtL.done ?_
  refine At.seq ?_
  refine At.seq ?_
  refine At.region ?_
  refine AtL.move (.inl rfl) rfl rfl ?_
  refine AtL.geq (.inl rfl) rfl rfl rfl ?_
  refine AtL.done ?_
  refine At.condF rfl ?_
  refine At.skip ?_
  refine At.seq ?_
  refine At.region ?_
  refine AtL.move (.inl rfl) rfl rfl ?_
  refine AtL.band (z := 4) (.inl rfl) rfl rfl rfl (by decide) ?_
  refine AtL.convInt (z := 4) Tryz.underlying5 Tryz.underlying3 (.inl rfl) rfl rfl (by decide) ?_
  refine AtL.assign (.inl rfl) rfl rfl ?_
  refine AtL.done ?_
  refine At.seq ?_
  refine At.region ?_
  refine AtL.move (.inl rfl) rfl rfl ?_
  refine AtL.shr (z := 0) (.inl rfl) rfl rfl rfl (by decide) (by decide) ?_
  refine AtL.indexArr (a := ⟨5, 0, none⟩) 0 Tryz.underlying253 tf_sz252 (.inl rfl) rfl rfl rfl rfl (by omega) ?_
  refine AtL.loadN (cs := [.int .u8 128, .int .u8 191]) tf_agg252 (.inl rfl) rfl rfl rfl (T.two 0 (by decide) (by decide) (by decide)) ?_
  refine AtL.alloc tf_zero252 (cs := #[.int .u8 0, .int .u8 0]) rfl (.inl rfl) rfl ?_
  intro b1
  refine AtL.store (H' := [(b1, .cells #[.int .u8 128, .int .u8 191] 252 (0, 0))] :: H) 0 0 tf_sz252 (.inl rfl) rfl rfl rfl rfl rfl rfl rfl rfl rfl ?_
  refine AtL.done ?_
  refine At.seq ?_
  refine At.seq ?_
  refine At.region ?_
  refine AtL.move (.inl rfl) rfl rfl ?_
  refine AtL.move (.inl rfl) rfl rfl ?_
  refine AtL.lss (.inl rfl) rfl rfl rfl ?_
  refine AtL.done ?_
  refine At.cond rfl ?_ ?_
  · intro hc3
    have hc3 : (l.length : Int) < 4 := of_decide_eq_true hc3
    refine At.seq ?_
    refine At.region ?_
    refine AtL.assign (.inl rfl) rfl rfl ?_
    refine AtL.assign (.inl rfl) rfl rfl ?_
    refine AtL.done ?_
    refine At.pick (H' := H) [] 1 rfl rfl ?_
    exact At.ret Tryz.func225 rfl rfl (⟨_, 1, rfl, ⟨by omega, by omega, fun i h1 h2 => by omega, .inl rfl⟩, rfl⟩)
  · intro hc3
    have hc3 : ¬ ((l.length : Int) < 4) := of_decide_eq_false hc3
    refine At.skip ?_
    refine At.seq ?_
    refine At.region ?_
    refine AtL.move (.inl rfl) rfl rfl ?_
    refine AtL.indexL 1 (Rd.skip 1 h) Tryz.underlying22 tf_sz5 (.inl rfl) rfl rfl rfl rfl (by omega) ?_
    refine AtL.load (v := .int .u8 ((l.getD 1 0).toNat : Int)) tf_flat5 (.inl rfl) rfl rfl (Rd.cell0 (Rd.skip 1 h) (getD_some 0 (by omega)) rfl) ?_
    refine AtL.assign (.inl rfl) rfl rfl ?_
    refine AtL.done ?_
    refine At.seq ?_
    refine At.seq ?_
    refine At.region ?_
    refine AtL.move (.inl rfl) rfl rfl ?_
    refine AtL.fieldAddrB tf_fo252_0 (.inl rfl) rfl rfl rfl ?_
    refine AtL.load tf_flat5 (.inl rfl) rfl rfl (Cell.own 0 0 rfl rfl rfl) ?_
    refine AtL.lss (.inl rfl) rfl rfl rfl ?_
    refine AtL.move (.inl rfl) rfl rfl ?_
    refine AtL.join 5 (E' := [(60, .bool (decide ((((l.getD 1 0).toNat : Int) < 128) ∨ (191 < ((l.getD 1 0).toNat : Int))))), (0, .slice A l.length C), (5, .int .u8 ((l.getD 0 0).toNat : Int)), (8, .int .i64 4), (10, .int .u8 ((l.getD 1 0).toNat : Int))]) (H' := [(b1, .cells #[.int .u8 128, .int .u8 191] 252 (0, 0))] :: H) (fun J => ?_) ?_
    · refine AtL.split (t := 55) rfl ?_ ?_
      · intro hs55
        have hs55 : ((l.getD 1 0).toNat : Int) < 128 := of_decide_eq_true hs55
        refine AtL.skipped rfl rfl rfl rfl rfl rfl ?_
        refine AtL.skipped rfl rfl rfl rfl rfl rfl ?_
        refine AtL.skipped rfl rfl rfl rfl rfl rfl ?_
        refine AtL.skipped rfl rfl rfl rfl rfl rfl ?_
        refine AtL.pickT (.inl rfl) rfl rfl rfl ?_
        exact J _ (by exact ⟨(boolIs (by clear J; first | (simp [hs55]; done) | (simp_all; done) | grind)), rfl, rfl, rfl, rfl, trivial⟩)
      · intro hs55
        have hs55 : ¬ (((l.getD 1 0).toNat : Int) < 128) := of_decide_eq_false hs55
        refine AtL.fieldAddrB tf_fo252_1 (.inr ⟨_, _, _, rfl, rfl, rfl, rfl⟩) rfl rfl rfl ?_
        refine AtL.load tf_flat5 (.inr ⟨_, _, _, rfl, rfl, rfl, rfl⟩) rfl rfl (Cell.own 0 0 rfl rfl rfl) ?_
        refine AtL.move (.inr ⟨_, _, _, rfl, rfl, rfl, rfl⟩) rfl rfl ?_
        refine AtL.lss (.inr ⟨_, _, _, rfl, rfl, rfl, rfl⟩) rfl rfl rfl ?_
        refine AtL.pickF (.inl rfl) rfl rfl rfl ?_
        exact J _ (by exact ⟨(boolIs (by clear J; first | (simp [hs55]; done) | (simp_all; done) | grind)), rfl, rfl, rfl, rfl, trivial⟩)
    · skip
      refine AtL.done ?_
      refine At.cond rfl ?_ ?_
      · intro hc4
        have hc4 : (((l.getD 1 0).toNat : Int) < 128) ∨ (191 < ((l.getD 1 0).toNat : Int)) := of_decide_eq_true hc4
        refine At.seq ?_
        refine At.region ?_
        refine AtL.assign (.inl rfl) rfl rfl ?_
        refine AtL.assign (.inl rfl) rfl rfl ?_
        refine AtL.done ?_
        refine At.pick (H' := H) [] 1 rfl rfl ?_
        exact At.ret Tryz.func225 rfl rfl (⟨_, 1, rfl, ⟨by omega, by omega, fun i h1 h2 => by omega, .inl rfl⟩, rfl⟩)
      · intro hc4
        have hc4 : ¬ ((((l.getD 1 0).toNat : Int) < 128) ∨ (191 < ((l.getD 1 0).toNat : Int))) := of_decide_eq_false hc4
        refine At.skip ?_
        refine At.seq ?_
        refine At.seq ?_
        refine At.region ?_
        refine AtL.move (.inl rfl) rfl rfl ?_
        refine AtL.leq (.inl rfl) rfl rfl rfl ?_
        refine AtL.done ?_
        refine At.condF rfl ?_
        refine At.skip ?_
        refine At.seq ?_
        refine At.region ?_
        refine AtL.move (.inl rfl) rfl rfl ?_
        refine AtL.indexL 2 (Rd.skip 1 h) Tryz.underlying22 tf_sz5 (.inl rfl) rfl rfl rfl rfl (by omega) ?_
        refine AtL.load (v := .int .u8 ((l.getD 2 0).toNat : Int)) tf_flat5 (.inl rfl) rfl rfl (Rd.cell0 (Rd.skip 1 h) (getD_some 0 (by omega)) rfl) ?_
        refine AtL.assign (.inl rfl) rfl rfl ?_
        refine AtL.done ?_
        refine At.seq ?_
        refine At.seq ?_
        refine At.region ?_
        refine AtL.move (.inl rfl) rfl rfl ?_
        refine AtL.lss (.inl rfl) rfl rfl rfl ?_
        refine AtL.move (.inl rfl) rfl rfl ?_
        refine AtL.join 3 (E' := [(79, .bool (decide ((((l.getD 2 0).toNat : Int) < 128) ∨ (191 < ((l.getD 2 0).toNat : Int))))), (0, .slice A l.length C), (5, .int .u8 ((l.getD 0 0).toNat : Int)), (8, .int .i64 4), (10, .int .u8 ((l.getD 1 0).toNat : Int)), (11, .int .u8 ((l.getD 2 0).toNat : Int))]) (H' := [(b1, .cells #[.int .u8 128, .int .u8 191] 252 (0, 0))] :: H) (fun J => ?_) ?_
        · refine AtL.split (t := 76) rfl ?_ ?_
          · intro hs76
            have hs76 : ((l.getD 2 0).toNat : Int) < 128 := of_decide_eq_true hs76
            refine AtL.skipped rfl rfl rfl rfl rfl rfl ?_
            refine AtL.skipped rfl rfl rfl rfl rfl rfl ?_
            refine AtL.pickT (.inl rfl) rfl rfl rfl ?_
            exact J _ (by exact ⟨(boolIs (by clear J; first | (simp [hs76]; done) | (simp_all; done) | grind)), rfl, rfl, rfl, rfl, rfl, trivial⟩)
          · intro hs76
            have hs76 : ¬ (((l.getD 2 0).toNat : Int) < 128) := of_decide_eq_false hs76
            refine AtL.move (.inr ⟨_, _, _, rfl, rfl, rfl, rfl⟩) rfl rfl ?_
            refine AtL.lss (.inr ⟨_, _, _, rfl, rfl, rfl, rfl⟩) rfl rfl rfl ?_
            refine AtL.pickF (.inl rfl) rfl rfl rfl ?_
            exact J _ (by exact ⟨(boolIs (by clear J; first | (simp [hs76]; done) | (simp_all; done) | grind)), rfl, rfl, rfl, rfl, rfl, trivial⟩)
        · skip
          refine AtL.done ?_
          refine At.cond rfl ?_ ?_
          · intro hc6
            have hc6 : (((l.getD 2 0).toNat : Int) < 128) ∨ (191 < ((l.getD 2 0).toNat : Int)) := of_decide_eq_true hc6
            refine At.seq ?_
            refine At.region ?_
            refine AtL.assign (.inl rfl) rfl rfl ?_
            refine AtL.assign (.inl rfl) rfl rfl ?_
            refine AtL.done ?_
            refine At.pick (H' := H) [] 1 rfl rfl ?_
            exact At.ret Tryz.func225 rfl rfl (⟨_, 1, rfl, ⟨by omega, by omega, fun i h1 h2 => by omega, .inl rfl⟩, rfl⟩)
          · intro hc6
            have hc6 : ¬ ((((l.getD 2 0).toNat : Int) < 128) ∨ (191 < ((l.getD 2 0).toNat : Int))) := of_decide_eq_false hc6
            refine At.skip ?_
            refine At.seq ?_
            refine At.seq ?_
            refine At.region ?_
            refine AtL.move (.inl rfl) rfl rfl ?_
            refine AtL.leq (.inl rfl) rfl rfl rfl ?_
            refine AtL.done ?_
            refine At.condF rfl ?_
            refine At.skip ?_
            refine At.seq ?_
            refine At.region ?_
            refine AtL.move (.inl rfl) rfl rfl ?_
            refine AtL.indexL 3 (Rd.skip 1 h) Tryz.underlying22 tf_sz5 (.inl rfl) rfl rfl rfl rfl (by omega) ?_
            refine AtL.load (v := .int .u8 ((l.getD 3 0).toNat : Int)) tf_flat5 (.inl rfl) rfl rfl (Rd.cell0 (Rd.skip 1 h) (getD_some 0 (by omega)) rfl) ?_
            refine AtL.assign (.inl rfl) rfl rfl ?_
            refine AtL.done ?_
            refine At.seq ?_
            refine At.seq ?_
            refine At.region ?_
            refine AtL.move (.inl rfl) rfl rfl ?_
            refine AtL.lss (.inl rfl) rfl rfl rfl ?_
            refine AtL.move (.inl rfl) rfl rfl ?_
            refine AtL.join 3 (E' := [(103, .bool (decide ((((l.getD 3 0).toNat : Int) < 128) ∨ (191 < ((l.getD 3 0).toNat : Int))))), (5, .int .u8 ((l.getD 0 0).toNat : Int)), (10, .int .u8 ((l.getD 1 0).toNat : Int)), (11, .int .u8 ((l.getD 2 0).toNat : Int)), (12, .int .u8 ((l.getD 3 0).toNat : Int))]) (H' := [(b1, .cells #[.int .u8 128, .int .u8 191] 252 (0, 0))] :: H) (fun J => ?_) ?_
            · refine AtL.split (t := 100) rfl ?_ ?_
              · intro hs100
                have hs100 : ((l.getD 3 0).toNat : Int) < 128 := of_decide_eq_true hs100
                refine AtL.skipped rfl rfl rfl rfl rfl rfl ?_
                refine AtL.skipped rfl rfl rfl rfl rfl rfl ?_
                refine AtL.pickT (.inl rfl) rfl rfl rfl ?_
                exact J _ (by exact ⟨(boolIs (by clear J; first | (simp [hs100]; done) | (simp_all; done) | grind)), rfl, rfl, rfl, rfl, trivial⟩)
              · intro hs100
                have hs100 : ¬ (((l.getD 3 0).toNat : Int) < 128) := of_decide_eq_false hs100
                refine AtL.move (.inr ⟨_, _, _, rfl, rfl, rfl, rfl⟩) rfl rfl ?_
                refine AtL.lss (.inr ⟨_, _, _, rfl, rfl, rfl, rfl⟩) rfl rfl rfl ?_
                refine AtL.pickF (.inl rfl) rfl rfl rfl ?_
                exact J _ (by exact ⟨(boolIs (by clear J; first | (simp [hs100]; done) | (simp_all; done) | grind)), rfl, rfl, rfl, rfl, trivial⟩)
            · skip
              refine AtL.done ?_
              refine At.cond rfl ?_ ?_
              · intro hc8
                have hc8 : (((l.getD 3 0).toNat : Int) < 128) ∨ (191 < ((l.getD 3 0).toNat : Int)) := of_decide_eq_true hc8
                refine At.seq ?_
                refine At.region ?_
                refine AtL.assign (.inl rfl) rfl rfl ?_
                refine AtL.assign (.inl rfl) rfl rfl ?_
                refine AtL.done ?_
                refine At.pick (H' := H) [] 1 rfl rfl ?_
                exact At.ret Tryz.func225 rfl rfl (⟨_, 1, rfl, ⟨by omega, by omega, fun i h1 h2 => by omega, .inl rfl⟩, rfl⟩)
              · intro hc8
                have hc8 : ¬ ((((l.getD 3 0).toNat : Int) < 128) ∨ (191 < ((l.getD 3 0).toNat : Int))) := of_decide_eq_false hc8
                refine At.skip ?_
                refine At.seq ?_
                refine At.region ?_
                refine AtL.move (.inl rfl) rfl rfl ?_
                refine AtL.band (z := ((l.getD 0 0).toNat : Int) % 8) (.inl rfl) rfl rfl rfl (and8 3 (by decide) (by omega) (by omega)) ?_
                refine AtL.convInt (z := ((l.getD 0 0).toNat : Int) % 8) Tryz.underlying5 Tryz.underlying21 (.inl rfl) rfl rfl (w32i (by omega) (by omega)) ?_
                refine AtL.shl (z := (((l.getD 0 0).toNat : Int) % 8) * 262144) (.inl rfl) rfl rfl rfl (by omega) (shl_eq32 _ _ 18 rfl (by decide) _ (by decide) (by omega) (by omega)) ?_
                refine AtL.move (.inl rfl) rfl rfl ?_
                refine AtL.band (z := ((l.getD 1 0).toNat : Int) % 64) (.inl rfl) rfl rfl rfl (and8 6 (by decide) (by omega) (by omega)) ?_
                refine AtL.convInt (z := ((l.getD 1 0).toNat : Int) % 64) Tryz.underlying5 Tryz.underlying21 (.inl rfl) rfl rfl (w32i (by omega) (by omega)) ?_
                refine AtL.shl (z := (((l.getD 1 0).toNat : Int) % 64) * 4096) (.inl rfl) rfl rfl rfl (by omega) (shl_eq32 _ _ 12 rfl (by decide) _ (by decide) (by omega) (by omega)) ?_
                obtain ⟨z2, hz2, hz2a, hz2b, hz2c⟩ := or32 (a := (((l.getD 0 0).toNat : Int) % 8) * 262144) (b := (((l.getD 1 0).toNat : Int) % 64) * 4096) 31 (by decide) (by omega) (by omega) (by omega) (by omega)
                refine AtL.bor (z := z2) (.inl rfl) rfl rfl rfl hz2 ?_
                refine AtL.move (.inl rfl) rfl rfl ?_
                refine AtL.band (z := ((l.getD 2 0).toNat : Int) % 64) (.inl rfl) rfl rfl rfl (and8 6 (by decide) (by omega) (by omega)) ?_
                refine AtL.convInt (z := ((l.getD 2 0).toNat : Int) % 64) Tryz.underlying5 Tryz.underlying21 (.inl rfl) rfl rfl (w32i (by omega) (by omega)) ?_
                refine AtL.shl (z := (((l.getD 2 0).toNat : Int) % 64) * 64) (.inl rfl) rfl rfl rfl (by omega) (shl_eq32 _ _ 6 rfl (by decide) _ (by decide) (by omega) (by omega)) ?_
                obtain ⟨z3, hz3, hz3a, hz3b, hz3c⟩ := or32 (a := z2) (b := (((l.getD 2 0).toNat : Int) % 64) * 64) 31 (by decide) (by omega) (by omega) (by omega) (by omega)
                refine AtL.bor (z := z3) (.inl rfl) rfl rfl rfl hz3 ?_
                refine AtL.move (.inl rfl) rfl rfl ?_
                refine AtL.band (z := ((l.getD 3 0).toNat : Int) % 64) (.inl rfl) rfl rfl rfl (and8 6 (by decide) (by omega) (by omega)) ?_
                refine AtL.convInt (z := ((l.getD 3 0).toNat : Int) % 64) Tryz.underlying5 Tryz.underlying21 (.inl rfl) rfl rfl (w32i (by omega) (by omega)) ?_
                obtain ⟨z4, hz4, hz4a, hz4b, hz4c⟩ := or32 (a := z3) (b := ((l.getD 3 0).toNat : Int) % 64) 31 (by decide) (by omega) (by omega) (by omega) (by omega)
                refine AtL.bor (z := z4) (.inl rfl) rfl rfl rfl hz4 ?_
                refine AtL.assign (.inl rfl) rfl rfl ?_
                refine AtL.assign (.inl rfl) rfl rfl ?_
                refine AtL.done ?_
                refine At.pick (H' := H) [] 1 rfl rfl ?_
                exact At.ret Tryz.func225 rfl rfl (⟨_, 4, rfl, ⟨by omega, by omega, fun i h1 h2 => (by rcases (show i = 1 ∨ i = 2 ∨ i = 3 by omega) with rfl | rfl | rfl <;> omega), .inr (.inr (.inr ⟨rfl, by omega, by omega⟩))⟩, rfl⟩)
set_option maxHeartbeats 400000 in
theorem slow_68 {w0 : World} {base : Nat} {H : List Seg} {A : Option Addr} {C : Nat} {l : List UInt8} (h : Rd tyB w0 base H A C l) (T : Tabs w0 base) (hl : l ≠ []) (hx : (Lib.firstT (l.getD 0 0).toNat : Int) = 68) (hp : (l.getD 0 0).toNat = 244) :
    SCalls Tryz.prog 225 [.slice A l.length C] w0 base (H) (fun v H' => ∃ (r : Int) (n : Nat), v = .tuple #[.int .i32 r, int (n : Int)] ∧ decOk l r n ∧ H' = H) := by
  have hpos := List.length_pos_iff.2 hl
  have hcap := h.cap
  have hle := h.le
  have hb0 := u8_le (l.getD 0 0)
  have hb1 := u8_le (l.getD 1 0)
  have hb2 := u8_le (l.getD 2 0)
  have hb3 := u8_le (l.getD 3 0)
  refine SCalls.of_walk (n := 122) Tryz.func225 rfl rfl rfl fun cs => ?_
  refine At.seq ?_
  refine At.region ?_
  refine AtL.assign (.inl rfl) rfl rfl ?_
  refine AtL.assign (.inl rfl) rfl rfl ?_
  refine AtL.done ?_
  refine At.seq ?_
  refine At.region ?_
  refine AtL.move (.inl rfl) rfl rfl ?_
  refine AtL.lenL Tryz.underlying22 (.inl rfl) rfl rfl ?_
  refine AtL.assign (.inl rfl) rfl rfl ?_
  refine AtL.done ?_
  refine At.seq ?_
  refine At.seq ?_
  refine At.region ?_
  refine AtL.move (.inl rfl) rfl rfl ?_
  refine AtL.lss (.inl rfl) rfl rfl rfl ?_
  refine AtL.done ?_
  refine At.condIs false rfl (decide_eq_false (by omega)) ?_
  refine At.skip ?_
  refine At.seq ?_
  refine At.region ?_
  refine AtL.move (.inl rfl) rfl rfl ?_
  refine AtL.indexL 0 h Tryz.underlying22 tf_sz5 (.inl rfl) rfl rfl rfl rfl (by omega) ?_
  refine AtL.load (v := .int .u8 ((l.getD 0 0).toNat : Int)) tf_flat5 (.inl rfl) rfl rfl (Rd.cell0 h (getD_some 0 (by omega)) rfl) ?_
  refine AtL.assign (.inl rfl) rfl rfl ?_
  refine AtL.done ?_
  refine At.seq ?_
  refine At.region ?_
  refine AtL.move (.inl rfl) rfl rfl ?_
  refine AtL.indexArr (a := ⟨4, 0, none⟩) ((l.getD 0 0).toNat) Tryz.underlying166 tf_sz5 (.inl rfl) rfl rfl rfl rfl (by omega) ?_
  refine AtL.load (v := .int .u8 68) tf_flat5 (.inl rfl) rfl rfl (T.one (l.getD 0 0) hx) ?_
  refine AtL.assign (.inl rfl) rfl rfl ?_
  refine AtL.done ?_
  refine At.seq ?_
  refine At.seq ?_
  refine At.region ?_
  refine AtL.move (.inl rfl) rfl rfl ?_
  refine AtL.geq (.inl rfl) rfl rfl rfl ?_
  refine AtL.done ?_
  refine At.condF rfl ?_
  refine At.skip ?_
  refine At.seq ?_
  refine At.region ?_
  refine AtL.move (.inl rfl) rfl rfl ?_
  refine AtL.band (z := 4) (.inl rfl) rfl rfl rfl (by decide) ?_
  refine AtL.convInt (z := 4) Tryz.underlying5 Tryz.underlying3 (.inl rfl) rfl rfl (by decide) ?_
  refine AtL.assign (.inl rfl) rfl rfl ?_
  refine AtL.done ?_
  refine At.seq ?_
  refine At.region ?_
  refine AtL.move (.inl rfl) rfl rfl ?_
  refine AtL.shr (z := 4) (.inl rfl) rfl rfl rfl (by decide) (by decide) ?_
  refine AtL.indexArr (a := ⟨5, 0, none⟩) 4 Tryz.underlying253 tf_sz252 (.inl rfl) rfl rfl rfl rfl (by omega) ?_
  refine AtL.loadN (cs := [.int .u8 128, .int .u8 143]) tf_agg252 (.inl rfl) rfl rfl rfl (T.two 4 (by decide) (by decide) (by decide)) ?_
  refine AtL.alloc tf_zero252 (cs := #[.int .u8 0, .int .u8 0]) rfl (.inl rfl) rfl ?_
  intro b1
  refine AtL.store (H' := [(b1, .cells #[.int .u8 128, .int .u8 143] 252 (0, 0))] :: H) 0 0 tf_sz252 (.inl rfl) rfl rfl rfl rfl rfl rfl rfl rfl rfl ?_
  refine AtL.done ?_
  refine At.seq ?_
  refine At.seq ?_
  refine At.region ?_
  refine AtL.move (.inl rfl) rfl rfl ?_
  refine AtL.move (.inl rfl) rfl rfl ?_
  refine AtL.lss (.inl rfl) rfl rfl rfl ?_
  refine AtL.done ?_
  refine At.cond rfl ?_ ?_
  · intro hc3
    have hc3 : (l.length : Int) < 4 := of_decide_eq_true hc3
    refine At.seq ?_
    refine At.region ?_
    refine AtL.assign (.inl rfl) rfl rfl ?_
    refine AtL.assign (.inl rfl) rfl rfl ?_
    refine AtL.done ?_
    refine At.pick (H' := H) [] 1 rfl rfl ?_
    exact At.ret Tryz.func225 rfl rfl (⟨_, 1, rfl, ⟨by omega, by omega, fun i h1 h2 => by omega, .inl rfl⟩, rfl⟩)
  · intro hc3
    have hc3 : ¬ ((l.length : Int) < 4) := of_decide_eq_false hc3
    refine At.skip ?_
    refine At.seq ?_
    refine At.region ?_
    refine AtL.move (.inl rfl) rfl rfl ?_
    refine AtL.indexL 1 (Rd.skip 1 h) Tryz.underlying22 tf_sz5 (.inl rfl) rfl rfl rfl rfl (by omega) ?_
    refine AtL.load (v := .int .u8 ((l.getD 1 0).toNat : Int)) tf_flat5 (.inl rfl) rfl rfl (Rd.cell0 (Rd.skip 1 h) (getD_some 0 (by omega)) rfl) ?_
    refine AtL.assign (.inl rfl) rfl rfl ?_
    refine AtL.done ?_
    refine At.seq ?_
    refine At.seq ?_
    refine At.region ?_
    refine AtL.move (.inl rfl) rfl rfl ?_
    refine AtL.fieldAddrB tf_fo252_0 (.inl rfl) rfl rfl rfl ?_
    refine AtL.load tf_flat5 (.inl rfl) rfl rfl (Cell.own 0 0 rfl rfl rfl) ?_
    refine AtL.lss (.inl rfl) rfl rfl rfl ?_
    refine AtL.move (.inl rfl) rfl rfl ?_
    refine AtL.join 5 (E' := [(60, .bool (decide ((((l.getD 1 0).toNat : Int) < 128) ∨ (143 < ((l.getD 1 0).toNat : Int))))), (0, .slice A l.length C), (5, .int .u8 ((l.getD 0 0).toNat : Int)), (8, .int .i64 4), (10, .int .u8 ((l.getD 1 0).toNat : Int))]) (H' := [(b1, .cells #[.int .u8 128, .int .u8 143] 252 (0, 0))] :: H) (fun J => ?_) ?_
    · refine AtL.split (t := 55) rfl ?_ ?_
      · intro hs55
        have hs55 : ((l.getD 1 0).toNat : Int) < 128 := of_decide_eq_true hs55
        refine AtL.skipped rfl rfl rfl rfl rfl rfl ?_
        refine AtL.skipped rfl rfl rfl rfl rfl rfl ?_
        refine AtL.skipped rfl rfl rfl rfl rfl rfl ?_
        refine AtL.skipped rfl rfl rfl rfl rfl rfl ?_
        refine AtL.pickT (.inl rfl) rfl rfl rfl ?_
        exact J _ (by exact ⟨(boolIs (by clear J; first | (simp [hs55]; done) | (simp_all; done) | grind)), rfl, rfl, rfl, rfl, trivial⟩)
      · intro hs55
        have hs55 : ¬ (((l.getD 1 0).toNat : Int) < 128) := of_decide_eq_false hs55
        refine AtL.fieldAddrB tf_fo252_1 (.inr ⟨_, _, _, rfl, rfl, rfl, rfl⟩) rfl rfl rfl ?_
        refine AtL.load tf_flat5 (.inr ⟨_, _, _, rfl, rfl, rfl, rfl⟩) rfl rfl (Cell.own 0 0 rfl rfl rfl) ?_
        refine AtL.move (.inr ⟨_, _, _, rfl, rfl, rfl, rfl⟩) rfl rfl ?_
        refine AtL.lss (.inr ⟨_, _, _, rfl, rfl, rfl, rfl⟩) rfl rfl rfl ?_
        refine AtL.pickF (.inl rfl) rfl rfl rfl ?_
        exact J _ (by exact ⟨(boolIs (by clear J; first | (simp [hs55]; done) | (simp_all; done) | grind)), rfl, rfl, rfl, rfl, trivial⟩)
    · skip
      refine AtL.done ?_
      refine At.cond rfl ?_ ?_
      · intro hc4
        have hc4 : (((l.getD 1 0).toNat : Int) < 128) ∨ (143 < ((l.getD 1 0).toNat : Int)) := of_decide_eq_true hc4
        refine At.seq ?_
        refine At.region ?_
        refine AtL.assign (.inl rfl) rfl rfl ?_
        refine AtL.assign (.inl rfl) rfl rfl ?_
        refine AtL.done ?_
        refine At.pick (H' := H) [] 1 rfl rfl ?_
        exact At.ret Tryz.func225 rfl rfl (⟨_, 1, rfl, ⟨by omega, by omega, fun i h1 h2 => by omega, .inl rfl⟩, rfl⟩)
      · intro hc4
        have hc4 : ¬ ((((l.getD 1 0).toNat : Int) < 128) ∨ (143 < ((l.getD 1 0).toNat : Int))) := of_decide_eq_false hc4
        refine At.skip ?_
        refine At.seq ?_
        refine At.seq ?_
        refine At.region ?_
        refine AtL.move (.inl rfl) rfl rfl ?_
        refine AtL.leq (.inl rfl) rfl rfl rfl ?_
        refine AtL.done ?_
        refine At.condF rfl ?_
        refine At.skip ?_
        refine At.seq ?_
        refine At.region ?_
        refine AtL.move (.inl rfl) rfl rfl ?_
        refine AtL.indexL 2 (Rd.skip 1 h) Tryz.underlying22 tf_sz5 (.inl rfl) rfl rfl rfl rfl (by omega) ?_
        refine AtL.load (v := .int .u8 ((l.getD 2 0).toNat : Int)) tf_flat5 (.inl rfl) rfl rfl (Rd.cell0 (Rd.skip 1 h) (getD_some 0 (by omega)) rfl) ?_
        refine AtL.assign (.inl rfl) rfl rfl ?_
        refine AtL.done ?_
        refine At.seq ?_
        refine At.seq ?_
        refine At.region ?_
        refine AtL.move (.inl rfl) rfl rfl ?_
        refine AtL.lss (.inl rfl) rfl rfl rfl ?_
        refine AtL.move (.inl rfl) rfl rfl ?_
        refine AtL.join 3 (E' := [(79, .bool (decide ((((l.getD 2 0).toNat : Int) < 128) ∨ (191 < ((l.getD 2 0).toNat : Int))))), (0, .slice A l.length C), (5, .int .u8 ((l.getD 0 0).toNat : Int)), (8, .int .i64 4), (10, .int .u8 ((l.getD 1 0).toNat : Int)), (11, .int .u8 ((l.getD 2 0).toNat : Int))]) (H' := [(b1, .cells #[.int .u8 128, .int .u8 143] 252 (0, 0))] :: H) (fun J => ?_) ?_
        · refine AtL.split (t := 76) rfl ?_ ?_
          · intro hs76
            have hs76 : ((l.getD 2 0).toNat : Int) < 128 := of_decide_eq_true hs76
            refine AtL.skipped rfl rfl rfl rfl rfl rfl ?_
            refine AtL.skipped rfl rfl rfl rfl rfl rfl ?_
            refine AtL.pickT (.inl rfl) rfl rfl rfl ?_
            exact J _ (by exact ⟨(boolIs (by clear J; first | (simp [hs76]; done) | (simp_all; done) | grind)), rfl, rfl, rfl, rfl, rfl, trivial⟩)
          · intro hs76
            have hs76 : ¬ (((l.getD 2 0).toNat : Int) < 128) := of_decide_eq_false hs76
            refine AtL.move (.inr ⟨_, _, _, rfl, rfl, rfl, rfl⟩) rfl rfl ?_
            refine AtL.lss (.inr ⟨_, _, _, rfl, rfl, rfl, rfl⟩) rfl rfl rfl ?_
            refine AtL.pickF (.inl rfl) rfl rfl rfl ?_
            exact J _ (by exact ⟨(boolIs (by clear J; first | (simp [hs76]; done) | (simp_all; done) | grind)), rfl, rfl, rfl, rfl, rfl, trivial⟩)
        · skip
          refine AtL.done ?_
          refine At.cond rfl ?_ ?_
          · intro hc6
            have hc6 : (((l.getD 2 0).toNat : Int) < 128) ∨ (191 < ((l.getD 2 0).toNat : Int)) := of_decide_eq_true hc6
            refine At.seq ?_
            refine At.region ?_
            refine AtL.assign (.inl rfl) rfl rfl ?_
            refine AtL.assign (.inl rfl) rfl rfl ?_
            refine AtL.done ?_
            refine At.pick (H' := H) [] 1 rfl rfl ?_
            exact At.ret Tryz.func225 rfl rfl (⟨_, 1, rfl, ⟨by omega, by omega, fun i h1 h2 => by omega, .inl rfl⟩, rfl⟩)
          · intro hc6
            have hc6 : ¬ ((((l.getD 2 0).toNat : Int) < 128) ∨ (191 < ((l.getD 2 0).toNat : Int))) := of_decide_eq_false hc6
            refine At.skip ?_
            refine At.seq ?_
            refine At.seq ?_
            refine At.region ?_
            refine AtL.move (.inl rfl) rfl rfl ?_
            refine AtL.leq (.inl rfl) rfl rfl rfl ?_
            refine AtL.done ?_
            refine At.condF rfl ?_
            refine At.skip ?_
            refine At.seq ?_
            refine At.region ?_
            refine AtL.move (.inl rfl) rfl rfl ?_
            refine AtL.indexL 3 (Rd.skip 1 h) Tryz.underlying22 tf_sz5 (.inl rfl) rfl rfl rfl rfl (by omega) ?_
            refine AtL.load (v := .int .u8 ((l.getD 3 0).toNat : Int)) tf_flat5 (.inl rfl) rfl rfl (Rd.cell0 (Rd.skip 1 h) (getD_some 0 (by omega)) rfl) ?_
            refine AtL.assign (.inl rfl) rfl rfl ?_
            refine AtL.done ?_
            refine At.seq ?_
            refine At.seq ?_
            refine At.region ?_
            refine AtL.move (.inl rfl) rfl rfl ?_
            refine AtL.lss (.inl rfl) rfl rfl rfl ?_
            refine AtL.move (.inl rfl) rfl rfl ?_
            refine AtL.join 3 (E' := [(103, .bool (decide ((((l.getD 3 0).toNat : Int) < 128) ∨ (191 < ((l.getD 3 0).toNat : Int))))), (5, .int .u8 ((l.getD 0 0).toNat : Int)), (10, .int .u8 ((l.getD 1 0).toNat : Int)), (11, .int .u8 ((l.getD 2 0).toNat : Int)), (12, .int .u8 ((l.getD 3 0).toNat : Int))]) (H' := [(b1, .cells #[.int .u8 128, .int .u8 143] 252 (0, 0))] :: H) (fun J => ?_) ?_
            · refine AtL.split (t := 100) rfl ?_ ?_
              · intro hs100
                have hs100 : ((l.getD 3 0).toNat : Int) < 128 := of_decide_eq_true hs100
                refine AtL.skipped rfl rfl rfl rfl rfl rfl ?_
                refine AtL.skipped rfl rfl rfl rfl rfl rfl ?_
                refine AtL.pickT (.inl rfl) rfl rfl rfl ?_
                exact J _ (by exact ⟨(boolIs (by clear J; first | (simp [hs100]; done) | (simp_all; done) | grind)), rfl, rfl, rfl, rfl, trivial⟩)
              · intro hs100
                have hs100 : ¬ (((l.getD 3 0).toNat : Int) < 128) := of_decide_eq_false hs100
                refine AtL.move (.inr ⟨_, _, _, rfl, rfl, rfl, rfl⟩) rfl rfl ?_
                refine AtL.lss (.inr ⟨_, _, _, rfl, rfl, rfl, rfl⟩) rfl rfl rfl ?_
                refine AtL.pickF (.inl rfl) rfl rfl rfl ?_
                exact J _ (by exact ⟨(boolIs (by clear J; first | (simp [hs100]; done) | (simp_all; done) | grind)), rfl, rfl, rfl, rfl, trivial⟩)
            · skip
              refine AtL.done ?_
              refine At.cond rfl ?_ ?_
              · intro hc8
                have hc8 : (((l.getD 3 0).toNat : Int) < 128) ∨ (191 < ((l.getD 3 0).toNat : Int)) := of_decide_eq_true hc8
                refine At.seq ?_
                refine At.region ?_
                refine AtL.assign (.inl rfl) rfl rfl ?_
                refine AtL.assign (.inl rfl) rfl rfl ?_
                refine AtL.done ?_
                refine At.pick (H' := H) [] 1 rfl rfl ?_
                exact At.ret Tryz.func225 rfl rfl (⟨_, 1, rfl, ⟨by omega, by omega, fun i h1 h2 => by omega, .inl rfl⟩, rfl⟩)
              · intro hc8
                have hc8 : ¬ ((((l.getD 3 0).toNat : Int) < 128) ∨ (191 < ((l.getD 3 0).toNat : Int))) := of_decide_eq_false hc8
                refine At.skip ?_
                refine At.seq ?_
                refine At.region ?_
                refine AtL.move (.inl rfl) rfl rfl ?_
                refine AtL.band (z := ((l.getD 0 0).toNat : Int) % 8) (.inl rfl) rfl rfl rfl (and8 3 (by decide) (by omega) (by omega)) ?_
                refine AtL.convInt (z := ((l.getD 0 0).toNat : Int) % 8) Tryz.underlying5 Tryz.underlying21 (.inl rfl) rfl rfl (w32i (by omega) (by omega)) ?_
                refine AtL.shl (z := (((l.getD 0 0).toNat : Int) % 8) * 262144) (.inl rfl) rfl rfl rfl (by omega) (shl_eq32 _ _ 18 rfl (by decide) _ (by decide) (by omega) (by omega)) ?_
                refine AtL.move (.inl rfl) rfl rfl ?_
                refine AtL.band (z := ((l.getD 1 0).toNat : Int) % 64) (.inl rfl) rfl rfl rfl (and8 6 (by decide) (by omega) (by omega)) ?_
                refine AtL.convInt (z := ((l.getD 1 0).toNat : Int) % 64) Tryz.underlying5 Tryz.underlying21 (.inl rfl) rfl rfl (w32i (by omega) (by omega)) ?_
                refine AtL.shl (z := (((l.getD 1 0).toNat : Int) % 64) * 4096) (.inl rfl) rfl rfl rfl (by omega) (shl_eq32 _ _ 12 rfl (by decide) _ (by decide) (by omega) (by omega)) ?_
                obtain ⟨z2, hz2, hz2a, hz2b, hz2c⟩ := or32 (a := (((l.getD 0 0).toNat : Int) % 8) * 262144) (b := (((l.getD 1 0).toNat : Int) % 64) * 4096) 31 (by decide) (by omega) (by omega) (by omega) (by omega)
                refine AtL.bor (z := z2) (.inl rfl) rfl rfl rfl hz2 ?_
                refine AtL.move (.inl rfl) rfl rfl ?_
                refine AtL.band (z := ((l.getD 2 0).toNat : Int) % 64) (.inl rfl) rfl rfl rfl (and8 6 (by decide) (by omega) (by omega)) ?_
                refine AtL.convInt (z := ((l.getD 2 0).toNat : Int) % 64) Tryz.underlying5 Tryz.underlying21 (.inl rfl) rfl rfl (w32i (by omega) (by omega)) ?_
                refine AtL.shl (z := (((l.getD 2 0).toNat : Int) % 64) * 64) (.inl rfl) rfl rfl rfl (by omega) (shl_eq32 _ _ 6 rfl (by decide) _ (by decide) (by omega) (by omega)) ?_
                obtain ⟨z3, hz3, hz3a, hz3b, hz3c⟩ := or32 (a := z2) (b := (((l.getD 2 0).toNat : Int) % 64) * 64) 31 (by decide) (by omega) (by omega) (by omega) (by omega)
                refine AtL.bor (z := z3) (.inl rfl) rfl rfl rfl hz3 ?_
                refine AtL.move (.inl rfl) rfl rfl ?_
                refine AtL.band (z := ((l.getD 3 0).toNat : Int) % 64) (.inl rfl) rfl rfl rfl (and8 6 (by decide) (by omega) (by omega)) ?_
                refine AtL.convInt (z := ((l.getD 3 0).toNat : Int) % 64) Tryz.underlying5 Tryz.underlying21 (.inl rfl) rfl rfl (w32i (by omega) (by omega)) ?_
                obtain ⟨z4, hz4, hz4a, hz4b, hz4c⟩ := or32 (a := z3) (b := ((l.getD 3 0).toNat : Int) % 64) 31 (by decide) (by omega) (by omega) (by omega) (by omega)
                refine AtL.bor (z := z4) (.inl rfl) rfl rfl rfl hz4 ?_
                refine AtL.assign (.inl rfl) rfl rfl ?_
                refine AtL.assign (.inl rfl) rfl rfl ?_
                refine AtL.done ?_
                refine At.pick (H' := H) [] 1 rfl rfl ?_
                exact At.ret Tryz.func225 rfl rfl (⟨_, 4, rfl, ⟨by omega, by omega, fun i h1 h2 => (by rcases (show i = 1 ∨ i = 2 ∨ i = 3 by omega) with rfl | rfl | rfl <;> omega), .inr (.inr (.inr ⟨rfl, by omega, by omega⟩))⟩, rfl⟩)
theorem first_caseF : ∀ q : Fin 256, 128 ≤ q.val → Lib.firstT q.val = 241 ∨ (Lib.firstT q.val = 2 ∧ 194 ≤ q.val ∧ q.val < 224) ∨ (Lib.firstT q.val = 19 ∧ q.val = 224) ∨ (Lib.firstT q.val = 3 ∧ 225 ≤ q.val ∧ q.val < 240) ∨ (Lib.firstT q.val = 35 ∧ q.val = 237) ∨ (Lib.firstT q.val = 52 ∧ q.val = 240) ∨ (Lib.firstT q.val = 4 ∧ 241 ≤ q.val ∧ q.val < 244) ∨ (Lib.firstT q.val = 68 ∧ q.val = 244) := by
  decide +kernel
theorem first_case (b : Nat) (h : b < 256) (h128 : 128 ≤ b) : Lib.firstT b = 241 ∨ (Lib.firstT b = 2 ∧ 194 ≤ b ∧ b < 224) ∨ (Lib.firstT b = 19 ∧ b = 224) ∨ (Lib.firstT b = 3 ∧ 225 ≤ b ∧ b < 240) ∨ (Lib.firstT b = 35 ∧ b = 237) ∨ (Lib.firstT b = 52 ∧ b = 240) ∨ (Lib.firstT b = 4 ∧ 241 ≤ b ∧ b < 244) ∨ (Lib.firstT b = 68 ∧ b = 244) := first_caseF ⟨b, h⟩ h128
theorem slow_ok {w0 : World} {base : Nat} {H : List Seg} {A : Option Addr} {C : Nat} {l : List UInt8} (h : Rd tyB w0 base H A C l) (T : Tabs w0 base) (hl : l ≠ []) (h128 : 128 ≤ (l.getD 0 0).toNat) :
    SCalls Tryz.prog 225 [.slice A l.length C] w0 base H (fun v H' => ∃ (r : Int) (n : Nat), v = .tuple #[.int .i32 r, int (n : Int)] ∧ decOk l r n ∧ H' = H) := by
  rcases first_case _ (l.getD 0 0).toNat_lt h128 with hx | ⟨hx, hp⟩ | ⟨hx, hp⟩ | ⟨hx, hp⟩ | ⟨hx, hp⟩ | ⟨hx, hp⟩ | ⟨hx, hp⟩ | ⟨hx, hp⟩
  · exact slow_241 h T hl (by rw [hx]; rfl)
  · exact slow_2 h T hl (by rw [hx]; rfl) hp
  · exact slow_19 h T hl (by rw [hx]; rfl) hp
  · exact slow_3 h T hl (by rw [hx]; rfl) hp
  · exact slow_35 h T hl (by rw [hx]; rfl) hp
  · exact slow_52 h T hl (by rw [hx]; rfl) hp
  · exact slow_4 h T hl (by rw [hx]; rfl) hp
  · exact slow_68 h T hl (by rw [hx]; rfl) hp
set_option maxHeartbeats 400000 in
theorem decode_ok {w0 : World} {base : Nat} {H : List Seg} {A : Option Addr} {C : Nat} {l : List UInt8} (h : Rd tyB w0 base H A C l) (T : Tabs w0 base) (hl : l ≠ []) (h128 : 128 ≤ (l.getD 0 0).toNat) :
    SCalls Tryz.prog 212 [.slice A l.length C] w0 base (H) (fun v H' => ∃ (r : Int) (n : Nat), v = .tuple #[.int .i32 r, int (n : Int)] ∧ decOk l r n ∧ H' = H) := by
  have hpos := List.length_pos_iff.2 hl
  have hcap := h.cap
  have hle := h.le
  refine SCalls.of_walk (n := 22) Tryz.func212 rfl rfl rfl fun cs => ?_
  refine At.seq ?_
  refine At.region ?_
  refine AtL.assign (.inl rfl) rfl rfl ?_
  refine AtL.assign (.inl rfl) rfl rfl ?_
  refine AtL.done ?_
  refine At.seq ?_
  refine At.seq ?_
  refine At.region ?_
  refine AtL.move (.inl rfl) rfl rfl ?_
  refine AtL.lenL Tryz.underlying22 (.inl rfl) rfl rfl ?_
  refine AtL.move (.inl rfl) rfl rfl ?_
  refine AtL.done ?_
  refine At.block ?_
  refine At.unroll ?_
  refine At.seq ?_
  refine At.region ?_
  refine AtL.lss (.inl rfl) rfl rfl rfl ?_
  refine AtL.done ?_
  refine At.seq ?_
  refine At.condIs true rfl (decide_eq_true (by omega)) ?_
  refine At.skip ?_
  refine At.seq ?_
  refine At.block ?_
  refine At.seq ?_
  refine At.region ?_
  refine AtL.indexL 0 h Tryz.underlying22 tf_sz5 (.inl rfl) rfl rfl rfl rfl (by omega) ?_
  refine AtL.load (v := .int .u8 ((l.getD 0 0).toNat : Int)) tf_flat5 (.inl rfl) rfl rfl (Rd.cell0 h (getD_some 0 (by omega)) rfl) ?_
  refine AtL.assign (.inl rfl) rfl rfl ?_
  refine AtL.done ?_
  refine At.seq ?_
  refine At.seq ?_
  refine At.region ?_
  refine AtL.move (.inl rfl) rfl rfl ?_
  refine AtL.lss (.inl rfl) rfl rfl rfl ?_
  refine AtL.done ?_
  refine At.condIs false rfl (decide_eq_false (by omega)) ?_
  refine At.skip ?_
  refine At.exit rfl ?_
  refine At.seq ?_
  refine At.region ?_
  refine AtL.move (.inl rfl) rfl rfl ?_
  refine AtL.call tf_body225 (.inl rfl) rfl rfl (slow_ok (l := l) h T hl h128) ?_
  rintro _ _ ⟨r1, n2, rfl, hd3, hHq⟩
  obtain rfl := hHq.symm
  refine AtL.move (.inl rfl) rfl rfl ?_
  refine AtL.extract (.inl rfl) rfl rfl rfl ?_
  refine AtL.extract (.inl rfl) rfl rfl rfl ?_
  refine AtL.assign (.inl rfl) rfl rfl ?_
  refine AtL.assign (.inl rfl) rfl rfl ?_
  refine AtL.done ?_
  exact At.ret Tryz.func212 rfl rfl (⟨_, _, rfl, hd3, rfl⟩)
def ncr (c : UInt8) : Bool := !crlf c
theorem ncr_128 {c : UInt8} (h : 128 ≤ c.toNat) : ncr c = true := by
  have h1 : ¬ c = 13 := by rintro rfl; exact absurd h (by decide)
  have h2 : ¬ c = 10 := by rintro rfl; exact absurd h (by decide)
  simp [ncr, crlf, h1, h2]
theorem any_ncr (l : List UInt8) : l.any crlf = !l.all ncr := by
  have : ncr = fun c => !crlf c := rfl
  rw [this]
  induction l with
  | nil => rfl
  | cons c l ih => simp [ih, Bool.not_and]
def two (c : UInt8) : Int := Lib.indexByte [13, 10] c
theorem two_neg (c : UInt8) : decide (0 ≤ two c) = crlf c := by
  unfold two
  rw [Bool.eq_iff_iff]
  simp only [Lib.indexByte, crlf, decide_eq_true_eq, Bool.or_eq_true]
  by_cases h1 : c = 13
  · subst h1; simp
  · by_cases h2 : c = 10
    · subst h2; decide
    · have h3 : ¬ ((13 : UInt8) == c) = true := by simpa using fun h : (13 : UInt8) = c => h1 h.symm
      have h4 : ¬ ((10 : UInt8) == c) = true := by simpa using fun h : (10 : UInt8) = c => h2 h.symm
      simp [h1, h2, h3, h4]
theorem take_more {l : List UInt8} {i n : Nat} (h : i + n ≤ l.length) (ha : (l.take i).all ncr = true) (hn : ∀ j, j < n → ncr (l.getD (i + j) 0) = true) : (l.take (i + n)).all ncr = true := by
  induction n with
  | zero => exact ha
  | succ n ih => exact all_step (k := i + n) (by omega) (ih (by omega) (fun j hj => hn j (by omega))) (hn n (by omega))
theorem take_dec {l : List UInt8} {k n : Nat} (hk : k < l.length) (h0 : 128 ≤ (l.getD k 0).toNat) (hb : n ≤ (subl l k l.length).length) (hc : ∀ i, 1 ≤ i → i < n → 128 ≤ ((subl l k l.length).getD i 0).toNat) (ha : (l.take k).all ncr = true) : (l.take (k + n)).all ncr = true := by
  have hl := subl_len (l := l) (i := k) (j := l.length) (Nat.le_refl _)
  refine take_more (by omega) ha fun j hj => ?_
  rcases Nat.eq_zero_or_pos j with h | h
  · subst h; exact ncr_128 h0
  · have := hc j h hj
    rw [subl_gets (by omega)] at this
    exact ncr_128 this
theorem letA_two : ((List.replicate 256 false).set 13 true).set 10 true = letA [13, 10] := by decide +kernel
theorem two_crlf (c : UInt8) : (letA [13, 10]).getD c.toNat false = crlf c := by
  rw [letA_get]
  simp [crlf]
set_option maxHeartbeats 400000 in
theorem useset_ok {w0 : World} {base : Nat} {H : List Seg} (n : Int) :
    SCalls Tryz.prog 209 [.int .i64 n] w0 base (H) (fun v H' => v = .bool (decide (8 < n)) ∧ H' = H) := by
  refine SCalls.of_walk (n := 5) Tryz.func209 rfl rfl rfl fun cs => ?_
  refine At.seq ?_
  refine At.region ?_
  refine AtL.assign (.inl rfl) rfl rfl ?_
  refine AtL.done ?_
  refine At.seq ?_
  refine At.region ?_
  refine AtL.move (.inl rfl) rfl rfl ?_
  refine AtL.gtr (.inl rfl) rfl rfl rfl ?_
  refine AtL.assign (.inl rfl) rfl rfl ?_
  refine AtL.done ?_
  exact At.ret Tryz.func209 rfl rfl (⟨rfl, rfl⟩)
set_option maxHeartbeats 400000 in
theorem makeset_ok {w0 : World} {base : Nat} {H : List Seg}  :
    SCalls Tryz.prog 210 [str ([13, 10] : List UInt8)] w0 base (H) (fun v H' => v = .tuple #[.agg (tyBool.cells (letA [13, 10])).toArray, .bool true] ∧ H' = H) := by
  have h2l : ([13, 10] : List UInt8).length = 2 := rfl
  refine SCalls.of_walk (n := 21) Tryz.func210 rfl rfl rfl fun cs => ?_
  refine At.seq ?_
  refine At.region ?_
  refine AtL.allocArr tyBool (l := List.replicate 256 false) tf_zero245 tf_zarr245 (by simp) (.inl rfl) rfl ?_
  intro b1 s2 o3
  rw [List.length_replicate] at o3
  refine AtL.assign (.inl rfl) rfl rfl ?_
  refine AtL.done ?_
  refine At.seq ?_
  refine At.seq ?_
  refine At.region ?_
  refine AtL.assign (.inl rfl) rfl rfl ?_
  refine AtL.done ?_
  refine At.block ?_
  refine At.unroll ?_
  refine At.seq ?_
  refine At.seq ?_
  refine At.region ?_
  refine AtL.move (.inl rfl) rfl rfl ?_
  refine AtL.move (.inl rfl) rfl rfl ?_
  refine AtL.lenS (l := ([13, 10] : List UInt8)) Tryz.underlying9 (.inl rfl) rfl rfl ?_
  refine AtL.lss (.inl rfl) rfl rfl rfl ?_
  refine AtL.done ?_
  refine At.condIs true rfl rfl ?_
  refine At.skip ?_
  refine At.seq ?_
  refine At.block ?_
  refine At.seq ?_
  refine At.region ?_
  refine AtL.move (.inl rfl) rfl rfl ?_
  refine AtL.move (.inl rfl) rfl rfl ?_
  refine AtL.indexS (l := ([13, 10] : List UInt8)) 0 rfl (by omega) Tryz.underlying9 (.inl rfl) rfl rfl rfl ?_
  refine AtL.assign (.inl rfl) rfl rfl ?_
  refine AtL.done ?_
  refine At.seq ?_
  refine At.seq ?_
  refine At.region ?_
  refine AtL.move (.inl rfl) rfl rfl ?_
  refine AtL.geq (.inl rfl) rfl rfl rfl ?_
  refine AtL.done ?_
  refine At.condIs false rfl (by decide) ?_
  refine At.skip ?_
  refine At.region ?_
  refine AtL.move (.inl rfl) rfl rfl ?_
  refine AtL.indexArr 13 Tryz.underlying245 tf_sz4 (.inl rfl) rfl rfl rfl (by decide) (by decide) ?_
  refine AtL.setIdx (u := true) 0 13 tf_sz4 rfl o3 (by decide) (.inl rfl) rfl rfl ?_
  intro s4 o5
  refine AtL.done ?_
  refine At.inBlock ?_
  refine At.region ?_
  refine AtL.move (.inl rfl) rfl rfl ?_
  refine AtL.add (z := 1) (.inl rfl) rfl rfl rfl (by decide) ?_
  refine AtL.assign (.inl rfl) rfl rfl ?_
  refine AtL.done ?_
  refine At.again ?_
  refine At.seq ?_
  refine At.seq ?_
  refine At.region ?_
  refine AtL.move (.inl rfl) rfl rfl ?_
  refine AtL.move (.inl rfl) rfl rfl ?_
  refine AtL.lenS (l := ([13, 10] : List UInt8)) Tryz.underlying9 (.inl rfl) rfl rfl ?_
  refine AtL.lss (.inl rfl) rfl rfl rfl ?_
  refine AtL.done ?_
  refine At.condIs true rfl rfl ?_
  refine At.skip ?_
  refine At.seq ?_
  refine At.block ?_
  refine At.seq ?_
  refine At.region ?_
  refine AtL.move (.inl rfl) rfl rfl ?_
  refine AtL.move (.inl rfl) rfl rfl ?_
  refine AtL.indexS (l := ([13, 10] : List UInt8)) 1 rfl (by omega) Tryz.underlying9 (.inl rfl) rfl rfl rfl ?_
  refine AtL.assign (.inl rfl) rfl rfl ?_
  refine AtL.done ?_
  refine At.seq ?_
  refine At.seq ?_
  refine At.region ?_
  refine AtL.move (.inl rfl) rfl rfl ?_
  refine AtL.geq (.inl rfl) rfl rfl rfl ?_
  refine AtL.done ?_
  refine At.condIs false rfl (by decide) ?_
  refine At.skip ?_
  refine At.region ?_
  refine AtL.move (.inl rfl) rfl rfl ?_
  refine AtL.indexArr 10 Tryz.underlying245 tf_sz4 (.inl rfl) rfl rfl rfl (by decide) (by decide) ?_
  refine AtL.setIdx (u := true) 0 10 tf_sz4 rfl o5 (by decide) (.inl rfl) rfl rfl ?_
  intro s6 o7
  refine AtL.done ?_
  refine At.inBlock ?_
  refine At.region ?_
  refine AtL.move (.inl rfl) rfl rfl ?_
  refine AtL.add (z := 2) (.inl rfl) rfl rfl rfl (by decide) ?_
  refine AtL.assign (.inl rfl) rfl rfl ?_
  refine AtL.done ?_
  refine At.again ?_
  refine At.seq ?_
  refine At.seq ?_
  refine At.region ?_
  refine AtL.move (.inl rfl) rfl rfl ?_
  refine AtL.move (.inl rfl) rfl rfl ?_
  refine AtL.lenS (l := ([13, 10] : List UInt8)) Tryz.underlying9 (.inl rfl) rfl rfl ?_
  refine AtL.lss (.inl rfl) rfl rfl rfl ?_
  refine AtL.done ?_
  refine At.condIs false rfl rfl ?_
  refine At.exit rfl ?_
  refine At.seq ?_
  refine At.region ?_
  refine AtL.loadArr (o7.rd (i := 0) rfl) tf_agg245 (by simp [Ty.cells_len, tyBool]) (.inl rfl) rfl rfl ?_
  refine AtL.storeArr (T := tyBool) (l' := ((List.replicate 256 false).set 13 true).set 10 true) 0 tf_sz245 rfl o7 rfl rfl (by simp [Ty.cells_len, tyBool]) (.inl rfl) rfl rfl ?_
  intro s8 o9
  refine AtL.assign (.inl rfl) rfl rfl ?_
  refine AtL.done ?_
  exact At.retMP (vs := [.agg (tyBool.cells (((List.replicate 256 false).set 13 true).set 10 true)).toArray, .bool true]) (H2 := H) [] 1 rfl rfl Tryz.func210 rfl ⟨⟨_, rfl, LoadsTo.arr (o9.rd (i := 0) rfl) tf_agg245 (by simp [Ty.cells_len, tyBool, letA_len])⟩, rfl, trivial⟩ (⟨congrArg (fun l => Value.tuple #[.agg (tyBool.cells l).toArray, .bool true]) letA_two, rfl⟩)
set_option maxHeartbeats 400000 in
theorem inset_ok {w0 : World} {base : Nat} {H : List Seg} {b C : Nat} (h : Rd tyBool w0 base H (some ⟨b, 0, none⟩) C (letA [13, 10])) (c : UInt8) :
    SCalls Tryz.prog 211 [.pointer (some ⟨b, 0, none⟩), .int .u8 (c.toNat : Int)] w0 base (H) (fun v H' => v = .bool (crlf c) ∧ H' = H) := by
  refine SCalls.of_walk (n := 10) Tryz.func211 rfl rfl rfl fun cs => ?_
  refine At.seq ?_
  refine At.region ?_
  refine AtL.assign (.inl rfl) rfl rfl ?_
  refine AtL.done ?_
  refine At.seq ?_
  refine At.region ?_
  refine AtL.move (.inl rfl) rfl rfl ?_
  refine AtL.move (.inl rfl) rfl rfl ?_
  refine AtL.nilCheck (.inl rfl) rfl rfl ?_
  refine AtL.indexArr c.toNat Tryz.underlying245 tf_sz4 (.inl rfl) rfl rfl rfl rfl c.toNat_lt ?_
  refine AtL.load (v := .bool ((letA [13, 10]).getD c.toNat false)) tf_flat4 (.inl rfl) rfl rfl (Rd.cell0 h (getD_some false (by rw [letA_len]; exact c.toNat_lt)) rfl) ?_
  refine AtL.assign (.inl rfl) rfl rfl ?_
  refine AtL.done ?_
  exact At.ret Tryz.func211 rfl rfl (⟨congrArg Value.bool (two_crlf c), rfl⟩)
theorem ibs_run (c : UInt8) (w : World) : (callFunc 193 #[str [13, 10], byt c]).run Tryz.prog w = .ok (.value (int (two c))) w := by
  rw [run_callFunc_extern Tryz.func193 (by kernel_rfl) (by kernel_rfl) (by kernel_rfl) (e := Extern.BytealgIndexByte.indexByte) (by kernel_rfl)]
  have := Lib.run_indexByteString (P := Tryz.prog) ⟨⟨[13, 10]⟩⟩ (c.toNat : Int) w
  simp only [Sem.run_bind, str, byt]
  rw [this]
  have e : ((c.toNat : Int).toNat.toUInt8) = c := by simp
  rw [e]
  rfl
theorem index_two {s : List UInt8} (h : 3 ≤ s.length) : Lib.index [13, 10] s = -1 := by
  have h1 := Lib.index_ge [13, 10] s
  by_cases h2 : 0 ≤ Lib.index [13, 10] s
  · have h3 := Lib.index_room [13, 10] s h2
    simp at h3
    omega
  · omega
theorem ixs_run {w0 : World} {base : Nat} {H : List Seg} {m : Int} (hb : 0 < base) (hm : w0.cell? ⟨0, 0, none⟩ = some (int m)) {s : List UInt8} (h3 : 3 ≤ s.length) (h4 : (s.length : Int) ≤ m) (w : World) (S : Sep w0 base w H) : (callFunc 164 #[str [13, 10], str s]).run Tryz.prog w = .ok (.value (int (-1))) w := by
  rw [run_callFunc_extern Tryz.func164 (by kernel_rfl) (by kernel_rfl) (by kernel_rfl) (e := Extern.BytealgIndex.index) (by kernel_rfl)]
  have := Lib.run_indexString (P := Tryz.prog) ⟨⟨[13, 10]⟩⟩ ⟨⟨s⟩⟩ w 0 m (by kernel_rfl) (S.cellBelow hb hm) (by rw [str_size]; omega) (by rw [str_size]; omega) (by decide)
  simp only [str]
  rw [this, index_two h3]
  rfl
theorem any_no {l : List UInt8} (h : l.all ncr = true) : decide (0 ≤ (-1 : Int)) = l.any crlf := by rw [any_ncr, h]; rfl
theorem any_yes {l : List UInt8} {k : Nat} (hk : k < l.length) (h : crlf (l.getD k 0) = true) {z : Int} (hz : 0 ≤ z) : decide (0 ≤ z) = l.any crlf := by
  rw [any_ncr, all_bad hk (by rw [ncr, h]; rfl), decide_eq_true hz]; rfl
theorem ncr_two {c : UInt8} (h : ¬ 0 ≤ two c) : ncr c = true := by
  have := two_neg c
  rw [decide_eq_false h] at this
  rw [ncr, ← this]; rfl
theorem crlf_two {c : UInt8} (h : 0 ≤ two c) : crlf c = true := by
  have := two_neg c
  rw [decide_eq_true h] at this
  exact this.symm
set_option maxHeartbeats 400000 in
theorem indexany_ok {w0 : World} {base : Nat} {H : List Seg} {A : Option Addr} {C : Nat} {l : List UInt8} (h : Rd tyB w0 base H A C l) (T : Tabs w0 base) :
    SCalls Tryz.prog 182 [.slice A l.length C, str [13, 10]] w0 base (H) (fun v H' => ∃ z : Int, v = int z ∧ decide (0 ≤ z) = l.any crlf ∧ H' = H) := by
  have hcap := h.cap
  have hle := h.le
  have h2l : ([13, 10] : List UInt8).length = 2 := rfl
  obtain ⟨m, hm⟩ := T.max
  refine SCalls.of_walk (n := 129) Tryz.func182 rfl rfl rfl fun cs => ?_
  refine At.seq ?_
  refine At.region ?_
  refine AtL.assign (.inl rfl) rfl rfl ?_
  refine AtL.done ?_
  refine At.seq ?_
  refine At.seq ?_
  refine At.region ?_
  refine AtL.move (.inl rfl) rfl rfl ?_
  refine AtL.eqs (a := [13, 10]) (b := []) (.inl rfl) rfl rfl rfl ?_
  refine AtL.done ?_
  refine At.condIs false rfl (by decide) ?_
  refine At.skip ?_
  refine At.seq ?_
  refine At.seq ?_
  refine At.region ?_
  refine AtL.move (.inl rfl) rfl rfl ?_
  refine AtL.lenL Tryz.underlying22 (.inl rfl) rfl rfl ?_
  refine AtL.eqi (.inl rfl) rfl rfl rfl ?_
  refine AtL.done ?_
  refine At.cond rfl ?_ ?_
  · intro hc2
    have hc2 : (l.length : Int) = 1 := of_decide_eq_true hc2
    refine At.seq ?_
    refine At.region ?_
    refine AtL.move (.inl rfl) rfl rfl ?_
    refine AtL.indexL 0 h Tryz.underlying22 tf_sz5 (.inl rfl) rfl rfl rfl rfl (by omega) ?_
    refine AtL.load (v := .int .u8 ((l.getD 0 0).toNat : Int)) tf_flat5 (.inl rfl) rfl rfl (Rd.cell0 h (getD_some 0 (by omega)) rfl) ?_
    have hB1 := u8_le ((l.getD 0 0))
    refine AtL.convInt (z := ((l.getD 0 0).toNat : Int)) Tryz.underlying5 Tryz.underlying21 (.inl rfl) rfl rfl (w32i (by omega) (by omega)) ?_
    refine AtL.assign (.inl rfl) rfl rfl ?_
    refine AtL.done ?_
    refine At.seq ?_
    refine At.seq ?_
    refine At.region ?_
    refine AtL.move (.inl rfl) rfl rfl ?_
    refine AtL.geq (.inl rfl) rfl rfl rfl ?_
    refine AtL.done ?_
    refine At.cond rfl ?_ ?_
    · intro hc3
      have hc3 : 128 ≤ ((l.getD 0 0).toNat : Int) := of_decide_eq_true hc3
      refine At.seq ?_
      refine At.seq ?_
      refine At.region ?_
      refine AtL.move (.inl rfl) rfl rfl ?_
      refine AtL.rangeS Tryz.underlying9 (.inl rfl) rfl rfl ?_
      intro b2
      refine AtL.done ?_
      refine At.block ?_
      refine At.unroll ?_
      refine At.seq ?_
      refine At.region ?_
      refine AtL.nextS (p := 0) (n := 1) (c := 13) (l := [13, 10]) (H' := [(b2, .stringIter ⟨⟨[13, 10]⟩⟩ 1)] :: H) 0 0 (.inl rfl) rfl rfl rfl rfl rfl (by decide) rfl ?_
      refine AtL.extract (.inl rfl) rfl rfl rfl ?_
      refine AtL.done ?_
      refine At.seq ?_
      refine At.condT rfl ?_
      refine At.skip ?_
      refine At.block ?_
      refine At.seq ?_
      refine At.region ?_
      refine AtL.extract (.inl rfl) rfl rfl rfl ?_
      refine AtL.assign (.inl rfl) rfl rfl ?_
      refine AtL.done ?_
      refine At.seq ?_
      refine At.region ?_
      refine AtL.move (.inl rfl) rfl rfl ?_
      refine AtL.eqi (.inl rfl) rfl rfl rfl ?_
      refine AtL.done ?_
      refine At.condF rfl ?_
      refine At.skip ?_
      refine At.inBlock ?_
      refine At.again ?_
      refine At.seq ?_
      refine At.region ?_
      refine AtL.nextS (p := 1) (n := 1) (c := 10) (l := [13, 10]) (H' := [(b2, .stringIter ⟨⟨[13, 10]⟩⟩ 2)] :: H) 0 0 (.inl rfl) rfl rfl rfl rfl rfl (by decide) rfl ?_
      refine AtL.extract (.inl rfl) rfl rfl rfl ?_
      refine AtL.done ?_
      refine At.seq ?_
      refine At.condT rfl ?_
      refine At.skip ?_
      refine At.block ?_
      refine At.seq ?_
      refine At.region ?_
      refine AtL.extract (.inl rfl) rfl rfl rfl ?_
      refine AtL.assign (.inl rfl) rfl rfl ?_
      refine AtL.done ?_
      refine At.seq ?_
      refine At.region ?_
      refine AtL.move (.inl rfl) rfl rfl ?_
      refine AtL.eqi (.inl rfl) rfl rfl rfl ?_
      refine AtL.done ?_
      refine At.condF rfl ?_
      refine At.skip ?_
      refine At.inBlock ?_
      refine At.again ?_
      refine At.seq ?_
      refine At.region ?_
      refine AtL.nextOver (p := 2) (l := [13, 10]) 0 0 (.inl rfl) rfl rfl rfl rfl rfl ?_
      refine AtL.extract (.inl rfl) rfl rfl rfl ?_
      refine AtL.done ?_
      refine At.seq ?_
      refine At.condF rfl ?_
      refine At.exit rfl ?_
      refine At.seq ?_
      refine At.region ?_
      refine AtL.assign (.inl rfl) rfl rfl ?_
      refine AtL.done ?_
      refine At.pick (H' := H) [] 1 rfl rfl ?_
      exact At.ret Tryz.func182 rfl rfl (⟨_, rfl, any_no (all_end (k := 1) (by omega) (all_step (k := 0) (by omega) rfl (ncr_128 (by omega)))), rfl⟩)
    · intro hc3
      have hc3 : ¬ (128 ≤ ((l.getD 0 0).toNat : Int)) := of_decide_eq_false hc3
      refine At.skip ?_
      refine At.seq ?_
      refine At.seq ?_
      refine At.region ?_
      refine AtL.move (.inl rfl) rfl rfl ?_
      refine AtL.move (.inl rfl) rfl rfl ?_
      refine AtL.indexL 0 h Tryz.underlying22 tf_sz5 (.inl rfl) rfl rfl rfl rfl (by omega) ?_
      refine AtL.load (v := .int .u8 ((l.getD 0 0).toNat : Int)) tf_flat5 (.inl rfl) rfl rfl (Rd.cell0 h (getD_some 0 (by omega)) rfl) ?_
      refine AtL.callX (v := .int .i64 (two (l.getD 0 0))) (fun w S => ibs_run _ w) (.inl rfl) rfl rfl ?_
      refine AtL.geq (.inl rfl) rfl rfl rfl ?_
      refine AtL.done ?_
      refine At.cond rfl ?_ ?_
      · intro hc6
        have hc6 : 0 ≤ (two (l.getD 0 0) : Int) := of_decide_eq_true hc6
        refine At.seq ?_
        refine At.region ?_
        refine AtL.assign (.inl rfl) rfl rfl ?_
        refine AtL.done ?_
        exact At.ret Tryz.func182 rfl rfl (⟨_, rfl, any_yes (k := 0) (by omega) (crlf_two hc6) (by omega), rfl⟩)
      · intro hc6
        have hc6 : ¬ (0 ≤ (two (l.getD 0 0) : Int)) := of_decide_eq_false hc6
        refine At.skip ?_
        refine At.seq ?_
        refine At.region ?_
        refine AtL.assign (.inl rfl) rfl rfl ?_
        refine AtL.done ?_
        exact At.ret Tryz.func182 rfl rfl (⟨_, rfl, any_no (all_end (k := 1) (by omega) (all_step (k := 0) (by omega) rfl (ncr_two hc6))), rfl⟩)
  · intro hc2
    have hc2 : ¬ ((l.length : Int) = 1) := of_decide_eq_false hc2
    refine At.skip ?_
    refine At.seq ?_
    refine At.seq ?_
    refine At.region ?_
    refine AtL.move (.inl rfl) rfl rfl ?_
    refine AtL.lenS (l := [13, 10]) Tryz.underlying9 (.inl rfl) rfl rfl ?_
    refine AtL.eqi (.inl rfl) rfl rfl rfl ?_
    refine AtL.done ?_
    refine At.condIs false rfl (by decide) ?_
    refine At.skip ?_
    refine At.seq ?_
    refine At.seq ?_
    refine At.region ?_
    refine AtL.move (.inl rfl) rfl rfl ?_
    refine AtL.lenL Tryz.underlying22 (.inl rfl) rfl rfl ?_
    refine AtL.call tf_body209 (.inl rfl) rfl rfl (useset_ok (l.length : Int)) ?_
    rintro _ _ ⟨rfl, hHq⟩
    obtain rfl := hHq.symm
    refine AtL.done ?_
    refine At.cond rfl ?_ ?_
    · intro hc9
      have hc9 : 8 < (l.length : Int) := of_decide_eq_true hc9
      refine At.seq ?_
      refine At.region ?_
      refine AtL.move (.inl rfl) rfl rfl ?_
      refine AtL.call tf_body210 (.inl rfl) rfl rfl makeset_ok ?_
      rintro _ _ ⟨rfl, hHq⟩
      obtain rfl := hHq.symm
      refine AtL.move (.inl rfl) rfl rfl ?_
      refine AtL.extract (.inl rfl) rfl rfl rfl ?_
      refine AtL.extract (.inl rfl) rfl rfl rfl ?_
      refine AtL.allocArr tyBool (l := List.replicate 256 false) tf_zero245 tf_zarr245 (by simp) (.inl rfl) rfl ?_
      intro b3 s4 o5
      rw [List.length_replicate] at o5
      refine AtL.storeArr (T := tyBool) (l' := letA [13, 10]) 0 tf_sz245 rfl o5 (by simp [letA_len]) rfl (by simp [Ty.cells_len, tyBool, letA_len]) (.inl rfl) rfl rfl ?_
      intro s6 o7
      refine AtL.assign (.inl rfl) rfl rfl ?_
      refine AtL.done ?_
      refine At.seq ?_
      refine At.region ?_
      refine AtL.move (.inl rfl) rfl rfl ?_
      refine AtL.done ?_
      refine At.condT rfl ?_
      refine At.seq ?_
      refine At.seq ?_
      refine At.region ?_
      refine AtL.move (.inl rfl) rfl rfl ?_
      refine AtL.lenL Tryz.underlying22 (.inl rfl) rfl rfl ?_
      refine AtL.move (.inl rfl) rfl rfl ?_
      refine AtL.done ?_
      refine At.block ?_
      refine At.loop (fun (k : Nat) => [(7, .pointer (some ⟨b3, 0, none⟩)), (60, .slice A l.length C), (61, .int .i64 (l.length : Int)), (62, .int .i64 (k : Int))]) (fun (k : Nat) => s6 :: H) (fun (k : Nat) => k ≤ l.length ∧ (l.take k).all ncr = true) (fun (k : Nat) => l.length - k) 0 (⟨Nat.zero_le _, rfl⟩) ⟨rfl, rfl, rfl, rfl, trivial⟩ rfl ?_
      rintro k ⟨hk, ha⟩ ihL2
      refine At.seq ?_
      refine At.region ?_
      refine AtL.lss (.inl rfl) rfl rfl rfl ?_
      refine AtL.done ?_
      refine At.seq ?_
      refine At.cond rfl ?_ ?_
      · intro hc11
        have hc11 : (k : Int) < (l.length : Int) := of_decide_eq_true hc11
        refine At.skip ?_
        refine At.seq ?_
        refine At.block ?_
        refine At.seq ?_
        refine At.region ?_
        refine AtL.move (.inl rfl) rfl rfl ?_
        refine AtL.indexL k (Rd.skip 1 h) Tryz.underlying22 tf_sz5 (.inl rfl) rfl rfl rfl rfl (by omega) ?_
        refine AtL.load (v := .int .u8 ((l.getD k 0).toNat : Int)) tf_flat5 (.inl rfl) rfl rfl (Rd.cell0 (Rd.skip 1 h) (getD_some 0 (by omega)) rfl) ?_
        refine AtL.assign (.inl rfl) rfl rfl ?_
        refine AtL.assign (.inl rfl) rfl rfl ?_
        refine AtL.done ?_
        refine At.seq ?_
        refine At.region ?_
        refine AtL.move (.inl rfl) rfl rfl ?_
        refine AtL.call tf_body211 (.inl rfl) rfl rfl (inset_ok (o7.rd (i := 0) rfl) (l.getD k 0)) ?_
        rintro _ _ ⟨rfl, rfl⟩
        refine AtL.done ?_
        refine At.cond rfl ?_ ?_
        · intro hc12
          have hc12 : (crlf (l.getD k 0)) = true := hc12
          refine At.seq ?_
          refine At.region ?_
          refine AtL.move (.inl rfl) rfl rfl ?_
          refine AtL.assign (.inl rfl) rfl rfl ?_
          refine AtL.done ?_
          refine At.pick (H' := H) [] 1 rfl rfl ?_
          exact At.ret Tryz.func182 rfl rfl (⟨_, rfl, any_yes (k := k) (by omega) hc12 (by omega), rfl⟩)
        · intro hc12
          have hc12 : (crlf (l.getD k 0)) = false := hc12
          refine At.skip ?_
          refine At.inBlock ?_
          refine At.region ?_
          refine AtL.add (z := (k : Int) + 1) (.inl rfl) rfl rfl rfl (w64 (by omega) (by omega)) ?_
          refine AtL.move (.inl rfl) rfl rfl ?_
          refine AtL.done ?_
          refine ihL2 (k + 1) (⟨by omega, all_step (by omega) ha (by rw [ncr, hc12]; rfl)⟩) (by omega) _ ?_
          exact ⟨rfl, rfl, rfl, (by first | rfl | exact slLen (by simp []) | exact intEq (by omega) | exact intEq (by simp []) | exact slLen (by simp []; omega)), trivial⟩
      · intro hc11
        have hc11 : ¬ ((k : Int) < (l.length : Int)) := of_decide_eq_false hc11
        refine At.exit rfl ?_
        refine At.seq ?_
        refine At.region ?_
        refine AtL.assign (.inl rfl) rfl rfl ?_
        refine AtL.done ?_
        refine At.pick (H' := H) [] 1 rfl rfl ?_
        exact At.ret Tryz.func182 rfl rfl (⟨_, rfl, any_no (all_end (k := k) (by omega) ha), rfl⟩)
    · intro hc9
      have hc9 : ¬ (8 < (l.length : Int)) := of_decide_eq_false hc9
      refine At.skip ?_
      refine At.seq ?_
      refine At.region ?_
      refine AtL.assign (.inl rfl) rfl rfl ?_
      refine AtL.done ?_
      refine At.seq ?_
      refine At.seq ?_
      refine At.region ?_
      refine AtL.assign (.inl rfl) rfl rfl ?_
      refine AtL.done ?_
      refine At.block ?_
      refine At.loop (fun (k : Nat) => [(0, .slice A l.length C), (1, str [13, 10]), (12, .int .i64 (k : Int))]) (fun (k : Nat) => H) (fun (k : Nat) => k ≤ l.length ∧ (l.take k).all ncr = true) (fun (k : Nat) => l.length - k) 0 (⟨Nat.zero_le _, rfl⟩) ⟨rfl, rfl, rfl, trivial⟩ rfl ?_
      rintro k ⟨hk, ha⟩ ihL3
      refine At.seq ?_
      refine At.seq ?_
      refine At.region ?_
      refine AtL.move (.inl rfl) rfl rfl ?_
      refine AtL.move (.inl rfl) rfl rfl ?_
      refine AtL.lenL Tryz.underlying22 (.inl rfl) rfl rfl ?_
      refine AtL.lss (.inl rfl) rfl rfl rfl ?_
      refine AtL.done ?_
      refine At.cond rfl ?_ ?_
      · intro hc13
        have hc13 : (k : Int) < (l.length : Int) := of_decide_eq_true hc13
        refine At.skip ?_
        refine At.seq ?_
        refine At.block ?_
        refine At.seq ?_
        refine At.region ?_
        refine AtL.move (.inl rfl) rfl rfl ?_
        refine AtL.move (.inl rfl) rfl rfl ?_
        refine AtL.indexL k h Tryz.underlying22 tf_sz5 (.inl rfl) rfl rfl rfl rfl (by omega) ?_
        refine AtL.load (v := .int .u8 ((l.getD k 0).toNat : Int)) tf_flat5 (.inl rfl) rfl rfl (Rd.cell0 h (getD_some 0 (by omega)) rfl) ?_
        have hB8 := u8_le ((l.getD k 0))
        refine AtL.convInt (z := ((l.getD k 0).toNat : Int)) Tryz.underlying5 Tryz.underlying21 (.inl rfl) rfl rfl (w32i (by omega) (by omega)) ?_
        refine AtL.assign (.inl rfl) rfl rfl ?_
        refine AtL.done ?_
        refine At.seq ?_
        refine At.seq ?_
        refine At.region ?_
        refine AtL.move (.inl rfl) rfl rfl ?_
        refine AtL.lss (.inl rfl) rfl rfl rfl ?_
        refine AtL.done ?_
        refine At.cond rfl ?_ ?_
        · intro hc14
          have hc14 : ((l.getD k 0).toNat : Int) < 128 := of_decide_eq_true hc14
          refine At.seq ?_
          refine At.seq ?_
          refine At.region ?_
          refine AtL.move (.inl rfl) rfl rfl ?_
          refine AtL.move (.inl rfl) rfl rfl ?_
          refine AtL.move (.inl rfl) rfl rfl ?_
          refine AtL.indexL k h Tryz.underlying22 tf_sz5 (.inl rfl) rfl rfl rfl rfl (by omega) ?_
          refine AtL.load (v := .int .u8 ((l.getD k 0).toNat : Int)) tf_flat5 (.inl rfl) rfl rfl (Rd.cell0 h (getD_some 0 (by omega)) rfl) ?_
          refine AtL.callX (v := .int .i64 (two (l.getD k 0))) (fun w S => ibs_run _ w) (.inl rfl) rfl rfl ?_
          refine AtL.geq (.inl rfl) rfl rfl rfl ?_
          refine AtL.done ?_
          refine At.cond rfl ?_ ?_
          · intro hc15
            have hc15 : 0 ≤ (two (l.getD k 0) : Int) := of_decide_eq_true hc15
            refine At.seq ?_
            refine At.region ?_
            refine AtL.move (.inl rfl) rfl rfl ?_
            refine AtL.assign (.inl rfl) rfl rfl ?_
            refine AtL.done ?_
            exact At.ret Tryz.func182 rfl rfl (⟨_, rfl, any_yes (k := k) (by omega) (crlf_two hc15) (by omega), rfl⟩)
          · intro hc15
            have hc15 : ¬ (0 ≤ (two (l.getD k 0) : Int)) := of_decide_eq_false hc15
            refine At.skip ?_
            refine At.seq ?_
            refine At.region ?_
            refine AtL.assign (.inl rfl) rfl rfl ?_
            refine AtL.done ?_
            refine At.exit rfl ?_
            refine At.region ?_
            refine AtL.move (.inl rfl) rfl rfl ?_
            refine AtL.move (.inl rfl) rfl rfl ?_
            refine AtL.add (z := (k : Int) + 1) (.inl rfl) rfl rfl rfl (w64 (by omega) (by omega)) ?_
            refine AtL.assign (.inl rfl) rfl rfl ?_
            refine AtL.done ?_
            refine ihL3 (k + 1) (⟨by omega, all_step (by omega) ha (ncr_two hc15)⟩) (by omega) _ ?_
            exact ⟨rfl, rfl, (by first | rfl | exact slLen (by simp []) | exact intEq (by omega) | exact intEq (by simp []) | exact slLen (by simp []; omega)), trivial⟩
        · intro hc14
          have hc14 : ¬ (((l.getD k 0).toNat : Int) < 128) := of_decide_eq_false hc14
          refine At.skip ?_
          refine At.seq ?_
          refine At.region ?_
          refine AtL.move (.inl rfl) rfl rfl ?_
          refine AtL.move (.inl rfl) rfl rfl ?_
          have hleo11 := Rd.le h
          refine AtL.sliceR 0 k l.length C h (evBound_some rfl rfl) rfl rfl (by intro h; cases h) (by omega) (by omega) (by omega) (by omega) Tryz.underlying22 tf_sz5 (.inl rfl) rfl rfl ?_
          clear hleo11
          intro A9 C10 (o11 : Rd tyB w0 base H A9 C10 (subl l k l.length))
          have hlo11 : (subl l k l.length).length = l.length - k := subl_len (by omega)
          refine AtL.call tf_body212 (.inl rfl) rfl rfl (decode_ok (l := subl l k l.length) o11 T (fun h => by have := congrArg List.length h; rw [subl_len (Nat.le_refl _)] at this; simp at this; omega) (by rw [subl_gets (by omega), Nat.add_zero]; omega)) ?_
          rintro _ _ ⟨r12, n13, rfl, ⟨hd14a, hd14b, hd14c, hd14d⟩, hHq⟩
          obtain rfl := hHq.symm
          have hdc := hd14c
          have hda := hd14a
          have hdb := hd14b
          refine AtL.move (.inl rfl) rfl rfl ?_
          refine AtL.extract (.inl rfl) rfl rfl rfl ?_
          refine AtL.extract (.inl rfl) rfl rfl rfl ?_
          refine AtL.assign (.inl rfl) rfl rfl ?_
          refine AtL.assign (.inl rfl) rfl rfl ?_
          refine AtL.done ?_
          refine At.seq ?_
          refine At.seq ?_
          refine At.region ?_
          refine AtL.move (.inl rfl) rfl rfl ?_
          refine AtL.nei (.inl rfl) rfl rfl rfl ?_
          refine AtL.done ?_
          refine At.cond rfl ?_ ?_
          · intro hc16
            have hc16 : ¬ ((r12 : Int) = 65533) := of_decide_eq_false (bnot_true hc16)
            refine At.seq ?_
            refine At.seq ?_
            refine At.region ?_
            refine AtL.move (.inl rfl) rfl rfl ?_
            refine AtL.lenS (l := [13, 10]) Tryz.underlying9 (.inl rfl) rfl rfl ?_
            refine AtL.move (.inl rfl) rfl rfl ?_
            refine AtL.eqi (.inl rfl) rfl rfl rfl ?_
            refine AtL.done ?_
            refine At.cond rfl ?_ ?_
            · intro hc17
              have hc17 : ([13, 10].length : Int) = (n13 : Int) := of_decide_eq_true hc17
              refine At.seq ?_
              refine At.seq ?_
              refine At.region ?_
              refine AtL.move (.inl rfl) rfl rfl ?_
              refine AtL.move (.inl rfl) rfl rfl ?_
              refine AtL.convRune Tryz.underlying21 Tryz.underlying9 (.inl rfl) rfl rfl ?_
              refine AtL.eqs (a := [13, 10]) (b := encL r12) (.inl rfl) rfl rfl rfl ?_
              refine AtL.done ?_
              refine At.condIs false rfl (decide_eq_false (fun h => enc_no _ h.symm)) ?_
              refine At.skip ?_
              refine At.exit rfl ?_
              refine At.region ?_
              refine AtL.move (.inl rfl) rfl rfl ?_
              refine AtL.move (.inl rfl) rfl rfl ?_
              refine AtL.add (z := (k : Int) + (n13 : Int)) (.inl rfl) rfl rfl rfl (w64 (by omega) (by omega)) ?_
              refine AtL.assign (.inl rfl) rfl rfl ?_
              refine AtL.done ?_
              refine ihL3 (k + n13) (⟨by omega, take_dec (by omega) (by omega) hdb hdc ha⟩) (by omega) _ ?_
              exact ⟨rfl, rfl, (by first | rfl | exact slLen (by simp []) | exact intEq (by omega) | exact intEq (by simp []) | exact slLen (by simp []; omega)), trivial⟩
            · intro hc17
              have hc17 : ¬ (([13, 10].length : Int) = (n13 : Int)) := of_decide_eq_false hc17
              refine At.skip ?_
              refine At.seq ?_
              refine At.region ?_
              refine AtL.load (v := int m) tf_flat3 (.inl rfl) rfl rfl (Cell.below T.lt0 hm) ?_
              refine AtL.move (.inl rfl) rfl rfl ?_
              refine AtL.geq (.inl rfl) rfl rfl rfl ?_
              refine AtL.done ?_
              refine At.cond rfl ?_ ?_
              · intro hc19
                have hc19 : (n13 : Int) ≤ m := of_decide_eq_true hc19
                refine At.seq ?_
                refine At.seq ?_
                refine At.region ?_
                refine AtL.move (.inl rfl) rfl rfl ?_
                refine AtL.move (.inl rfl) rfl rfl ?_
                refine AtL.convRune Tryz.underlying21 Tryz.underlying9 (.inl rfl) rfl rfl ?_
                have hel : 3 ≤ (encL r12).length ∧ ((encL r12).length : Int) ≤ m := by
                  rcases (show (2048 ≤ r12 ∧ r12 ≤ 65535 ∧ 3 ≤ m) ∨ (2048 ≤ r12 ∧ 4 ≤ m) by omega) with ⟨q1, q2, q3⟩ | ⟨q1, q2⟩
                  · have := enc3 q1 q2; omega
                  · have := enc_long q1; omega
                refine AtL.callX (v := .int .i64 (-1)) (fun w S => ixs_run T.lt0 hm hel.1 hel.2 w S) (.inl rfl) rfl rfl ?_
                refine AtL.geq (.inl rfl) rfl rfl rfl ?_
                refine AtL.done ?_
                refine At.condF rfl ?_
                refine At.skip ?_
                refine At.exit rfl ?_
                refine At.region ?_
                refine AtL.move (.inl rfl) rfl rfl ?_
                refine AtL.move (.inl rfl) rfl rfl ?_
                refine AtL.add (z := (k : Int) + (n13 : Int)) (.inl rfl) rfl rfl rfl (w64 (by omega) (by omega)) ?_
                refine AtL.assign (.inl rfl) rfl rfl ?_
                refine AtL.done ?_
                refine ihL3 (k + n13) (⟨by omega, take_dec (by omega) (by omega) hdb hdc ha⟩) (by omega) _ ?_
                exact ⟨rfl, rfl, (by first | rfl | exact slLen (by simp []) | exact intEq (by omega) | exact intEq (by simp []) | exact slLen (by simp []; omega)), trivial⟩
              · intro hc19
                have hc19 : ¬ ((n13 : Int) ≤ m) := of_decide_eq_false hc19
                refine At.skip ?_
                refine At.seq ?_
                refine At.region ?_
                refine AtL.move (.inl rfl) rfl rfl ?_
                refine AtL.rangeS Tryz.underlying9 (.inl rfl) rfl rfl ?_
                intro b15
                refine AtL.done ?_
                refine At.block ?_
                refine At.unroll ?_
                refine At.seq ?_
                refine At.region ?_
                refine AtL.nextS (p := 0) (n := 1) (c := 13) (l := [13, 10]) (H' := [(b15, .stringIter ⟨⟨[13, 10]⟩⟩ 1)] :: H) 0 0 (.inl rfl) rfl rfl rfl rfl rfl (by decide) rfl ?_
                refine AtL.extract (.inl rfl) rfl rfl rfl ?_
                refine AtL.done ?_
                refine At.seq ?_
                refine At.condT rfl ?_
                refine At.skip ?_
                refine At.block ?_
                refine At.seq ?_
                refine At.region ?_
                refine AtL.extract (.inl rfl) rfl rfl rfl ?_
                refine AtL.assign (.inl rfl) rfl rfl ?_
                refine AtL.done ?_
                refine At.seq ?_
                refine At.region ?_
                refine AtL.move (.inl rfl) rfl rfl ?_
                refine AtL.move (.inl rfl) rfl rfl ?_
                refine AtL.eqi (.inl rfl) rfl rfl rfl ?_
                refine AtL.done ?_
                refine At.condIs false rfl (decide_eq_false (by omega)) ?_
                refine At.skip ?_
                refine At.inBlock ?_
                refine At.again ?_
                refine At.seq ?_
                refine At.region ?_
                refine AtL.nextS (p := 1) (n := 1) (c := 10) (l := [13, 10]) (H' := [(b15, .stringIter ⟨⟨[13, 10]⟩⟩ 2)] :: H) 0 0 (.inl rfl) rfl rfl rfl rfl rfl (by decide) rfl ?_
                refine AtL.extract (.inl rfl) rfl rfl rfl ?_
                refine AtL.done ?_
                refine At.seq ?_
                refine At.condT rfl ?_
                refine At.skip ?_
                refine At.block ?_
                refine At.seq ?_
                refine At.region ?_
                refine AtL.extract (.inl rfl) rfl rfl rfl ?_
                refine AtL.assign (.inl rfl) rfl rfl ?_
                refine AtL.done ?_
                refine At.seq ?_
                refine At.region ?_
                refine AtL.move (.inl rfl) rfl rfl ?_
                refine AtL.move (.inl rfl) rfl rfl ?_
                refine AtL.eqi (.inl rfl) rfl rfl rfl ?_
                refine AtL.done ?_
                refine At.condIs false rfl (decide_eq_false (by omega)) ?_
                refine At.skip ?_
                refine At.inBlock ?_
                refine At.again ?_
                refine At.seq ?_
                refine At.region ?_
                refine AtL.nextOver (p := 2) (l := [13, 10]) 0 0 (.inl rfl) rfl rfl rfl rfl rfl ?_
                refine AtL.extract (.inl rfl) rfl rfl rfl ?_
                refine AtL.done ?_
                refine At.seq ?_
                refine At.condF rfl ?_
                refine At.exit rfl ?_
                refine At.inBlock ?_
                refine At.region ?_
                refine AtL.move (.inl rfl) rfl rfl ?_
                refine AtL.move (.inl rfl) rfl rfl ?_
                refine AtL.add (z := (k : Int) + (n13 : Int)) (.inl rfl) rfl rfl rfl (w64 (by omega) (by omega)) ?_
                refine AtL.assign (.inl rfl) rfl rfl ?_
                refine AtL.done ?_
                refine At.pick (H' := H) [] 1 rfl rfl ?_
                refine ihL3 (k + n13) (⟨by omega, take_dec (by omega) (by omega) hdb hdc ha⟩) (by omega) _ ?_
                exact ⟨rfl, rfl, (by first | rfl | exact slLen (by simp []) | exact intEq (by omega) | exact intEq (by simp []) | exact slLen (by simp []; omega)), trivial⟩
          · intro hc16
            have hc16 : (r12 : Int) = 65533 := of_decide_eq_true (bnot_false hc16)
            refine At.skip ?_
            refine At.seq ?_
            refine At.region ?_
            refine AtL.move (.inl rfl) rfl rfl ?_
            refine AtL.rangeS Tryz.underlying9 (.inl rfl) rfl rfl ?_
            intro b16
            refine AtL.done ?_
            refine At.block ?_
            refine At.unroll ?_
            refine At.seq ?_
            refine At.region ?_
            refine AtL.nextS (p := 0) (n := 1) (c := 13) (l := [13, 10]) (H' := [(b16, .stringIter ⟨⟨[13, 10]⟩⟩ 1)] :: H) 0 0 (.inl rfl) rfl rfl rfl rfl rfl (by decide) rfl ?_
            refine AtL.extract (.inl rfl) rfl rfl rfl ?_
            refine AtL.done ?_
            refine At.seq ?_
            refine At.condT rfl ?_
            refine At.skip ?_
            refine At.block ?_
            refine At.seq ?_
            refine At.region ?_
            refine AtL.extract (.inl rfl) rfl rfl rfl ?_
            refine AtL.assign (.inl rfl) rfl rfl ?_
            refine AtL.done ?_
            refine At.seq ?_
            refine At.region ?_
            refine AtL.move (.inl rfl) rfl rfl ?_
            refine AtL.move (.inl rfl) rfl rfl ?_
            refine AtL.eqi (.inl rfl) rfl rfl rfl ?_
            refine AtL.done ?_
            refine At.condIs false rfl (decide_eq_false (by omega)) ?_
            refine At.skip ?_
            refine At.inBlock ?_
            refine At.again ?_
            refine At.seq ?_
            refine At.region ?_
            refine AtL.nextS (p := 1) (n := 1) (c := 10) (l := [13, 10]) (H' := [(b16, .stringIter ⟨⟨[13, 10]⟩⟩ 2)] :: H) 0 0 (.inl rfl) rfl rfl rfl rfl rfl (by decide) rfl ?_
            refine AtL.extract (.inl rfl) rfl rfl rfl ?_
            refine AtL.done ?_
            refine At.seq ?_
            refine At.condT rfl ?_
            refine At.skip ?_
            refine At.block ?_
            refine At.seq ?_
            refine At.region ?_
            refine AtL.extract (.inl rfl) rfl rfl rfl ?_
            refine AtL.assign (.inl rfl) rfl rfl ?_
            refine AtL.done ?_
            refine At.seq ?_
            refine At.region ?_
            refine AtL.move (.inl rfl) rfl rfl ?_
            refine AtL.move (.inl rfl) rfl rfl ?_
            refine AtL.eqi (.inl rfl) rfl rfl rfl ?_
            refine AtL.done ?_
            refine At.condIs false rfl (decide_eq_false (by omega)) ?_
            refine At.skip ?_
            refine At.inBlock ?_
            refine At.again ?_
            refine At.seq ?_
            refine At.region ?_
            refine AtL.nextOver (p := 2) (l := [13, 10]) 0 0 (.inl rfl) rfl rfl rfl rfl rfl ?_
            refine AtL.extract (.inl rfl) rfl rfl rfl ?_
            refine AtL.done ?_
            refine At.seq ?_
            refine At.condF rfl ?_
            refine At.exit rfl ?_
            refine At.inBlock ?_
            refine At.region ?_
            refine AtL.move (.inl rfl) rfl rfl ?_
            refine AtL.move (.inl rfl) rfl rfl ?_
            refine AtL.add (z := (k : Int) + (n13 : Int)) (.inl rfl) rfl rfl rfl (w64 (by omega) (by omega)) ?_
            refine AtL.assign (.inl rfl) rfl rfl ?_
            refine AtL.done ?_
            refine At.pick (H' := H) [] 1 rfl rfl ?_
            refine ihL3 (k + n13) (⟨by omega, take_dec (by omega) (by omega) hdb hdc ha⟩) (by omega) _ ?_
            exact ⟨rfl, rfl, (by first | rfl | exact slLen (by simp []) | exact intEq (by omega) | exact intEq (by simp []) | exact slLen (by simp []; omega)), trivial⟩
      · intro hc13
        have hc13 : ¬ ((k : Int) < (l.length : Int)) := of_decide_eq_false hc13
        refine At.exit rfl ?_
        refine At.seq ?_
        refine At.region ?_
        refine AtL.assign (.inl rfl) rfl rfl ?_
        refine AtL.done ?_
        exact At.ret Tryz.func182 rfl rfl (⟨_, rfl, any_no (all_end (k := k) (by omega) ha), rfl⟩)
set_option maxHeartbeats 400000 in
theorem containsany_ok {w0 : World} {base : Nat} {H : List Seg} {A : Option Addr} {C : Nat} {l : List UInt8} (h : Rd tyB w0 base H A C l) (T : Tabs w0 base) :
    SCalls Tryz.prog 140 [.slice A l.length C, str [13, 10]] w0 base (H) (fun v H' => v = .bool (l.any crlf) ∧ H' = H) := by
  refine SCalls.of_walk (n := 9) Tryz.func140 rfl rfl rfl fun cs => ?_
  refine At.seq ?_
  refine At.region ?_
  refine AtL.assign (.inl rfl) rfl rfl ?_
  refine AtL.done ?_
  refine At.seq ?_
  refine At.region ?_
  refine AtL.move (.inl rfl) rfl rfl ?_
  refine AtL.move (.inl rfl) rfl rfl ?_
  refine AtL.call tf_body182 (.inl rfl) rfl rfl (indexany_ok (l := l) h T) ?_
  rintro _ _ ⟨z1, rfl, hz2, hHq⟩
  obtain rfl := hHq.symm
  refine AtL.geq (.inl rfl) rfl rfl rfl ?_
  refine AtL.assign (.inl rfl) rfl rfl ?_
  refine AtL.done ?_
  exact At.ret Tryz.func140 rfl rfl (⟨congrArg Value.bool hz2, rfl⟩)
end Go.Proofs.YtlkdmbpbjhjkfaaGreatDoor
namespace Go.Proofs.YtlkdmbpbjhjkfaaGreatDoor
set_option linter.unusedVariables false
set_option linter.unusedSimpArgs false
set_option maxRecDepth 100000
theorem index_bd (l s : List UInt8) (h : 0 ≤ Lib.index l s) : (Lib.index l s).toNat + s.length ≤ l.length := by
  have := Lib.index_room l s h
  omega
def cutB (l s : List UInt8) : List UInt8 × List UInt8 × Bool := if 0 ≤ Lib.index l s then (subl l 0 (Lib.index l s).toNat, subl l ((Lib.index l s).toNat + s.length) l.length, true) else (l, [], false)
set_option maxHeartbeats 400000 in
theorem bcut_ok {w0 : World} {base : Nat} {H : List Seg} {A Aq : Option Addr} {C Cq : Nat} {l s : List UInt8} (n : Nat) (hn : Rd tyB w0 base (H.drop n) A C l) (hq : Rd tyB w0 base H Aq Cq s) (hl : l.length < 4294967281) (hs : 2 ≤ s.length) (T : Tabs w0 base) :
    SCalls Tryz.prog 139 [.slice A l.length C, .slice Aq s.length Cq] w0 base (H) (fun v H' => ∃ A1 C1 A2 C2, v = .tuple #[.slice A1 (cutB l s).1.length C1, .slice A2 (cutB l s).2.1.length C2, .bool (cutB l s).2.2] ∧ Rd tyB w0 base (H.drop n) A1 C1 (cutB l s).1 ∧ Rd tyB w0 base (H.drop n) A2 C2 (cutB l s).2.1 ∧ H' = H) := by
  have h := Rd.skip n hn
  have hcap := h.cap
  have hle := h.le
  have hcap2 := hq.cap
  have hle2 := hq.le
  refine SCalls.of_walk (n := 23) Tryz.func139 rfl rfl rfl fun cs => ?_
  refine At.seq ?_
  refine At.region ?_
  refine AtL.assign (.inl rfl) rfl rfl ?_
  refine AtL.assign (.inl rfl) rfl rfl ?_
  refine AtL.assign (.inl rfl) rfl rfl ?_
  refine AtL.done ?_
  refine At.seq ?_
  refine At.seq ?_
  refine At.region ?_
  refine AtL.move (.inl rfl) rfl rfl ?_
  refine AtL.move (.inl rfl) rfl rfl ?_
  refine AtL.call tf_body74 (.inl rfl) rfl rfl (index_ok (l := l) (l2 := s) h hq (by omega) hs T) ?_
  rintro _ _ ⟨rfl, hHq⟩
  obtain rfl := hHq.symm
  refine AtL.assign (.inl rfl) rfl rfl ?_
  refine AtL.done ?_
  refine At.seq ?_
  refine At.region ?_
  refine AtL.move (.inl rfl) rfl rfl ?_
  refine AtL.geq (.inl rfl) rfl rfl rfl ?_
  refine AtL.done ?_
  refine At.cond rfl ?_ ?_
  · intro hc1
    have hc1 : 0 ≤ (Lib.index l s : Int) := of_decide_eq_true hc1
    have hbd := index_bd l s hc1
    refine At.seq ?_
    have hleo3 := Rd.le h
    obtain ⟨A1, eA1⟩ : ∃ A1 : Option Addr, A1 = (if C = 0 then A else Option.map (fun a => a.add (0 * tyB.sz)) A) := ⟨_, rfl⟩
    obtain ⟨C2, eC2⟩ : ∃ C2 : Nat, C2 = C - 0 := ⟨_, rfl⟩
    have o3 : Rd tyB w0 base H A1 C2 (subl l 0 ((Lib.index l s).toNat)) := by rw [eA1, eC2]; exact Rd.cut h (Nat.zero_le _) (by omega) (by omega) (by omega)
    have hleo6 := Rd.le h
    obtain ⟨A4, eA4⟩ : ∃ A4 : Option Addr, A4 = (if C = ((Lib.index l s).toNat + s.length) then A else Option.map (fun a => a.add (((Lib.index l s).toNat + s.length) * tyB.sz)) A) := ⟨_, rfl⟩
    obtain ⟨C5, eC5⟩ : ∃ C5 : Nat, C5 = C - ((Lib.index l s).toNat + s.length) := ⟨_, rfl⟩
    have o6 : Rd tyB w0 base H A4 C5 (subl l ((Lib.index l s).toNat + s.length) l.length) := by rw [eA4, eC5]; exact Rd.cut h (by omega) (Nat.le_refl _) (by omega) (by omega)
    refine At.draw (es := []) (pv := [(0, .slice A l.length C), (1, .int .i64 (Lib.index l s)), (2, .slice A1 (subl l 0 ((Lib.index l s).toNat)).length C2), (3, .slice A l.length C), (4, .int .i64 (Lib.index l s)), (5, .slice Aq s.length Cq), (6, .int .i64 (s.length : Int)), (7, .int .i64 (Lib.index l s + (s.length : Int))), (8, .slice A4 (subl l ((Lib.index l s).toNat + s.length) l.length).length C5), (9, .slice A1 (subl l 0 ((Lib.index l s).toNat)).length C2), (10, .slice A4 (subl l ((Lib.index l s).toNat + s.length) l.length).length C5), (11, .bool true)]) tf_mixed (by kernel_rfl) (by kernel_rfl) (by kernel_rfl) ?_
    refine ⟨⟨.inr ⟨_, rfl, rfl, .inl ⟨rfl, Do.move rfl⟩⟩, .inr ⟨_, rfl, rfl, .inl ⟨rfl, Do.move rfl⟩⟩, .inr ⟨_, rfl, rfl, .inl ⟨rfl, Do.sliceX_ (T := tyB) (l := l) 0 ((Lib.index l s).toNat) C rfl (evBound_some rfl (by omega)) rfl (by intro h; cases h) (Nat.zero_le _) (by omega) (Nat.le_refl _) Tryz.underlying22 tf_sz5 rfl eA1 (subl_len (l := l) (i := 0) (j := ((Lib.index l s).toNat)) (by omega)) eC2⟩⟩, .inr ⟨_, rfl, rfl, .inl ⟨rfl, Do.move rfl⟩⟩, .inr ⟨_, rfl, rfl, .inl ⟨rfl, Do.move rfl⟩⟩, .inr ⟨_, rfl, rfl, .inl ⟨rfl, Do.move rfl⟩⟩, .inr ⟨_, rfl, rfl, .inl ⟨rfl, Do.lenL Tryz.underlying22 rfl⟩⟩, .inr ⟨_, rfl, rfl, .inl ⟨rfl, Do.add (z := Lib.index l s + (s.length : Int)) rfl rfl (w64 (by omega) (by omega))⟩⟩, .inr ⟨_, rfl, rfl, .inl ⟨rfl, Do.sliceX_ (T := tyB) (l := l) ((Lib.index l s).toNat + s.length) l.length C (evBound_some rfl (by omega)) rfl rfl (by intro h; cases h) (by omega) (by omega) (Nat.le_refl _) Tryz.underlying22 tf_sz5 rfl eA4 (subl_len (l := l) (i := ((Lib.index l s).toNat + s.length)) (j := l.length) (Nat.le_refl _)) eC5⟩⟩, .inr ⟨_, rfl, rfl, .inl ⟨rfl, Do.assign rfl⟩⟩, .inr ⟨_, rfl, rfl, .inl ⟨rfl, Do.assign rfl⟩⟩, .inr ⟨_, rfl, rfl, .inl ⟨rfl, Do.assign rfl⟩⟩, trivial⟩, by kernel_rfl, ?_⟩
    refine At.mono (E' := [(4, .slice A1 (subl l 0 ((Lib.index l s).toNat)).length C2), (5, .slice A4 (subl l ((Lib.index l s).toNat + s.length) l.length).length C5), (6, .bool true)]) ⟨rfl, rfl, rfl, trivial⟩ ?_
    exact At.ret Tryz.func139 rfl rfl (⟨A1, C2, A4, C5, by rw [cutB, if_pos hc1]; rfl, by rw [cutB, if_pos hc1, eA1, eC2]; exact Rd.cut hn (Nat.zero_le _) (by omega) (by omega) (Nat.le_refl _), by rw [cutB, if_pos hc1, eA4, eC5]; exact Rd.cut hn (by omega) (Nat.le_refl _) (by omega) (Nat.le_refl _), rfl⟩)
  · intro hc1
    have hc1 : ¬ (0 ≤ (Lib.index l s : Int)) := of_decide_eq_false hc1
    refine At.skip ?_
    refine At.seq ?_
    refine At.region ?_
    refine AtL.move (.inl rfl) rfl rfl ?_
    refine AtL.assign (.inl rfl) rfl rfl ?_
    refine AtL.assign (.inl rfl) rfl rfl ?_
    refine AtL.assign (.inl rfl) rfl rfl ?_
    refine AtL.done ?_
    exact At.ret Tryz.func139 rfl rfl (⟨A, C, none, 0, by rw [cutB, if_neg hc1]; rfl, by rw [cutB, if_neg hc1]; exact hn, by rw [cutB, if_neg hc1]; exact Rd.nil_, rfl⟩)
theorem cutCR_cutB (b : List UInt8) : cutCR b = if (cutB b [13, 10]).2.2 = true then some ((cutB b [13, 10]).1, (cutB b [13, 10]).2.1) else none := by
  have hg := Lib.index_ge b [13, 10]
  rw [cutCR_index]
  by_cases h : Lib.index b [13, 10] = -1
  · have e : cutB b [13, 10] = (b, [], false) := by rw [cutB, if_neg (by omega)]
    rw [if_pos h, e]; rfl
  · have e : cutB b [13, 10] = (subl b 0 (Lib.index b [13, 10]).toNat, subl b ((Lib.index b [13, 10]).toNat + 2) b.length, true) := by rw [cutB, if_pos (by omega)]; rfl
    rw [if_neg h, e]
    simp only [if_true, subl]
    simp only [Nat.sub_zero, List.drop_zero]
    rw [List.take_of_length_le (l := b.drop _) (by simp)]
theorem cutB_len {b : List UInt8} (h : (cutB b [13, 10]).2.2 = true) : (cutB b [13, 10]).1.length + (cutB b [13, 10]).2.1.length + 2 = b.length := by
  have := cutCR_len (b := b) (l := (cutB b [13, 10]).1) (r := (cutB b [13, 10]).2.1) (by rw [cutCR_cutB, if_pos h])
  have := congrArg List.length this
  simp at this
  omega
theorem linesF_cut (b : List UInt8) : linesF b = if (cutB b [13, 10]).2.2 = false ∨ (cutB b [13, 10]).1.any crlf = true then none else if (cutB b [13, 10]).1 = [] then (if (cutB b [13, 10]).2.1 = [] then some [] else none) else (linesF (cutB b [13, 10]).2.1).map ((cutB b [13, 10]).1 :: ·) := by
  have hc := cutCR_cutB b
  cases hb : (cutB b [13, 10]).2.2 with
  | false =>
    rw [hb] at hc
    rw [if_pos (.inl rfl), linesF]
    split
    · rfl
    · rename_i l r h; rw [hc] at h; simp at h
  | true =>
    rw [hb, if_pos rfl] at hc
    rw [linesF]
    split
    · rename_i h; rw [hc] at h; cases h
    · rename_i l r h
      rw [hc] at h
      simp only [Option.some.injEq, Prod.mk.injEq] at h
      obtain ⟨h3, h4⟩ := h
      rw [← h3, ← h4]
      by_cases h2 : (cutB b [13, 10]).1.any crlf = true
      · rw [if_pos h2, if_pos (.inr h2)]
      · have h5 : ¬ (true = false ∨ (cutB b [13, 10]).1.any crlf = true) := by simpa using h2
        rw [if_neg h2, if_neg h5]
set_option maxHeartbeats 400000 in
theorem lines_ok {w0 : World} {base : Nat} {H : List Seg} {A : Option Addr} {C : Nat} {b : List UInt8} (h : Rd tyB w0 base H A C b) (hl : b.length ≤ 4294967280) (T : Tabs w0 base) :
    SCalls Tryz.prog 98 [.slice A b.length C] w0 base (H) (fun v H' => ∃ x : Sl tyS 9, v = .tuple #[.slice x.A x.l.length x.C, .bool (linesF b).isSome] ∧ (∀ ls, linesF b = some ls → x.l = ls) ∧ H' = x.s :: H) := by
  refine SCalls.of_walk (n := 35) Tryz.func98 rfl rfl rfl fun cs => ?_
  refine At.seq ?_
  refine At.region ?_
  refine AtL.assign (.inl rfl) rfl rfl ?_
  refine AtL.assign (.inl rfl) rfl rfl ?_
  refine AtL.done ?_
  refine At.seq ?_
  refine At.region ?_
  refine AtL.assign (.inl rfl) rfl rfl ?_
  refine AtL.done ?_
  refine At.block ?_
  refine At.nil ?_
  refine At.loop4 (fun (Ab : Option Addr) (Cb : Nat) (bb : List UInt8) (x : Sl tyS 9) => [(0, .slice Ab bb.length Cb), (4, .slice x.A x.l.length x.C)]) (fun (Ab : Option Addr) (Cb : Nat) (bb : List UInt8) (x : Sl tyS 9) => x.s :: H) (fun (Ab : Option Addr) (Cb : Nat) (bb : List UInt8) (x : Sl tyS 9) => Rd tyB w0 base H Ab Cb bb ∧ x.l.length + bb.length ≤ b.length ∧ linesF b = (linesF bb).map (x.l ++ ·)) (fun (Ab : Option Addr) (Cb : Nat) (bb : List UInt8) (x : Sl tyS 9) => bb.length) A C b Sl.nil (⟨h, by simp [Sl.nil], by simp [Sl.nil]⟩) ⟨rfl, rfl, trivial⟩ rfl ?_
  rintro Ab Cb bb x ⟨hb, hlen, hlb⟩ ihL1
  have hlc := linesF_cut bb
  have hcap := Own.cap_le x.own
  refine At.block ?_
  refine At.seq ?_
  refine At.region ?_
  refine AtL.move (.inl rfl) rfl rfl ?_
  refine AtL.buildSlice (cs := [.int .u8 13, .int .u8 10]) Tryz.underlying22 tf_zero5 tf_sz5 rfl rfl (.inl rfl) rfl rfl rfl ?_
  intro b1
  refine AtL.convSl1 (l := [13, 10]) 0 Tryz.underlying22 Tryz.underlying5 rfl rfl rfl (by decide) (.inl rfl) rfl rfl ?_
  intro s2 o3
  refine AtL.call tf_body139 (.inl rfl) rfl rfl (bcut_ok (l := bb) (s := [13, 10]) 2 hb (o3.rd (i := 0) rfl) (by omega) (by decide) T) ?_
  rintro _ _ ⟨A4, C5, A6, C7, rfl, h8, h9, rfl⟩
  refine AtL.move (.inl rfl) rfl rfl ?_
  refine AtL.extract (.inl rfl) rfl rfl rfl ?_
  refine AtL.extract (.inl rfl) rfl rfl rfl ?_
  refine AtL.extract (.inl rfl) rfl rfl rfl ?_
  refine AtL.assign (.inl rfl) rfl rfl ?_
  refine AtL.assign (.inl rfl) rfl rfl ?_
  refine AtL.assign (.inl rfl) rfl rfl ?_
  refine AtL.done ?_
  refine At.seq ?_
  refine At.seq ?_
  refine At.region ?_
  refine AtL.move (.inl rfl) rfl rfl ?_
  refine AtL.not (.inl rfl) rfl rfl ?_
  refine AtL.move (.inl rfl) rfl rfl ?_
  refine AtL.join 3 (E' := [(21, .bool (decide ((((cutB bb [13, 10]).2.2) = false) ∨ ((((cutB bb [13, 10]).1).any crlf) = true)))), (4, .slice x.A x.l.length x.C), (5, .slice A4 ((cutB bb [13, 10]).1).length C5), (6, .slice A6 ((cutB bb [13, 10]).2.1).length C7)]) (H' := s2 :: x.s :: H) (fun J => ?_) ?_
  · refine AtL.split (t := 18) rfl ?_ ?_
    · intro hs18
      have hs18 : ((cutB bb [13, 10]).2.2) = false := bnot_true hs18
      refine AtL.skipped rfl rfl rfl rfl rfl rfl ?_
      refine AtL.skipped rfl rfl rfl rfl rfl rfl ?_
      refine AtL.pickT (.inl rfl) rfl rfl rfl ?_
      exact J _ (by exact ⟨(boolIs (by clear J; first | (simp [hs18]; done) | (simp_all; done) | grind)), rfl, rfl, rfl, trivial⟩)
    · intro hs18
      have hs18 : ((cutB bb [13, 10]).2.2) = true := bnot_false hs18
      refine AtL.move (.inr ⟨_, _, _, rfl, rfl, rfl, rfl⟩) rfl rfl ?_
      refine AtL.call tf_body140 (.inr ⟨_, _, _, rfl, rfl, rfl, rfl⟩) rfl rfl (containsany_ok (l := (cutB bb [13, 10]).1) (Rd.skip 2 h8) T) ?_
      rintro _ _ ⟨rfl, rfl⟩
      refine AtL.pickF (.inl rfl) rfl rfl rfl ?_
      exact J _ (by exact ⟨(boolIs (by clear J; first | (simp [hs18]; done) | (simp_all; done) | grind)), rfl, rfl, rfl, trivial⟩)
  · skip
    refine AtL.done ?_
    refine At.cond rfl ?_ ?_
    · intro hc1
      have hc1 : (((cutB bb [13, 10]).2.2) = false) ∨ ((((cutB bb [13, 10]).1).any crlf) = true) := of_decide_eq_true hc1
      refine At.seq ?_
      refine At.region ?_
      refine AtL.assign (.inl rfl) rfl rfl ?_
      refine AtL.assign (.inl rfl) rfl rfl ?_
      refine AtL.done ?_
      refine At.nil ?_
      refine At.pick (H' := [] :: H) [0] 3 rfl rfl ?_
      have hn : linesF b = none := by rw [hlb, hlc, if_pos (by simpa using hc1)]; rfl
      exact At.ret Tryz.func98 rfl rfl (⟨Sl.nil, by rw [hn]; rfl, fun ls h => (by rw [hn] at h; cases h), rfl⟩)
    · intro hc1
      have hc1 : ¬ ((((cutB bb [13, 10]).2.2) = false) ∨ ((((cutB bb [13, 10]).1).any crlf) = true)) := of_decide_eq_false hc1
      have his : (cutB bb [13, 10]).2.2 = true := by simp only [not_or] at hc1; simpa using hc1.1
      have hbl := cutB_len his
      have hne : (cutB bb [13, 10]).1.any crlf = false := by simp only [not_or] at hc1; simpa using hc1.2
      refine At.skip ?_
      refine At.seq ?_
      refine At.seq ?_
      refine At.region ?_
      refine AtL.move (.inl rfl) rfl rfl ?_
      refine AtL.lenL Tryz.underlying22 (.inl rfl) rfl rfl ?_
      refine AtL.eqi (.inl rfl) rfl rfl rfl ?_
      refine AtL.done ?_
      refine At.cond rfl ?_ ?_
      · intro hc2
        have hc2 : (((cutB bb [13, 10]).1).length : Int) = 0 := of_decide_eq_true hc2
        refine At.seq ?_
        refine At.region ?_
        refine AtL.move (.inl rfl) rfl rfl ?_
        refine AtL.move (.inl rfl) rfl rfl ?_
        refine AtL.lenL Tryz.underlying22 (.inl rfl) rfl rfl ?_
        refine AtL.eqi (.inl rfl) rfl rfl rfl ?_
        refine AtL.assign (.inl rfl) rfl rfl ?_
        refine AtL.assign (.inl rfl) rfl rfl ?_
        refine AtL.done ?_
        refine At.pick (H' := x.s :: H) [1] 2 rfl rfl ?_
        have hl0 : (cutB bb [13, 10]).1 = [] := List.eq_nil_of_length_eq_zero (by omega)
        have hs : linesF b = if (cutB bb [13, 10]).2.1 = [] then some x.l else none := by rw [hlb, hlc, if_neg (by rw [his, hne]; simp), if_pos hl0]; split <;> simp
        exact At.ret Tryz.func98 rfl rfl (⟨x, by rw [hs]; split <;> rename_i h3 <;> simp [h3, oneOf], fun ls h => (by rw [hs] at h; split at h; exact Option.some.inj h; cases h), rfl⟩)
      · intro hc2
        have hc2 : ¬ ((((cutB bb [13, 10]).1).length : Int) = 0) := of_decide_eq_false hc2
        have hc2 : ¬ (cutB bb [13, 10]).1 = [] := fun h0 => hc2 (by rw [h0]; rfl)
        refine At.skip ?_
        refine At.seq ?_
        refine At.region ?_
        refine AtL.move (.inl rfl) rfl rfl ?_
        refine AtL.move (.inl rfl) rfl rfl ?_
        refine AtL.strOf (Rd.skip 2 h8) Tryz.underlying22 Tryz.underlying5 Tryz.underlying9 (.inl rfl) rfl rfl ?_
        refine AtL.buildSlice (cs := [str ((cutB bb [13, 10]).1)]) Tryz.underlying109 tf_zero9 tf_sz9 rfl rfl (.inl rfl) rfl rfl rfl ?_
        intro b10
        refine AtL.own1 tyS (l := ([(cutB bb [13, 10]).1] : List (List UInt8))) rfl rfl (by first | decide | simp) ?_
        intro s11 o12
        refine AtL.append (l := x.l) (news := [(cutB bb [13, 10]).1]) 2 tf_el109 rfl x.own (o12.rd (i := 0) rfl) (by first | omega | (simp only [List.length_append, List.length_cons, List.length_nil]; omega) | (simp; done) | (simp; omega)) (.inl rfl) rfl rfl rfl ?_
        intro A13 C14 s15 o16
        refine AtL.assign (.inl rfl) rfl rfl ?_
        refine AtL.done ?_
        refine At.region ?_
        refine AtL.move (.inl rfl) rfl rfl ?_
        refine AtL.assign (.inl rfl) rfl rfl ?_
        refine AtL.done ?_
        refine At.inBlock ?_
        refine At.pick (H' := s15 :: H) [2] 3 rfl rfl ?_
        refine ihL1 A6 C7 ((cutB bb [13, 10]).2.1) (⟨A13, C14, x.l ++ ([(cutB bb [13, 10]).1]), s15, o16⟩) (⟨h9, by simp; omega, by rw [hlb, hlc, if_neg (by simpa using hc1), if_neg hc2, Option.map_map]; congr 1; funext q; simp⟩) (by omega) _ ?_
        exact ⟨(by first | rfl | exact slLen (by simp []) | exact intEq (by omega) | exact intEq (by simp []) | exact slLen (by simp []; omega)), (by first | rfl | exact slLen (by simp []) | exact intEq (by omega) | exact intEq (by simp []) | exact slLen (by simp []; omega)), trivial⟩
end Go.Proofs.YtlkdmbpbjhjkfaaGreatDoor
