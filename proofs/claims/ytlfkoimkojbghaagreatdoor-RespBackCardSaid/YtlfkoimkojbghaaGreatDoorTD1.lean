/- Responses: the library that reading asks for. -/
import Derived.Test.YtlfkoimkojbghaaGreatDoorTD0
namespace Go.Proofs.YtlfkoimkojbghaaGreatDoor
set_option linter.unusedVariables false
set_option linter.unusedSimpArgs false
set_option maxRecDepth 100000

/-- The errors of package strconv: they are something. -/
structure ErrTab (w0 : World) (base : Nat) : Prop where
  lt1 : 1 < base
  lt2 : 2 < base
  syn : ∃ ev : Value, w0.cell? ⟨1, 0, none⟩ = some ev ∧ (ev = .nilIface ∨ ∃ te pe, ev = .iface te pe)
  rng : ∃ ev : Value, w0.cell? ⟨2, 0, none⟩ = some ev ∧ (ev = .nilIface ∨ ∃ te pe, ev = .iface te pe)
theorem atoi_all {w0 : World} {base : Nat} {H : List Seg} {s : List UInt8} (hs : s.length ≤ 281474976710656) (E : ErrTab w0 base) :
    SCalls Tryz.prog 94 [str s] w0 base H (fun v H' => (∃ te a, v = .tuple #[int (atoiV s), errV te a (atoiK s)]) ∧ H' = H) := by
  refine SCalls.of_belowX fun w S => ?_
  cases h : Lib.atoiAll s
  · rename_i n
    refine (Tryz.strconv_Atoi_ok ⟨⟨s⟩⟩ (by rw [str_size]; omega) n h w).mono ?_
    rintro e w' ⟨rfl, hw⟩
    refine ⟨_, rfl, ⟨0, none, by simp [atoiV, atoiK, h, errV]⟩, ?_⟩
    rcases hw with rfl | ⟨t, rfl⟩
    · exact Go.RowKit.Below.refl _ _
    · exact Lib.bytesWorld_below _ _ _
  · obtain ⟨ev, hv, hev⟩ := E.syn
    refine (Any.strconv_Atoi_syntax Tryz.laysC172 ⟨⟨s⟩⟩ (by rw [str_size]; exact hs) h ev w (S.cellBelow E.lt1 hv) hev).mono ?_
    rintro e w' ⟨N, rfl, _, _, hb⟩
    exact ⟨_, rfl, ⟨_, some ⟨N, 0, none⟩, by simp only [atoiV, atoiK, h, errV]; rfl⟩, hb⟩
  · obtain ⟨ev, hv, hev⟩ := E.rng
    refine (Any.strconv_Atoi_range Tryz.laysC172 ⟨⟨s⟩⟩ (by rw [str_size]; exact hs) h ev w (S.cellBelow E.lt2 hv) hev).mono ?_
    rintro e w' ⟨N, rfl, _, _, hb⟩
    exact ⟨_, rfl, ⟨_, some ⟨N, 0, none⟩, by simp only [atoiV, atoiK, h, errV]; rfl⟩, hb⟩
theorem own_newR {α : Type} (T : Ty α) (e : TypeId) (b : Nat) (l r : List α) (n : Nat) (cs : List Value) (hcs : cs = T.cells (l ++ r)) (hn : n = l.length + r.length) (hle : l.length + r.length ≤ 9223372036854775807) :
    ∃ s, s = [(b, Obj.cells cs.toArray e (0, 0))] ∧ Own T e (some ⟨b, 0, none⟩) n l s := by
  subst hcs; subst hn
  exact ⟨_, rfl, r, rfl, .inr ⟨b, [], [], (0, 0), by simp, by simp, frOut_zero _, hle⟩⟩
theorem cells_str (l : List (List UInt8)) : tyS.cells l = l.map str := by simp [Ty.cells, tyS, str, Value.cells, List.flatMap_singleton', List.map_eq_flatMap]
theorem countF_le (sep : List UInt8) (n : Nat) (s : List UInt8) : Lib.countFrom sep n s ≤ n := by
  induction n generalizing s with
  | zero => simp [Lib.countFrom]
  | succ n ih =>
    rw [Lib.countFrom]
    split
    · omega
    · have := ih (s.drop ((Lib.index s sep).toNat + sep.length)); omega
theorem splitK_le (sep : List UInt8) (k : Nat) (s : List UInt8) : ∀ x ∈ Lib.splitK sep 0 k s, x.length ≤ s.length := by
  induction k generalizing s with
  | zero => intro x hx; simp [Lib.splitK] at hx; subst hx; exact Nat.le_refl _
  | succ k ih =>
    intro x hx
    rw [Lib.splitK] at hx
    split at hx
    · simp at hx; subst hx; exact Nat.le_refl _
    · rcases List.mem_cons.1 hx with rfl | hx
      · rw [List.length_take]; omega
      · have := ih _ x hx; rw [List.length_drop] at this; omega
theorem splitK_ne (sep : List UInt8) (k : Nat) (s : List UInt8) : 0 < (Lib.splitK sep 0 k s).length := by
  cases k with
  | zero => simp [Lib.splitK]
  | succ k => rw [Lib.splitK]; split <;> simp
theorem splitW_len {x : List UInt8} (sep : List UInt8) (h1 : 1 ≤ sep.length) : (Lib.split x sep).length = Lib.countB ⟨⟨x⟩⟩ ⟨⟨sep⟩⟩ + 1 ∧ (Lib.split x sep).length ≤ x.length + 2 := by
  have hb : (Lib.splitB ⟨⟨sep⟩⟩ 0 (Lib.countB ⟨⟨x⟩⟩ ⟨⟨sep⟩⟩) ⟨⟨x⟩⟩).map (fun b => b.data.toList) = Lib.split x sep := by rw [Lib.splitB_data]; rfl
  have hl : (Lib.split x sep).length = Lib.countB ⟨⟨x⟩⟩ ⟨⟨sep⟩⟩ + 1 := by rw [← hb, List.length_map, Lib.splitB_all ⟨⟨sep⟩⟩ (by rw [str_size]; exact h1) 0 _ _ rfl]
  have hc : Lib.countB ⟨⟨x⟩⟩ ⟨⟨sep⟩⟩ ≤ x.length + 1 := countF_le sep (x.length + 1) x
  exact ⟨hl, by omega⟩
theorem splitW_ok {w0 : World} {base : Nat} {H : List Seg} {x : List UInt8} (sep : List UInt8) (h1 : 1 ≤ sep.length) (hx : x.length < 4294967281) (T : Tabs w0 base) :
    SCalls Tryz.prog 108 [str x, str sep] w0 base H (fun v H' => ∃ y : Sl tyS 9, y.l = Lib.split x sep ∧ v = .slice y.A y.l.length y.C ∧ H' = y.s :: H) := by
  obtain ⟨m, hm⟩ := T.max
  have hb : (Lib.splitB ⟨⟨sep⟩⟩ 0 (Lib.countB ⟨⟨x⟩⟩ ⟨⟨sep⟩⟩) ⟨⟨x⟩⟩).map (fun b => b.data.toList) = Lib.split x sep := by rw [Lib.splitB_data]; rfl
  obtain ⟨hl, hle⟩ := splitW_len (x := x) sep h1
  have hcells : ((Lib.splitB ⟨⟨sep⟩⟩ 0 (Lib.countB ⟨⟨x⟩⟩ ⟨⟨sep⟩⟩) ⟨⟨x⟩⟩).map Value.string).toArray = (tyS.cells (Lib.split x sep)).toArray := by
    rw [← hb, cells_str, List.map_map]; rfl
  have hc := SCalls.of_alloc (P := Tryz.prog) (f := 108) (args := [str x, str sep]) (w0 := w0) (base := base) (H := H) (v := fun b => .slice (some ⟨b, 0, none⟩) (Lib.split x sep).length (Lib.split x sep).length) (o := .cells (tyS.cells (Lib.split x sep)).toArray 9) fun w S => by
    have := Tryz.strings_Split ⟨⟨x⟩⟩ ⟨⟨sep⟩⟩ m w (by rw [str_size]; omega) (S.cellBelow T.lt0 hm) (by rw [str_size]; exact h1)
    rw [hcells, ← hl] at this
    exact this.mono fun e w' ⟨h1, h2⟩ => ⟨h1, 0, h2⟩
  refine hc.mono ?_
  rintro v H' ⟨b, rfl, rfl⟩
  obtain ⟨s, hs, ho⟩ := own_new tyS 9 b (Lib.split x sep) (Lib.split x sep).length _ rfl rfl (by omega)
  subst hs
  exact ⟨⟨_, _, _, _, ho⟩, rfl, rfl, rfl⟩
theorem splitN_ok {w0 : World} {base : Nat} {H : List Seg} {x : List UInt8} (sep : List UInt8) (h1 : 1 ≤ sep.length) (hx : x.length < 4294967281) (T : Tabs w0 base) :
    SCalls Tryz.prog 133 [str x, str sep, int 3] w0 base H (fun v H' => ∃ y : Sl tyS 9, y.l = Lib.splitN x sep 3 ∧ v = .slice y.A y.l.length y.C ∧ H' = y.s :: H) := by
  obtain ⟨m, hm⟩ := T.max
  have hsz : (⟨⟨x⟩⟩ : ByteArray).size = x.length := str_size x
  have hb : (Lib.splitB ⟨⟨sep⟩⟩ 0 (min 3 (x.length + 1) - 1) ⟨⟨x⟩⟩).map (fun b => b.data.toList) = Lib.splitN x sep 3 := by rw [Lib.splitB_data]; rfl
  have hl : (Lib.splitB ⟨⟨sep⟩⟩ 0 (min 3 (x.length + 1) - 1) ⟨⟨x⟩⟩).length = (Lib.splitN x sep 3).length := by rw [← hb, List.length_map]
  have hle : (Lib.splitN x sep 3).length ≤ min 3 (x.length + 1) := by
    rw [← hl]; have := Lib.splitB_length_le ⟨⟨sep⟩⟩ 0 (min 3 (x.length + 1) - 1) ⟨⟨x⟩⟩; omega
  have hcells : Lib.cellsOf (Lib.splitB ⟨⟨sep⟩⟩ 0 (min 3 (x.length + 1) - 1) ⟨⟨x⟩⟩) (min 3 (x.length + 1)) = (tyS.cells (Lib.splitN x sep 3 ++ List.replicate (min 3 (x.length + 1) - (Lib.splitN x sep 3).length) [])).toArray := by
    rw [Lib.cellsOf, hl, cells_str, ← hb, List.map_append, List.map_map, List.map_replicate]; rfl
  have hc := SCalls.of_alloc (P := Tryz.prog) (f := 133) (args := [str x, str sep, int 3]) (w0 := w0) (base := base) (H := H) (v := fun b => .slice (some ⟨b, 0, none⟩) (Lib.splitN x sep 3).length (min 3 (x.length + 1))) (o := .cells (tyS.cells (Lib.splitN x sep 3 ++ List.replicate (min 3 (x.length + 1) - (Lib.splitN x sep 3).length) [])).toArray 9) fun w S => by
    have := Tryz.strings_SplitN ⟨⟨x⟩⟩ ⟨⟨sep⟩⟩ 3 m w (by rw [hsz]; omega) (S.cellBelow T.lt0 hm) (by rw [str_size]; exact h1) (by omega) (by omega)
    rw [hsz, hcells, hl] at this
    exact this.mono fun e w' ⟨h1, h2⟩ => ⟨h1, 0, h2⟩
  refine hc.mono ?_
  rintro v H' ⟨b, rfl, rfl⟩
  obtain ⟨s, hs, ho⟩ := own_newR tyS 9 b (Lib.splitN x sep 3) (List.replicate (min 3 (x.length + 1) - (Lib.splitN x sep 3).length) []) (min 3 (x.length + 1)) _ rfl (by rw [List.length_replicate]; omega) (by rw [List.length_replicate]; omega)
  subst hs
  exact ⟨⟨_, _, _, _, ho⟩, rfl, rfl, rfl⟩
theorem cutW_ok {w0 : World} {base : Nat} {H : List Seg} {x : List UInt8} (sep : List UInt8) (hx : x.length < 4294967281) (T : Tabs w0 base) :
    SCalls Tryz.prog 112 [str x, str sep] w0 base H (fun v H' => v = .tuple #[str (Lib.cut x sep).1, str (Lib.cut x sep).2.1, .bool (Lib.cut x sep).2.2] ∧ H' = H) := by
  obtain ⟨m, hm⟩ := T.max
  refine SCalls.of_draws fun w S => ?_
  exact Tryz.strings_Cut ⟨⟨x⟩⟩ ⟨⟨sep⟩⟩ m w (by rw [str_size]; omega) (S.cellBelow T.lt0 hm)
theorem cutW_le (sep x : List UInt8) : (Lib.cut x sep).1.length ≤ x.length ∧ (Lib.cut x sep).2.1.length ≤ x.length := by
  unfold Lib.cut
  split <;> simp; omega

set_option maxHeartbeats 400000 in
theorem bequal_ok {w0 : World} {base : Nat} {H : List Seg} {A Aq : Option Addr} {C Cq : Nat} {l m : List UInt8} (h : Rd tyB w0 base H A C l) (hq : Rd tyB w0 base H Aq Cq m) :
    SCalls Tryz.prog 135 [.slice A l.length C, .slice Aq m.length Cq] w0 base (H) (fun v H' => v = .bool (decide (l = m)) ∧ H' = H) := by
  have hle := h.le
  have hcap := h.cap
  have hle2 := hq.le
  have hcap2 := hq.cap
  refine SCalls.of_walk (n := 10) Tryz.func135 rfl rfl rfl fun cs => ?_
  refine At.seq ?_
  refine At.region ?_
  refine AtL.assign (.inl rfl) rfl rfl ?_
  refine AtL.done ?_
  refine At.seq ?_
  refine At.region ?_
  refine AtL.move (.inl rfl) rfl rfl ?_
  refine AtL.strOf h Tryz.underlying22 Tryz.underlying5 Tryz.underlying9 (.inl rfl) rfl rfl ?_
  refine AtL.move (.inl rfl) rfl rfl ?_
  refine AtL.strOf hq Tryz.underlying22 Tryz.underlying5 Tryz.underlying9 (.inl rfl) rfl rfl ?_
  refine AtL.eqs (a := l) (b := m) (.inl rfl) rfl rfl rfl ?_
  refine AtL.assign (.inl rfl) rfl rfl ?_
  refine AtL.done ?_
  exact At.ret Tryz.func135 rfl rfl (⟨rfl, rfl⟩)

theorem Rd.isNone {w0 : World} {base : Nat} {H : List Seg} {A : Option Addr} {C : Nat} {l : List UInt8} (h : Rd tyB w0 base H A C l) (hc : A.isNone = true) : l = [] := by
  cases A with
  | none => have h1 := h.nil rfl; have h2 := h.le; exact List.eq_nil_of_length_eq_zero (by omega)
  | some a => cases hc
theorem pref_iff {l m : List UInt8} : m <+: l ↔ ((m.length : Int) ≤ (l.length : Int) ∧ subl l 0 m.length = m) := by
  rw [subl_to, List.prefix_iff_eq_take]
  constructor
  · intro h
    refine ⟨?_, h.symm⟩
    have := congrArg List.length h
    rw [List.length_take] at this; omega
  · intro h; exact h.2.symm

set_option maxHeartbeats 400000 in
theorem bhasprefix_ok {w0 : World} {base : Nat} {H : List Seg} {A Aq : Option Addr} {C Cq : Nat} {l m : List UInt8} (h : Rd tyB w0 base H A C l) (hq : Rd tyB w0 base H Aq Cq m) :
    SCalls Tryz.prog 92 [.slice A l.length C, .slice Aq m.length Cq] w0 base (H) (fun v H' => v = .bool (decide (m <+: l)) ∧ H' = H) := by
  have hle := h.le
  have hcap := h.cap
  have hle2 := hq.le
  have hcap2 := hq.cap
  refine SCalls.of_walk (n := 18) Tryz.func92 rfl rfl rfl fun cs => ?_
  refine At.seq ?_
  refine At.region ?_
  refine AtL.assign (.inl rfl) rfl rfl ?_
  refine AtL.done ?_
  refine At.seq ?_
  refine At.region ?_
  refine AtL.move (.inl rfl) rfl rfl ?_
  refine AtL.lenL Tryz.underlying22 (.inl rfl) rfl rfl ?_
  refine AtL.move (.inl rfl) rfl rfl ?_
  refine AtL.lenL Tryz.underlying22 (.inl rfl) rfl rfl ?_
  refine AtL.geq (.inl rfl) rfl rfl rfl ?_
  refine AtL.move (.inl rfl) rfl rfl ?_
  refine AtL.join 7 (E' := [(17, .bool (decide (((m.length : Int) ≤ (l.length : Int)) ∧ (subl l 0 m.length = m))))]) (H' := H) (fun J => ?_) ?_
  · refine AtL.split (t := 10) rfl ?_ ?_
    · intro hs10
      have hs10 : (m.length : Int) ≤ (l.length : Int) := of_decide_eq_true hs10
      refine AtL.move (.inr ⟨_, _, _, rfl, rfl, rfl, rfl⟩) rfl rfl ?_
      refine AtL.move (.inr ⟨_, _, _, rfl, rfl, rfl, rfl⟩) rfl rfl ?_
      refine AtL.lenL Tryz.underlying22 (.inr ⟨_, _, _, rfl, rfl, rfl, rfl⟩) rfl rfl ?_
      have hleo3 := Rd.le h
      refine AtL.sliceR 0 0 m.length C h rfl (evBound_some rfl rfl) rfl (by intro h; cases h) (by omega) (by omega) (by omega) (by omega) Tryz.underlying22 tf_sz5 (.inr ⟨_, _, _, rfl, rfl, rfl, rfl⟩) rfl rfl ?_
      clear hleo3
      intro A1 C2 (o3 : Rd tyB w0 base H A1 C2 (subl l 0 m.length))
      have hlo3 : (subl l 0 m.length).length = m.length - 0 := subl_len (by omega)
      refine AtL.move (.inr ⟨_, _, _, rfl, rfl, rfl, rfl⟩) rfl rfl ?_
      refine AtL.call tf_body135 (.inr ⟨_, _, _, rfl, rfl, rfl, rfl⟩) rfl rfl (bequal_ok (l := subl l 0 m.length) (m := m) o3 hq) ?_
      rintro _ _ ⟨rfl, hHq⟩
      obtain rfl := hHq.symm
      refine AtL.pickT (.inl rfl) rfl rfl rfl ?_
      exact J _ (by exact ⟨(boolIs (by clear J; first | (simp [hs10]; done) | (simp_all; done) | grind)), trivial⟩)
    · intro hs10
      have hs10 : ¬ ((m.length : Int) ≤ (l.length : Int)) := of_decide_eq_false hs10
      refine AtL.skipped rfl rfl rfl rfl rfl rfl ?_
      refine AtL.skipped rfl rfl rfl rfl rfl rfl ?_
      refine AtL.skipped rfl rfl rfl rfl rfl rfl ?_
      refine AtL.skipped rfl rfl rfl rfl rfl rfl ?_
      refine AtL.skipped rfl rfl rfl rfl rfl rfl ?_
      refine AtL.skipped rfl rfl rfl rfl rfl rfl ?_
      refine AtL.pickF (.inl rfl) rfl rfl rfl ?_
      exact J _ (by exact ⟨(boolIs (by clear J; first | (simp [hs10]; done) | (simp_all; done) | grind)), trivial⟩)
  · skip
    refine AtL.assign (.inl rfl) rfl rfl ?_
    refine AtL.done ?_
    exact At.ret Tryz.func92 rfl rfl (⟨congrArg Value.bool (decide_eq_decide.2 pref_iff.symm), rfl⟩)

set_option maxHeartbeats 400000 in
theorem bclone_ok {w0 : World} {base : Nat} {H : List Seg} {A : Option Addr} {C : Nat} {l : List UInt8} (h : Rd tyB w0 base H A C l) (hbl : l.length ≤ 4294967280) :
    SCalls Tryz.prog 134 [.slice A l.length C] w0 base (H) (fun v H' => ∃ x : Sl tyB 5, x.l = l ∧ v = .slice x.A x.l.length x.C ∧ H' = x.s :: H) := by
  have hle := h.le
  have hcap := h.cap
  refine SCalls.of_walk (n := 8) Tryz.func134 rfl rfl rfl fun cs => ?_
  refine At.seq ?_
  refine At.region ?_
  refine AtL.assign (.inl rfl) rfl rfl ?_
  refine AtL.done ?_
  refine At.seq ?_
  refine At.seq ?_
  refine At.region ?_
  refine AtL.move (.inl rfl) rfl rfl ?_
  refine AtL.eqSliceNil Tryz.underlying22 (.inl rfl) rfl rfl rfl ?_
  refine AtL.done ?_
  refine At.cond rfl ?_ ?_
  · intro hc1
    have hc1 : A.isNone = true := hc1
    refine At.seq ?_
    refine At.region ?_
    refine AtL.assign (.inl rfl) rfl rfl ?_
    refine AtL.done ?_
    refine At.nil ?_
    exact At.ret Tryz.func134 rfl rfl (⟨Sl.nil, (Rd.isNone h hc1).symm, rfl, rfl⟩)
  · intro hc1
    have hc1 : A.isNone = false := hc1
    refine At.skip ?_
    refine At.seq ?_
    refine At.region ?_
    refine AtL.buildSlice (cs := []) Tryz.underlying22 tf_zero5 tf_sz5 rfl rfl (.inl rfl) rfl rfl rfl ?_
    intro b1
    refine AtL.own1 tyB (l := ([] : List UInt8)) rfl rfl (by first | decide | simp) ?_
    intro s2 o3
    refine AtL.move (.inl rfl) rfl rfl ?_
    refine AtL.append (l := []) (news := l) 0 tf_el22 rfl o3 (Rd.skip 1 h) (by first | omega | (simp only [List.length_append, List.length_cons, List.length_nil]; omega) | (simp; done) | (simp; omega)) (.inl rfl) rfl rfl rfl ?_
    intro A4 C5 s6 o7
    refine AtL.assign (.inl rfl) rfl rfl ?_
    refine AtL.done ?_
    exact At.ret Tryz.func134 rfl rfl (⟨⟨A4, C5, l, s6, o7⟩, by simp, rfl, rfl⟩)

end Go.Proofs.YtlfkoimkojbghaaGreatDoor
