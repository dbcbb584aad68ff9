/- Heads: Keep. -/
import Derived.Test.YtlfkoimkojbghaaGreatDoorI1
import Derived.Test.YtlfkoimkojbghaaGreatDoorLgW
namespace Go.Proofs.YtlfkoimkojbghaaGreatDoor
set_option linter.unusedVariables false
set_option linter.unusedSimpArgs false
set_option maxRecDepth 100000

theorem sindex_ok {w0 : World} {base : Nat} {H : List Seg} {x : List UInt8} (c : UInt8) (hx : x.length < 4294967281) (T : Tabs w0 base) :
    SCalls Tryz.prog 183 [str x, str [c]] w0 base H (fun v H' => ∃ z : Int, z = Lib.index x [c] ∧ v = int z ∧ H' = H) := by
  obtain ⟨m, hm⟩ := T.max
  refine (SCalls.of_same fun w S => Any.strings_Index { Tryz.lays146 with } ⟨⟨x⟩⟩ ⟨⟨[c]⟩⟩ m w (by rw [str_size]; omega) (S.cellBelow T.lt0 hm)).mono ?_
  rintro v H' ⟨rfl, rfl⟩
  exact ⟨_, rfl, rfl, rfl⟩
theorem sp_at {c : UInt8} {l : List UInt8} {z : Int} (hz : z = Lib.index l [c]) (h : ¬ z < 0) : ∃ i : Nat, z = (i : Int) ∧ i < l.length ∧ spF c l = subl l 0 (i + 0) :: spF c (subl l (i + [c].length) l.length) := by
  rcases index_c c l with ⟨h1, _⟩ | ⟨i, h1, h2, _, h4⟩
  · omega
  · refine ⟨i, by omega, h2, ?_⟩
    rw [h4, subl_to, subl_from]; rfl
theorem sp_no {c : UInt8} {l : List UInt8} {z : Int} (hz : z = Lib.index l [c]) (h : z < 0) : spF c l = [l] := by
  rcases index_c c l with ⟨_, _, h1⟩ | ⟨i, h1, _⟩
  · exact h1
  · omega

set_option maxHeartbeats 400000 in
theorem seqit_ok {w0 : World} {base : Nat} {T Hc : List Seg} {lp bp bs bv : Nat} {x : List UInt8} {c : UInt8} {J : List (List UInt8) → List Seg → Prop} {K : List Seg → Prop} (hx : x.length < 4294967281) (TT : Tabs w0 base)
    (hY : ∀ u us Hc, u.length ≤ x.length → J (u :: us) Hc → ∀ T', YCalls Tryz.prog lp [str u] w0 base (Hc ++ T') (fun v H' => ∃ (b : Bool) (Hc' : List Seg), v = .bool b ∧ H' = Hc' ++ T' ∧ (b = true → J us Hc') ∧ (b = false → K Hc')))
    (h0 : J (spF c x) Hc) :
    SCalls Tryz.prog 182 [.func (.yield lp) #[] #[], .pointer (some ⟨bp, 0, none⟩), .pointer (some ⟨bs, 0, none⟩), .pointer (some ⟨bv, 0, none⟩)] w0 base ([(bp, .cells #[str [c]] 9 (0, 0))] :: [(bs, .cells #[str x] 9 (0, 0))] :: [(bv, .cells #[.int .i64 0] 3 (0, 0))] :: (Hc ++ T)) (fun v H' => ∃ (b : Bool) (y : List UInt8) (Hc' : List Seg), (b = true → J [] Hc') ∧ (b = false → K Hc') ∧ v = .tuple #[] ∧ H' = [(bp, .cells #[str [c]] 9 (0, 0))] :: [(bs, .cells #[str y] 9 (0, 0))] :: [(bv, .cells #[.int .i64 0] 3 (0, 0))] :: (Hc' ++ T)) := by
  refine SCalls.of_walk (n := 52) Tryz.func182 rfl rfl rfl fun cs => ?_
  refine At.seq ?_
  refine At.seq ?_
  refine At.region ?_
  refine AtL.load tf_flat9 (.inl rfl) rfl rfl (Cell.own 0 0 rfl rfl rfl) ?_
  refine AtL.lenS (l := [c]) Tryz.underlying9 (.inl rfl) rfl rfl ?_
  refine AtL.eqi (.inl rfl) rfl rfl rfl ?_
  refine AtL.done ?_
  refine At.condIs false rfl (decide_eq_false (by simp)) ?_
  refine At.skip ?_
  refine At.seq ?_
  refine At.block ?_
  refine At.loop2 (fun (y : List UInt8) (Hc2 : List Seg) => [(0, .func (.yield lp) #[] #[]), (1, .pointer (some ⟨bp, 0, none⟩)), (2, .pointer (some ⟨bs, 0, none⟩)), (3, .pointer (some ⟨bv, 0, none⟩))]) (fun (y : List UInt8) (Hc2 : List Seg) => [(bp, .cells #[str [c]] 9 (0, 0))] :: [(bs, .cells #[str y] 9 (0, 0))] :: [(bv, .cells #[.int .i64 0] 3 (0, 0))] :: (Hc2 ++ T)) (fun (y : List UInt8) (Hc2 : List Seg) => J (spF c y) Hc2 ∧ y.length ≤ x.length) (fun (y : List UInt8) (Hc2 : List Seg) => y.length) x Hc (⟨h0, Nat.le_refl _⟩) ⟨rfl, rfl, rfl, rfl, trivial⟩ rfl ?_
  rintro y Hc2 ⟨hJ, hy⟩ ihL2
  have hcl : ([c] : List UInt8).length = 1 := rfl
  refine At.block ?_
  refine At.seq ?_
  refine At.region ?_
  refine AtL.load tf_flat9 (.inl rfl) rfl rfl (Cell.own 1 0 rfl rfl rfl) ?_
  refine AtL.load tf_flat9 (.inl rfl) rfl rfl (Cell.own 0 0 rfl rfl rfl) ?_
  refine AtL.call tf_body183 (.inl rfl) rfl rfl (sindex_ok c (by omega) TT) ?_
  rintro _ _ ⟨z1, hz2, rfl, rfl⟩
  refine AtL.assign (.inl rfl) rfl rfl ?_
  refine AtL.done ?_
  refine At.seq ?_
  refine At.seq ?_
  refine At.region ?_
  refine AtL.move (.inl rfl) rfl rfl ?_
  refine AtL.lss (.inl rfl) rfl rfl rfl ?_
  refine AtL.done ?_
  refine At.cond rfl ?_ ?_
  · intro hc4
    have hc4 : (z1 : Int) < 0 := of_decide_eq_true hc4
    refine At.exit rfl ?_
    refine At.region ?_
    refine AtL.move (.inl rfl) rfl rfl ?_
    refine AtL.load tf_flat9 (.inl rfl) rfl rfl (Cell.own 1 0 rfl rfl rfl) ?_
    refine AtL.yield (.inl rfl) rfl rfl rfl (YCalls.perm (perm3 ([(bp, .cells #[str [c]] 9 (0, 0))]) ([(bs, .cells #[str y] 9 (0, 0))]) ([(bv, .cells #[.int .i64 0] 3 (0, 0))]) Hc2 T) (hY y [] Hc2 (by omega) (by rw [← sp_no hz2 hc4]; exact hJ) ([(bp, .cells #[str [c]] 9 (0, 0))] :: [(bs, .cells #[str y] 9 (0, 0))] :: [(bv, .cells #[.int .i64 0] 3 (0, 0))] :: T))) ?_
    rintro _ _ ⟨bb, Hc3, rfl, rfl, hJ3, hK3⟩
    refine AtL.perm (perm3 _ _ _ Hc3 T).symm ?_
    refine AtL.done ?_
    exact At.end_ Tryz.func182 rfl rfl (⟨bb, y, Hc3, fun h => hJ3 h, fun h => hK3 h, rfl, rfl⟩)
  · intro hc4
    have hc4 : ¬ ((z1 : Int) < 0) := of_decide_eq_false hc4
    obtain ⟨i, hi, hil, hsp⟩ := sp_at hz2 hc4
    subst hi
    refine At.skip ?_
    refine At.seq ?_
    refine At.region ?_
    refine AtL.load tf_flat9 (.inl rfl) rfl rfl (Cell.own 1 0 rfl rfl rfl) ?_
    refine AtL.move (.inl rfl) rfl rfl ?_
    refine AtL.load tf_flat3 (.inl rfl) rfl rfl (Cell.own 2 0 rfl rfl rfl) ?_
    refine AtL.add (z := (i : Int) + 0) (.inl rfl) rfl rfl rfl (w64 (by omega) (by omega)) ?_
    refine AtL.sliceS (l := y) 0 (i + 0) rfl (evBound_some rfl rfl) (by omega) (by omega) Tryz.underlying9 (.inl rfl) rfl rfl ?_
    refine AtL.assign (.inl rfl) rfl rfl ?_
    refine AtL.done ?_
    refine At.seq ?_
    refine At.seq ?_
    refine At.region ?_
    refine AtL.move (.inl rfl) rfl rfl ?_
    refine AtL.move (.inl rfl) rfl rfl ?_
    refine AtL.yield (.inl rfl) rfl rfl rfl (YCalls.perm (perm3 ([(bp, .cells #[str [c]] 9 (0, 0))]) ([(bs, .cells #[str y] 9 (0, 0))]) ([(bv, .cells #[.int .i64 0] 3 (0, 0))]) Hc2 T) (hY (subl y 0 (i + 0)) (spF c (subl y (i + [c].length) y.length)) Hc2 (by rw [subl_len (by omega)]; omega) (by rw [← hsp]; exact hJ) ([(bp, .cells #[str [c]] 9 (0, 0))] :: [(bs, .cells #[str y] 9 (0, 0))] :: [(bv, .cells #[.int .i64 0] 3 (0, 0))] :: T))) ?_
    rintro _ _ ⟨bb, Hc3, rfl, rfl, hJ3, hK3⟩
    refine AtL.perm (perm3 _ _ _ Hc3 T).symm ?_
    refine AtL.not (.inl rfl) rfl rfl ?_
    refine AtL.done ?_
    refine At.cond rfl ?_ ?_
    · intro hc5
      have hc5 : bb = false := bnot_true hc5
      exact At.ret Tryz.func182 rfl rfl (⟨false, y, Hc3, fun h => (by cases h), fun _ => hK3 hc5, rfl, rfl⟩)
    · intro hc5
      have hc5 : bb = true := bnot_false hc5
      refine At.skip ?_
      refine At.region ?_
      refine AtL.load tf_flat9 (.inl rfl) rfl rfl (Cell.own 1 0 rfl rfl rfl) ?_
      refine AtL.move (.inl rfl) rfl rfl ?_
      refine AtL.load tf_flat9 (.inl rfl) rfl rfl (Cell.own 0 0 rfl rfl rfl) ?_
      refine AtL.lenS (l := [c]) Tryz.underlying9 (.inl rfl) rfl rfl ?_
      refine AtL.add (z := (i : Int) + ([c].length : Int)) (.inl rfl) rfl rfl rfl (w64 (by omega) (by omega)) ?_
      refine AtL.sliceS (l := y) (i + ([c].length)) y.length (evBound_some rfl rfl) rfl (by omega) (by omega) Tryz.underlying9 (.inl rfl) rfl rfl ?_
      refine AtL.store (H' := [(bp, .cells #[str [c]] 9 (0, 0))] :: [(bs, .cells #[str (subl y (i + ([c].length)) y.length)] 9 (0, 0))] :: [(bv, .cells #[.int .i64 0] 3 (0, 0))] :: (Hc3 ++ T)) 1 0 tf_sz9 (.inl rfl) rfl rfl rfl rfl rfl rfl rfl rfl rfl ?_
      refine AtL.done ?_
      refine At.inBlock ?_
      refine ihL2 (subl y (i + ([c].length)) y.length) Hc3 (⟨hJ3 hc5, by rw [subl_len (Nat.le_refl _)]; omega⟩) (by rw [subl_len (Nat.le_refl _)]; omega) _ ?_
      exact ⟨rfl, rfl, rfl, rfl, trivial⟩

set_option maxHeartbeats 400000 in
theorem splitseq0_ok {w0 : World} {base : Nat} {H : List Seg} (x : List UInt8) (c : UInt8) :
    SCalls Tryz.prog 148 [str x, str [c], .int .i64 0] w0 base (H) (fun v H' => ∃ bp bs bv : Nat, v = .func (.func 182) #[] #[.pointer (some ⟨bp, 0, none⟩), .pointer (some ⟨bs, 0, none⟩), .pointer (some ⟨bv, 0, none⟩)] ∧ H' = [(bp, .cells #[str [c]] 9 (0, 0))] :: [(bs, .cells #[str x] 9 (0, 0))] :: [(bv, .cells #[.int .i64 0] 3 (0, 0))] :: H) := by
  refine SCalls.of_walk (n := 8) Tryz.func148 rfl rfl rfl fun cs => ?_
  refine At.seq ?_
  refine At.region ?_
  refine AtL.box (cs := #[str x]) rfl (.inl rfl) rfl rfl ?_
  intro b1
  refine AtL.box (cs := #[str [c]]) rfl (.inl rfl) rfl rfl ?_
  intro b2
  refine AtL.box (cs := #[.int .i64 0]) rfl (.inl rfl) rfl rfl ?_
  intro b3
  refine AtL.assign (.inl rfl) rfl rfl ?_
  refine AtL.done ?_
  refine At.seq ?_
  refine At.region ?_
  refine AtL.makeFunc (.inl rfl) rfl rfl rfl ?_
  refine AtL.assign (.inl rfl) rfl rfl ?_
  refine AtL.done ?_
  refine At.pick (H' := [(b2, .cells #[str [c]] 9 (0, 0))] :: [(b1, .cells #[str x] 9 (0, 0))] :: [(b3, .cells #[.int .i64 0] 3 (0, 0))] :: H) [1, 2, 0] 3 rfl rfl ?_
  exact At.ret Tryz.func148 rfl rfl (⟨b2, b1, b3, rfl, rfl⟩)

set_option maxHeartbeats 400000 in
theorem splitseq_ok {w0 : World} {base : Nat} {H : List Seg} (x : List UInt8) (c : UInt8) :
    SCalls Tryz.prog 103 [str x, str [c]] w0 base (H) (fun v H' => ∃ bp bs bv : Nat, v = .func (.func 182) #[] #[.pointer (some ⟨bp, 0, none⟩), .pointer (some ⟨bs, 0, none⟩), .pointer (some ⟨bv, 0, none⟩)] ∧ H' = [(bp, .cells #[str [c]] 9 (0, 0))] :: [(bs, .cells #[str x] 9 (0, 0))] :: [(bv, .cells #[.int .i64 0] 3 (0, 0))] :: H) := by
  refine SCalls.of_walk (n := 8) Tryz.func103 rfl rfl rfl fun cs => ?_
  refine At.seq ?_
  refine At.region ?_
  refine AtL.assign (.inl rfl) rfl rfl ?_
  refine AtL.done ?_
  refine At.seq ?_
  refine At.region ?_
  refine AtL.move (.inl rfl) rfl rfl ?_
  refine AtL.move (.inl rfl) rfl rfl ?_
  refine AtL.call tf_body148 (.inl rfl) rfl rfl (splitseq0_ok x c) ?_
  rintro _ _ ⟨bp1, bs2, bv3, rfl, rfl⟩
  refine AtL.assign (.inl rfl) rfl rfl ?_
  refine AtL.done ?_
  exact At.ret Tryz.func103 rfl rfl (⟨bp1, bs2, bv3, rfl, rfl⟩)

def wdF (v : List UInt8) : List (List UInt8) := (spF 44 v).map fun x => lowerF (trimF x)
theorem keep_start (fs : List Fld) (minor : Int) : goesF (decide (minor = 1)) (((allF fs [99, 111, 110, 110, 101, 99, 116, 105, 111, 110]).drop 0).flatMap wdF) = keepF fs minor := rfl
theorem keep_end {k : Bool} {l : List (List UInt8)} {j : Nat} {r : Bool} (h : goesF k ((l.drop j).flatMap wdF) = r) (hj : l.length ≤ j) : k = r := by
  rw [List.drop_eq_nil_of_le hj] at h; exact h
theorem keep_in {k : Bool} {l : List (List UInt8)} {j : Nat} {r : Bool} (h : goesF k ((l.drop j).flatMap wdF) = r) (hj : j < l.length) : goesF k (((spF 44 (l.getD j [])).map fun x => lowerF (trimF x)) ++ (l.drop (j + 1)).flatMap wdF) = r := by
  rw [List.drop_eq_getElem_cons hj, List.flatMap_cons] at h
  rw [show l.getD j [] = l[j] by simp [List.getD, hj]]
  exact h
theorem keep_close {k : Bool} {u : List UInt8} {us : List (List UInt8)} {rest : List (List UInt8)} {r : Bool} (h : goesF k (((u :: us).map fun x => lowerF (trimF x)) ++ rest) = r) (hc : lowerF (Lib.trimS u [9, 32]) = [99, 108, 111, 115, 101]) : r = false := by
  rw [trim_set] at hc
  rw [List.map_cons, List.cons_append, goesF, if_pos (by exact hc)] at h
  exact h.symm
theorem keep_next {k : Bool} {u : List UInt8} {us : List (List UInt8)} {rest : List (List UInt8)} {r : Bool} (h : goesF k (((u :: us).map fun x => lowerF (trimF x)) ++ rest) = r) (hc : ¬ lowerF (Lib.trimS u [9, 32]) = [99, 108, 111, 115, 101]) :
    (lowerF (Lib.trimS u [9, 32]) = [107, 101, 101, 112, 45, 97, 108, 105, 118, 101] → goesF true ((us.map fun x => lowerF (trimF x)) ++ rest) = r) ∧ (¬ lowerF (Lib.trimS u [9, 32]) = [107, 101, 101, 112, 45, 97, 108, 105, 118, 101] → goesF k ((us.map fun x => lowerF (trimF x)) ++ rest) = r) := by
  rw [trim_set] at hc ⊢
  rw [List.map_cons, List.cons_append, goesF, if_neg (by exact hc)] at h
  refine ⟨fun ha => ?_, fun ha => ?_⟩
  · rw [show decide (lowerF (trimF u) = ALIVE) = true from decide_eq_true ha, Bool.or_true] at h; exact h
  · rw [show decide (lowerF (trimF u) = ALIVE) = false from decide_eq_false ha, Bool.or_false] at h; exact h
theorem trimS_le2 (u cs : List UInt8) : (Lib.trimS u cs).length ≤ u.length := by
  unfold Lib.trimS Lib.trimLeftS Lib.trimRightS
  exact Nat.le_trans (dw_le _ _) (by rw [List.length_reverse]; exact Nat.le_trans (dw_le _ _) (by rw [List.length_reverse]; exact Nat.le_refl _))

set_option maxHeartbeats 1000000 in
theorem keep_ok {w0 : World} {base : Nat} {H : List Seg} {m t : List UInt8} {minor : Int} {A : Option Addr} {C : Nat} {fs : List (List UInt8 × List UInt8)} (h : Rd tyField w0 base H A C fs) (hfl : fs.length ≤ 1000) (hb : ∀ f ∈ fs, f.1.length ≤ 140737488355000 ∧ f.2.length ≤ 140737488355000) (hb4 : ∀ f ∈ fs, f.2.length < 4294967281) (TT : Tabs w0 base) :
    SCalls Tryz.prog 54 [.agg #[str m, str t, .int .i64 minor, .slice A fs.length C]] w0 base (H) (fun v H' => v = .bool (keepF fs minor) ∧ H' = H) := by
  have hle0 := h.le
  have hcap0 := h.cap
  refine SCalls.of_walk (n := 29) Tryz.func54 rfl rfl rfl fun cs => ?_
  refine At.seq ?_
  refine At.region ?_
  refine AtL.box (cs := #[str m, str t, .int .i64 minor, .slice A fs.length C]) rfl (.inl rfl) rfl rfl ?_
  intro b1
  refine AtL.alloc tf_zero4 (cs := #[.bool false]) rfl (.inl rfl) rfl ?_
  intro b2
  refine AtL.done ?_
  refine At.seq ?_
  refine At.region ?_
  refine AtL.fieldAddrB tf_fo35_2 (.inl rfl) rfl rfl rfl ?_
  refine AtL.load tf_flat3 (.inl rfl) rfl rfl (Cell.own 1 0 rfl rfl rfl) ?_
  refine AtL.eqi (.inl rfl) rfl rfl rfl ?_
  refine AtL.alloc tf_zero4 (cs := #[.bool false]) rfl (.inl rfl) rfl ?_
  intro b3
  refine AtL.store (H' := [(b3, .cells #[.bool (decide ((minor : Int) = 1))] 4 (0, 0))] :: [(b2, .cells #[.bool false] 4 (0, 0))] :: [(b1, .cells #[str m, str t, .int .i64 minor, .slice A fs.length C] 35 (0, 0))] :: H) 0 0 tf_sz4 (.inl rfl) rfl rfl rfl rfl rfl rfl rfl rfl rfl ?_
  refine AtL.done ?_
  refine At.seq ?_
  refine At.seq ?_
  refine At.region ?_
  refine AtL.loadN (cs := [str m, str t, .int .i64 minor, .slice A fs.length C]) tf_agg35 (.inl rfl) rfl rfl rfl (cellsOwn 2 0 0 rfl rfl rfl) ?_
  refine AtL.call tf_body99 (.inl rfl) rfl rfl (all_ok (fs := fs) (Rd.skip 3 h) (nm := [99, 111, 110, 110, 101, 99, 116, 105, 111, 110]) (by decide) hfl hb) ?_
  rintro _ _ ⟨⟨A4, C5, l6, s7, o8⟩, hx9, rfl, rfl⟩
  have hcapL := Own.cap_le o8
  have hleL := Own.le_cap o8
  have hL : l6 = allF fs [99, 111, 110, 110, 101, 99, 116, 105, 111, 110] := hx9
  have hLb : ∀ u ∈ l6, u.length < 4294967281 := fun u hu => by
    rw [hL] at hu
    obtain ⟨f, hf, he⟩ := List.mem_map.1 hu
    have := hb4 f (List.mem_filter.1 hf).1
    rw [← he]; exact this
  refine AtL.lenL Tryz.underlying132 (.inl rfl) rfl rfl ?_
  refine AtL.move (.inl rfl) rfl rfl ?_
  refine AtL.done ?_
  refine At.block ?_
  refine At.nil ?_
  refine At.pick (H' := [(b3, .cells #[.bool (decide ((minor : Int) = 1))] 4 (0, 0))] :: [(b2, .cells #[.bool false] 4 (0, 0))] :: [(b1, .cells #[str m, str t, .int .i64 minor, .slice A fs.length C] 35 (0, 0))] :: s7 :: [] :: H) [2, 3, 4, 1, 0] 5 rfl rfl ?_
  refine At.loopD3 (fun (k : Nat) (kp : Bool) (rs : List Nat) => [(2, .pointer (some ⟨b2, 0, none⟩)), (3, .pointer (some ⟨b3, 0, none⟩)), (11, .slice A4 l6.length C5), (12, .int .i64 (l6.length : Int)), (13, .int .i64 (k : Int))]) (fun (k : Nat) (kp : Bool) (rs : List Nat) => [(b3, .cells #[.bool kp] 4 (0, 0))] :: [(b2, .cells #[.bool false] 4 (0, 0))] :: [(b1, .cells #[str m, str t, .int .i64 minor, .slice A fs.length C] 35 (0, 0))] :: s7 :: defsOf rs :: H) (fun (k : Nat) (kp : Bool) (rs : List Nat) => colsOf rs) (fun (k : Nat) (kp : Bool) (rs : List Nat) => k ≤ l6.length ∧ goesF kp ((l6.drop k).flatMap wdF) = keepF fs minor) (fun (k : Nat) (kp : Bool) (rs : List Nat) => l6.length - k) 0 (decide ((minor : Int) = 1)) [] ⟨Nat.zero_le _, by rw [hL]; exact keep_start fs minor⟩ ⟨rfl, rfl, rfl, rfl, rfl, trivial⟩ rfl rfl ?_
  rintro k kp rs ⟨hk, hg⟩ ihL1
  refine At.seq ?_
  refine At.region ?_
  refine AtL.lss (.inl rfl) rfl rfl rfl ?_
  refine AtL.done ?_
  refine At.seq ?_
  refine At.cond rfl ?_ ?_
  · intro hc1
    have hc1 : (k : Int) < (l6.length : Int) := of_decide_eq_true hc1
    have hvl := hLb _ (getD_mem (l := l6) (i := k) (d := ([] : List UInt8)) (by omega))
    refine At.skip ?_
    refine At.seq ?_
    refine At.block ?_
    refine At.seq ?_
    refine At.region ?_
    refine AtL.indexL k (o8.rd (i := 3) rfl) Tryz.underlying132 tf_sz9 (.inl rfl) rfl rfl rfl rfl (by omega) ?_
    refine AtL.load (v := str (l6.getD k [])) tf_flat9 (.inl rfl) rfl rfl (Rd.cell0 (o8.rd (i := 3) rfl) (getD_some [] (by omega)) rfl) ?_
    refine AtL.assign (.inl rfl) rfl rfl ?_
    refine AtL.done ?_
    refine At.seq ?_
    refine At.region ?_
    refine AtL.move (.inl rfl) rfl rfl ?_
    refine AtL.call tf_body103 (.inl rfl) rfl rfl (splitseq_ok (l6.getD k []) 44) ?_
    rintro _ _ ⟨bp10, bs11, bv12, rfl, rfl⟩
    refine AtL.done ?_
    refine At.block ?_
    refine At.rangeF (R := (fun L lp rr v H' => ∃ (b kq : Bool) (y : List UInt8) (L' : Loop), (b = true → goesF kq ((l6.drop (k + 1)).flatMap wdF) = keepF fs minor ∧ L' = L) ∧ (b = false → keepF fs minor = false ∧ L' = leftL L .ret) ∧ H' = [(bp10, .cells #[str [44]] 9 (0, 0))] :: [(bs11, .cells #[str y] 9 (0, 0))] :: [(bv12, .cells #[.int .i64 0] 3 (0, 0))] :: [(lp, .loop L')] :: [(rr, .deferred (some []))] :: [(b3, .cells #[.bool kq] 4 (0, 0))] :: [(b2, .cells #[.bool false] 4 (0, 0))] :: [(b1, .cells #[str m, str t, .int .i64 minor, .slice A fs.length C] 35 (0, 0))] :: s7 :: defsOf rs :: H)) rfl tf_body182 rfl (fun lp => rfl) (fun L lp rr hL => ?_) (fun L lp rr v H1 hL hR => ?_)
    · skip
      refine SCalls.pick (H' := [(bp10, .cells #[str [44]] 9 (0, 0))] :: [(bs11, .cells #[str (l6.getD k [])] 9 (0, 0))] :: [(bv12, .cells #[.int .i64 0] 3 (0, 0))] :: [(lp, .loop L)] :: [(rr, .deferred (some []))] :: [(b3, .cells #[.bool kp] 4 (0, 0))] :: [(b2, .cells #[.bool false] 4 (0, 0))] :: [(b1, .cells #[str m, str t, .int .i64 minor, .slice A fs.length C] 35 (0, 0))] :: s7 :: defsOf rs :: H) [2, 3, 4, 0, 1, 5, 6] 7 rfl rfl ?_
      refine SCalls.mono (seqit_ok (x := (l6.getD k [])) (c := 44) (T := [(b1, .cells #[str m, str t, .int .i64 minor, .slice A fs.length C] 35 (0, 0))] :: s7 :: defsOf rs :: H) (Hc := [[(lp, .loop L)], [(rr, .deferred (some []))], [(b3, .cells #[.bool kp] 4 (0, 0))], [(b2, .cells #[.bool false] 4 (0, 0))]]) (J := (fun us Hc => ∃ kq : Bool, goesF kq ((us.map fun x => lowerF (trimF x)) ++ ((l6.drop (k + 1)).flatMap wdF)) = keepF fs minor ∧ Hc = [[(lp, .loop L)], [(rr, .deferred (some []))], [(b3, .cells #[.bool kq] 4 (0, 0))], [(b2, .cells #[.bool false] 4 (0, 0))]])) (K := (fun Hc => ∃ kq : Bool, keepF fs minor = false ∧ Hc = [[(lp, .loop (leftL L .ret))], [(rr, .deferred (some []))], [(b3, .cells #[.bool kq] 4 (0, 0))], [(b2, .cells #[.bool false] 4 (0, 0))]])) (by omega) TT (fun u us Hc hul hJ T' => ?_) ⟨_, keep_in hg (by omega), rfl⟩) (fun v H' hp => ?_)
      · skip
        obtain ⟨kq, hq, rfl⟩ := hJ
        have htl := trimS_le2 u [9, 32]
        refine YCalls.walkL hL (i := 0) (j := 0) rfl rfl rfl rfl rfl (fun c cs => ?_)
        refine At.region ?_
        refine AtL.assign (.inl rfl) rfl rfl ?_
        refine AtL.done ?_
        refine At.beginL 0 0 hL rfl rfl rfl rfl ?_
        refine At.block ?_
        refine At.seq ?_
        refine At.region ?_
        refine AtL.move (.inl rfl) rfl rfl ?_
        refine AtL.call tf_body100 (.inl rfl) rfl rfl (trim_ok (x := u) (cs := [9, 32]) (by omega) (by decide) (by decide)) ?_
        rintro _ _ ⟨rfl, rfl⟩
        refine AtL.call tf_body104 (.inl rfl) rfl rfl (lower_ok (l := Lib.trimS u [9, 32]) (by omega)) ?_
        rintro _ _ ⟨rfl, rfl⟩
        refine AtL.done ?_
        refine At.block ?_
        refine At.seq ?_
        refine At.region ?_
        refine AtL.eqs (a := lowerF (Lib.trimS u [9, 32])) (b := [99, 108, 111, 115, 101]) (.inl rfl) rfl rfl rfl ?_
        refine AtL.assign (.inl rfl) rfl rfl ?_
        refine AtL.done ?_
        refine At.cond rfl ?_ ?_
        · intro hc2
          have hc2 : lowerF (Lib.trimS u [9, 32]) = [99, 108, 111, 115, 101] := of_decide_eq_true hc2
          refine At.seq ?_
          refine At.region ?_
          refine AtL.store (H' := [(lp, .loop (busyL L))] :: [(rr, .deferred (some []))] :: [(b3, .cells #[.bool kq] 4 (0, 0))] :: [(b2, .cells #[.bool false] 4 (0, 0))] :: T') 3 0 tf_sz4 (.inl rfl) rfl rfl rfl rfl rfl rfl rfl rfl rfl ?_
          refine AtL.done ?_
          exact At.roundRetL 0 0 rfl rfl rfl (⟨false, [[(lp, .loop (leftL L .ret))], [(rr, .deferred (some []))], [(b3, .cells #[.bool kq] 4 (0, 0))], [(b2, .cells #[.bool false] 4 (0, 0))]], rfl, rfl, fun h => (by cases h), fun _ => ⟨kq, keep_close hq hc2, rfl⟩⟩)
        · intro hc2
          have hc2 : ¬ (lowerF (Lib.trimS u [9, 32]) = [99, 108, 111, 115, 101]) := of_decide_eq_false hc2
          refine At.seq ?_
          refine At.region ?_
          refine AtL.eqs (a := lowerF (Lib.trimS u [9, 32])) (b := [107, 101, 101, 112, 45, 97, 108, 105, 118, 101]) (.inl rfl) rfl rfl rfl ?_
          refine AtL.assign (.inl rfl) rfl rfl ?_
          refine AtL.done ?_
          refine At.cond rfl ?_ ?_
          · intro hc3
            have hc3 : lowerF (Lib.trimS u [9, 32]) = [107, 101, 101, 112, 45, 97, 108, 105, 118, 101] := of_decide_eq_true hc3
            refine At.region ?_
            refine AtL.store (H' := [(lp, .loop (busyL L))] :: [(rr, .deferred (some []))] :: [(b3, .cells #[.bool true] 4 (0, 0))] :: [(b2, .cells #[.bool false] 4 (0, 0))] :: T') 2 0 tf_sz4 (.inl rfl) rfl rfl rfl rfl rfl rfl rfl rfl rfl ?_
            refine AtL.done ?_
            refine At.inBlock ?_
            refine At.inBlock ?_
            exact At.roundEndL 0 0 hL rfl rfl rfl (⟨true, [[(lp, .loop L)], [(rr, .deferred (some []))], [(b3, .cells #[.bool true] 4 (0, 0))], [(b2, .cells #[.bool false] 4 (0, 0))]], rfl, rfl, fun _ => ⟨true, (keep_next hq hc2).1 hc3, rfl⟩, fun h => (by cases h)⟩)
          · intro hc3
            have hc3 : ¬ (lowerF (Lib.trimS u [9, 32]) = [107, 101, 101, 112, 45, 97, 108, 105, 118, 101]) := of_decide_eq_false hc3
            refine At.skip ?_
            refine At.inBlock ?_
            refine At.inBlock ?_
            exact At.roundEndL 0 0 hL rfl rfl rfl (⟨true, [[(lp, .loop L)], [(rr, .deferred (some []))], [(b3, .cells #[.bool kq] 4 (0, 0))], [(b2, .cells #[.bool false] 4 (0, 0))]], rfl, rfl, fun _ => ⟨kq, (keep_next hq hc2).2 hc3, rfl⟩, fun h => (by cases h)⟩)
      · skip
        obtain ⟨b, y, Hc', h1, h2, rfl, rfl⟩ := hp
        cases b with
        | true => obtain ⟨kq, hq, rfl⟩ := h1 rfl; exact ⟨true, kq, y, L, fun _ => ⟨hq, rfl⟩, fun h => (by cases h), rfl⟩
        | false => obtain ⟨kq, hq, rfl⟩ := h2 rfl; exact ⟨false, kq, y, leftL L .ret, fun h => (by cases h), fun _ => ⟨hq, rfl⟩, rfl⟩
    · skip
      obtain ⟨b, kq, y, L', h1, h2, rfl⟩ := hR
      cases b with
      | true =>
        obtain ⟨hg2, hL2⟩ := h1 rfl
        subst hL2
        refine ⟨3, 0, _, _, _, rfl, rfl, loop_ready hL, rfl, ?_⟩
        rw [loop_dry hL]
        refine At.inBlock ?_
        refine At.inBlock ?_
        refine At.region ?_
        refine AtL.add (z := (k : Int) + 1) (.inl rfl) rfl rfl rfl (w64 (by omega) (by omega)) ?_
        refine AtL.move (.inl rfl) rfl rfl ?_
        refine AtL.done ?_
        refine At.pick (H' := [(rr, .deferred (some []))] :: defsOf rs :: [(b3, .cells #[.bool kq] 4 (0, 0))] :: [(b2, .cells #[.bool false] 4 (0, 0))] :: [(b1, .cells #[str m, str t, .int .i64 minor, .slice A fs.length C] 35 (0, 0))] :: s7 :: H) [4, 9, 5, 6, 7, 8] 10 rfl rfl ?_
        refine At.flat (flat_merge _ _ _) ?_
        refine At.pick (H' := [(b3, .cells #[.bool kq] 4 (0, 0))] :: [(b2, .cells #[.bool false] 4 (0, 0))] :: [(b1, .cells #[str m, str t, .int .i64 minor, .slice A fs.length C] 35 (0, 0))] :: s7 :: defsOf (rr :: rs) :: H) [1, 2, 3, 4, 0] 5 rfl rfl ?_
        refine ihL1 (k + 1) kq (rr :: rs) ⟨by omega, hg2⟩ (by omega) _ ?_
        exact ⟨rfl, rfl, rfl, rfl, rfl, trivial⟩
      | false =>
        obtain ⟨hgf, hL2⟩ := h2 rfl
        subst hL2
        refine ⟨3, 0, _, _, _, rfl, rfl, loop_left, rfl, ?_⟩
        show At _ (.code .ret :: _) _ _ _
        refine At.retU rfl ?_
        refine Un.collected (i := 4) (j := 0) rfl rfl rfl rfl ?_
        refine Un.collectEnd (i := 9) rfl rfl (fun sD => ?_)
        show Un _ _ _ _ ([(bp10, .cells #[str [44]] 9 (0, 0))] :: [(bs11, .cells #[str y] 9 (0, 0))] :: [(bv12, .cells #[.int .i64 0] 3 (0, 0))] :: [(lp, .loop (overL (leftL L .ret)))] :: [(rr, .deferred none)] :: [(b3, .cells #[.bool kq] 4 (0, 0))] :: [(b2, .cells #[.bool false] 4 (0, 0))] :: [(b1, .cells #[str m, str t, .int .i64 minor, .slice A fs.length C] 35 (0, 0))] :: s7 :: sD :: H)
        exact Un.leftP (vs := [.bool false]) (H2 := H) [] 10 rfl rfl Tryz.func54 rfl ⟨⟨_, rfl, LoadsTo.flat tf_flat4 (Cell.own 6 0 rfl rfl rfl)⟩, trivial⟩ (⟨congrArg Value.bool hgf.symm, rfl⟩)
  · intro hc1
    have hc1 : ¬ ((k : Int) < (l6.length : Int)) := of_decide_eq_false hc1
    refine At.exit rfl ?_
    refine At.seq ?_
    refine At.region ?_
    refine AtL.load tf_flat4 (.inl rfl) rfl rfl (Cell.own 0 0 rfl rfl rfl) ?_
    refine AtL.store (H' := [(b3, .cells #[.bool kp] 4 (0, 0))] :: [(b2, .cells #[.bool kp] 4 (0, 0))] :: [(b1, .cells #[str m, str t, .int .i64 minor, .slice A fs.length C] 35 (0, 0))] :: s7 :: defsOf rs :: H) 1 0 tf_sz4 (.inl rfl) rfl rfl rfl rfl rfl rfl rfl rfl rfl ?_
    refine AtL.done ?_
    refine At.retU rfl ?_
    refine Un.collectEnd (i := 4) rfl rfl (fun sD => ?_)
    show Un _ _ _ _ ([(b3, .cells #[.bool kp] 4 (0, 0))] :: [(b2, .cells #[.bool kp] 4 (0, 0))] :: [(b1, .cells #[str m, str t, .int .i64 minor, .slice A fs.length C] 35 (0, 0))] :: s7 :: sD :: H)
    exact Un.leftP (vs := [.bool kp]) (H2 := H) [] 5 rfl rfl Tryz.func54 rfl ⟨⟨_, rfl, LoadsTo.flat tf_flat4 (Cell.own 1 0 rfl rfl rfl)⟩, trivial⟩ (⟨congrArg Value.bool (keep_end hg (by omega)), rfl⟩)

end Go.Proofs.YtlfkoimkojbghaaGreatDoor
