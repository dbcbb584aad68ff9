/- The parts of the proof that this law needs, in the order of their texts: the logic of walks, the plain laws, the walks. -/
import Derived.Test.YtlkdmbpbjhjkfaaGreatDoorScriptPkC
namespace Go.Proofs.YtlkdmbpbjhjkfaaGreatDoor
set_option linter.unusedVariables false
set_option linter.unusedSimpArgs false
set_option maxRecDepth 100000
theorem sindex_ok {w0 : World} {base : Nat} {H : List Seg} {x : List UInt8} (c : UInt8) (hx : x.length < 4294967281) (T : Tabs w0 base) :
    SCalls Tryz.prog 174 [str x, str [c]] w0 base H (fun v H' => ∃ z : Int, z = Lib.index x [c] ∧ v = int z ∧ H' = H) := by
  obtain ⟨m, hm⟩ := T.max
  refine (SCalls.of_same fun w S => Any.strings_Index { Tryz.lays146 with } ⟨⟨x⟩⟩ ⟨⟨[c]⟩⟩ m w (by rw [str_size]; omega) (S.cellBelow T.lt0 hm)).mono ?_
  rintro v H' ⟨rfl, rfl⟩
  exact ⟨_, rfl, rfl, rfl⟩
theorem sp_at {c : UInt8} {l : List UInt8} {z : Int} (hz : z = Lib.index l [c]) (h : ¬ z < 0) : ∃ i : Nat, z = (i : Int) ∧ i < l.length ∧ spF c l = subl l 0 (i + 0) :: spF c (subl l (i + [c].length) l.length) := by
  rcases index_c c l with ⟨h1, _⟩ | ⟨i, h1, h2, _, h4⟩
  · omega
  · refine ⟨i, by omega, h2, ?_⟩
    rw [h4, subl_to, subl_from]; rfl
theorem sp_no {c : UInt8} {l : List UInt8} {z : Int} (hz : z = Lib.index l [c]) (h : z < 0) : spF c l = [l] := by
  rcases index_c c l with ⟨_, _, h1⟩ | ⟨i, h1, _⟩
  · exact h1
  · omega
set_option maxHeartbeats 400000 in
theorem seqit_ok {w0 : World} {base : Nat} {T Hc : List Seg} {lp bp bs bv : Nat} {x : List UInt8} {c : UInt8} {J : List (List UInt8) → List Seg → Prop} {K : List Seg → Prop} (hx : x.length < 4294967281) (TT : Tabs w0 base)
    (hY : ∀ u us Hc, u.length ≤ x.length → J (u :: us) Hc → ∀ T', YCalls Tryz.prog lp [str u] w0 base (Hc ++ T') (fun v H' => ∃ (b : Bool) (Hc' : List Seg), v = .bool b ∧ H' = Hc' ++ T' ∧ (b = true → J us Hc') ∧ (b = false → K Hc')))
    (h0 : J (spF c x) Hc) :
    SCalls Tryz.prog 191 [.func (.yield lp) #[] #[], .pointer (some ⟨bp, 0, none⟩), .pointer (some ⟨bs, 0, none⟩), .pointer (some ⟨bv, 0, none⟩)] w0 base ([(bp, .cells #[str [c]] 9 (0, 0))] :: [(bs, .cells #[str x] 9 (0, 0))] :: [(bv, .cells #[.int .i64 0] 3 (0, 0))] :: (Hc ++ T)) (fun v H' => ∃ (b : Bool) (y : List UInt8) (Hc' : List Seg), (b = true → J [] Hc') ∧ (b = false → K Hc') ∧ v = .tuple #[] ∧ H' = [(bp, .cells #[str [c]] 9 (0, 0))] :: [(bs, .cells #[str y] 9 (0, 0))] :: [(bv, .cells #[.int .i64 0] 3 (0, 0))] :: (Hc' ++ T)) := by
  refine SCalls.of_walk (n := 52) Tryz.func191 rfl rfl rfl fun cs => ?_
  refine At.seq ?_
  refine At.seq ?_
  refine At.region ?_
  refine AtL.load tf_flat9 (.inl rfl) rfl rfl (Cell.own 0 0 rfl rfl rfl) ?_
  refine AtL.lenS (l := [c]) Tryz.underlying9 (.inl rfl) rfl rfl ?_
  refine AtL.eqi (.inl rfl) rfl rfl rfl ?_
  refine AtL.done ?_
  refine At.condIs false rfl (decide_eq_false (by simp)) ?_
  refine At.skip ?_
  refine At.seq ?_
  refine At.block ?_
  refine At.loop2 (fun (y : List UInt8) (Hc2 : List Seg) => [(0, .func (.yield lp) #[] #[]), (1, .pointer (some ⟨bp, 0, none⟩)), (2, .pointer (some ⟨bs, 0, none⟩)), (3, .pointer (some ⟨bv, 0, none⟩))]) (fun (y : List UInt8) (Hc2 : List Seg) => [(bp, .cells #[str [c]] 9 (0, 0))] :: [(bs, .cells #[str y] 9 (0, 0))] :: [(bv, .cells #[.int .i64 0] 3 (0, 0))] :: (Hc2 ++ T)) (fun (y : List UInt8) (Hc2 : List Seg) => J (spF c y) Hc2 ∧ y.length ≤ x.length) (fun (y : List UInt8) (Hc2 : List Seg) => y.length) x Hc (⟨h0, Nat.le_refl _⟩) ⟨rfl, rfl, rfl, rfl, trivial⟩ rfl ?_
  rintro y Hc2 ⟨hJ, hy⟩ ihL2
  have hcl : ([c] : List UInt8).length = 1 := rfl
  refine At.block ?_
  refine At.seq ?_
  refine At.region ?_
  refine AtL.load tf_flat9 (.inl rfl) rfl rfl (Cell.own 1 0 rfl rfl rfl) ?_
  refine AtL.load tf_flat9 (.inl rfl) rfl rfl (Cell.own 0 0 rfl rfl rfl) ?_
  refine AtL.call tf_body174 (.inl rfl) rfl rfl (sindex_ok c (by omega) TT) ?_
  rintro _ _ ⟨z1, hz2, rfl, rfl⟩
  refine AtL.assign (.inl rfl) rfl rfl ?_
  refine AtL.done ?_
  refine At.seq ?_
  refine At.seq ?_
  refine At.region ?_
  refine AtL.move (.inl rfl) rfl rfl ?_
  refine AtL.lss (.inl rfl) rfl rfl rfl ?_
  refine AtL.done ?_
  refine At.cond rfl ?_ ?_
  · intro hc4
    have hc4 : (z1 : Int) < 0 := of_decide_eq_true hc4
    refine At.exit rfl ?_
    refine At.region ?_
    refine AtL.move (.inl rfl) rfl rfl ?_
    refine AtL.load tf_flat9 (.inl rfl) rfl rfl (Cell.own 1 0 rfl rfl rfl) ?_
    refine AtL.yield (.inl rfl) rfl rfl rfl (YCalls.perm (perm3 ([(bp, .cells #[str [c]] 9 (0, 0))]) ([(bs, .cells #[str y] 9 (0, 0))]) ([(bv, .cells #[.int .i64 0] 3 (0, 0))]) Hc2 T) (hY y [] Hc2 (by omega) (by rw [← sp_no hz2 hc4]; exact hJ) ([(bp, .cells #[str [c]] 9 (0, 0))] :: [(bs, .cells #[str y] 9 (0, 0))] :: [(bv, .cells #[.int .i64 0] 3 (0, 0))] :: T))) ?_
    rintro _ _ ⟨bb, Hc3, rfl, rfl, hJ3, hK3⟩
    refine AtL.perm (perm3 _ _ _ Hc3 T).symm ?_
    refine AtL.done ?_
    exact At.end_ Tryz.func191 rfl rfl (⟨bb, y, Hc3, fun h => hJ3 h, fun h => hK3 h, rfl, rfl⟩)
  · intro hc4
    have hc4 : ¬ ((z1 : Int) < 0) := of_decide_eq_false hc4
    obtain ⟨i, hi, hil, hsp⟩ := sp_at hz2 hc4
    subst hi
    refine At.skip ?_
    refine At.seq ?_
    refine At.region ?_
    refine AtL.load tf_flat9 (.inl rfl) rfl rfl (Cell.own 1 0 rfl rfl rfl) ?_
    refine AtL.move (.inl rfl) rfl rfl ?_
    refine AtL.load tf_flat3 (.inl rfl) rfl rfl (Cell.own 2 0 rfl rfl rfl) ?_
    refine AtL.add (z := (i : Int) + 0) (.inl rfl) rfl rfl rfl (w64 (by omega) (by omega)) ?_
    refine AtL.sliceS (l := y) 0 (i + 0) rfl (evBound_some rfl rfl) (by omega) (by omega) Tryz.underlying9 (.inl rfl) rfl rfl ?_
    refine AtL.assign (.inl rfl) rfl rfl ?_
    refine AtL.done ?_
    refine At.seq ?_
    refine At.seq ?_
    refine At.region ?_
    refine AtL.move (.inl rfl) rfl rfl ?_
    refine AtL.move (.inl rfl) rfl rfl ?_
    refine AtL.yield (.inl rfl) rfl rfl rfl (YCalls.perm (perm3 ([(bp, .cells #[str [c]] 9 (0, 0))]) ([(bs, .cells #[str y] 9 (0, 0))]) ([(bv, .cells #[.int .i64 0] 3 (0, 0))]) Hc2 T) (hY (subl y 0 (i + 0)) (spF c (subl y (i + [c].length) y.length)) Hc2 (by rw [subl_len (by omega)]; omega) (by rw [← hsp]; exact hJ) ([(bp, .cells #[str [c]] 9 (0, 0))] :: [(bs, .cells #[str y] 9 (0, 0))] :: [(bv, .cells #[.int .i64 0] 3 (0, 0))] :: T))) ?_
    rintro _ _ ⟨bb, Hc3, rfl, rfl, hJ3, hK3⟩
    refine AtL.perm (perm3 _ _ _ Hc3 T).symm ?_
    refine AtL.not (.inl rfl) rfl rfl ?_
    refine AtL.done ?_
    refine At.cond rfl ?_ ?_
    · intro hc5
      have hc5 : bb = false := bnot_true hc5
      exact At.ret Tryz.func191 rfl rfl (⟨false, y, Hc3, fun h => (by cases h), fun _ => hK3 hc5, rfl, rfl⟩)
    · intro hc5
      have hc5 : bb = true := bnot_false hc5
      refine At.skip ?_
      refine At.region ?_
      refine AtL.load tf_flat9 (.inl rfl) rfl rfl (Cell.own 1 0 rfl rfl rfl) ?_
      refine AtL.move (.inl rfl) rfl rfl ?_
      refine AtL.load tf_flat9 (.inl rfl) rfl rfl (Cell.own 0 0 rfl rfl rfl) ?_
      refine AtL.lenS (l := [c]) Tryz.underlying9 (.inl rfl) rfl rfl ?_
      refine AtL.add (z := (i : Int) + ([c].length : Int)) (.inl rfl) rfl rfl rfl (w64 (by omega) (by omega)) ?_
      refine AtL.sliceS (l := y) (i + ([c].length)) y.length (evBound_some rfl rfl) rfl (by omega) (by omega) Tryz.underlying9 (.inl rfl) rfl rfl ?_
      refine AtL.store (H' := [(bp, .cells #[str [c]] 9 (0, 0))] :: [(bs, .cells #[str (subl y (i + ([c].length)) y.length)] 9 (0, 0))] :: [(bv, .cells #[.int .i64 0] 3 (0, 0))] :: (Hc3 ++ T)) 1 0 tf_sz9 (.inl rfl) rfl rfl rfl rfl rfl rfl rfl rfl rfl ?_
      refine AtL.done ?_
      refine At.inBlock ?_
      refine ihL2 (subl y (i + ([c].length)) y.length) Hc3 (⟨hJ3 hc5, by rw [subl_len (Nat.le_refl _)]; omega⟩) (by rw [subl_len (Nat.le_refl _)]; omega) _ ?_
      exact ⟨rfl, rfl, rfl, rfl, trivial⟩
set_option maxHeartbeats 400000 in
theorem splitseq0_ok {w0 : World} {base : Nat} {H : List Seg} (x : List UInt8) (c : UInt8) :
    SCalls Tryz.prog 160 [str x, str [c], .int .i64 0] w0 base (H) (fun v H' => ∃ bp bs bv : Nat, v = .func (.func 191) #[] #[.pointer (some ⟨bp, 0, none⟩), .pointer (some ⟨bs, 0, none⟩), .pointer (some ⟨bv, 0, none⟩)] ∧ H' = [(bp, .cells #[str [c]] 9 (0, 0))] :: [(bs, .cells #[str x] 9 (0, 0))] :: [(bv, .cells #[.int .i64 0] 3 (0, 0))] :: H) := by
  refine SCalls.of_walk (n := 8) Tryz.func160 rfl rfl rfl fun cs => ?_
  refine At.seq ?_
  refine At.region ?_
  refine AtL.box (cs := #[str x]) rfl (.inl rfl) rfl rfl ?_
  intro b1
  refine AtL.box (cs := #[str [c]]) rfl (.inl rfl) rfl rfl ?_
  intro b2
  refine AtL.box (cs := #[.int .i64 0]) rfl (.inl rfl) rfl rfl ?_
  intro b3
  refine AtL.assign (.inl rfl) rfl rfl ?_
  refine AtL.done ?_
  refine At.seq ?_
  refine At.region ?_
  refine AtL.makeFunc (.inl rfl) rfl rfl rfl ?_
  refine AtL.assign (.inl rfl) rfl rfl ?_
  refine AtL.done ?_
  refine At.pick (H' := [(b2, .cells #[str [c]] 9 (0, 0))] :: [(b1, .cells #[str x] 9 (0, 0))] :: [(b3, .cells #[.int .i64 0] 3 (0, 0))] :: H) [1, 2, 0] 3 rfl rfl ?_
  exact At.ret Tryz.func160 rfl rfl (⟨b2, b1, b3, rfl, rfl⟩)
set_option maxHeartbeats 400000 in
theorem splitseq_ok {w0 : World} {base : Nat} {H : List Seg} (x : List UInt8) (c : UInt8) :
    SCalls Tryz.prog 118 [str x, str [c]] w0 base (H) (fun v H' => ∃ bp bs bv : Nat, v = .func (.func 191) #[] #[.pointer (some ⟨bp, 0, none⟩), .pointer (some ⟨bs, 0, none⟩), .pointer (some ⟨bv, 0, none⟩)] ∧ H' = [(bp, .cells #[str [c]] 9 (0, 0))] :: [(bs, .cells #[str x] 9 (0, 0))] :: [(bv, .cells #[.int .i64 0] 3 (0, 0))] :: H) := by
  refine SCalls.of_walk (n := 8) Tryz.func118 rfl rfl rfl fun cs => ?_
  refine At.seq ?_
  refine At.region ?_
  refine AtL.assign (.inl rfl) rfl rfl ?_
  refine AtL.done ?_
  refine At.seq ?_
  refine At.region ?_
  refine AtL.move (.inl rfl) rfl rfl ?_
  refine AtL.move (.inl rfl) rfl rfl ?_
  refine AtL.call tf_body160 (.inl rfl) rfl rfl (splitseq0_ok x c) ?_
  rintro _ _ ⟨bp1, bs2, bv3, rfl, rfl⟩
  refine AtL.assign (.inl rfl) rfl rfl ?_
  refine AtL.done ?_
  exact At.ret Tryz.func118 rfl rfl (⟨bp1, bs2, bv3, rfl, rfl⟩)
def wdF (v : List UInt8) : List (List UInt8) := (spF 44 v).map fun x => lowerF (trimF x)
theorem keep_start (fs : List Fld) (minor : Int) : goesF (decide (minor = 1)) (((allF fs [99, 111, 110, 110, 101, 99, 116, 105, 111, 110]).drop 0).flatMap wdF) = keepF fs minor := rfl
theorem keep_end {k : Bool} {l : List (List UInt8)} {j : Nat} {r : Bool} (h : goesF k ((l.drop j).flatMap wdF) = r) (hj : l.length ≤ j) : k = r := by
  rw [List.drop_eq_nil_of_le hj] at h; exact h
theorem keep_in {k : Bool} {l : List (List UInt8)} {j : Nat} {r : Bool} (h : goesF k ((l.drop j).flatMap wdF) = r) (hj : j < l.length) : goesF k (((spF 44 (l.getD j [])).map fun x => lowerF (trimF x)) ++ (l.drop (j + 1)).flatMap wdF) = r := by
  rw [List.drop_eq_getElem_cons hj, List.flatMap_cons] at h
  rw [show l.getD j [] = l[j] by simp [List.getD, hj]]
  exact h
theorem keep_close {k : Bool} {u : List UInt8} {us : List (List UInt8)} {rest : List (List UInt8)} {r : Bool} (h : goesF k (((u :: us).map fun x => lowerF (trimF x)) ++ rest) = r) (hc : lowerF (Lib.trimS u [9, 32]) = [99, 108, 111, 115, 101]) : r = false := by
  rw [trim_set] at hc
  rw [List.map_cons, List.cons_append, goesF, if_pos (by exact hc)] at h
  exact h.symm
theorem keep_next {k : Bool} {u : List UInt8} {us : List (List UInt8)} {rest : List (List UInt8)} {r : Bool} (h : goesF k (((u :: us).map fun x => lowerF (trimF x)) ++ rest) = r) (hc : ¬ lowerF (Lib.trimS u [9, 32]) = [99, 108, 111, 115, 101]) :
    (lowerF (Lib.trimS u [9, 32]) = [107, 101, 101, 112, 45, 97, 108, 105, 118, 101] → goesF true ((us.map fun x => lowerF (trimF x)) ++ rest) = r) ∧ (¬ lowerF (Lib.trimS u [9, 32]) = [107, 101, 101, 112, 45, 97, 108, 105, 118, 101] → goesF k ((us.map fun x => lowerF (trimF x)) ++ rest) = r) := by
  rw [trim_set] at hc ⊢
  rw [List.map_cons, List.cons_append, goesF, if_neg (by exact hc)] at h
  refine ⟨fun ha => ?_, fun ha => ?_⟩
  · rw [show decide (lowerF (trimF u) = ALIVE) = true from decide_eq_true ha, Bool.or_true] at h; exact h
  · rw [show decide (lowerF (trimF u) = ALIVE) = false from decide_eq_false ha, Bool.or_false] at h; exact h
theorem trimS_le2 (u cs : List UInt8) : (Lib.trimS u cs).length ≤ u.length := by
  unfold Lib.trimS Lib.trimLeftS Lib.trimRightS
  exact Nat.le_trans (dw_le _ _) (by rw [List.length_reverse]; exact Nat.le_trans (dw_le _ _) (by rw [List.length_reverse]; exact Nat.le_refl _))
set_option maxHeartbeats 1000000 in
theorem keep_ok {w0 : World} {base : Nat} {H : List Seg} {m t : List UInt8} {minor : Int} {A : Option Addr} {C : Nat} {fs : List (List UInt8 × List UInt8)} (h : Rd tyField w0 base H A C fs) (hfl : fs.length ≤ 1000) (hb : ∀ f ∈ fs, f.1.length ≤ 140737488355000 ∧ f.2.length ≤ 140737488355000) (hb4 : ∀ f ∈ fs, f.2.length < 4294967281) (TT : Tabs w0 base) :
    SCalls Tryz.prog 78 [.agg #[str m, str t, .int .i64 minor, .slice A fs.length C]] w0 base (H) (fun v H' => v = .bool (keepF fs minor) ∧ H' = H) := by
  have hle0 := h.le
  have hcap0 := h.cap
  refine SCalls.of_walk (n := 29) Tryz.func78 rfl rfl rfl fun cs => ?_
  refine At.seq ?_
  refine At.region ?_
  refine AtL.box (cs := #[str m, str t, .int .i64 minor, .slice A fs.length C]) rfl (.inl rfl) rfl rfl ?_
  intro b1
  refine AtL.alloc tf_zero4 (cs := #[.bool false]) rfl (.inl rfl) rfl ?_
  intro b2
  refine AtL.done ?_
  refine At.seq ?_
  refine At.region ?_
  refine AtL.fieldAddrB tf_fo47_2 (.inl rfl) rfl rfl rfl ?_
  refine AtL.load tf_flat3 (.inl rfl) rfl rfl (Cell.own 1 0 rfl rfl rfl) ?_
  refine AtL.eqi (.inl rfl) rfl rfl rfl ?_
  refine AtL.alloc tf_zero4 (cs := #[.bool false]) rfl (.inl rfl) rfl ?_
  intro b3
  refine AtL.store (H' := [(b3, .cells #[.bool (decide ((minor : Int) = 1))] 4 (0, 0))] :: [(b2, .cells #[.bool false] 4 (0, 0))] :: [(b1, .cells #[str m, str t, .int .i64 minor, .slice A fs.length C] 47 (0, 0))] :: H) 0 0 tf_sz4 (.inl rfl) rfl rfl rfl rfl rfl rfl rfl rfl rfl ?_
  refine AtL.done ?_
  refine At.seq ?_
  refine At.seq ?_
  refine At.region ?_
  refine AtL.loadN (cs := [str m, str t, .int .i64 minor, .slice A fs.length C]) tf_agg47 (.inl rfl) rfl rfl rfl (cellsOwn 2 0 0 rfl rfl rfl) ?_
  refine AtL.call tf_body117 (.inl rfl) rfl rfl (all_ok (fs := fs) (Rd.skip 3 h) (nm := [99, 111, 110, 110, 101, 99, 116, 105, 111, 110]) (by decide) hfl hb) ?_
  rintro _ _ ⟨⟨A4, C5, l6, s7, o8⟩, hx9, rfl, rfl⟩
  have hcapL := Own.cap_le o8
  have hleL := Own.le_cap o8
  have hL : l6 = allF fs [99, 111, 110, 110, 101, 99, 116, 105, 111, 110] := hx9
  have hLb : ∀ u ∈ l6, u.length < 4294967281 := fun u hu => by
    rw [hL] at hu
    obtain ⟨f, hf, he⟩ := List.mem_map.1 hu
    have := hb4 f (List.mem_filter.1 hf).1
    rw [← he]; exact this
  refine AtL.lenL Tryz.underlying109 (.inl rfl) rfl rfl ?_
  refine AtL.move (.inl rfl) rfl rfl ?_
  refine AtL.done ?_
  refine At.block ?_
  refine At.nil ?_
  refine At.pick (H' := [(b3, .cells #[.bool (decide ((minor : Int) = 1))] 4 (0, 0))] :: [(b2, .cells #[.bool false] 4 (0, 0))] :: [(b1, .cells #[str m, str t, .int .i64 minor, .slice A fs.length C] 47 (0, 0))] :: s7 :: [] :: H) [2, 3, 4, 1, 0] 5 rfl rfl ?_
  refine At.loopD3 (fun (k : Nat) (kp : Bool) (rs : List Nat) => [(2, .pointer (some ⟨b2, 0, none⟩)), (3, .pointer (some ⟨b3, 0, none⟩)), (11, .slice A4 l6.length C5), (12, .int .i64 (l6.length : Int)), (13, .int .i64 (k : Int))]) (fun (k : Nat) (kp : Bool) (rs : List Nat) => [(b3, .cells #[.bool kp] 4 (0, 0))] :: [(b2, .cells #[.bool false] 4 (0, 0))] :: [(b1, .cells #[str m, str t, .int .i64 minor, .slice A fs.length C] 47 (0, 0))] :: s7 :: defsOf rs :: H) (fun (k : Nat) (kp : Bool) (rs : List Nat) => colsOf rs) (fun (k : Nat) (kp : Bool) (rs : List Nat) => k ≤ l6.length ∧ goesF kp ((l6.drop k).flatMap wdF) = keepF fs minor) (fun (k : Nat) (kp : Bool) (rs : List Nat) => l6.length - k) 0 (decide ((minor : Int) = 1)) [] ⟨Nat.zero_le _, by rw [hL]; exact keep_start fs minor⟩ ⟨rfl, rfl, rfl, rfl, rfl, trivial⟩ rfl rfl ?_
  rintro k kp rs ⟨hk, hg⟩ ihL1
  refine At.seq ?_
  refine At.region ?_
  refine AtL.lss (.inl rfl) rfl rfl rfl ?_
  refine AtL.done ?_
  refine At.seq ?_
  refine At.cond rfl ?_ ?_
  · intro hc1
    have hc1 : (k : Int) < (l6.length : Int) := of_decide_eq_true hc1
    have hvl := hLb _ (getD_mem (l := l6) (i := k) (d := ([] : List UInt8)) (by omega))
    refine At.skip ?_
    refine At.seq ?_
    refine At.block ?_
    refine At.seq ?_
    refine At.region ?_
    refine AtL.indexL k (o8.rd (i := 3) rfl) Tryz.underlying109 tf_sz9 (.inl rfl) rfl rfl rfl rfl (by omega) ?_
    refine AtL.load (v := str (l6.getD k [])) tf_flat9 (.inl rfl) rfl rfl (Rd.cell0 (o8.rd (i := 3) rfl) (getD_some [] (by omega)) rfl) ?_
    refine AtL.assign (.inl rfl) rfl rfl ?_
    refine AtL.done ?_
    refine At.seq ?_
    refine At.region ?_
    refine AtL.move (.inl rfl) rfl rfl ?_
    refine AtL.call tf_body118 (.inl rfl) rfl rfl (splitseq_ok (l6.getD k []) 44) ?_
    rintro _ _ ⟨bp10, bs11, bv12, rfl, rfl⟩
    refine AtL.done ?_
    refine At.block ?_
    refine At.rangeF (R := (fun L lp rr v H' => ∃ (b kq : Bool) (y : List UInt8) (L' : Loop), (b = true → goesF kq ((l6.drop (k + 1)).flatMap wdF) = keepF fs minor ∧ L' = L) ∧ (b = false → keepF fs minor = false ∧ L' = leftL L .ret) ∧ H' = [(bp10, .cells #[str [44]] 9 (0, 0))] :: [(bs11, .cells #[str y] 9 (0, 0))] :: [(bv12, .cells #[.int .i64 0] 3 (0, 0))] :: [(lp, .loop L')] :: [(rr, .deferred (some []))] :: [(b3, .cells #[.bool kq] 4 (0, 0))] :: [(b2, .cells #[.bool false] 4 (0, 0))] :: [(b1, .cells #[str m, str t, .int .i64 minor, .slice A fs.length C] 47 (0, 0))] :: s7 :: defsOf rs :: H)) rfl tf_body191 rfl (fun lp => rfl) (fun L lp rr hL => ?_) (fun L lp rr v H1 hL hR => ?_)
    · skip
      refine SCalls.pick (H' := [(bp10, .cells #[str [44]] 9 (0, 0))] :: [(bs11, .cells #[str (l6.getD k [])] 9 (0, 0))] :: [(bv12, .cells #[.int .i64 0] 3 (0, 0))] :: [(lp, .loop L)] :: [(rr, .deferred (some []))] :: [(b3, .cells #[.bool kp] 4 (0, 0))] :: [(b2, .cells #[.bool false] 4 (0, 0))] :: [(b1, .cells #[str m, str t, .int .i64 minor, .slice A fs.length C] 47 (0, 0))] :: s7 :: defsOf rs :: H) [2, 3, 4, 0, 1, 5, 6] 7 rfl rfl ?_
      refine SCalls.mono (seqit_ok (x := (l6.getD k [])) (c := 44) (T := [(b1, .cells #[str m, str t, .int .i64 minor, .slice A fs.length C] 47 (0, 0))] :: s7 :: defsOf rs :: H) (Hc := [[(lp, .loop L)], [(rr, .deferred (some []))], [(b3, .cells #[.bool kp] 4 (0, 0))], [(b2, .cells #[.bool false] 4 (0, 0))]]) (J := (fun us Hc => ∃ kq : Bool, goesF kq ((us.map fun x => lowerF (trimF x)) ++ ((l6.drop (k + 1)).flatMap wdF)) = keepF fs minor ∧ Hc = [[(lp, .loop L)], [(rr, .deferred (some []))], [(b3, .cells #[.bool kq] 4 (0, 0))], [(b2, .cells #[.bool false] 4 (0, 0))]])) (K := (fun Hc => ∃ kq : Bool, keepF fs minor = false ∧ Hc = [[(lp, .loop (leftL L .ret))], [(rr, .deferred (some []))], [(b3, .cells #[.bool kq] 4 (0, 0))], [(b2, .cells #[.bool false] 4 (0, 0))]])) (by omega) TT (fun u us Hc hul hJ T' => ?_) ⟨_, keep_in hg (by omega), rfl⟩) (fun v H' hp => ?_)
      · skip
        obtain ⟨kq, hq, rfl⟩ := hJ
        have htl := trimS_le2 u [9, 32]
        refine YCalls.walkL hL (i := 0) (j := 0) rfl rfl rfl rfl rfl (fun c cs => ?_)
        refine At.region ?_
        refine AtL.assign (.inl rfl) rfl rfl ?_
        refine AtL.done ?_
        refine At.beginL 0 0 hL rfl rfl rfl rfl ?_
        refine At.block ?_
        refine At.seq ?_
        refine At.region ?_
        refine AtL.move (.inl rfl) rfl rfl ?_
        refine AtL.call tf_body102 (.inl rfl) rfl rfl (trim_ok (x := u) (cs := [9, 32]) (by omega) (by decide) (by decide)) ?_
        rintro _ _ ⟨rfl, rfl⟩
        refine AtL.call tf_body119 (.inl rfl) rfl rfl (lower_ok (l := Lib.trimS u [9, 32]) (by omega)) ?_
        rintro _ _ ⟨rfl, rfl⟩
        refine AtL.done ?_
        refine At.block ?_
        refine At.seq ?_
        refine At.region ?_
        refine AtL.eqs (a := lowerF (Lib.trimS u [9, 32])) (b := [99, 108, 111, 115, 101]) (.inl rfl) rfl rfl rfl ?_
        refine AtL.assign (.inl rfl) rfl rfl ?_
        refine AtL.done ?_
        refine At.cond rfl ?_ ?_
        · intro hc2
          have hc2 : lowerF (Lib.trimS u [9, 32]) = [99, 108, 111, 115, 101] := of_decide_eq_true hc2
          refine At.seq ?_
          refine At.region ?_
          refine AtL.store (H' := [(lp, .loop (busyL L))] :: [(rr, .deferred (some []))] :: [(b3, .cells #[.bool kq] 4 (0, 0))] :: [(b2, .cells #[.bool false] 4 (0, 0))] :: T') 3 0 tf_sz4 (.inl rfl) rfl rfl rfl rfl rfl rfl rfl rfl rfl ?_
          refine AtL.done ?_
          exact At.roundRetL 0 0 rfl rfl rfl (⟨false, [[(lp, .loop (leftL L .ret))], [(rr, .deferred (some []))], [(b3, .cells #[.bool kq] 4 (0, 0))], [(b2, .cells #[.bool false] 4 (0, 0))]], rfl, rfl, fun h => (by cases h), fun _ => ⟨kq, keep_close hq hc2, rfl⟩⟩)
        · intro hc2
          have hc2 : ¬ (lowerF (Lib.trimS u [9, 32]) = [99, 108, 111, 115, 101]) := of_decide_eq_false hc2
          refine At.seq ?_
          refine At.region ?_
          refine AtL.eqs (a := lowerF (Lib.trimS u [9, 32])) (b := [107, 101, 101, 112, 45, 97, 108, 105, 118, 101]) (.inl rfl) rfl rfl rfl ?_
          refine AtL.assign (.inl rfl) rfl rfl ?_
          refine AtL.done ?_
          refine At.cond rfl ?_ ?_
          · intro hc3
            have hc3 : lowerF (Lib.trimS u [9, 32]) = [107, 101, 101, 112, 45, 97, 108, 105, 118, 101] := of_decide_eq_true hc3
            refine At.region ?_
            refine AtL.store (H' := [(lp, .loop (busyL L))] :: [(rr, .deferred (some []))] :: [(b3, .cells #[.bool true] 4 (0, 0))] :: [(b2, .cells #[.bool false] 4 (0, 0))] :: T') 2 0 tf_sz4 (.inl rfl) rfl rfl rfl rfl rfl rfl rfl rfl rfl ?_
            refine AtL.done ?_
            refine At.inBlock ?_
            refine At.inBlock ?_
            exact At.roundEndL 0 0 hL rfl rfl rfl (⟨true, [[(lp, .loop L)], [(rr, .deferred (some []))], [(b3, .cells #[.bool true] 4 (0, 0))], [(b2, .cells #[.bool false] 4 (0, 0))]], rfl, rfl, fun _ => ⟨true, (keep_next hq hc2).1 hc3, rfl⟩, fun h => (by cases h)⟩)
          · intro hc3
            have hc3 : ¬ (lowerF (Lib.trimS u [9, 32]) = [107, 101, 101, 112, 45, 97, 108, 105, 118, 101]) := of_decide_eq_false hc3
            refine At.skip ?_
            refine At.inBlock ?_
            refine At.inBlock ?_
            exact At.roundEndL 0 0 hL rfl rfl rfl (⟨true, [[(lp, .loop L)], [(rr, .deferred (some []))], [(b3, .cells #[.bool kq] 4 (0, 0))], [(b2, .cells #[.bool false] 4 (0, 0))]], rfl, rfl, fun _ => ⟨kq, (keep_next hq hc2).2 hc3, rfl⟩, fun h => (by cases h)⟩)
      · skip
        obtain ⟨b, y, Hc', h1, h2, rfl, rfl⟩ := hp
        cases b with
        | true => obtain ⟨kq, hq, rfl⟩ := h1 rfl; exact ⟨true, kq, y, L, fun _ => ⟨hq, rfl⟩, fun h => (by cases h), rfl⟩
        | false => obtain ⟨kq, hq, rfl⟩ := h2 rfl; exact ⟨false, kq, y, leftL L .ret, fun h => (by cases h), fun _ => ⟨hq, rfl⟩, rfl⟩
    · skip
      obtain ⟨b, kq, y, L', h1, h2, rfl⟩ := hR
      cases b with
      | true =>
        obtain ⟨hg2, hL2⟩ := h1 rfl
        subst hL2
        refine ⟨3, 0, _, _, _, rfl, rfl, loop_ready hL, rfl, ?_⟩
        rw [loop_dry hL]
        refine At.inBlock ?_
        refine At.inBlock ?_
        refine At.region ?_
        refine AtL.add (z := (k : Int) + 1) (.inl rfl) rfl rfl rfl (w64 (by omega) (by omega)) ?_
        refine AtL.move (.inl rfl) rfl rfl ?_
        refine AtL.done ?_
        refine At.pick (H' := [(rr, .deferred (some []))] :: defsOf rs :: [(b3, .cells #[.bool kq] 4 (0, 0))] :: [(b2, .cells #[.bool false] 4 (0, 0))] :: [(b1, .cells #[str m, str t, .int .i64 minor, .slice A fs.length C] 47 (0, 0))] :: s7 :: H) [4, 9, 5, 6, 7, 8] 10 rfl rfl ?_
        refine At.flat (flat_merge _ _ _) ?_
        refine At.pick (H' := [(b3, .cells #[.bool kq] 4 (0, 0))] :: [(b2, .cells #[.bool false] 4 (0, 0))] :: [(b1, .cells #[str m, str t, .int .i64 minor, .slice A fs.length C] 47 (0, 0))] :: s7 :: defsOf (rr :: rs) :: H) [1, 2, 3, 4, 0] 5 rfl rfl ?_
        refine ihL1 (k + 1) kq (rr :: rs) ⟨by omega, hg2⟩ (by omega) _ ?_
        exact ⟨rfl, rfl, rfl, rfl, rfl, trivial⟩
      | false =>
        obtain ⟨hgf, hL2⟩ := h2 rfl
        subst hL2
        refine ⟨3, 0, _, _, _, rfl, rfl, loop_left, rfl, ?_⟩
        show At _ (.code .ret :: _) _ _ _
        refine At.retU rfl ?_
        refine Un.collected (i := 4) (j := 0) rfl rfl rfl rfl ?_
        refine Un.collectEnd (i := 9) rfl rfl (fun sD => ?_)
        show Un _ _ _ _ ([(bp10, .cells #[str [44]] 9 (0, 0))] :: [(bs11, .cells #[str y] 9 (0, 0))] :: [(bv12, .cells #[.int .i64 0] 3 (0, 0))] :: [(lp, .loop (overL (leftL L .ret)))] :: [(rr, .deferred none)] :: [(b3, .cells #[.bool kq] 4 (0, 0))] :: [(b2, .cells #[.bool false] 4 (0, 0))] :: [(b1, .cells #[str m, str t, .int .i64 minor, .slice A fs.length C] 47 (0, 0))] :: s7 :: sD :: H)
        exact Un.leftP (vs := [.bool false]) (H2 := H) [] 10 rfl rfl Tryz.func78 rfl ⟨⟨_, rfl, LoadsTo.flat tf_flat4 (Cell.own 6 0 rfl rfl rfl)⟩, trivial⟩ (⟨congrArg Value.bool hgf.symm, rfl⟩)
  · intro hc1
    have hc1 : ¬ ((k : Int) < (l6.length : Int)) := of_decide_eq_false hc1
    refine At.exit rfl ?_
    refine At.seq ?_
    refine At.region ?_
    refine AtL.load tf_flat4 (.inl rfl) rfl rfl (Cell.own 0 0 rfl rfl rfl) ?_
    refine AtL.store (H' := [(b3, .cells #[.bool kp] 4 (0, 0))] :: [(b2, .cells #[.bool kp] 4 (0, 0))] :: [(b1, .cells #[str m, str t, .int .i64 minor, .slice A fs.length C] 47 (0, 0))] :: s7 :: defsOf rs :: H) 1 0 tf_sz4 (.inl rfl) rfl rfl rfl rfl rfl rfl rfl rfl rfl ?_
    refine AtL.done ?_
    refine At.retU rfl ?_
    refine Un.collectEnd (i := 4) rfl rfl (fun sD => ?_)
    show Un _ _ _ _ ([(b3, .cells #[.bool kp] 4 (0, 0))] :: [(b2, .cells #[.bool kp] 4 (0, 0))] :: [(b1, .cells #[str m, str t, .int .i64 minor, .slice A fs.length C] 47 (0, 0))] :: s7 :: sD :: H)
    exact Un.leftP (vs := [.bool kp]) (H2 := H) [] 5 rfl rfl Tryz.func78 rfl ⟨⟨_, rfl, LoadsTo.flat tf_flat4 (Cell.own 1 0 rfl rfl rfl)⟩, trivial⟩ (⟨congrArg Value.bool (keep_end hg (by omega)), rfl⟩)
end Go.Proofs.YtlkdmbpbjhjkfaaGreatDoor
namespace Go.Proofs.YtlkdmbpbjhjkfaaGreatDoor
set_option linter.unusedVariables false
set_option linter.unusedSimpArgs false
set_option maxRecDepth 100000
set_option maxHeartbeats 400000 in
theorem rletter_ok {w0 : World} {base : Nat} {H : List Seg} (c : UInt8) :
    SCalls Tryz.prog 157 [.int .u8 (c.toNat : Int)] w0 base (H) (fun v H' => v = .bool (letterF c) ∧ H' = H) := by
  refine SCalls.of_walk (n := 67) Tryz.func157 rfl rfl rfl fun cs => ?_
  refine At.seq ?_
  refine At.region ?_
  refine AtL.assign (.inl rfl) rfl rfl ?_
  refine AtL.done ?_
  refine At.seq ?_
  refine At.seq ?_
  refine At.region ?_
  refine AtL.move (.inl rfl) rfl rfl ?_
  refine AtL.geq (.inl rfl) rfl rfl rfl ?_
  refine AtL.move (.inl rfl) rfl rfl ?_
  refine AtL.join 3 (E' := [(8, .bool (decide ((48 ≤ (c.toNat : Int)) ∧ ((c.toNat : Int) ≤ 57)))), (0, .int .u8 (c.toNat : Int))]) (H' := H) (fun J => ?_) ?_
  · refine AtL.split (t := 5) rfl ?_ ?_
    · intro hs5
      have hs5 : 48 ≤ (c.toNat : Int) := of_decide_eq_true hs5
      refine AtL.move (.inr ⟨_, _, _, rfl, rfl, rfl, rfl⟩) rfl rfl ?_
      refine AtL.leq (.inr ⟨_, _, _, rfl, rfl, rfl, rfl⟩) rfl rfl rfl ?_
      refine AtL.pickT (.inl rfl) rfl rfl rfl ?_
      exact J _ (by exact ⟨(boolIs (by clear J; first | (simp [hs5]; done) | (simp_all; done) | grind)), rfl, trivial⟩)
    · intro hs5
      have hs5 : ¬ (48 ≤ (c.toNat : Int)) := of_decide_eq_false hs5
      refine AtL.skipped rfl rfl rfl rfl rfl rfl ?_
      refine AtL.skipped rfl rfl rfl rfl rfl rfl ?_
      refine AtL.pickF (.inl rfl) rfl rfl rfl ?_
      exact J _ (by exact ⟨(boolIs (by clear J; first | (simp [hs5]; done) | (simp_all; done) | grind)), rfl, trivial⟩)
  · skip
    refine AtL.move (.inl rfl) rfl rfl ?_
    refine AtL.join 7 (E' := [(16, .bool (decide (((48 ≤ (c.toNat : Int)) ∧ ((c.toNat : Int) ≤ 57)) ∨ ((65 ≤ (c.toNat : Int)) ∧ ((c.toNat : Int) ≤ 90))))), (0, .int .u8 (c.toNat : Int))]) (H' := H) (fun J => ?_) ?_
    · refine AtL.split (t := 9) rfl ?_ ?_
      · intro hs9
        have hs9 : (48 ≤ (c.toNat : Int)) ∧ ((c.toNat : Int) ≤ 57) := of_decide_eq_true hs9
        refine AtL.skipped rfl rfl rfl rfl rfl rfl ?_
        refine AtL.skipped rfl rfl rfl rfl rfl rfl ?_
        refine AtL.skipped rfl rfl rfl rfl rfl rfl ?_
        refine AtL.skippedU rfl rfl rfl rfl rfl ?_
        refine AtL.skippedU rfl rfl rfl rfl rfl ?_
        refine AtL.skipped rfl rfl rfl rfl rfl rfl ?_
        refine AtL.pickT (.inl rfl) rfl rfl rfl ?_
        exact J _ (by exact ⟨(boolIs (by clear J; first | (simp [hs9]; done) | (simp_all; done) | grind)), rfl, trivial⟩)
      · intro hs9
        have hs9 : ¬ ((48 ≤ (c.toNat : Int)) ∧ ((c.toNat : Int) ≤ 57)) := of_decide_eq_false hs9
        refine AtL.move (.inr ⟨_, _, _, rfl, rfl, rfl, rfl⟩) rfl rfl ?_
        refine AtL.geq (.inr ⟨_, _, _, rfl, rfl, rfl, rfl⟩) rfl rfl rfl ?_
        refine AtL.move (.inr ⟨_, _, _, rfl, rfl, rfl, rfl⟩) rfl rfl ?_
        refine AtL.join 3 (E' := [(15, .bool (decide ((65 ≤ (c.toNat : Int)) ∧ ((c.toNat : Int) ≤ 90)))), (0, .int .u8 (c.toNat : Int)), (9, .bool false)]) (H' := H) (fun J => ?_) ?_
        · refine AtL.split (t := 12) rfl ?_ ?_
          · intro hs12
            have hs12 : 65 ≤ (c.toNat : Int) := of_decide_eq_true hs12
            refine AtL.move (.inr ⟨_, _, _, rfl, rfl, rfl, rfl⟩) rfl rfl ?_
            refine AtL.leq (.inr ⟨_, _, _, rfl, rfl, rfl, rfl⟩) rfl rfl rfl ?_
            refine AtL.pickT (.inr ⟨_, _, _, rfl, rfl, rfl, rfl⟩) rfl rfl rfl ?_
            exact J _ (by exact ⟨(boolIs (by clear J; first | (simp [hs12]; done) | (simp_all; done) | grind)), rfl, rfl, trivial⟩)
          · intro hs12
            have hs12 : ¬ (65 ≤ (c.toNat : Int)) := of_decide_eq_false hs12
            refine AtL.skipped rfl rfl rfl rfl rfl rfl ?_
            refine AtL.skipped rfl rfl rfl rfl rfl rfl ?_
            refine AtL.pickF (.inr ⟨_, _, _, rfl, rfl, rfl, rfl⟩) rfl rfl rfl ?_
            exact J _ (by exact ⟨(boolIs (by clear J; first | (simp [hs12]; done) | (simp_all; done) | grind)), rfl, rfl, trivial⟩)
        · skip
          refine AtL.pickF (.inl rfl) rfl rfl rfl ?_
          exact J _ (by exact ⟨(boolIs (by clear J; first | (simp [hs9]; done) | (simp_all; done) | grind)), rfl, trivial⟩)
    · skip
      refine AtL.move (.inl rfl) rfl rfl ?_
      refine AtL.join 7 (E' := [(24, .bool (decide ((((48 ≤ (c.toNat : Int)) ∧ ((c.toNat : Int) ≤ 57)) ∨ ((65 ≤ (c.toNat : Int)) ∧ ((c.toNat : Int) ≤ 90))) ∨ ((97 ≤ (c.toNat : Int)) ∧ ((c.toNat : Int) ≤ 122))))), (0, .int .u8 (c.toNat : Int))]) (H' := H) (fun J => ?_) ?_
      · refine AtL.split (t := 17) rfl ?_ ?_
        · intro hs17
          have hs17 : ((48 ≤ (c.toNat : Int)) ∧ ((c.toNat : Int) ≤ 57)) ∨ ((65 ≤ (c.toNat : Int)) ∧ ((c.toNat : Int) ≤ 90)) := of_decide_eq_true hs17
          refine AtL.skipped rfl rfl rfl rfl rfl rfl ?_
          refine AtL.skipped rfl rfl rfl rfl rfl rfl ?_
          refine AtL.skipped rfl rfl rfl rfl rfl rfl ?_
          refine AtL.skippedU rfl rfl rfl rfl rfl ?_
          refine AtL.skippedU rfl rfl rfl rfl rfl ?_
          refine AtL.skipped rfl rfl rfl rfl rfl rfl ?_
          refine AtL.pickT (.inl rfl) rfl rfl rfl ?_
          exact J _ (by exact ⟨(boolIs (by clear J; first | (simp [hs17]; done) | (simp_all; done) | grind)), rfl, trivial⟩)
        · intro hs17
          have hs17 : ¬ (((48 ≤ (c.toNat : Int)) ∧ ((c.toNat : Int) ≤ 57)) ∨ ((65 ≤ (c.toNat : Int)) ∧ ((c.toNat : Int) ≤ 90))) := of_decide_eq_false hs17
          refine AtL.move (.inr ⟨_, _, _, rfl, rfl, rfl, rfl⟩) rfl rfl ?_
          refine AtL.geq (.inr ⟨_, _, _, rfl, rfl, rfl, rfl⟩) rfl rfl rfl ?_
          refine AtL.move (.inr ⟨_, _, _, rfl, rfl, rfl, rfl⟩) rfl rfl ?_
          refine AtL.join 3 (E' := [(23, .bool (decide ((97 ≤ (c.toNat : Int)) ∧ ((c.toNat : Int) ≤ 122)))), (0, .int .u8 (c.toNat : Int)), (17, .bool false)]) (H' := H) (fun J => ?_) ?_
          · refine AtL.split (t := 20) rfl ?_ ?_
            · intro hs20
              have hs20 : 97 ≤ (c.toNat : Int) := of_decide_eq_true hs20
              refine AtL.move (.inr ⟨_, _, _, rfl, rfl, rfl, rfl⟩) rfl rfl ?_
              refine AtL.leq (.inr ⟨_, _, _, rfl, rfl, rfl, rfl⟩) rfl rfl rfl ?_
              refine AtL.pickT (.inr ⟨_, _, _, rfl, rfl, rfl, rfl⟩) rfl rfl rfl ?_
              exact J _ (by exact ⟨(boolIs (by clear J; first | (simp [hs20]; done) | (simp_all; done) | grind)), rfl, rfl, trivial⟩)
            · intro hs20
              have hs20 : ¬ (97 ≤ (c.toNat : Int)) := of_decide_eq_false hs20
              refine AtL.skipped rfl rfl rfl rfl rfl rfl ?_
              refine AtL.skipped rfl rfl rfl rfl rfl rfl ?_
              refine AtL.pickF (.inr ⟨_, _, _, rfl, rfl, rfl, rfl⟩) rfl rfl rfl ?_
              exact J _ (by exact ⟨(boolIs (by clear J; first | (simp [hs20]; done) | (simp_all; done) | grind)), rfl, rfl, trivial⟩)
          · skip
            refine AtL.pickF (.inl rfl) rfl rfl rfl ?_
            exact J _ (by exact ⟨(boolIs (by clear J; first | (simp [hs17]; done) | (simp_all; done) | grind)), rfl, trivial⟩)
      · skip
        refine AtL.done ?_
        refine At.cond rfl ?_ ?_
        · intro hc1
          have hc1 : (((48 ≤ (c.toNat : Int)) ∧ ((c.toNat : Int) ≤ 57)) ∨ ((65 ≤ (c.toNat : Int)) ∧ ((c.toNat : Int) ≤ 90))) ∨ ((97 ≤ (c.toNat : Int)) ∧ ((c.toNat : Int) ≤ 122)) := of_decide_eq_true hc1
          refine At.seq ?_
          refine At.region ?_
          refine AtL.assign (.inl rfl) rfl rfl ?_
          refine AtL.done ?_
          exact At.ret Tryz.func157 rfl rfl (⟨congrArg Value.bool (by rw [letterF]; exact (decide_eq_true (by omega)).symm), rfl⟩)
        · intro hc1
          have hc1 : ¬ ((((48 ≤ (c.toNat : Int)) ∧ ((c.toNat : Int) ≤ 57)) ∨ ((65 ≤ (c.toNat : Int)) ∧ ((c.toNat : Int) ≤ 90))) ∨ ((97 ≤ (c.toNat : Int)) ∧ ((c.toNat : Int) ≤ 122))) := of_decide_eq_false hc1
          refine At.skip ?_
          refine At.seq ?_
          refine At.region ?_
          refine AtL.move (.inl rfl) rfl rfl ?_
          refine AtL.eqi (.inl rfl) rfl rfl rfl ?_
          refine AtL.move (.inl rfl) rfl rfl ?_
          refine AtL.join 7 (E' := [(34, .bool (decide (((c.toNat : Int) = 33) ∨ ((35 ≤ (c.toNat : Int)) ∧ ((c.toNat : Int) ≤ 39))))), (0, .int .u8 (c.toNat : Int))]) (H' := H) (fun J => ?_) ?_
          · refine AtL.split (t := 27) rfl ?_ ?_
            · intro hs27
              have hs27 : (c.toNat : Int) = 33 := of_decide_eq_true hs27
              refine AtL.skipped rfl rfl rfl rfl rfl rfl ?_
              refine AtL.skipped rfl rfl rfl rfl rfl rfl ?_
              refine AtL.skipped rfl rfl rfl rfl rfl rfl ?_
              refine AtL.skippedU rfl rfl rfl rfl rfl ?_
              refine AtL.skippedU rfl rfl rfl rfl rfl ?_
              refine AtL.skipped rfl rfl rfl rfl rfl rfl ?_
              refine AtL.pickT (.inl rfl) rfl rfl rfl ?_
              exact J _ (by exact ⟨(boolIs (by clear J; first | (simp [hs27]; done) | (simp_all; done) | grind)), rfl, trivial⟩)
            · intro hs27
              have hs27 : ¬ ((c.toNat : Int) = 33) := of_decide_eq_false hs27
              refine AtL.move (.inr ⟨_, _, _, rfl, rfl, rfl, rfl⟩) rfl rfl ?_
              refine AtL.geq (.inr ⟨_, _, _, rfl, rfl, rfl, rfl⟩) rfl rfl rfl ?_
              refine AtL.move (.inr ⟨_, _, _, rfl, rfl, rfl, rfl⟩) rfl rfl ?_
              refine AtL.join 3 (E' := [(33, .bool (decide ((35 ≤ (c.toNat : Int)) ∧ ((c.toNat : Int) ≤ 39)))), (0, .int .u8 (c.toNat : Int)), (27, .bool false)]) (H' := H) (fun J => ?_) ?_
              · refine AtL.split (t := 30) rfl ?_ ?_
                · intro hs30
                  have hs30 : 35 ≤ (c.toNat : Int) := of_decide_eq_true hs30
                  refine AtL.move (.inr ⟨_, _, _, rfl, rfl, rfl, rfl⟩) rfl rfl ?_
                  refine AtL.leq (.inr ⟨_, _, _, rfl, rfl, rfl, rfl⟩) rfl rfl rfl ?_
                  refine AtL.pickT (.inr ⟨_, _, _, rfl, rfl, rfl, rfl⟩) rfl rfl rfl ?_
                  exact J _ (by exact ⟨(boolIs (by clear J; first | (simp [hs30]; done) | (simp_all; done) | grind)), rfl, rfl, trivial⟩)
                · intro hs30
                  have hs30 : ¬ (35 ≤ (c.toNat : Int)) := of_decide_eq_false hs30
                  refine AtL.skipped rfl rfl rfl rfl rfl rfl ?_
                  refine AtL.skipped rfl rfl rfl rfl rfl rfl ?_
                  refine AtL.pickF (.inr ⟨_, _, _, rfl, rfl, rfl, rfl⟩) rfl rfl rfl ?_
                  exact J _ (by exact ⟨(boolIs (by clear J; first | (simp [hs30]; done) | (simp_all; done) | grind)), rfl, rfl, trivial⟩)
              · skip
                refine AtL.pickF (.inl rfl) rfl rfl rfl ?_
                exact J _ (by exact ⟨(boolIs (by clear J; first | (simp [hs27]; done) | (simp_all; done) | grind)), rfl, trivial⟩)
          · skip
            refine AtL.move (.inl rfl) rfl rfl ?_
            refine AtL.join 3 (E' := [(38, .bool (decide ((((c.toNat : Int) = 33) ∨ ((35 ≤ (c.toNat : Int)) ∧ ((c.toNat : Int) ≤ 39))) ∨ ((c.toNat : Int) = 42)))), (0, .int .u8 (c.toNat : Int))]) (H' := H) (fun J => ?_) ?_
            · refine AtL.split (t := 35) rfl ?_ ?_
              · intro hs35
                have hs35 : ((c.toNat : Int) = 33) ∨ ((35 ≤ (c.toNat : Int)) ∧ ((c.toNat : Int) ≤ 39)) := of_decide_eq_true hs35
                refine AtL.skipped rfl rfl rfl rfl rfl rfl ?_
                refine AtL.skipped rfl rfl rfl rfl rfl rfl ?_
                refine AtL.pickT (.inl rfl) rfl rfl rfl ?_
                exact J _ (by exact ⟨(boolIs (by clear J; first | (simp [hs35]; done) | (simp_all; done) | grind)), rfl, trivial⟩)
              · intro hs35
                have hs35 : ¬ (((c.toNat : Int) = 33) ∨ ((35 ≤ (c.toNat : Int)) ∧ ((c.toNat : Int) ≤ 39))) := of_decide_eq_false hs35
                refine AtL.move (.inr ⟨_, _, _, rfl, rfl, rfl, rfl⟩) rfl rfl ?_
                refine AtL.eqi (.inr ⟨_, _, _, rfl, rfl, rfl, rfl⟩) rfl rfl rfl ?_
                refine AtL.pickF (.inl rfl) rfl rfl rfl ?_
                exact J _ (by exact ⟨(boolIs (by clear J; first | (simp [hs35]; done) | (simp_all; done) | grind)), rfl, trivial⟩)
            · skip
              refine AtL.move (.inl rfl) rfl rfl ?_
              refine AtL.join 3 (E' := [(42, .bool (decide (((((c.toNat : Int) = 33) ∨ ((35 ≤ (c.toNat : Int)) ∧ ((c.toNat : Int) ≤ 39))) ∨ ((c.toNat : Int) = 42)) ∨ ((c.toNat : Int) = 43)))), (0, .int .u8 (c.toNat : Int))]) (H' := H) (fun J => ?_) ?_
              · refine AtL.split (t := 39) rfl ?_ ?_
                · intro hs39
                  have hs39 : (((c.toNat : Int) = 33) ∨ ((35 ≤ (c.toNat : Int)) ∧ ((c.toNat : Int) ≤ 39))) ∨ ((c.toNat : Int) = 42) := of_decide_eq_true hs39
                  refine AtL.skipped rfl rfl rfl rfl rfl rfl ?_
                  refine AtL.skipped rfl rfl rfl rfl rfl rfl ?_
                  refine AtL.pickT (.inl rfl) rfl rfl rfl ?_
                  exact J _ (by exact ⟨(boolIs (by clear J; first | (simp [hs39]; done) | (simp_all; done) | grind)), rfl, trivial⟩)
                · intro hs39
                  have hs39 : ¬ ((((c.toNat : Int) = 33) ∨ ((35 ≤ (c.toNat : Int)) ∧ ((c.toNat : Int) ≤ 39))) ∨ ((c.toNat : Int) = 42)) := of_decide_eq_false hs39
                  refine AtL.move (.inr ⟨_, _, _, rfl, rfl, rfl, rfl⟩) rfl rfl ?_
                  refine AtL.eqi (.inr ⟨_, _, _, rfl, rfl, rfl, rfl⟩) rfl rfl rfl ?_
                  refine AtL.pickF (.inl rfl) rfl rfl rfl ?_
                  exact J _ (by exact ⟨(boolIs (by clear J; first | (simp [hs39]; done) | (simp_all; done) | grind)), rfl, trivial⟩)
              · skip
                refine AtL.move (.inl rfl) rfl rfl ?_
                refine AtL.join 3 (E' := [(46, .bool (decide ((((((c.toNat : Int) = 33) ∨ ((35 ≤ (c.toNat : Int)) ∧ ((c.toNat : Int) ≤ 39))) ∨ ((c.toNat : Int) = 42)) ∨ ((c.toNat : Int) = 43)) ∨ ((c.toNat : Int) = 45)))), (0, .int .u8 (c.toNat : Int))]) (H' := H) (fun J => ?_) ?_
                · refine AtL.split (t := 43) rfl ?_ ?_
                  · intro hs43
                    have hs43 : ((((c.toNat : Int) = 33) ∨ ((35 ≤ (c.toNat : Int)) ∧ ((c.toNat : Int) ≤ 39))) ∨ ((c.toNat : Int) = 42)) ∨ ((c.toNat : Int) = 43) := of_decide_eq_true hs43
                    refine AtL.skipped rfl rfl rfl rfl rfl rfl ?_
                    refine AtL.skipped rfl rfl rfl rfl rfl rfl ?_
                    refine AtL.pickT (.inl rfl) rfl rfl rfl ?_
                    exact J _ (by exact ⟨(boolIs (by clear J; first | (simp [hs43]; done) | (simp_all; done) | grind)), rfl, trivial⟩)
                  · intro hs43
                    have hs43 : ¬ (((((c.toNat : Int) = 33) ∨ ((35 ≤ (c.toNat : Int)) ∧ ((c.toNat : Int) ≤ 39))) ∨ ((c.toNat : Int) = 42)) ∨ ((c.toNat : Int) = 43)) := of_decide_eq_false hs43
                    refine AtL.move (.inr ⟨_, _, _, rfl, rfl, rfl, rfl⟩) rfl rfl ?_
                    refine AtL.eqi (.inr ⟨_, _, _, rfl, rfl, rfl, rfl⟩) rfl rfl rfl ?_
                    refine AtL.pickF (.inl rfl) rfl rfl rfl ?_
                    exact J _ (by exact ⟨(boolIs (by clear J; first | (simp [hs43]; done) | (simp_all; done) | grind)), rfl, trivial⟩)
                · skip
                  refine AtL.move (.inl rfl) rfl rfl ?_
                  refine AtL.join 3 (E' := [(50, .bool (decide (((((((c.toNat : Int) = 33) ∨ ((35 ≤ (c.toNat : Int)) ∧ ((c.toNat : Int) ≤ 39))) ∨ ((c.toNat : Int) = 42)) ∨ ((c.toNat : Int) = 43)) ∨ ((c.toNat : Int) = 45)) ∨ ((c.toNat : Int) = 46)))), (0, .int .u8 (c.toNat : Int))]) (H' := H) (fun J => ?_) ?_
                  · refine AtL.split (t := 47) rfl ?_ ?_
                    · intro hs47
                      have hs47 : (((((c.toNat : Int) = 33) ∨ ((35 ≤ (c.toNat : Int)) ∧ ((c.toNat : Int) ≤ 39))) ∨ ((c.toNat : Int) = 42)) ∨ ((c.toNat : Int) = 43)) ∨ ((c.toNat : Int) = 45) := of_decide_eq_true hs47
                      refine AtL.skipped rfl rfl rfl rfl rfl rfl ?_
                      refine AtL.skipped rfl rfl rfl rfl rfl rfl ?_
                      refine AtL.pickT (.inl rfl) rfl rfl rfl ?_
                      exact J _ (by exact ⟨(boolIs (by clear J; first | (simp [hs47]; done) | (simp_all; done) | grind)), rfl, trivial⟩)
                    · intro hs47
                      have hs47 : ¬ ((((((c.toNat : Int) = 33) ∨ ((35 ≤ (c.toNat : Int)) ∧ ((c.toNat : Int) ≤ 39))) ∨ ((c.toNat : Int) = 42)) ∨ ((c.toNat : Int) = 43)) ∨ ((c.toNat : Int) = 45)) := of_decide_eq_false hs47
                      refine AtL.move (.inr ⟨_, _, _, rfl, rfl, rfl, rfl⟩) rfl rfl ?_
                      refine AtL.eqi (.inr ⟨_, _, _, rfl, rfl, rfl, rfl⟩) rfl rfl rfl ?_
                      refine AtL.pickF (.inl rfl) rfl rfl rfl ?_
                      exact J _ (by exact ⟨(boolIs (by clear J; first | (simp [hs47]; done) | (simp_all; done) | grind)), rfl, trivial⟩)
                  · skip
                    refine AtL.move (.inl rfl) rfl rfl ?_
                    refine AtL.join 7 (E' := [(58, .bool (decide ((((((((c.toNat : Int) = 33) ∨ ((35 ≤ (c.toNat : Int)) ∧ ((c.toNat : Int) ≤ 39))) ∨ ((c.toNat : Int) = 42)) ∨ ((c.toNat : Int) = 43)) ∨ ((c.toNat : Int) = 45)) ∨ ((c.toNat : Int) = 46)) ∨ ((94 ≤ (c.toNat : Int)) ∧ ((c.toNat : Int) ≤ 96))))), (0, .int .u8 (c.toNat : Int))]) (H' := H) (fun J => ?_) ?_
                    · refine AtL.split (t := 51) rfl ?_ ?_
                      · intro hs51
                        have hs51 : ((((((c.toNat : Int) = 33) ∨ ((35 ≤ (c.toNat : Int)) ∧ ((c.toNat : Int) ≤ 39))) ∨ ((c.toNat : Int) = 42)) ∨ ((c.toNat : Int) = 43)) ∨ ((c.toNat : Int) = 45)) ∨ ((c.toNat : Int) = 46) := of_decide_eq_true hs51
                        refine AtL.skipped rfl rfl rfl rfl rfl rfl ?_
                        refine AtL.skipped rfl rfl rfl rfl rfl rfl ?_
                        refine AtL.skipped rfl rfl rfl rfl rfl rfl ?_
                        refine AtL.skippedU rfl rfl rfl rfl rfl ?_
                        refine AtL.skippedU rfl rfl rfl rfl rfl ?_
                        refine AtL.skipped rfl rfl rfl rfl rfl rfl ?_
                        refine AtL.pickT (.inl rfl) rfl rfl rfl ?_
                        exact J _ (by exact ⟨(boolIs (by clear J; first | (simp [hs51]; done) | (simp_all; done) | grind)), rfl, trivial⟩)
                      · intro hs51
                        have hs51 : ¬ (((((((c.toNat : Int) = 33) ∨ ((35 ≤ (c.toNat : Int)) ∧ ((c.toNat : Int) ≤ 39))) ∨ ((c.toNat : Int) = 42)) ∨ ((c.toNat : Int) = 43)) ∨ ((c.toNat : Int) = 45)) ∨ ((c.toNat : Int) = 46)) := of_decide_eq_false hs51
                        refine AtL.move (.inr ⟨_, _, _, rfl, rfl, rfl, rfl⟩) rfl rfl ?_
                        refine AtL.geq (.inr ⟨_, _, _, rfl, rfl, rfl, rfl⟩) rfl rfl rfl ?_
                        refine AtL.move (.inr ⟨_, _, _, rfl, rfl, rfl, rfl⟩) rfl rfl ?_
                        refine AtL.join 3 (E' := [(57, .bool (decide ((94 ≤ (c.toNat : Int)) ∧ ((c.toNat : Int) ≤ 96)))), (0, .int .u8 (c.toNat : Int)), (51, .bool false)]) (H' := H) (fun J => ?_) ?_
                        · refine AtL.split (t := 54) rfl ?_ ?_
                          · intro hs54
                            have hs54 : 94 ≤ (c.toNat : Int) := of_decide_eq_true hs54
                            refine AtL.move (.inr ⟨_, _, _, rfl, rfl, rfl, rfl⟩) rfl rfl ?_
                            refine AtL.leq (.inr ⟨_, _, _, rfl, rfl, rfl, rfl⟩) rfl rfl rfl ?_
                            refine AtL.pickT (.inr ⟨_, _, _, rfl, rfl, rfl, rfl⟩) rfl rfl rfl ?_
                            exact J _ (by exact ⟨(boolIs (by clear J; first | (simp [hs54]; done) | (simp_all; done) | grind)), rfl, rfl, trivial⟩)
                          · intro hs54
                            have hs54 : ¬ (94 ≤ (c.toNat : Int)) := of_decide_eq_false hs54
                            refine AtL.skipped rfl rfl rfl rfl rfl rfl ?_
                            refine AtL.skipped rfl rfl rfl rfl rfl rfl ?_
                            refine AtL.pickF (.inr ⟨_, _, _, rfl, rfl, rfl, rfl⟩) rfl rfl rfl ?_
                            exact J _ (by exact ⟨(boolIs (by clear J; first | (simp [hs54]; done) | (simp_all; done) | grind)), rfl, rfl, trivial⟩)
                        · skip
                          refine AtL.pickF (.inl rfl) rfl rfl rfl ?_
                          exact J _ (by exact ⟨(boolIs (by clear J; first | (simp [hs51]; done) | (simp_all; done) | grind)), rfl, trivial⟩)
                    · skip
                      refine AtL.move (.inl rfl) rfl rfl ?_
                      refine AtL.join 3 (E' := [(62, .bool (decide (((((((((c.toNat : Int) = 33) ∨ ((35 ≤ (c.toNat : Int)) ∧ ((c.toNat : Int) ≤ 39))) ∨ ((c.toNat : Int) = 42)) ∨ ((c.toNat : Int) = 43)) ∨ ((c.toNat : Int) = 45)) ∨ ((c.toNat : Int) = 46)) ∨ ((94 ≤ (c.toNat : Int)) ∧ ((c.toNat : Int) ≤ 96))) ∨ ((c.toNat : Int) = 124)))), (0, .int .u8 (c.toNat : Int))]) (H' := H) (fun J => ?_) ?_
                      · refine AtL.split (t := 59) rfl ?_ ?_
                        · intro hs59
                          have hs59 : (((((((c.toNat : Int) = 33) ∨ ((35 ≤ (c.toNat : Int)) ∧ ((c.toNat : Int) ≤ 39))) ∨ ((c.toNat : Int) = 42)) ∨ ((c.toNat : Int) = 43)) ∨ ((c.toNat : Int) = 45)) ∨ ((c.toNat : Int) = 46)) ∨ ((94 ≤ (c.toNat : Int)) ∧ ((c.toNat : Int) ≤ 96)) := of_decide_eq_true hs59
                          refine AtL.skipped rfl rfl rfl rfl rfl rfl ?_
                          refine AtL.skipped rfl rfl rfl rfl rfl rfl ?_
                          refine AtL.pickT (.inl rfl) rfl rfl rfl ?_
                          exact J _ (by exact ⟨(boolIs (by clear J; first | (simp [hs59]; done) | (simp_all; done) | grind)), rfl, trivial⟩)
                        · intro hs59
                          have hs59 : ¬ ((((((((c.toNat : Int) = 33) ∨ ((35 ≤ (c.toNat : Int)) ∧ ((c.toNat : Int) ≤ 39))) ∨ ((c.toNat : Int) = 42)) ∨ ((c.toNat : Int) = 43)) ∨ ((c.toNat : Int) = 45)) ∨ ((c.toNat : Int) = 46)) ∨ ((94 ≤ (c.toNat : Int)) ∧ ((c.toNat : Int) ≤ 96))) := of_decide_eq_false hs59
                          refine AtL.move (.inr ⟨_, _, _, rfl, rfl, rfl, rfl⟩) rfl rfl ?_
                          refine AtL.eqi (.inr ⟨_, _, _, rfl, rfl, rfl, rfl⟩) rfl rfl rfl ?_
                          refine AtL.pickF (.inl rfl) rfl rfl rfl ?_
                          exact J _ (by exact ⟨(boolIs (by clear J; first | (simp [hs59]; done) | (simp_all; done) | grind)), rfl, trivial⟩)
                      · skip
                        refine AtL.move (.inl rfl) rfl rfl ?_
                        refine AtL.join 3 (E' := [(66, .bool (decide ((((((((((c.toNat : Int) = 33) ∨ ((35 ≤ (c.toNat : Int)) ∧ ((c.toNat : Int) ≤ 39))) ∨ ((c.toNat : Int) = 42)) ∨ ((c.toNat : Int) = 43)) ∨ ((c.toNat : Int) = 45)) ∨ ((c.toNat : Int) = 46)) ∨ ((94 ≤ (c.toNat : Int)) ∧ ((c.toNat : Int) ≤ 96))) ∨ ((c.toNat : Int) = 124)) ∨ ((c.toNat : Int) = 126))))]) (H' := H) (fun J => ?_) ?_
                        · refine AtL.split (t := 63) rfl ?_ ?_
                          · intro hs63
                            have hs63 : ((((((((c.toNat : Int) = 33) ∨ ((35 ≤ (c.toNat : Int)) ∧ ((c.toNat : Int) ≤ 39))) ∨ ((c.toNat : Int) = 42)) ∨ ((c.toNat : Int) = 43)) ∨ ((c.toNat : Int) = 45)) ∨ ((c.toNat : Int) = 46)) ∨ ((94 ≤ (c.toNat : Int)) ∧ ((c.toNat : Int) ≤ 96))) ∨ ((c.toNat : Int) = 124) := of_decide_eq_true hs63
                            refine AtL.skipped rfl rfl rfl rfl rfl rfl ?_
                            refine AtL.skipped rfl rfl rfl rfl rfl rfl ?_
                            refine AtL.pickT (.inl rfl) rfl rfl rfl ?_
                            exact J _ (by exact ⟨(boolIs (by clear J; first | (simp [hs63]; done) | (simp_all; done) | grind)), trivial⟩)
                          · intro hs63
                            have hs63 : ¬ (((((((((c.toNat : Int) = 33) ∨ ((35 ≤ (c.toNat : Int)) ∧ ((c.toNat : Int) ≤ 39))) ∨ ((c.toNat : Int) = 42)) ∨ ((c.toNat : Int) = 43)) ∨ ((c.toNat : Int) = 45)) ∨ ((c.toNat : Int) = 46)) ∨ ((94 ≤ (c.toNat : Int)) ∧ ((c.toNat : Int) ≤ 96))) ∨ ((c.toNat : Int) = 124)) := of_decide_eq_false hs63
                            refine AtL.move (.inr ⟨_, _, _, rfl, rfl, rfl, rfl⟩) rfl rfl ?_
                            refine AtL.eqi (.inr ⟨_, _, _, rfl, rfl, rfl, rfl⟩) rfl rfl rfl ?_
                            refine AtL.pickF (.inl rfl) rfl rfl rfl ?_
                            exact J _ (by exact ⟨(boolIs (by clear J; first | (simp [hs63]; done) | (simp_all; done) | grind)), trivial⟩)
                        · skip
                          refine AtL.assign (.inl rfl) rfl rfl ?_
                          refine AtL.done ?_
                          exact At.ret Tryz.func157 rfl rfl (⟨congrArg Value.bool (by rw [letterF]; exact decide_eq_decide.2 (by omega)), rfl⟩)
set_option maxHeartbeats 400000 in
theorem rword_ok {w0 : World} {base : Nat} {H : List Seg} {l : List UInt8} (hl : l.length ≤ 140737488355000) (most : Int) :
    SCalls Tryz.prog 109 [str l, .int .i64 most] w0 base (H) (fun v H' => v = .bool (wordF l most) ∧ H' = H) := by
  refine SCalls.of_walk (n := 26) Tryz.func109 rfl rfl rfl fun cs => ?_
  refine At.seq ?_
  refine At.region ?_
  refine AtL.assign (.inl rfl) rfl rfl ?_
  refine AtL.done ?_
  refine At.seq ?_
  refine At.seq ?_
  refine At.region ?_
  refine AtL.move (.inl rfl) rfl rfl ?_
  refine AtL.lenS (l := l) Tryz.underlying9 (.inl rfl) rfl rfl ?_
  refine AtL.lss (.inl rfl) rfl rfl rfl ?_
  refine AtL.move (.inl rfl) rfl rfl ?_
  refine AtL.join 5 (E' := [(14, .bool (decide (((l.length : Int) < 1) ∨ (most < (l.length : Int))))), (0, str l)]) (H' := H) (fun J => ?_) ?_
  · refine AtL.split (t := 9) rfl ?_ ?_
    · intro hs9
      have hs9 : (l.length : Int) < 1 := of_decide_eq_true hs9
      refine AtL.skipped rfl rfl rfl rfl rfl rfl ?_
      refine AtL.skipped rfl rfl rfl rfl rfl rfl ?_
      refine AtL.skipped rfl rfl rfl rfl rfl rfl ?_
      refine AtL.skipped rfl rfl rfl rfl rfl rfl ?_
      refine AtL.pickT (.inl rfl) rfl rfl rfl ?_
      exact J _ (by exact ⟨(boolIs (by clear J; first | (simp [hs9]; done) | (simp_all; done) | grind)), rfl, trivial⟩)
    · intro hs9
      have hs9 : ¬ ((l.length : Int) < 1) := of_decide_eq_false hs9
      refine AtL.move (.inr ⟨_, _, _, rfl, rfl, rfl, rfl⟩) rfl rfl ?_
      refine AtL.lenS (l := l) Tryz.underlying9 (.inr ⟨_, _, _, rfl, rfl, rfl, rfl⟩) rfl rfl ?_
      refine AtL.move (.inr ⟨_, _, _, rfl, rfl, rfl, rfl⟩) rfl rfl ?_
      refine AtL.gtr (.inr ⟨_, _, _, rfl, rfl, rfl, rfl⟩) rfl rfl rfl ?_
      refine AtL.pickF (.inl rfl) rfl rfl rfl ?_
      exact J _ (by exact ⟨(boolIs (by clear J; first | (simp [hs9]; done) | (simp_all; done) | grind)), rfl, trivial⟩)
  · skip
    refine AtL.done ?_
    refine At.cond rfl ?_ ?_
    · intro hc1
      have hc1 : ((l.length : Int) < 1) ∨ (most < (l.length : Int)) := of_decide_eq_true hc1
      refine At.seq ?_
      refine At.region ?_
      refine AtL.assign (.inl rfl) rfl rfl ?_
      refine AtL.done ?_
      exact At.ret Tryz.func109 rfl rfl (⟨congrArg Value.bool (by rw [wordF, decide_eq_false (by omega)]; rfl), rfl⟩)
    · intro hc1
      have hc1 : ¬ (((l.length : Int) < 1) ∨ (most < (l.length : Int))) := of_decide_eq_false hc1
      refine At.skip ?_
      refine At.seq ?_
      refine At.seq ?_
      refine At.region ?_
      refine AtL.assign (.inl rfl) rfl rfl ?_
      refine AtL.done ?_
      refine At.block ?_
      refine At.loop (fun (k : Nat) => [(0, str l), (5, .int .i64 (k : Int))]) (fun (k : Nat) => H) (fun (k : Nat) => k ≤ l.length ∧ (l.take k).all letterF = true) (fun (k : Nat) => l.length - k) 0 (⟨Nat.zero_le _, rfl⟩) ⟨rfl, rfl, trivial⟩ rfl ?_
      rintro k ⟨hk, ha⟩ ihL1
      refine At.seq ?_
      refine At.seq ?_
      refine At.region ?_
      refine AtL.move (.inl rfl) rfl rfl ?_
      refine AtL.move (.inl rfl) rfl rfl ?_
      refine AtL.lenS (l := l) Tryz.underlying9 (.inl rfl) rfl rfl ?_
      refine AtL.lss (.inl rfl) rfl rfl rfl ?_
      refine AtL.done ?_
      refine At.cond rfl ?_ ?_
      · intro hc2
        have hc2 : (k : Int) < (l.length : Int) := of_decide_eq_true hc2
        refine At.skip ?_
        refine At.seq ?_
        refine At.block ?_
        refine At.seq ?_
        refine At.region ?_
        refine AtL.move (.inl rfl) rfl rfl ?_
        refine AtL.move (.inl rfl) rfl rfl ?_
        refine AtL.indexS (l := l) k rfl (by omega) Tryz.underlying9 (.inl rfl) rfl rfl rfl ?_
        refine AtL.call tf_body157 (.inl rfl) rfl rfl (rletter_ok (l.getD k 0)) ?_
        rintro _ _ ⟨rfl, hHq⟩
        obtain rfl := hHq.symm
        refine AtL.not (.inl rfl) rfl rfl ?_
        refine AtL.done ?_
        refine At.cond rfl ?_ ?_
        · intro hc3
          have hc3 : (letterF (l.getD k 0)) = false := bnot_true hc3
          refine At.seq ?_
          refine At.region ?_
          refine AtL.assign (.inl rfl) rfl rfl ?_
          refine AtL.done ?_
          exact At.ret Tryz.func109 rfl rfl (⟨congrArg Value.bool (by rw [wordF, all_bad (k := k) (by omega) (by simpa using hc3), Bool.and_false]), rfl⟩)
        · intro hc3
          have hc3 : (letterF (l.getD k 0)) = true := bnot_false hc3
          refine At.skip ?_
          refine At.inBlock ?_
          refine At.region ?_
          refine AtL.move (.inl rfl) rfl rfl ?_
          refine AtL.add (z := (k : Int) + 1) (.inl rfl) rfl rfl rfl (w64 (by omega) (by omega)) ?_
          refine AtL.assign (.inl rfl) rfl rfl ?_
          refine AtL.done ?_
          refine ihL1 (k + 1) (⟨by omega, all_step (by omega) ha (by simpa using hc3)⟩) (by omega) _ ?_
          exact ⟨rfl, (by first | rfl | exact slLen (by simp []) | exact intEq (by omega) | exact intEq (by simp []) | exact slLen (by simp []; omega)), trivial⟩
      · intro hc2
        have hc2 : ¬ ((k : Int) < (l.length : Int)) := of_decide_eq_false hc2
        refine At.exit rfl ?_
        refine At.seq ?_
        refine At.region ?_
        refine AtL.assign (.inl rfl) rfl rfl ?_
        refine AtL.done ?_
        exact At.ret Tryz.func109 rfl rfl (⟨congrArg Value.bool (by rw [wordF, all_end (by omega) ha, decide_eq_true (by omega)]; rfl), rfl⟩)
theorem blankF_is (c : UInt8) : blankF c = decide ((c.toNat : Int) = 9 ∨ (c.toNat : Int) = 32) := by
  have h9 := u8_eq (c := c) (n := 9) (by omega)
  have h32 := u8_eq (c := c) (n := 32) (by omega)
  rw [blankF, Bool.eq_iff_iff]
  simp only [Bool.or_eq_true, decide_eq_true_eq]
  exact or_congr h9.symm h32.symm
theorem tl_step {l : List UInt8} (h : l ≠ []) (hb : blankF (l.getD 0 0) = true) : tl blankF (subl l 1 l.length) = tl blankF l := by
  cases l with
  | nil => exact absurd rfl h
  | cons a l =>
    have hb : blankF a = true := hb
    simp [tl, subl, hb]
theorem tl_end {l : List UInt8} (h : ¬ (l ≠ [] ∧ blankF (l.getD 0 0) = true)) : tl blankF l = l := by
  cases l with
  | nil => rfl
  | cons a l =>
    have hb : blankF a = false := by
      have := fun hb => h ⟨by simp, hb⟩
      simpa using this
    simp [tl, hb]
theorem tr_step {l : List UInt8} (h : l ≠ []) (hb : blankF (l.getD (l.length - 1) 0) = true) : tr blankF (subl l 0 (l.length - 1)) = tr blankF l := by
  rcases snoc_cases l with rfl | ⟨k, c, rfl⟩
  · exact absurd rfl h
  · have hb : blankF c = true := by simpa [List.getD] using hb
    have e : subl (k ++ [c]) 0 ((k ++ [c]).length - 1) = k := by simp [subl]
    rw [e, tr_snoc, if_pos hb]
theorem tr_end {l : List UInt8} (h : ¬ (l ≠ [] ∧ blankF (l.getD (l.length - 1) 0) = true)) : tr blankF l = l := by
  rcases snoc_cases l with rfl | ⟨k, c, rfl⟩
  · rfl
  · have hb : blankF c = false := by
      have := fun hb => h ⟨by simp, hb⟩
      simpa [List.getD] using this
    rw [tr_snoc, if_neg (by simp [hb])]
set_option maxHeartbeats 400000 in
theorem rblank_ok {w0 : World} {base : Nat} {H : List Seg} (c : UInt8) :
    SCalls Tryz.prog 161 [.int .u8 (c.toNat : Int)] w0 base (H) (fun v H' => v = .bool (blankF c) ∧ H' = H) := by
  refine SCalls.of_walk (n := 9) Tryz.func161 rfl rfl rfl fun cs => ?_
  refine At.seq ?_
  refine At.region ?_
  refine AtL.assign (.inl rfl) rfl rfl ?_
  refine AtL.done ?_
  refine At.seq ?_
  refine At.region ?_
  refine AtL.move (.inl rfl) rfl rfl ?_
  refine AtL.eqi (.inl rfl) rfl rfl rfl ?_
  refine AtL.move (.inl rfl) rfl rfl ?_
  refine AtL.join 3 (E' := [(8, .bool (decide (((c.toNat : Int) = 9) ∨ ((c.toNat : Int) = 32))))]) (H' := H) (fun J => ?_) ?_
  · refine AtL.split (t := 5) rfl ?_ ?_
    · intro hs5
      have hs5 : (c.toNat : Int) = 9 := of_decide_eq_true hs5
      refine AtL.skipped rfl rfl rfl rfl rfl rfl ?_
      refine AtL.skipped rfl rfl rfl rfl rfl rfl ?_
      refine AtL.pickT (.inl rfl) rfl rfl rfl ?_
      exact J _ (by exact ⟨(boolIs (by clear J; first | (simp [hs5]; done) | (simp_all; done) | grind)), trivial⟩)
    · intro hs5
      have hs5 : ¬ ((c.toNat : Int) = 9) := of_decide_eq_false hs5
      refine AtL.move (.inr ⟨_, _, _, rfl, rfl, rfl, rfl⟩) rfl rfl ?_
      refine AtL.eqi (.inr ⟨_, _, _, rfl, rfl, rfl, rfl⟩) rfl rfl rfl ?_
      refine AtL.pickF (.inl rfl) rfl rfl rfl ?_
      exact J _ (by exact ⟨(boolIs (by clear J; first | (simp [hs5]; done) | (simp_all; done) | grind)), trivial⟩)
  · skip
    refine AtL.assign (.inl rfl) rfl rfl ?_
    refine AtL.done ?_
    exact At.ret Tryz.func161 rfl rfl (⟨congrArg Value.bool (blankF_is c).symm, rfl⟩)
set_option maxHeartbeats 400000 in
theorem rtrim_ok {w0 : World} {base : Nat} {H : List Seg} {l : List UInt8} (hl : l.length ≤ 140737488355000) :
    SCalls Tryz.prog 124 [str l] w0 base (H) (fun v H' => v = str (trimF l) ∧ H' = H) := by
  refine SCalls.of_walk (n := 30) Tryz.func124 rfl rfl rfl fun cs => ?_
  refine At.seq ?_
  refine At.region ?_
  refine AtL.assign (.inl rfl) rfl rfl ?_
  refine AtL.done ?_
  refine At.seq ?_
  refine At.block ?_
  refine At.loop (fun (x : List UInt8) => [(0, str x)]) (fun (x : List UInt8) => H) (fun (x : List UInt8) => x.length ≤ l.length ∧ tl blankF l = tl blankF x) (fun (x : List UInt8) => x.length) l (⟨Nat.le_refl _, rfl⟩) ⟨rfl, trivial⟩ rfl ?_
  rintro x ⟨hx, ht⟩ ihL1
  refine At.seq ?_
  refine At.seq ?_
  refine At.region ?_
  refine AtL.move (.inl rfl) rfl rfl ?_
  refine AtL.lenS (l := x) Tryz.underlying9 (.inl rfl) rfl rfl ?_
  refine AtL.gtr (.inl rfl) rfl rfl rfl ?_
  refine AtL.move (.inl rfl) rfl rfl ?_
  refine AtL.join 4 (E' := [(10, .bool (decide ((0 < (x.length : Int)) ∧ ((blankF (x.getD 0 0)) = true)))), (0, str x)]) (H' := H) (fun J => ?_) ?_
  · refine AtL.split (t := 6) rfl ?_ ?_
    · intro hs6
      have hs6 : 0 < (x.length : Int) := of_decide_eq_true hs6
      refine AtL.move (.inr ⟨_, _, _, rfl, rfl, rfl, rfl⟩) rfl rfl ?_
      refine AtL.indexS (l := x) 0 rfl (by omega) Tryz.underlying9 (.inr ⟨_, _, _, rfl, rfl, rfl, rfl⟩) rfl rfl rfl ?_
      refine AtL.call tf_body161 (.inr ⟨_, _, _, rfl, rfl, rfl, rfl⟩) rfl rfl (rblank_ok (x.getD 0 0)) ?_
      rintro _ _ ⟨rfl, hHq⟩
      obtain rfl := hHq.symm
      refine AtL.pickT (.inl rfl) rfl rfl rfl ?_
      exact J _ (by exact ⟨(boolIs (by clear J; first | (simp [hs6]; done) | (simp_all; done) | grind)), rfl, trivial⟩)
    · intro hs6
      have hs6 : ¬ (0 < (x.length : Int)) := of_decide_eq_false hs6
      refine AtL.skipped rfl rfl rfl rfl rfl rfl ?_
      refine AtL.skipped rfl rfl rfl rfl rfl rfl ?_
      refine AtL.skipped rfl rfl rfl rfl rfl rfl ?_
      refine AtL.pickF (.inl rfl) rfl rfl rfl ?_
      exact J _ (by exact ⟨(boolIs (by clear J; first | (simp [hs6]; done) | (simp_all; done) | grind)), rfl, trivial⟩)
  · skip
    refine AtL.done ?_
    refine At.cond rfl ?_ ?_
    · intro hc1
      have hc1 : (0 < (x.length : Int)) ∧ ((blankF (x.getD 0 0)) = true) := of_decide_eq_true hc1
      refine At.skip ?_
      refine At.block ?_
      refine At.region ?_
      refine AtL.move (.inl rfl) rfl rfl ?_
      refine AtL.sliceS (l := x) 1 x.length (evBound_some rfl rfl) rfl (by omega) (by omega) Tryz.underlying9 (.inl rfl) rfl rfl ?_
      refine AtL.assign (.inl rfl) rfl rfl ?_
      refine AtL.done ?_
      refine At.inBlock ?_
      refine ihL1 (subl x 1 x.length) (⟨by rw [subl_len (Nat.le_refl _)]; omega, by rw [ht, tl_step (List.length_pos_iff.1 (by omega)) hc1.2]⟩) (by rw [subl_len (Nat.le_refl _)]; omega) _ ?_
      exact ⟨(by first | rfl | exact slLen (by simp []) | exact intEq (by omega) | exact intEq (by simp []) | exact slLen (by simp []; omega)), trivial⟩
    · intro hc1
      have hc1 : ¬ ((0 < (x.length : Int)) ∧ ((blankF (x.getD 0 0)) = true)) := of_decide_eq_false hc1
      refine At.exit rfl ?_
      refine At.seq ?_
      refine At.block ?_
      have htx : trimF l = tr blankF x := by rw [trimF, ht, tl_end (fun h => hc1 ⟨by have := List.length_pos_iff.2 h.1; omega, h.2⟩)]
      refine At.loop (fun (z : List UInt8) => [(0, str z)]) (fun (z : List UInt8) => H) (fun (z : List UInt8) => z.length ≤ l.length ∧ trimF l = tr blankF z) (fun (z : List UInt8) => z.length) x (⟨hx, htx⟩) ⟨rfl, trivial⟩ rfl ?_
      rintro z ⟨hz, hr⟩ ihL2
      have hzt : ((z.length : Int) - 1).toNat = z.length - 1 := by omega
      refine At.seq ?_
      refine At.seq ?_
      refine At.region ?_
      refine AtL.move (.inl rfl) rfl rfl ?_
      refine AtL.lenS (l := z) Tryz.underlying9 (.inl rfl) rfl rfl ?_
      refine AtL.gtr (.inl rfl) rfl rfl rfl ?_
      refine AtL.move (.inl rfl) rfl rfl ?_
      refine AtL.join 7 (E' := [(23, .bool (decide ((0 < (z.length : Int)) ∧ ((blankF (z.getD (Int.toNat ((z.length : Int) - 1)) 0)) = true)))), (0, str z)]) (H' := H) (fun J => ?_) ?_
      · refine AtL.split (t := 16) rfl ?_ ?_
        · intro hs16
          have hs16 : 0 < (z.length : Int) := of_decide_eq_true hs16
          refine AtL.move (.inr ⟨_, _, _, rfl, rfl, rfl, rfl⟩) rfl rfl ?_
          refine AtL.move (.inr ⟨_, _, _, rfl, rfl, rfl, rfl⟩) rfl rfl ?_
          refine AtL.lenS (l := z) Tryz.underlying9 (.inr ⟨_, _, _, rfl, rfl, rfl, rfl⟩) rfl rfl ?_
          refine AtL.sub (z := (z.length : Int) - 1) (.inr ⟨_, _, _, rfl, rfl, rfl, rfl⟩) rfl rfl rfl (w64 (by omega) (by omega)) ?_
          refine AtL.indexS (l := z) (Int.toNat ((z.length : Int) - 1)) (by omega) (by omega) Tryz.underlying9 (.inr ⟨_, _, _, rfl, rfl, rfl, rfl⟩) rfl rfl rfl ?_
          refine AtL.call tf_body161 (.inr ⟨_, _, _, rfl, rfl, rfl, rfl⟩) rfl rfl (rblank_ok (z.getD (Int.toNat ((z.length : Int) - 1)) 0)) ?_
          rintro _ _ ⟨rfl, hHq⟩
          obtain rfl := hHq.symm
          refine AtL.pickT (.inl rfl) rfl rfl rfl ?_
          exact J _ (by exact ⟨(boolIs (by clear J; first | (simp [hs16]; done) | (simp_all; done) | grind)), rfl, trivial⟩)
        · intro hs16
          have hs16 : ¬ (0 < (z.length : Int)) := of_decide_eq_false hs16
          refine AtL.skipped rfl rfl rfl rfl rfl rfl ?_
          refine AtL.skipped rfl rfl rfl rfl rfl rfl ?_
          refine AtL.skipped rfl rfl rfl rfl rfl rfl ?_
          refine AtL.skipped rfl rfl rfl rfl rfl rfl ?_
          refine AtL.skipped rfl rfl rfl rfl rfl rfl ?_
          refine AtL.skipped rfl rfl rfl rfl rfl rfl ?_
          refine AtL.pickF (.inl rfl) rfl rfl rfl ?_
          exact J _ (by exact ⟨(boolIs (by clear J; first | (simp [hs16]; done) | (simp_all; done) | grind)), rfl, trivial⟩)
      · skip
        refine AtL.done ?_
        refine At.cond rfl ?_ ?_
        · intro hc2
          have hc2 : (0 < (z.length : Int)) ∧ ((blankF (z.getD (Int.toNat ((z.length : Int) - 1)) 0)) = true) := of_decide_eq_true hc2
          rw [hzt] at hc2
          refine At.skip ?_
          refine At.block ?_
          refine At.region ?_
          refine AtL.move (.inl rfl) rfl rfl ?_
          refine AtL.move (.inl rfl) rfl rfl ?_
          refine AtL.lenS (l := z) Tryz.underlying9 (.inl rfl) rfl rfl ?_
          refine AtL.sub (z := (z.length : Int) - 1) (.inl rfl) rfl rfl rfl (w64 (by omega) (by omega)) ?_
          refine AtL.sliceS (l := z) 0 (Int.toNat ((z.length : Int) - 1)) rfl (evBound_some rfl (by omega)) (by omega) (by omega) Tryz.underlying9 (.inl rfl) rfl rfl ?_
          refine AtL.assign (.inl rfl) rfl rfl ?_
          refine AtL.done ?_
          refine At.inBlock ?_
          refine ihL2 (subl z 0 (Int.toNat ((z.length : Int) - 1))) (⟨by rw [hzt, subl_len (by omega)]; omega, by rw [hr, hzt, tr_step (List.length_pos_iff.1 (by omega)) hc2.2]⟩) (by rw [hzt, subl_len (by omega)]; omega) _ ?_
          exact ⟨(by first | rfl | exact slLen (by simp []) | exact intEq (by omega) | exact intEq (by simp []) | exact slLen (by simp []; omega)), trivial⟩
        · intro hc2
          have hc2 : ¬ ((0 < (z.length : Int)) ∧ ((blankF (z.getD (Int.toNat ((z.length : Int) - 1)) 0)) = true)) := of_decide_eq_false hc2
          rw [hzt] at hc2
          refine At.exit rfl ?_
          refine At.seq ?_
          refine At.region ?_
          refine AtL.move (.inl rfl) rfl rfl ?_
          refine AtL.assign (.inl rfl) rfl rfl ?_
          refine AtL.done ?_
          exact At.ret Tryz.func124 rfl rfl (⟨congrArg str (by rw [hr, tr_end (fun h => hc2 ⟨by have := List.length_pos_iff.2 h.1; omega, h.2⟩)]), rfl⟩)
set_option maxHeartbeats 400000 in
theorem rvalue_ok {w0 : World} {base : Nat} {H : List Seg} {l : List UInt8} (hl : l.length ≤ 140737488355000) :
    SCalls Tryz.prog 110 [str l] w0 base (H) (fun v H' => v = .bool (valueF l) ∧ H' = H) := by
  refine SCalls.of_walk (n := 30) Tryz.func110 rfl rfl rfl fun cs => ?_
  refine At.seq ?_
  refine At.region ?_
  refine AtL.assign (.inl rfl) rfl rfl ?_
  refine AtL.done ?_
  refine At.seq ?_
  refine At.seq ?_
  refine At.region ?_
  refine AtL.assign (.inl rfl) rfl rfl ?_
  refine AtL.done ?_
  refine At.block ?_
  refine At.loop (fun (k : Nat) => [(0, str l), (3, .int .i64 (k : Int))]) (fun (k : Nat) => H) (fun (k : Nat) => k ≤ l.length ∧ (l.take k).all valCh = true) (fun (k : Nat) => l.length - k) 0 (⟨Nat.zero_le _, rfl⟩) ⟨rfl, rfl, trivial⟩ rfl ?_
  rintro k ⟨hk, ha⟩ ihL1
  refine At.seq ?_
  refine At.seq ?_
  refine At.region ?_
  refine AtL.move (.inl rfl) rfl rfl ?_
  refine AtL.move (.inl rfl) rfl rfl ?_
  refine AtL.lenS (l := l) Tryz.underlying9 (.inl rfl) rfl rfl ?_
  refine AtL.lss (.inl rfl) rfl rfl rfl ?_
  refine AtL.done ?_
  refine At.cond rfl ?_ ?_
  · intro hc1
    have hc1 : (k : Int) < (l.length : Int) := of_decide_eq_true hc1
    refine At.skip ?_
    refine At.seq ?_
    refine At.block ?_
    refine At.seq ?_
    refine At.region ?_
    refine AtL.move (.inl rfl) rfl rfl ?_
    refine AtL.move (.inl rfl) rfl rfl ?_
    refine AtL.indexS (l := l) k rfl (by omega) Tryz.underlying9 (.inl rfl) rfl rfl rfl ?_
    refine AtL.nei (.inl rfl) rfl rfl rfl ?_
    refine AtL.move (.inl rfl) rfl rfl ?_
    refine AtL.join 5 (E' := [(19, .bool (decide ((¬ (((l.getD k 0).toNat : Int) = 9)) ∧ (((l.getD k 0).toNat : Int) < 32)))), (0, str l), (3, .int .i64 (k : Int))]) (H' := H) (fun J => ?_) ?_
    · refine AtL.split (t := 14) rfl ?_ ?_
      · intro hs14
        have hs14 : ¬ (((l.getD k 0).toNat : Int) = 9) := of_decide_eq_false (bnot_true hs14)
        refine AtL.move (.inr ⟨_, _, _, rfl, rfl, rfl, rfl⟩) rfl rfl ?_
        refine AtL.move (.inr ⟨_, _, _, rfl, rfl, rfl, rfl⟩) rfl rfl ?_
        refine AtL.indexS (l := l) k rfl (by omega) Tryz.underlying9 (.inr ⟨_, _, _, rfl, rfl, rfl, rfl⟩) rfl rfl rfl ?_
        refine AtL.lss (.inr ⟨_, _, _, rfl, rfl, rfl, rfl⟩) rfl rfl rfl ?_
        refine AtL.pickT (.inl rfl) rfl rfl rfl ?_
        exact J _ (by exact ⟨(boolIs (by clear J; first | (simp [hs14]; done) | (simp_all; done) | grind)), rfl, rfl, trivial⟩)
      · intro hs14
        have hs14 : ((l.getD k 0).toNat : Int) = 9 := of_decide_eq_true (bnot_false hs14)
        refine AtL.skipped rfl rfl rfl rfl rfl rfl ?_
        refine AtL.skipped rfl rfl rfl rfl rfl rfl ?_
        refine AtL.skipped rfl rfl rfl rfl rfl rfl ?_
        refine AtL.skipped rfl rfl rfl rfl rfl rfl ?_
        refine AtL.pickF (.inl rfl) rfl rfl rfl ?_
        exact J _ (by exact ⟨(boolIs (by clear J; first | (simp [hs14]; done) | (simp_all; done) | grind)), rfl, rfl, trivial⟩)
    · skip
      refine AtL.move (.inl rfl) rfl rfl ?_
      refine AtL.join 5 (E' := [(25, .bool (decide (((¬ (((l.getD k 0).toNat : Int) = 9)) ∧ (((l.getD k 0).toNat : Int) < 32)) ∨ (((l.getD k 0).toNat : Int) = 127)))), (0, str l), (3, .int .i64 (k : Int))]) (H' := H) (fun J => ?_) ?_
      · refine AtL.split (t := 20) rfl ?_ ?_
        · intro hs20
          have hs20 : (¬ (((l.getD k 0).toNat : Int) = 9)) ∧ (((l.getD k 0).toNat : Int) < 32) := of_decide_eq_true hs20
          refine AtL.skipped rfl rfl rfl rfl rfl rfl ?_
          refine AtL.skipped rfl rfl rfl rfl rfl rfl ?_
          refine AtL.skipped rfl rfl rfl rfl rfl rfl ?_
          refine AtL.skipped rfl rfl rfl rfl rfl rfl ?_
          refine AtL.pickT (.inl rfl) rfl rfl rfl ?_
          exact J _ (by exact ⟨(boolIs (by clear J; first | (simp [hs20]; done) | (simp_all; done) | grind)), rfl, rfl, trivial⟩)
        · intro hs20
          have hs20 : ¬ ((¬ (((l.getD k 0).toNat : Int) = 9)) ∧ (((l.getD k 0).toNat : Int) < 32)) := of_decide_eq_false hs20
          refine AtL.move (.inr ⟨_, _, _, rfl, rfl, rfl, rfl⟩) rfl rfl ?_
          refine AtL.move (.inr ⟨_, _, _, rfl, rfl, rfl, rfl⟩) rfl rfl ?_
          refine AtL.indexS (l := l) k rfl (by omega) Tryz.underlying9 (.inr ⟨_, _, _, rfl, rfl, rfl, rfl⟩) rfl rfl rfl ?_
          refine AtL.eqi (.inr ⟨_, _, _, rfl, rfl, rfl, rfl⟩) rfl rfl rfl ?_
          refine AtL.pickF (.inl rfl) rfl rfl rfl ?_
          exact J _ (by exact ⟨(boolIs (by clear J; first | (simp [hs20]; done) | (simp_all; done) | grind)), rfl, rfl, trivial⟩)
      · skip
        refine AtL.done ?_
        refine At.cond rfl ?_ ?_
        · intro hc2
          have hc2 : ((¬ (((l.getD k 0).toNat : Int) = 9)) ∧ (((l.getD k 0).toNat : Int) < 32)) ∨ (((l.getD k 0).toNat : Int) = 127) := of_decide_eq_true hc2
          refine At.seq ?_
          refine At.region ?_
          refine AtL.assign (.inl rfl) rfl rfl ?_
          refine AtL.done ?_
          exact At.ret Tryz.func110 rfl rfl (⟨congrArg Value.bool (by rw [valueF, all_bad (k := k) (by omega) (valCh_no (by omega)), Bool.false_and]), rfl⟩)
        · intro hc2
          have hc2 : ¬ (((¬ (((l.getD k 0).toNat : Int) = 9)) ∧ (((l.getD k 0).toNat : Int) < 32)) ∨ (((l.getD k 0).toNat : Int) = 127)) := of_decide_eq_false hc2
          refine At.skip ?_
          refine At.inBlock ?_
          refine At.region ?_
          refine AtL.move (.inl rfl) rfl rfl ?_
          refine AtL.add (z := (k : Int) + 1) (.inl rfl) rfl rfl rfl (w64 (by omega) (by omega)) ?_
          refine AtL.assign (.inl rfl) rfl rfl ?_
          refine AtL.done ?_
          refine ihL1 (k + 1) (⟨by omega, all_step (by omega) ha (valCh_yes (by omega))⟩) (by omega) _ ?_
          exact ⟨rfl, (by first | rfl | exact slLen (by simp []) | exact intEq (by omega) | exact intEq (by simp []) | exact slLen (by simp []; omega)), trivial⟩
  · intro hc1
    have hc1 : ¬ ((k : Int) < (l.length : Int)) := of_decide_eq_false hc1
    refine At.exit rfl ?_
    refine At.seq ?_
    refine At.region ?_
    refine AtL.move (.inl rfl) rfl rfl ?_
    refine AtL.call tf_body124 (.inl rfl) rfl rfl (rtrim_ok (l := l) (by first | omega | (simp only [List.length_append, List.length_cons, List.length_nil]; omega) | (simp; done) | (simp; omega))) ?_
    rintro _ _ ⟨rfl, hHq⟩
    obtain rfl := hHq.symm
    refine AtL.move (.inl rfl) rfl rfl ?_
    refine AtL.eqs (a := trimF l) (b := l) (.inl rfl) rfl rfl rfl ?_
    refine AtL.assign (.inl rfl) rfl rfl ?_
    refine AtL.done ?_
    exact At.ret Tryz.func110 rfl rfl (⟨congrArg Value.bool (by rw [valueF, all_end (by omega) ha, Bool.true_and]), rfl⟩)
set_option maxHeartbeats 400000 in
theorem rtarget_ok {w0 : World} {base : Nat} {H : List Seg} {l : List UInt8} (hl : l.length ≤ 140737488355000) :
    SCalls Tryz.prog 123 [str l] w0 base (H) (fun v H' => v = .bool (targetF l) ∧ H' = H) := by
  refine SCalls.of_walk (n := 28) Tryz.func123 rfl rfl rfl fun cs => ?_
  refine At.seq ?_
  refine At.region ?_
  refine AtL.assign (.inl rfl) rfl rfl ?_
  refine AtL.done ?_
  refine At.seq ?_
  refine At.seq ?_
  refine At.region ?_
  refine AtL.move (.inl rfl) rfl rfl ?_
  refine AtL.lenS (l := l) Tryz.underlying9 (.inl rfl) rfl rfl ?_
  refine AtL.lss (.inl rfl) rfl rfl rfl ?_
  refine AtL.move (.inl rfl) rfl rfl ?_
  refine AtL.join 4 (E' := [(11, .bool (decide (((l.length : Int) < 1) ∨ (¬ (((l.getD 0 0).toNat : Int) = 47))))), (0, str l)]) (H' := H) (fun J => ?_) ?_
  · refine AtL.split (t := 7) rfl ?_ ?_
    · intro hs7
      have hs7 : (l.length : Int) < 1 := of_decide_eq_true hs7
      refine AtL.skipped rfl rfl rfl rfl rfl rfl ?_
      refine AtL.skipped rfl rfl rfl rfl rfl rfl ?_
      refine AtL.skipped rfl rfl rfl rfl rfl rfl ?_
      refine AtL.pickT (.inl rfl) rfl rfl rfl ?_
      exact J _ (by exact ⟨(boolIs (by clear J; first | (simp [hs7]; done) | (simp_all; done) | grind)), rfl, trivial⟩)
    · intro hs7
      have hs7 : ¬ ((l.length : Int) < 1) := of_decide_eq_false hs7
      refine AtL.move (.inr ⟨_, _, _, rfl, rfl, rfl, rfl⟩) rfl rfl ?_
      refine AtL.indexS (l := l) 0 rfl (by omega) Tryz.underlying9 (.inr ⟨_, _, _, rfl, rfl, rfl, rfl⟩) rfl rfl rfl ?_
      refine AtL.nei (.inr ⟨_, _, _, rfl, rfl, rfl, rfl⟩) rfl rfl rfl ?_
      refine AtL.pickF (.inl rfl) rfl rfl rfl ?_
      exact J _ (by exact ⟨(boolIs (by clear J; first | (simp [hs7]; done) | (simp_all; done) | grind)), rfl, trivial⟩)
  · skip
    refine AtL.done ?_
    refine At.cond rfl ?_ ?_
    · intro hc1
      have hc1 : ((l.length : Int) < 1) ∨ (¬ (((l.getD 0 0).toNat : Int) = 47)) := of_decide_eq_true hc1
      refine At.seq ?_
      refine At.region ?_
      refine AtL.assign (.inl rfl) rfl rfl ?_
      refine AtL.done ?_
      exact At.ret Tryz.func123 rfl rfl (⟨congrArg Value.bool (by rw [targetF_all, decide_eq_false (fun h => by have := (head_47 l).1 h; have := List.length_pos_iff.2 this.1; omega)]; rfl), rfl⟩)
    · intro hc1
      have hc1 : ¬ (((l.length : Int) < 1) ∨ (¬ (((l.getD 0 0).toNat : Int) = 47))) := of_decide_eq_false hc1
      refine At.skip ?_
      refine At.seq ?_
      refine At.seq ?_
      refine At.region ?_
      refine AtL.assign (.inl rfl) rfl rfl ?_
      refine AtL.done ?_
      refine At.block ?_
      refine At.loop (fun (k : Nat) => [(0, str l), (3, .int .i64 (k : Int))]) (fun (k : Nat) => H) (fun (k : Nat) => k ≤ l.length ∧ (l.take k).all tgtCh = true) (fun (k : Nat) => l.length - k) 0 (⟨Nat.zero_le _, rfl⟩) ⟨rfl, rfl, trivial⟩ rfl ?_
      rintro k ⟨hk, ha⟩ ihL1
      refine At.seq ?_
      refine At.seq ?_
      refine At.region ?_
      refine AtL.move (.inl rfl) rfl rfl ?_
      refine AtL.move (.inl rfl) rfl rfl ?_
      refine AtL.lenS (l := l) Tryz.underlying9 (.inl rfl) rfl rfl ?_
      refine AtL.lss (.inl rfl) rfl rfl rfl ?_
      refine AtL.done ?_
      refine At.cond rfl ?_ ?_
      · intro hc2
        have hc2 : (k : Int) < (l.length : Int) := of_decide_eq_true hc2
        refine At.skip ?_
        refine At.seq ?_
        refine At.block ?_
        refine At.seq ?_
        refine At.region ?_
        refine AtL.move (.inl rfl) rfl rfl ?_
        refine AtL.move (.inl rfl) rfl rfl ?_
        refine AtL.indexS (l := l) k rfl (by omega) Tryz.underlying9 (.inl rfl) rfl rfl rfl ?_
        refine AtL.lss (.inl rfl) rfl rfl rfl ?_
        refine AtL.move (.inl rfl) rfl rfl ?_
        refine AtL.join 5 (E' := [(27, .bool (decide ((((l.getD k 0).toNat : Int) < 33) ∨ (126 < ((l.getD k 0).toNat : Int))))), (0, str l), (3, .int .i64 (k : Int))]) (H' := H) (fun J => ?_) ?_
        · refine AtL.split (t := 22) rfl ?_ ?_
          · intro hs22
            have hs22 : ((l.getD k 0).toNat : Int) < 33 := of_decide_eq_true hs22
            refine AtL.skipped rfl rfl rfl rfl rfl rfl ?_
            refine AtL.skipped rfl rfl rfl rfl rfl rfl ?_
            refine AtL.skipped rfl rfl rfl rfl rfl rfl ?_
            refine AtL.skipped rfl rfl rfl rfl rfl rfl ?_
            refine AtL.pickT (.inl rfl) rfl rfl rfl ?_
            exact J _ (by exact ⟨(boolIs (by clear J; first | (simp [hs22]; done) | (simp_all; done) | grind)), rfl, rfl, trivial⟩)
          · intro hs22
            have hs22 : ¬ (((l.getD k 0).toNat : Int) < 33) := of_decide_eq_false hs22
            refine AtL.move (.inr ⟨_, _, _, rfl, rfl, rfl, rfl⟩) rfl rfl ?_
            refine AtL.move (.inr ⟨_, _, _, rfl, rfl, rfl, rfl⟩) rfl rfl ?_
            refine AtL.indexS (l := l) k rfl (by omega) Tryz.underlying9 (.inr ⟨_, _, _, rfl, rfl, rfl, rfl⟩) rfl rfl rfl ?_
            refine AtL.gtr (.inr ⟨_, _, _, rfl, rfl, rfl, rfl⟩) rfl rfl rfl ?_
            refine AtL.pickF (.inl rfl) rfl rfl rfl ?_
            exact J _ (by exact ⟨(boolIs (by clear J; first | (simp [hs22]; done) | (simp_all; done) | grind)), rfl, rfl, trivial⟩)
        · skip
          refine AtL.done ?_
          refine At.cond rfl ?_ ?_
          · intro hc3
            have hc3 : (((l.getD k 0).toNat : Int) < 33) ∨ (126 < ((l.getD k 0).toNat : Int)) := of_decide_eq_true hc3
            refine At.seq ?_
            refine At.region ?_
            refine AtL.assign (.inl rfl) rfl rfl ?_
            refine AtL.done ?_
            exact At.ret Tryz.func123 rfl rfl (⟨congrArg Value.bool (by rw [targetF_all, all_bad (k := k) (by omega) (tgtCh_no hc3), Bool.and_false]), rfl⟩)
          · intro hc3
            have hc3 : ¬ ((((l.getD k 0).toNat : Int) < 33) ∨ (126 < ((l.getD k 0).toNat : Int))) := of_decide_eq_false hc3
            refine At.skip ?_
            refine At.inBlock ?_
            refine At.region ?_
            refine AtL.move (.inl rfl) rfl rfl ?_
            refine AtL.add (z := (k : Int) + 1) (.inl rfl) rfl rfl rfl (w64 (by omega) (by omega)) ?_
            refine AtL.assign (.inl rfl) rfl rfl ?_
            refine AtL.done ?_
            refine ihL1 (k + 1) (⟨by omega, all_step (by omega) ha (tgtCh_yes hc3)⟩) (by omega) _ ?_
            exact ⟨rfl, (by first | rfl | exact slLen (by simp []) | exact intEq (by omega) | exact intEq (by simp []) | exact slLen (by simp []; omega)), trivial⟩
      · intro hc2
        have hc2 : ¬ ((k : Int) < (l.length : Int)) := of_decide_eq_false hc2
        refine At.exit rfl ?_
        refine At.seq ?_
        refine At.region ?_
        refine AtL.assign (.inl rfl) rfl rfl ?_
        refine AtL.done ?_
        exact At.ret Tryz.func123 rfl rfl (⟨congrArg Value.bool (by rw [targetF_all, all_end (by omega) ha, decide_eq_true ((head_47 l).2 ⟨fun h => by rw [h] at hc1; simp at hc1, by omega⟩)]; rfl), rfl⟩)
set_option maxHeartbeats 400000 in
theorem rdigit_ok {w0 : World} {base : Nat} {H : List Seg} (c : UInt8) :
    SCalls Tryz.prog 122 [.int .u8 (c.toNat : Int)] w0 base (H) (fun v H' => v = .bool (decide (48 ≤ (c.toNat : Int) ∧ (c.toNat : Int) ≤ 57)) ∧ H' = H) := by
  refine SCalls.of_walk (n := 9) Tryz.func122 rfl rfl rfl fun cs => ?_
  refine At.seq ?_
  refine At.region ?_
  refine AtL.assign (.inl rfl) rfl rfl ?_
  refine AtL.done ?_
  refine At.seq ?_
  refine At.region ?_
  refine AtL.move (.inl rfl) rfl rfl ?_
  refine AtL.geq (.inl rfl) rfl rfl rfl ?_
  refine AtL.move (.inl rfl) rfl rfl ?_
  refine AtL.join 3 (E' := [(8, .bool (decide ((48 ≤ (c.toNat : Int)) ∧ ((c.toNat : Int) ≤ 57))))]) (H' := H) (fun J => ?_) ?_
  · refine AtL.split (t := 5) rfl ?_ ?_
    · intro hs5
      have hs5 : 48 ≤ (c.toNat : Int) := of_decide_eq_true hs5
      refine AtL.move (.inr ⟨_, _, _, rfl, rfl, rfl, rfl⟩) rfl rfl ?_
      refine AtL.leq (.inr ⟨_, _, _, rfl, rfl, rfl, rfl⟩) rfl rfl rfl ?_
      refine AtL.pickT (.inl rfl) rfl rfl rfl ?_
      exact J _ (by exact ⟨(boolIs (by clear J; first | (simp [hs5]; done) | (simp_all; done) | grind)), trivial⟩)
    · intro hs5
      have hs5 : ¬ (48 ≤ (c.toNat : Int)) := of_decide_eq_false hs5
      refine AtL.skipped rfl rfl rfl rfl rfl rfl ?_
      refine AtL.skipped rfl rfl rfl rfl rfl rfl ?_
      refine AtL.pickF (.inl rfl) rfl rfl rfl ?_
      exact J _ (by exact ⟨(boolIs (by clear J; first | (simp [hs5]; done) | (simp_all; done) | grind)), trivial⟩)
  · skip
    refine AtL.assign (.inl rfl) rfl rfl ?_
    refine AtL.done ?_
    exact At.ret Tryz.func122 rfl rfl (⟨congrArg Value.bool (decide_eq_decide.2 (by omega)), rfl⟩)
theorem low_take {a b : List UInt8} {k : Nat} (ha : k < a.length) (hb : k < b.length) (h : (a.take k).map lowB = (b.take k).map lowB) (hk : lowB (a.getD k 0) = lowB (b.getD k 0)) : (a.take (k + 1)).map lowB = (b.take (k + 1)).map lowB := by
  rw [take_succ_d a k ha, take_succ_d b k hb, List.map_append, List.map_append, h]
  simp only [List.map_cons, List.map_nil, hk]
theorem low_ne {a b : List UInt8} {k : Nat} (ha : k < a.length) (hb : k < b.length) (h : lowB (a.getD k 0) ≠ lowB (b.getD k 0)) : lowerF a ≠ lowerF b := by
  intro h2
  apply h
  have h3 := congrArg (fun l => l.getD k 0) h2
  simpa [lowerF, List.getD, ha, hb] using h3
theorem u8_ofInt {a b : UInt8} (h : (a.toNat : Int) = (b.toNat : Int)) : a = b := UInt8.toNat_inj.1 (by omega)
set_option maxHeartbeats 400000 in
theorem rsame_ok {w0 : World} {base : Nat} {H : List Seg} {a b : List UInt8} (ha : a.length ≤ 140737488355000) (hb : b.length ≤ 140737488355000) :
    SCalls Tryz.prog 126 [str a, str b] w0 base (H) (fun v H' => v = .bool (decide (lowerF a = lowerF b)) ∧ H' = H) := by
  refine SCalls.of_walk (n := 44) Tryz.func126 rfl rfl rfl fun cs => ?_
  refine At.seq ?_
  refine At.region ?_
  refine AtL.assign (.inl rfl) rfl rfl ?_
  refine AtL.done ?_
  refine At.seq ?_
  refine At.seq ?_
  refine At.region ?_
  refine AtL.move (.inl rfl) rfl rfl ?_
  refine AtL.lenS (l := a) Tryz.underlying9 (.inl rfl) rfl rfl ?_
  refine AtL.move (.inl rfl) rfl rfl ?_
  refine AtL.lenS (l := b) Tryz.underlying9 (.inl rfl) rfl rfl ?_
  refine AtL.nei (.inl rfl) rfl rfl rfl ?_
  refine AtL.done ?_
  refine At.cond rfl ?_ ?_
  · intro hc1
    have hc1 : ¬ ((a.length : Int) = (b.length : Int)) := of_decide_eq_false (bnot_true hc1)
    refine At.seq ?_
    refine At.region ?_
    refine AtL.assign (.inl rfl) rfl rfl ?_
    refine AtL.done ?_
    exact At.ret Tryz.func126 rfl rfl (⟨congrArg Value.bool (decide_eq_false (fun h => by have := congrArg List.length h; simp [lowerF] at this; omega)).symm, rfl⟩)
  · intro hc1
    have hc1 : (a.length : Int) = (b.length : Int) := of_decide_eq_true (bnot_false hc1)
    refine At.skip ?_
    refine At.seq ?_
    refine At.seq ?_
    refine At.region ?_
    refine AtL.assign (.inl rfl) rfl rfl ?_
    refine AtL.done ?_
    refine At.block ?_
    refine At.loop (fun (k : Nat) => [(0, str a), (1, str b), (5, .int .i64 (k : Int))]) (fun (k : Nat) => H) (fun (k : Nat) => k ≤ a.length ∧ (a.take k).map lowB = (b.take k).map lowB) (fun (k : Nat) => a.length - k) 0 (⟨Nat.zero_le _, rfl⟩) ⟨rfl, rfl, rfl, trivial⟩ rfl ?_
    rintro k ⟨hk, ht⟩ ihL1
    refine At.seq ?_
    refine At.seq ?_
    refine At.region ?_
    refine AtL.move (.inl rfl) rfl rfl ?_
    refine AtL.move (.inl rfl) rfl rfl ?_
    refine AtL.lenS (l := a) Tryz.underlying9 (.inl rfl) rfl rfl ?_
    refine AtL.lss (.inl rfl) rfl rfl rfl ?_
    refine AtL.done ?_
    refine At.cond rfl ?_ ?_
    · intro hc2
      have hc2 : (k : Int) < (a.length : Int) := of_decide_eq_true hc2
      have hBa := u8_le (a.getD k 0)
      have hBb := u8_le (b.getD k 0)
      refine At.skip ?_
      refine At.seq ?_
      refine At.block ?_
      refine At.seq ?_
      refine At.draw (es := []) (pv := [(0, str a), (1, .int .i64 (k : Int)), (2, .int .u8 ((a.getD k 0).toNat : Int)), (3, str b), (4, .int .i64 (k : Int)), (5, .int .u8 ((b.getD k 0).toNat : Int)), (6, .int .u8 ((a.getD k 0).toNat : Int)), (7, .int .u8 ((b.getD k 0).toNat : Int))]) tf_mixed (by kernel_rfl) (by kernel_rfl) (by kernel_rfl) ?_
      refine ⟨⟨.inr ⟨_, rfl, rfl, .inl ⟨rfl, Do.move rfl⟩⟩, .inr ⟨_, rfl, rfl, .inl ⟨rfl, Do.move rfl⟩⟩, .inr ⟨_, rfl, rfl, .inl ⟨rfl, Do.indexS (l := a) k rfl (by omega) Tryz.underlying9 rfl rfl⟩⟩, .inr ⟨_, rfl, rfl, .inl ⟨rfl, Do.move rfl⟩⟩, .inr ⟨_, rfl, rfl, .inl ⟨rfl, Do.move rfl⟩⟩, .inr ⟨_, rfl, rfl, .inl ⟨rfl, Do.indexS (l := b) k rfl (by omega) Tryz.underlying9 rfl rfl⟩⟩, .inr ⟨_, rfl, rfl, .inl ⟨rfl, Do.assign rfl⟩⟩, .inr ⟨_, rfl, rfl, .inl ⟨rfl, Do.assign rfl⟩⟩, trivial⟩, by kernel_rfl, ?_⟩
      refine At.mono (E' := [(0, str a), (1, str b), (5, .int .i64 (k : Int)), (6, .int .u8 ((a.getD k 0).toNat : Int)), (7, .int .u8 ((b.getD k 0).toNat : Int))]) ⟨rfl, rfl, rfl, rfl, rfl, trivial⟩ ?_
      refine At.seq ?_
      refine At.seq ?_
      refine At.region ?_
      refine AtL.move (.inl rfl) rfl rfl ?_
      refine AtL.geq (.inl rfl) rfl rfl rfl ?_
      refine AtL.move (.inl rfl) rfl rfl ?_
      refine AtL.join 3 (E' := [(30, .bool (decide ((65 ≤ ((a.getD k 0).toNat : Int)) ∧ (((a.getD k 0).toNat : Int) ≤ 90)))), (0, str a), (1, str b), (5, .int .i64 (k : Int)), (6, .int .u8 ((a.getD k 0).toNat : Int)), (7, .int .u8 ((b.getD k 0).toNat : Int))]) (H' := H) (fun J => ?_) ?_
      · refine AtL.split (t := 27) rfl ?_ ?_
        · intro hs27
          have hs27 : 65 ≤ ((a.getD k 0).toNat : Int) := of_decide_eq_true hs27
          refine AtL.move (.inr ⟨_, _, _, rfl, rfl, rfl, rfl⟩) rfl rfl ?_
          refine AtL.leq (.inr ⟨_, _, _, rfl, rfl, rfl, rfl⟩) rfl rfl rfl ?_
          refine AtL.pickT (.inl rfl) rfl rfl rfl ?_
          exact J _ (by exact ⟨(boolIs (by clear J; first | (simp [hs27]; done) | (simp_all; done) | grind)), rfl, rfl, rfl, rfl, rfl, trivial⟩)
        · intro hs27
          have hs27 : ¬ (65 ≤ ((a.getD k 0).toNat : Int)) := of_decide_eq_false hs27
          refine AtL.skipped rfl rfl rfl rfl rfl rfl ?_
          refine AtL.skipped rfl rfl rfl rfl rfl rfl ?_
          refine AtL.pickF (.inl rfl) rfl rfl rfl ?_
          exact J _ (by exact ⟨(boolIs (by clear J; first | (simp [hs27]; done) | (simp_all; done) | grind)), rfl, rfl, rfl, rfl, rfl, trivial⟩)
      · skip
        refine AtL.done ?_
        refine At.cond rfl ?_ ?_
        · intro hc3
          have hc3 : (65 ≤ ((a.getD k 0).toNat : Int)) ∧ (((a.getD k 0).toNat : Int) ≤ 90) := of_decide_eq_true hc3
          refine At.region ?_
          refine AtL.move (.inl rfl) rfl rfl ?_
          refine AtL.add (z := ((lowB (a.getD k 0)).toNat : Int)) (.inl rfl) rfl rfl rfl (add32 hc3) ?_
          refine AtL.assign (.inl rfl) rfl rfl ?_
          refine AtL.done ?_
          refine At.seq ?_
          refine At.seq ?_
          refine At.region ?_
          refine AtL.move (.inl rfl) rfl rfl ?_
          refine AtL.geq (.inl rfl) rfl rfl rfl ?_
          refine AtL.move (.inl rfl) rfl rfl ?_
          refine AtL.join 3 (E' := [(38, .bool (decide ((65 ≤ ((b.getD k 0).toNat : Int)) ∧ (((b.getD k 0).toNat : Int) ≤ 90)))), (0, str a), (1, str b), (5, .int .i64 (k : Int)), (6, .int .u8 ((lowB (a.getD k 0)).toNat : Int)), (7, .int .u8 ((b.getD k 0).toNat : Int))]) (H' := H) (fun J => ?_) ?_
          · refine AtL.split (t := 35) rfl ?_ ?_
            · intro hs35
              have hs35 : 65 ≤ ((b.getD k 0).toNat : Int) := of_decide_eq_true hs35
              refine AtL.move (.inr ⟨_, _, _, rfl, rfl, rfl, rfl⟩) rfl rfl ?_
              refine AtL.leq (.inr ⟨_, _, _, rfl, rfl, rfl, rfl⟩) rfl rfl rfl ?_
              refine AtL.pickT (.inl rfl) rfl rfl rfl ?_
              exact J _ (by exact ⟨(boolIs (by clear J; first | (simp [hs35]; done) | (simp_all; done) | grind)), rfl, rfl, rfl, rfl, rfl, trivial⟩)
            · intro hs35
              have hs35 : ¬ (65 ≤ ((b.getD k 0).toNat : Int)) := of_decide_eq_false hs35
              refine AtL.skipped rfl rfl rfl rfl rfl rfl ?_
              refine AtL.skipped rfl rfl rfl rfl rfl rfl ?_
              refine AtL.pickF (.inl rfl) rfl rfl rfl ?_
              exact J _ (by exact ⟨(boolIs (by clear J; first | (simp [hs35]; done) | (simp_all; done) | grind)), rfl, rfl, rfl, rfl, rfl, trivial⟩)
          · skip
            refine AtL.done ?_
            refine At.cond rfl ?_ ?_
            · intro hc4
              have hc4 : (65 ≤ ((b.getD k 0).toNat : Int)) ∧ (((b.getD k 0).toNat : Int) ≤ 90) := of_decide_eq_true hc4
              refine At.region ?_
              refine AtL.move (.inl rfl) rfl rfl ?_
              refine AtL.add (z := ((lowB (b.getD k 0)).toNat : Int)) (.inl rfl) rfl rfl rfl (add32 hc4) ?_
              refine AtL.assign (.inl rfl) rfl rfl ?_
              refine AtL.done ?_
              refine At.seq ?_
              refine At.region ?_
              refine AtL.move (.inl rfl) rfl rfl ?_
              refine AtL.move (.inl rfl) rfl rfl ?_
              refine AtL.nei (.inl rfl) rfl rfl rfl ?_
              refine AtL.done ?_
              refine At.cond rfl ?_ ?_
              · intro hc5
                have hc5 : ¬ (((lowB (a.getD k 0)).toNat : Int) = ((lowB (b.getD k 0)).toNat : Int)) := of_decide_eq_false (bnot_true hc5)
                refine At.seq ?_
                refine At.region ?_
                refine AtL.assign (.inl rfl) rfl rfl ?_
                refine AtL.done ?_
                exact At.ret Tryz.func126 rfl rfl (⟨congrArg Value.bool (decide_eq_false (low_ne (k := k) (by omega) (by omega) (fun h => by exact hc5 (by rw [h])))).symm, rfl⟩)
              · intro hc5
                have hc5 : ((lowB (a.getD k 0)).toNat : Int) = ((lowB (b.getD k 0)).toNat : Int) := of_decide_eq_true (bnot_false hc5)
                refine At.skip ?_
                refine At.inBlock ?_
                refine At.region ?_
                refine AtL.move (.inl rfl) rfl rfl ?_
                refine AtL.add (z := (k : Int) + 1) (.inl rfl) rfl rfl rfl (w64 (by omega) (by omega)) ?_
                refine AtL.assign (.inl rfl) rfl rfl ?_
                refine AtL.done ?_
                refine ihL1 (k + 1) (⟨by omega, low_take (by omega) (by omega) ht (by exact u8_ofInt hc5)⟩) (by omega) _ ?_
                exact ⟨rfl, rfl, (by first | rfl | exact slLen (by simp []) | exact intEq (by omega) | exact intEq (by simp []) | exact slLen (by simp []; omega)), trivial⟩
            · intro hc4
              have hc4 : ¬ ((65 ≤ ((b.getD k 0).toNat : Int)) ∧ (((b.getD k 0).toNat : Int) ≤ 90)) := of_decide_eq_false hc4
              refine At.skip ?_
              refine At.seq ?_
              refine At.region ?_
              refine AtL.move (.inl rfl) rfl rfl ?_
              refine AtL.move (.inl rfl) rfl rfl ?_
              refine AtL.nei (.inl rfl) rfl rfl rfl ?_
              refine AtL.done ?_
              refine At.cond rfl ?_ ?_
              · intro hc5
                have hc5 : ¬ (((lowB (a.getD k 0)).toNat : Int) = ((b.getD k 0).toNat : Int)) := of_decide_eq_false (bnot_true hc5)
                refine At.seq ?_
                refine At.region ?_
                refine AtL.assign (.inl rfl) rfl rfl ?_
                refine AtL.done ?_
                exact At.ret Tryz.func126 rfl rfl (⟨congrArg Value.bool (decide_eq_false (low_ne (k := k) (by omega) (by omega) (fun h => by rw [lowB_no (c := b.getD k 0) (by omega)] at h; exact hc5 (by rw [h])))).symm, rfl⟩)
              · intro hc5
                have hc5 : ((lowB (a.getD k 0)).toNat : Int) = ((b.getD k 0).toNat : Int) := of_decide_eq_true (bnot_false hc5)
                refine At.skip ?_
                refine At.inBlock ?_
                refine At.region ?_
                refine AtL.move (.inl rfl) rfl rfl ?_
                refine AtL.add (z := (k : Int) + 1) (.inl rfl) rfl rfl rfl (w64 (by omega) (by omega)) ?_
                refine AtL.assign (.inl rfl) rfl rfl ?_
                refine AtL.done ?_
                refine ihL1 (k + 1) (⟨by omega, low_take (by omega) (by omega) ht (by rw [lowB_no (c := b.getD k 0) (by omega)]; exact u8_ofInt hc5)⟩) (by omega) _ ?_
                exact ⟨rfl, rfl, (by first | rfl | exact slLen (by simp []) | exact intEq (by omega) | exact intEq (by simp []) | exact slLen (by simp []; omega)), trivial⟩
        · intro hc3
          have hc3 : ¬ ((65 ≤ ((a.getD k 0).toNat : Int)) ∧ (((a.getD k 0).toNat : Int) ≤ 90)) := of_decide_eq_false hc3
          refine At.skip ?_
          refine At.seq ?_
          refine At.seq ?_
          refine At.region ?_
          refine AtL.move (.inl rfl) rfl rfl ?_
          refine AtL.geq (.inl rfl) rfl rfl rfl ?_
          refine AtL.move (.inl rfl) rfl rfl ?_
          refine AtL.join 3 (E' := [(38, .bool (decide ((65 ≤ ((b.getD k 0).toNat : Int)) ∧ (((b.getD k 0).toNat : Int) ≤ 90)))), (0, str a), (1, str b), (5, .int .i64 (k : Int)), (6, .int .u8 ((a.getD k 0).toNat : Int)), (7, .int .u8 ((b.getD k 0).toNat : Int))]) (H' := H) (fun J => ?_) ?_
          · refine AtL.split (t := 35) rfl ?_ ?_
            · intro hs35
              have hs35 : 65 ≤ ((b.getD k 0).toNat : Int) := of_decide_eq_true hs35
              refine AtL.move (.inr ⟨_, _, _, rfl, rfl, rfl, rfl⟩) rfl rfl ?_
              refine AtL.leq (.inr ⟨_, _, _, rfl, rfl, rfl, rfl⟩) rfl rfl rfl ?_
              refine AtL.pickT (.inl rfl) rfl rfl rfl ?_
              exact J _ (by exact ⟨(boolIs (by clear J; first | (simp [hs35]; done) | (simp_all; done) | grind)), rfl, rfl, rfl, rfl, rfl, trivial⟩)
            · intro hs35
              have hs35 : ¬ (65 ≤ ((b.getD k 0).toNat : Int)) := of_decide_eq_false hs35
              refine AtL.skipped rfl rfl rfl rfl rfl rfl ?_
              refine AtL.skipped rfl rfl rfl rfl rfl rfl ?_
              refine AtL.pickF (.inl rfl) rfl rfl rfl ?_
              exact J _ (by exact ⟨(boolIs (by clear J; first | (simp [hs35]; done) | (simp_all; done) | grind)), rfl, rfl, rfl, rfl, rfl, trivial⟩)
          · skip
            refine AtL.done ?_
            refine At.cond rfl ?_ ?_
            · intro hc4
              have hc4 : (65 ≤ ((b.getD k 0).toNat : Int)) ∧ (((b.getD k 0).toNat : Int) ≤ 90) := of_decide_eq_true hc4
              refine At.region ?_
              refine AtL.move (.inl rfl) rfl rfl ?_
              refine AtL.add (z := ((lowB (b.getD k 0)).toNat : Int)) (.inl rfl) rfl rfl rfl (add32 hc4) ?_
              refine AtL.assign (.inl rfl) rfl rfl ?_
              refine AtL.done ?_
              refine At.seq ?_
              refine At.region ?_
              refine AtL.move (.inl rfl) rfl rfl ?_
              refine AtL.move (.inl rfl) rfl rfl ?_
              refine AtL.nei (.inl rfl) rfl rfl rfl ?_
              refine AtL.done ?_
              refine At.cond rfl ?_ ?_
              · intro hc5
                have hc5 : ¬ (((a.getD k 0).toNat : Int) = ((lowB (b.getD k 0)).toNat : Int)) := of_decide_eq_false (bnot_true hc5)
                refine At.seq ?_
                refine At.region ?_
                refine AtL.assign (.inl rfl) rfl rfl ?_
                refine AtL.done ?_
                exact At.ret Tryz.func126 rfl rfl (⟨congrArg Value.bool (decide_eq_false (low_ne (k := k) (by omega) (by omega) (fun h => by rw [lowB_no (c := a.getD k 0) (by omega)] at h; exact hc5 (by rw [h])))).symm, rfl⟩)
              · intro hc5
                have hc5 : ((a.getD k 0).toNat : Int) = ((lowB (b.getD k 0)).toNat : Int) := of_decide_eq_true (bnot_false hc5)
                refine At.skip ?_
                refine At.inBlock ?_
                refine At.region ?_
                refine AtL.move (.inl rfl) rfl rfl ?_
                refine AtL.add (z := (k : Int) + 1) (.inl rfl) rfl rfl rfl (w64 (by omega) (by omega)) ?_
                refine AtL.assign (.inl rfl) rfl rfl ?_
                refine AtL.done ?_
                refine ihL1 (k + 1) (⟨by omega, low_take (by omega) (by omega) ht (by rw [lowB_no (c := a.getD k 0) (by omega)]; exact u8_ofInt hc5)⟩) (by omega) _ ?_
                exact ⟨rfl, rfl, (by first | rfl | exact slLen (by simp []) | exact intEq (by omega) | exact intEq (by simp []) | exact slLen (by simp []; omega)), trivial⟩
            · intro hc4
              have hc4 : ¬ ((65 ≤ ((b.getD k 0).toNat : Int)) ∧ (((b.getD k 0).toNat : Int) ≤ 90)) := of_decide_eq_false hc4
              refine At.skip ?_
              refine At.seq ?_
              refine At.region ?_
              refine AtL.move (.inl rfl) rfl rfl ?_
              refine AtL.move (.inl rfl) rfl rfl ?_
              refine AtL.nei (.inl rfl) rfl rfl rfl ?_
              refine AtL.done ?_
              refine At.cond rfl ?_ ?_
              · intro hc5
                have hc5 : ¬ (((a.getD k 0).toNat : Int) = ((b.getD k 0).toNat : Int)) := of_decide_eq_false (bnot_true hc5)
                refine At.seq ?_
                refine At.region ?_
                refine AtL.assign (.inl rfl) rfl rfl ?_
                refine AtL.done ?_
                exact At.ret Tryz.func126 rfl rfl (⟨congrArg Value.bool (decide_eq_false (low_ne (k := k) (by omega) (by omega) (fun h => by rw [lowB_no (c := a.getD k 0) (by omega)] at h; rw [lowB_no (c := b.getD k 0) (by omega)] at h; exact hc5 (by rw [h])))).symm, rfl⟩)
              · intro hc5
                have hc5 : ((a.getD k 0).toNat : Int) = ((b.getD k 0).toNat : Int) := of_decide_eq_true (bnot_false hc5)
                refine At.skip ?_
                refine At.inBlock ?_
                refine At.region ?_
                refine AtL.move (.inl rfl) rfl rfl ?_
                refine AtL.add (z := (k : Int) + 1) (.inl rfl) rfl rfl rfl (w64 (by omega) (by omega)) ?_
                refine AtL.assign (.inl rfl) rfl rfl ?_
                refine AtL.done ?_
                refine ihL1 (k + 1) (⟨by omega, low_take (by omega) (by omega) ht (by rw [lowB_no (c := a.getD k 0) (by omega)]; rw [lowB_no (c := b.getD k 0) (by omega)]; exact u8_ofInt hc5)⟩) (by omega) _ ?_
                exact ⟨rfl, rfl, (by first | rfl | exact slLen (by simp []) | exact intEq (by omega) | exact intEq (by simp []) | exact slLen (by simp []; omega)), trivial⟩
    · intro hc2
      have hc2 : ¬ ((k : Int) < (a.length : Int)) := of_decide_eq_false hc2
      refine At.exit rfl ?_
      refine At.seq ?_
      refine At.region ?_
      refine AtL.assign (.inl rfl) rfl rfl ?_
      refine AtL.done ?_
      exact At.ret Tryz.func126 rfl rfl (⟨congrArg Value.bool (decide_eq_true (by rw [List.take_of_length_le (by omega), List.take_of_length_le (by omega)] at ht; exact ht)).symm, rfl⟩)
end Go.Proofs.YtlkdmbpbjhjkfaaGreatDoor
namespace Go.Proofs.YtlkdmbpbjhjkfaaGreatDoor
set_option linter.unusedVariables false
set_option linter.unusedSimpArgs false
set_option maxRecDepth 100000
set_option maxHeartbeats 400000 in
theorem rfield_ok {w0 : World} {base : Nat} {H : List Seg} {m t : List UInt8} {minor : Int} {A : Option Addr} {C : Nat} {fs : List (List UInt8 × List UInt8)} (h : Rd tyField w0 base H A C fs) {nm : List UInt8} (hnm : nm.length ≤ 140737488355000) (hfl : fs.length ≤ 1000) (hb : ∀ f ∈ fs, f.1.length ≤ 140737488355000 ∧ f.2.length ≤ 140737488355000) :
    SCalls Tryz.prog 82 [.agg #[str m, str t, .int .i64 minor, .slice A fs.length C], str nm] w0 base (H) (fun v H' => v = .tuple #[str (fieldF fs nm).1, int ((fieldF fs nm).2 : Int)] ∧ H' = H) := by
  have hle0 := h.le
  have hcap0 := h.cap
  refine SCalls.of_walk (n := 36) Tryz.func82 rfl rfl rfl fun cs => ?_
  refine At.seq ?_
  refine At.region ?_
  refine AtL.box (cs := #[str m, str t, .int .i64 minor, .slice A fs.length C]) rfl (.inl rfl) rfl rfl ?_
  intro b1
  refine AtL.assign (.inl rfl) rfl rfl ?_
  refine AtL.assign (.inl rfl) rfl rfl ?_
  refine AtL.done ?_
  refine At.seq ?_
  refine At.region ?_
  refine AtL.assign (.inl rfl) rfl rfl ?_
  refine AtL.assign (.inl rfl) rfl rfl ?_
  refine AtL.done ?_
  refine At.seq ?_
  refine At.seq ?_
  refine At.region ?_
  refine AtL.assign (.inl rfl) rfl rfl ?_
  refine AtL.done ?_
  refine At.block ?_
  refine At.loop3 (fun (k : Nat) (val : List UInt8) (n : Nat) => [(1, str nm), (2, .pointer (some ⟨b1, 0, none⟩)), (6, str val), (7, .int .i64 (n : Int)), (8, .int .i64 (k : Int))]) (fun (k : Nat) (val : List UInt8) (n : Nat) => [(b1, .cells #[str m, str t, .int .i64 minor, .slice A fs.length C] 47 (0, 0))] :: H) (fun (k : Nat) (val : List UInt8) (n : Nat) => k ≤ fs.length ∧ val = (allF (fs.take k) nm).headD [] ∧ n = (allF (fs.take k) nm).length) (fun (k : Nat) (val : List UInt8) (n : Nat) => fs.length - k) 0 [] 0 (⟨Nat.zero_le _, rfl, rfl⟩) ⟨rfl, rfl, rfl, rfl, rfl, trivial⟩ rfl ?_
  rintro k val n ⟨hk, hv, hn⟩ ihL1
  have hnl := allF_len (fs.take k) nm
  rw [← hn, List.length_take] at hnl
  refine At.seq ?_
  refine At.seq ?_
  refine At.region ?_
  refine AtL.move (.inl rfl) rfl rfl ?_
  refine AtL.fieldAddrB tf_fo47_3 (.inl rfl) rfl rfl rfl ?_
  refine AtL.load tf_flat45 (.inl rfl) rfl rfl (Cell.own 0 0 rfl rfl rfl) ?_
  refine AtL.lenL Tryz.underlying45 (.inl rfl) rfl rfl ?_
  refine AtL.lss (.inl rfl) rfl rfl rfl ?_
  refine AtL.done ?_
  refine At.cond rfl ?_ ?_
  · intro hc1
    have hc1 : (k : Int) < (fs.length : Int) := of_decide_eq_true hc1
    have hbk := hb _ (getD_mem (l := fs) (i := k) (d := (([], []) : List UInt8 × List UInt8)) (by omega))
    refine At.skip ?_
    refine At.seq ?_
    refine At.block ?_
    refine At.seq ?_
    refine At.region ?_
    refine AtL.fieldAddrB tf_fo47_3 (.inl rfl) rfl rfl rfl ?_
    refine AtL.load tf_flat45 (.inl rfl) rfl rfl (Cell.own 0 0 rfl rfl rfl) ?_
    refine AtL.move (.inl rfl) rfl rfl ?_
    refine AtL.indexL k (Rd.skip 1 h) Tryz.underlying45 tf_sz78 (.inl rfl) rfl rfl rfl rfl (by omega) ?_
    refine AtL.fieldAddr tf_fo78_0 (.inl rfl) rfl rfl ?_
    refine AtL.load (v := str ((fs.getD k (([], []) : List UInt8 × List UInt8)).1)) tf_flat9 (.inl rfl) rfl rfl (Rd.cell_at (Rd.skip 1 h) (j := 0) (getD_some (([], []) : List UInt8 × List UInt8) (by omega)) rfl) ?_
    refine AtL.move (.inl rfl) rfl rfl ?_
    refine AtL.call tf_body126 (.inl rfl) rfl rfl (rsame_ok (a := (fs.getD k (([], []) : List UInt8 × List UInt8)).1) (b := nm) (by omega) hnm) ?_
    rintro _ _ ⟨rfl, rfl⟩
    refine AtL.done ?_
    refine At.cond rfl ?_ ?_
    · intro hc2
      have hc2 : lowerF ((fs.getD k (([], []) : List UInt8 × List UInt8)).1) = lowerF nm := of_decide_eq_true hc2
      refine At.seq ?_
      refine At.seq ?_
      refine At.region ?_
      refine AtL.move (.inl rfl) rfl rfl ?_
      refine AtL.eqi (.inl rfl) rfl rfl rfl ?_
      refine AtL.done ?_
      refine At.cond rfl ?_ ?_
      · intro hc3
        have hc3 : (n : Int) = 0 := of_decide_eq_true hc3
        refine At.region ?_
        refine AtL.fieldAddrB tf_fo47_3 (.inl rfl) rfl rfl rfl ?_
        refine AtL.load tf_flat45 (.inl rfl) rfl rfl (Cell.own 0 0 rfl rfl rfl) ?_
        refine AtL.move (.inl rfl) rfl rfl ?_
        refine AtL.indexL k (Rd.skip 1 h) Tryz.underlying45 tf_sz78 (.inl rfl) rfl rfl rfl rfl (by omega) ?_
        refine AtL.fieldAddr tf_fo78_1 (.inl rfl) rfl rfl ?_
        refine AtL.load (v := str ((fs.getD k (([], []) : List UInt8 × List UInt8)).2)) tf_flat9 (.inl rfl) rfl rfl (Rd.cell_at (Rd.skip 1 h) (j := 1) (getD_some (([], []) : List UInt8 × List UInt8) (by omega)) rfl) ?_
        refine AtL.assign (.inl rfl) rfl rfl ?_
        refine AtL.done ?_
        refine At.region ?_
        refine AtL.move (.inl rfl) rfl rfl ?_
        refine AtL.add (z := (n : Int) + 1) (.inl rfl) rfl rfl rfl (w64 (by omega) (by omega)) ?_
        refine AtL.assign (.inl rfl) rfl rfl ?_
        refine AtL.done ?_
        refine At.inBlock ?_
        refine At.region ?_
        refine AtL.move (.inl rfl) rfl rfl ?_
        refine AtL.add (z := (k : Int) + 1) (.inl rfl) rfl rfl rfl (w64 (by omega) (by omega)) ?_
        refine AtL.assign (.inl rfl) rfl rfl ?_
        refine AtL.done ?_
        refine ihL1 (k + 1) ((fs.getD k (([], []) : List UInt8 × List UInt8)).2) (n + 1) (⟨by omega, by rw [allF_snoc _ _ (by omega), if_pos hc2]; have h0 : allF (fs.take k) nm = [] := List.eq_nil_of_length_eq_zero (by omega); rw [h0]; rfl, by rw [allF_snoc _ _ (by omega), if_pos hc2]; simp; omega⟩) (by omega) _ ?_
        exact ⟨rfl, rfl, (by first | rfl | exact slLen (by simp []) | exact intEq (by omega) | exact intEq (by simp []) | exact slLen (by simp []; omega)), (by first | rfl | exact slLen (by simp []) | exact intEq (by omega) | exact intEq (by simp []) | exact slLen (by simp []; omega)), (by first | rfl | exact slLen (by simp []) | exact intEq (by omega) | exact intEq (by simp []) | exact slLen (by simp []; omega)), trivial⟩
      · intro hc3
        have hc3 : ¬ ((n : Int) = 0) := of_decide_eq_false hc3
        refine At.skip ?_
        refine At.region ?_
        refine AtL.move (.inl rfl) rfl rfl ?_
        refine AtL.add (z := (n : Int) + 1) (.inl rfl) rfl rfl rfl (w64 (by omega) (by omega)) ?_
        refine AtL.assign (.inl rfl) rfl rfl ?_
        refine AtL.done ?_
        refine At.inBlock ?_
        refine At.region ?_
        refine AtL.move (.inl rfl) rfl rfl ?_
        refine AtL.add (z := (k : Int) + 1) (.inl rfl) rfl rfl rfl (w64 (by omega) (by omega)) ?_
        refine AtL.assign (.inl rfl) rfl rfl ?_
        refine AtL.done ?_
        refine ihL1 (k + 1) val (n + 1) (⟨by omega, by rw [allF_snoc _ _ (by omega), if_pos hc2]; rw [hv]; cases hq : allF (fs.take k) nm with | nil => rw [hq] at hn; simp at hn; omega | cons a r => rfl, by rw [allF_snoc _ _ (by omega), if_pos hc2]; simp; omega⟩) (by omega) _ ?_
        exact ⟨rfl, rfl, (by first | rfl | exact slLen (by simp []) | exact intEq (by omega) | exact intEq (by simp []) | exact slLen (by simp []; omega)), (by first | rfl | exact slLen (by simp []) | exact intEq (by omega) | exact intEq (by simp []) | exact slLen (by simp []; omega)), (by first | rfl | exact slLen (by simp []) | exact intEq (by omega) | exact intEq (by simp []) | exact slLen (by simp []; omega)), trivial⟩
    · intro hc2
      have hc2 : ¬ (lowerF ((fs.getD k (([], []) : List UInt8 × List UInt8)).1) = lowerF nm) := of_decide_eq_false hc2
      refine At.skip ?_
      refine At.inBlock ?_
      refine At.region ?_
      refine AtL.move (.inl rfl) rfl rfl ?_
      refine AtL.add (z := (k : Int) + 1) (.inl rfl) rfl rfl rfl (w64 (by omega) (by omega)) ?_
      refine AtL.assign (.inl rfl) rfl rfl ?_
      refine AtL.done ?_
      refine ihL1 (k + 1) val n (⟨by omega, by rw [allF_snoc _ _ (by omega), if_neg hc2, List.append_nil]; exact hv, by rw [allF_snoc _ _ (by omega), if_neg hc2, List.append_nil]; exact hn⟩) (by omega) _ ?_
      exact ⟨rfl, rfl, (by first | rfl | exact slLen (by simp []) | exact intEq (by omega) | exact intEq (by simp []) | exact slLen (by simp []; omega)), (by first | rfl | exact slLen (by simp []) | exact intEq (by omega) | exact intEq (by simp []) | exact slLen (by simp []; omega)), (by first | rfl | exact slLen (by simp []) | exact intEq (by omega) | exact intEq (by simp []) | exact slLen (by simp []; omega)), trivial⟩
  · intro hc1
    have hc1 : ¬ ((k : Int) < (fs.length : Int)) := of_decide_eq_false hc1
    refine At.exit rfl ?_
    refine At.seq ?_
    refine At.region ?_
    refine AtL.move (.inl rfl) rfl rfl ?_
    refine AtL.move (.inl rfl) rfl rfl ?_
    refine AtL.assign (.inl rfl) rfl rfl ?_
    refine AtL.assign (.inl rfl) rfl rfl ?_
    refine AtL.done ?_
    refine At.pick (H' := H) [] 1 rfl rfl ?_
    exact At.ret Tryz.func82 rfl rfl (⟨by rw [List.take_of_length_le (show fs.length ≤ k by omega)] at hv hn; rw [fieldF, hv, hn]; rfl, rfl⟩)
set_option maxHeartbeats 400000 in
theorem rhosts_ok {w0 : World} {base : Nat} {H : List Seg} {m t : List UInt8} {minor : Int} {A : Option Addr} {C : Nat} {fs : List (List UInt8 × List UInt8)} (h : Rd tyField w0 base H A C fs) (hfl : fs.length ≤ 1000) (hb : ∀ f ∈ fs, f.1.length ≤ 140737488355000 ∧ f.2.length ≤ 140737488355000) :
    SCalls Tryz.prog 125 [.agg #[str m, str t, .int .i64 minor, .slice A fs.length C]] w0 base (H) (fun v H' => v = .bool (hostsF fs minor) ∧ H' = H) := by
  refine SCalls.of_walk (n := 21) Tryz.func125 rfl rfl rfl fun cs => ?_
  refine At.seq ?_
  refine At.region ?_
  refine AtL.box (cs := #[str m, str t, .int .i64 minor, .slice A fs.length C]) rfl (.inl rfl) rfl rfl ?_
  intro b1
  refine AtL.assign (.inl rfl) rfl rfl ?_
  refine AtL.done ?_
  refine At.seq ?_
  refine At.region ?_
  refine AtL.loadN (cs := [str m, str t, .int .i64 minor, .slice A fs.length C]) tf_agg47 (.inl rfl) rfl rfl rfl (cellsOwn 0 0 0 rfl rfl rfl) ?_
  refine AtL.call tf_body82 (.inl rfl) rfl rfl (rfield_ok (m := m) (t := t) (minor := minor) (fs := fs) (Rd.skip 1 h) (nm := [104, 111, 115, 116]) (by first | omega | decide) hfl hb) ?_
  rintro _ _ ⟨rfl, rfl⟩
  refine AtL.move (.inl rfl) rfl rfl ?_
  refine AtL.extract (.inl rfl) rfl rfl rfl ?_
  refine AtL.extract (.inl rfl) rfl rfl rfl ?_
  refine AtL.assign (.inl rfl) rfl rfl ?_
  refine AtL.assign (.inl rfl) rfl rfl ?_
  refine AtL.done ?_
  refine At.seq ?_
  refine At.region ?_
  refine AtL.move (.inl rfl) rfl rfl ?_
  refine AtL.eqi (.inl rfl) rfl rfl rfl ?_
  refine AtL.move (.inl rfl) rfl rfl ?_
  refine AtL.join 8 (E' := [(20, .bool (decide ((((fieldF fs [104, 111, 115, 116]).2 : Int) = 1) ∨ ((((fieldF fs [104, 111, 115, 116]).2 : Int) = 0) ∧ ((minor : Int) = 0)))))]) (H' := [(b1, .cells #[str m, str t, .int .i64 minor, .slice A fs.length C] 47 (0, 0))] :: H) (fun J => ?_) ?_
  · refine AtL.split (t := 12) rfl ?_ ?_
    · intro hs12
      have hs12 : ((fieldF fs [104, 111, 115, 116]).2 : Int) = 1 := of_decide_eq_true hs12
      refine AtL.skipped rfl rfl rfl rfl rfl rfl ?_
      refine AtL.skipped rfl rfl rfl rfl rfl rfl ?_
      refine AtL.skipped rfl rfl rfl rfl rfl rfl ?_
      refine AtL.skippedU rfl rfl rfl rfl rfl ?_
      refine AtL.skippedU rfl rfl rfl rfl rfl ?_
      refine AtL.skippedU rfl rfl rfl rfl rfl ?_
      refine AtL.skipped rfl rfl rfl rfl rfl rfl ?_
      refine AtL.pickT (.inl rfl) rfl rfl rfl ?_
      exact J _ (by exact ⟨(boolIs (by clear J; first | (simp [hs12]; done) | (simp_all; done) | grind)), trivial⟩)
    · intro hs12
      have hs12 : ¬ (((fieldF fs [104, 111, 115, 116]).2 : Int) = 1) := of_decide_eq_false hs12
      refine AtL.move (.inr ⟨_, _, _, rfl, rfl, rfl, rfl⟩) rfl rfl ?_
      refine AtL.eqi (.inr ⟨_, _, _, rfl, rfl, rfl, rfl⟩) rfl rfl rfl ?_
      refine AtL.move (.inr ⟨_, _, _, rfl, rfl, rfl, rfl⟩) rfl rfl ?_
      refine AtL.join 4 (E' := [(19, .bool (decide ((((fieldF fs [104, 111, 115, 116]).2 : Int) = 0) ∧ ((minor : Int) = 0)))), (12, .bool false)]) (H' := [(b1, .cells #[str m, str t, .int .i64 minor, .slice A fs.length C] 47 (0, 0))] :: H) (fun J => ?_) ?_
      · refine AtL.split (t := 15) rfl ?_ ?_
        · intro hs15
          have hs15 : ((fieldF fs [104, 111, 115, 116]).2 : Int) = 0 := of_decide_eq_true hs15
          refine AtL.fieldAddrB tf_fo47_2 (.inr ⟨_, _, _, rfl, rfl, rfl, rfl⟩) rfl rfl rfl ?_
          refine AtL.load tf_flat3 (.inr ⟨_, _, _, rfl, rfl, rfl, rfl⟩) rfl rfl (Cell.own 0 0 rfl rfl rfl) ?_
          refine AtL.eqi (.inr ⟨_, _, _, rfl, rfl, rfl, rfl⟩) rfl rfl rfl ?_
          refine AtL.pickT (.inr ⟨_, _, _, rfl, rfl, rfl, rfl⟩) rfl rfl rfl ?_
          exact J _ (by exact ⟨(boolIs (by clear J; first | (simp [hs15]; done) | (simp_all; done) | grind)), rfl, trivial⟩)
        · intro hs15
          have hs15 : ¬ (((fieldF fs [104, 111, 115, 116]).2 : Int) = 0) := of_decide_eq_false hs15
          refine AtL.skipped rfl rfl rfl rfl rfl rfl ?_
          refine AtL.skipped rfl rfl rfl rfl rfl rfl ?_
          refine AtL.skipped rfl rfl rfl rfl rfl rfl ?_
          refine AtL.pickF (.inr ⟨_, _, _, rfl, rfl, rfl, rfl⟩) rfl rfl rfl ?_
          exact J _ (by exact ⟨(boolIs (by clear J; first | (simp [hs15]; done) | (simp_all; done) | grind)), rfl, trivial⟩)
      · skip
        refine AtL.pickF (.inl rfl) rfl rfl rfl ?_
        exact J _ (by exact ⟨(boolIs (by clear J; first | (simp [hs12]; done) | (simp_all; done) | grind)), trivial⟩)
  · skip
    refine AtL.assign (.inl rfl) rfl rfl ?_
    refine AtL.done ?_
    refine At.pick (H' := H) [] 1 rfl rfl ?_
    exact At.ret Tryz.func125 rfl rfl (⟨congrArg Value.bool (by rw [hostsF]; exact decide_eq_decide.2 (by show _ ↔ ((fieldF fs [104, 111, 115, 116]).2 = 1 ∨ ((fieldF fs [104, 111, 115, 116]).2 = 0 ∧ minor = 0)); omega)), rfl⟩)
end Go.Proofs.YtlkdmbpbjhjkfaaGreatDoor
namespace Go.Proofs.YtlkdmbpbjhjkfaaGreatDoor
set_option linter.unusedVariables false
set_option linter.unusedSimpArgs false
set_option maxRecDepth 100000
theorem lnF_at {b line : List UInt8} {k : Nat} (h : k < b.length) : lnF line (b.drop k) = if ¬ ((b.getD k 0).toNat : Int) = 13 ∧ ¬ ((b.getD k 0).toNat : Int) = 10 then lnF (line ++ [b.getD k 0]) (b.drop (k + 1))
    else if ((b.getD k 0).toNat : Int) = 10 ∨ (b.length : Int) ≤ (k : Int) + 1 ∨ ¬ ((b.getD (k + 1) 0).toNat : Int) = 10 then none else (lnF [] (b.drop (k + 2))).map (line :: ·) := by
  rw [List.drop_eq_getElem_cons h]
  have e : b[k] = b.getD k 0 := by simp [List.getD, h]
  have h13 := u8_eq (c := b.getD k 0) (n := 13) (by omega)
  have h10 := u8_eq (c := b.getD k 0) (n := 10) (by omega)
  have g10 := u8_eq (c := b.getD (k + 1) 0) (n := 10) (by omega)
  rw [e, lnF]
  have a13 : (b.getD k 0 ≠ 13 ∧ b.getD k 0 ≠ 10) ↔ (¬ ((b.getD k 0).toNat : Int) = 13 ∧ ¬ ((b.getD k 0).toNat : Int) = 10) := and_congr (not_congr h13.symm) (not_congr h10.symm)
  have hh : (b.drop (k + 1)).head? = some 10 ↔ ¬ ((b.length : Int) ≤ (k : Int) + 1 ∨ ¬ ((b.getD (k + 1) 0).toNat : Int) = 10) := by
    rw [List.head?_drop]
    by_cases h2 : k + 1 < b.length
    · have e2 : b[k + 1]? = some (b.getD (k + 1) 0) := by simp [List.getD, h2]
      rw [e2]
      simp only [Option.some.injEq, not_or, Classical.not_not]
      exact ⟨fun h => ⟨by omega, g10.2 h⟩, fun h => g10.1 h.2⟩
    · rw [List.getElem?_eq_none (by omega)]
      simp only [reduceCtorEq, false_iff, Classical.not_not]
      exact .inl (by omega)
  have b10 : (b.getD k 0 = 10 ∨ (b.drop (k + 1)).head? ≠ some 10) ↔ (((b.getD k 0).toNat : Int) = 10 ∨ (b.length : Int) ≤ (k : Int) + 1 ∨ ¬ ((b.getD (k + 1) 0).toNat : Int) = 10) := or_congr h10.symm ((not_congr hh).trans Classical.not_not)
  simp only [a13, b10, List.tail_drop]
theorem sub_one {b : List UInt8} {k : Nat} (h : k < b.length) : subl b k (k + 1) = [b.getD k 0] := by
  unfold subl
  rw [List.drop_eq_getElem_cons h, show k + 1 - k = 1 by omega, List.take_succ_cons, List.take_zero]
  simp [List.getD, h]
theorem whole1 (a : List UInt8) : wholeL [a] = decide (a = []) := rfl
theorem whole2 (a c : List UInt8) (r : List (List UInt8)) : wholeL (a :: c :: r) = (decide (a ≠ []) && wholeL (c :: r)) := rfl
theorem lines_none {b : List UInt8} (h : lnF [] b = none ∨ ∃ ls, lnF [] b = some ls ∧ wholeL ls = false) : linesF b = none := by
  have hlf := lnF_lines b
  cases hq : linesF b with
  | none => rfl
  | some q =>
    rw [hq] at hlf
    rcases h with h | ⟨ls, h, hw⟩
    · rw [h] at hlf; simp at hlf
    · rw [h] at hlf; simp [hw] at hlf
theorem lines_some {b : List UInt8} {ls : List (List UInt8)} (h : lnF [] b = some ls) (hw : wholeL ls = true) : ∃ q, linesF b = some q ∧ ls = q ++ [[]] := by
  have hlf := lnF_lines b
  rw [h] at hlf
  cases hq : linesF b with
  | none => rw [hq] at hlf; simp [hw] at hlf
  | some q => rw [hq] at hlf; simp [hw] at hlf; exact ⟨q, rfl, hlf⟩
theorem whole_step {l : List (List UInt8)} {k : Nat} (h : k < l.length) : wholeL (l.drop k) = if decide (l.getD k [] = []) = decide ((k : Int) = (l.length : Int) - 1) then (if k + 1 = l.length then true else wholeL (l.drop (k + 1))) else false := by
  rw [List.drop_eq_getElem_cons h]
  have e : l[k] = l.getD k [] := by simp [List.getD, h]
  rw [e]
  by_cases h2 : k + 1 = l.length
  · rw [List.drop_eq_nil_of_le (by omega), whole1, if_pos h2, decide_eq_true (show (k : Int) = (l.length : Int) - 1 by omega)]
    by_cases h3 : l.getD k [] = [] <;> simp [h3]
  · rw [List.drop_eq_getElem_cons (show k + 1 < l.length by omega), whole2, if_neg h2, decide_eq_false (show ¬ (k : Int) = (l.length : Int) - 1 by omega)]
    by_cases h3 : l.getD k [] = [] <;> simp [h3]
set_option maxHeartbeats 400000 in
theorem rlines_ok {w0 : World} {base : Nat} {H : List Seg} {A : Option Addr} {C : Nat} {b : List UInt8} (h : Rd tyB w0 base H A C b) (hl : b.length ≤ 4294967280) :
    SCalls Tryz.prog 120 [.slice A b.length C] w0 base (H) (fun v H' => ∃ x : Sl tyS 9, v = .tuple #[.slice x.A x.l.length x.C, .bool (linesF b).isSome] ∧ (∀ ls, linesF b = some ls → x.l = ls ++ [[]]) ∧ H' = x.s :: H) := by
  have hcap := h.cap
  have hle := h.le
  refine SCalls.of_walk (n := 85) Tryz.func120 rfl rfl rfl fun cs => ?_
  refine At.seq ?_
  refine At.region ?_
  refine AtL.assign (.inl rfl) rfl rfl ?_
  refine AtL.assign (.inl rfl) rfl rfl ?_
  refine AtL.done ?_
  refine At.seq ?_
  refine At.region ?_
  refine AtL.assign (.inl rfl) rfl rfl ?_
  refine AtL.done ?_
  refine At.seq ?_
  refine At.region ?_
  refine AtL.assign (.inl rfl) rfl rfl ?_
  refine AtL.done ?_
  refine At.seq ?_
  refine At.seq ?_
  refine At.region ?_
  refine AtL.assign (.inl rfl) rfl rfl ?_
  refine AtL.done ?_
  refine At.block ?_
  refine At.nil ?_
  refine At.loop3 (fun (k : Nat) (line : List UInt8) (x : Sl tyS 9) => [(0, .slice A b.length C), (4, .slice x.A x.l.length x.C), (5, str line), (6, .int .i64 (k : Int))]) (fun (k : Nat) (line : List UInt8) (x : Sl tyS 9) => x.s :: H) (fun (k : Nat) (line : List UInt8) (x : Sl tyS 9) => k ≤ b.length ∧ lnF [] b = (lnF line (b.drop k)).map (x.l ++ ·) ∧ x.l.length ≤ k ∧ line.length ≤ k) (fun (k : Nat) (line : List UInt8) (x : Sl tyS 9) => b.length - k) 0 [] Sl.nil (⟨Nat.zero_le _, by simp [Sl.nil], by simp [Sl.nil], by simp⟩) ⟨rfl, rfl, rfl, rfl, trivial⟩ rfl ?_
  rintro k line x ⟨hk, hln, hxk, hlk⟩ ihL1
  have hcapx := Own.cap_le x.own
  refine At.seq ?_
  refine At.seq ?_
  refine At.region ?_
  refine AtL.move (.inl rfl) rfl rfl ?_
  refine AtL.move (.inl rfl) rfl rfl ?_
  refine AtL.lenL Tryz.underlying22 (.inl rfl) rfl rfl ?_
  refine AtL.lss (.inl rfl) rfl rfl rfl ?_
  refine AtL.done ?_
  refine At.cond rfl ?_ ?_
  · intro hc1
    have hc1 : (k : Int) < (b.length : Int) := of_decide_eq_true hc1
    have hat := lnF_at (b := b) (line := line) (k := k) (by omega)
    refine At.skip ?_
    refine At.seq ?_
    refine At.block ?_
    refine At.seq ?_
    refine At.seq ?_
    refine At.region ?_
    refine AtL.move (.inl rfl) rfl rfl ?_
    refine AtL.move (.inl rfl) rfl rfl ?_
    refine AtL.indexL k (Rd.skip 1 h) Tryz.underlying22 tf_sz5 (.inl rfl) rfl rfl rfl rfl (by omega) ?_
    refine AtL.load (v := .int .u8 ((b.getD k 0).toNat : Int)) tf_flat5 (.inl rfl) rfl rfl (Rd.cell0 (Rd.skip 1 h) (getD_some 0 (by omega)) rfl) ?_
    refine AtL.nei (.inl rfl) rfl rfl rfl ?_
    refine AtL.move (.inl rfl) rfl rfl ?_
    refine AtL.join 6 (E' := [(25, .bool (decide ((¬ (((b.getD k 0).toNat : Int) = 13)) ∧ (¬ (((b.getD k 0).toNat : Int) = 10))))), (0, .slice A b.length C), (4, .slice x.A x.l.length x.C), (5, str line), (6, .int .i64 (k : Int))]) (H' := x.s :: H) (fun J => ?_) ?_
    · refine AtL.split (t := 19) rfl ?_ ?_
      · intro hs19
        have hs19 : ¬ (((b.getD k 0).toNat : Int) = 13) := of_decide_eq_false (bnot_true hs19)
        refine AtL.move (.inr ⟨_, _, _, rfl, rfl, rfl, rfl⟩) rfl rfl ?_
        refine AtL.move (.inr ⟨_, _, _, rfl, rfl, rfl, rfl⟩) rfl rfl ?_
        refine AtL.indexL k (Rd.skip 1 h) Tryz.underlying22 tf_sz5 (.inr ⟨_, _, _, rfl, rfl, rfl, rfl⟩) rfl rfl rfl rfl (by omega) ?_
        refine AtL.load (v := .int .u8 ((b.getD k 0).toNat : Int)) tf_flat5 (.inr ⟨_, _, _, rfl, rfl, rfl, rfl⟩) rfl rfl (Rd.cell0 (Rd.skip 1 h) (getD_some 0 (by omega)) rfl) ?_
        refine AtL.nei (.inr ⟨_, _, _, rfl, rfl, rfl, rfl⟩) rfl rfl rfl ?_
        refine AtL.pickT (.inl rfl) rfl rfl rfl ?_
        exact J _ (by exact ⟨(boolIs (by clear J; first | (simp [hs19]; done) | (simp_all; done) | grind)), rfl, rfl, rfl, rfl, trivial⟩)
      · intro hs19
        have hs19 : ((b.getD k 0).toNat : Int) = 13 := of_decide_eq_true (bnot_false hs19)
        refine AtL.skipped rfl rfl rfl rfl rfl rfl ?_
        refine AtL.skipped rfl rfl rfl rfl rfl rfl ?_
        refine AtL.skipped rfl rfl rfl rfl rfl rfl ?_
        refine AtL.skipped rfl rfl rfl rfl rfl rfl ?_
        refine AtL.skipped rfl rfl rfl rfl rfl rfl ?_
        refine AtL.pickF (.inl rfl) rfl rfl rfl ?_
        exact J _ (by exact ⟨(boolIs (by clear J; first | (simp [hs19]; done) | (simp_all; done) | grind)), rfl, rfl, rfl, rfl, trivial⟩)
    · skip
      refine AtL.done ?_
      refine At.cond rfl ?_ ?_
      · intro hc2
        have hc2 : (¬ (((b.getD k 0).toNat : Int) = 13)) ∧ (¬ (((b.getD k 0).toNat : Int) = 10)) := of_decide_eq_true hc2
        refine At.seq ?_
        refine At.region ?_
        refine AtL.move (.inl rfl) rfl rfl ?_
        refine AtL.move (.inl rfl) rfl rfl ?_
        refine AtL.move (.inl rfl) rfl rfl ?_
        refine AtL.move (.inl rfl) rfl rfl ?_
        refine AtL.add (z := (k : Int) + 1) (.inl rfl) rfl rfl rfl (w64 (by omega) (by omega)) ?_
        have hleo3 := Rd.le h
        refine AtL.sliceR 1 k (k + 1) C h (evBound_some rfl rfl) (evBound_some rfl rfl) rfl (by intro h; cases h) (by omega) (by omega) (by omega) (by omega) Tryz.underlying22 tf_sz5 (.inl rfl) rfl rfl ?_
        clear hleo3
        intro A1 C2 (o3 : Rd tyB w0 base H A1 C2 (subl b k (k + 1)))
        have hlo3 : (subl b k (k + 1)).length = (k + 1) - k := subl_len (by omega)
        refine AtL.strOf (Rd.skip 1 o3) Tryz.underlying22 Tryz.underlying5 Tryz.underlying9 (.inl rfl) rfl rfl ?_
        refine AtL.cat (.inl rfl) rfl rfl rfl (by first | omega | (simp only [List.length_append, List.length_cons, List.length_nil]; omega) | (simp; omega)) ?_
        refine AtL.assign (.inl rfl) rfl rfl ?_
        refine AtL.done ?_
        refine At.exit rfl ?_
        refine At.region ?_
        refine AtL.move (.inl rfl) rfl rfl ?_
        refine AtL.add (z := (k : Int) + 1) (.inl rfl) rfl rfl rfl (w64 (by omega) (by omega)) ?_
        refine AtL.assign (.inl rfl) rfl rfl ?_
        refine AtL.done ?_
        refine ihL1 (k + 1) (line ++ (subl b k (k + 1))) x (⟨by omega, by rw [hln, hat, if_pos hc2, sub_one (by omega)], by omega, by simp [subl_len (show k + 1 ≤ b.length by omega)]; omega⟩) (by omega) _ ?_
        exact ⟨rfl, (by first | rfl | exact slLen (by simp []) | exact intEq (by omega) | exact intEq (by simp []) | exact slLen (by simp []; omega)), (by first | rfl | exact slLen (by simp []) | exact intEq (by omega) | exact intEq (by simp []) | exact slLen (by simp []; omega)), (by first | rfl | exact slLen (by simp []) | exact intEq (by omega) | exact intEq (by simp []) | exact slLen (by simp []; omega)), trivial⟩
      · intro hc2
        have hc2 : ¬ ((¬ (((b.getD k 0).toNat : Int) = 13)) ∧ (¬ (((b.getD k 0).toNat : Int) = 10))) := of_decide_eq_false hc2
        refine At.skip ?_
        refine At.seq ?_
        refine At.seq ?_
        refine At.region ?_
        refine AtL.move (.inl rfl) rfl rfl ?_
        refine AtL.move (.inl rfl) rfl rfl ?_
        refine AtL.indexL k (Rd.skip 1 h) Tryz.underlying22 tf_sz5 (.inl rfl) rfl rfl rfl rfl (by omega) ?_
        refine AtL.load (v := .int .u8 ((b.getD k 0).toNat : Int)) tf_flat5 (.inl rfl) rfl rfl (Rd.cell0 (Rd.skip 1 h) (getD_some 0 (by omega)) rfl) ?_
        refine AtL.eqi (.inl rfl) rfl rfl rfl ?_
        refine AtL.move (.inl rfl) rfl rfl ?_
        refine AtL.join 6 (E' := [(45, .bool (decide ((((b.getD k 0).toNat : Int) = 10) ∨ ((b.length : Int) ≤ ((k : Int) + 1))))), (0, .slice A b.length C), (4, .slice x.A x.l.length x.C), (5, str line), (6, .int .i64 (k : Int))]) (H' := x.s :: H) (fun J => ?_) ?_
        · refine AtL.split (t := 39) rfl ?_ ?_
          · intro hs39
            have hs39 : ((b.getD k 0).toNat : Int) = 10 := of_decide_eq_true hs39
            refine AtL.skipped rfl rfl rfl rfl rfl rfl ?_
            refine AtL.skipped rfl rfl rfl rfl rfl rfl ?_
            refine AtL.skipped rfl rfl rfl rfl rfl rfl ?_
            refine AtL.skipped rfl rfl rfl rfl rfl rfl ?_
            refine AtL.skipped rfl rfl rfl rfl rfl rfl ?_
            refine AtL.pickT (.inl rfl) rfl rfl rfl ?_
            exact J _ (by exact ⟨(boolIs (by clear J; first | (simp [hs39]; done) | (simp_all; done) | grind)), rfl, rfl, rfl, rfl, trivial⟩)
          · intro hs39
            have hs39 : ¬ (((b.getD k 0).toNat : Int) = 10) := of_decide_eq_false hs39
            refine AtL.move (.inr ⟨_, _, _, rfl, rfl, rfl, rfl⟩) rfl rfl ?_
            refine AtL.add (z := (k : Int) + 1) (.inr ⟨_, _, _, rfl, rfl, rfl, rfl⟩) rfl rfl rfl (w64 (by omega) (by omega)) ?_
            refine AtL.move (.inr ⟨_, _, _, rfl, rfl, rfl, rfl⟩) rfl rfl ?_
            refine AtL.lenL Tryz.underlying22 (.inr ⟨_, _, _, rfl, rfl, rfl, rfl⟩) rfl rfl ?_
            refine AtL.geq (.inr ⟨_, _, _, rfl, rfl, rfl, rfl⟩) rfl rfl rfl ?_
            refine AtL.pickF (.inl rfl) rfl rfl rfl ?_
            exact J _ (by exact ⟨(boolIs (by clear J; first | (simp [hs39]; done) | (simp_all; done) | grind)), rfl, rfl, rfl, rfl, trivial⟩)
        · skip
          refine AtL.move (.inl rfl) rfl rfl ?_
          refine AtL.join 7 (E' := [(53, .bool (decide (((((b.getD k 0).toNat : Int) = 10) ∨ ((b.length : Int) ≤ ((k : Int) + 1))) ∨ (¬ (((b.getD (k + 1) 0).toNat : Int) = 10))))), (0, .slice A b.length C), (4, .slice x.A x.l.length x.C), (5, str line), (6, .int .i64 (k : Int))]) (H' := x.s :: H) (fun J => ?_) ?_
          · refine AtL.split (t := 46) rfl ?_ ?_
            · intro hs46
              have hs46 : (((b.getD k 0).toNat : Int) = 10) ∨ ((b.length : Int) ≤ ((k : Int) + 1)) := of_decide_eq_true hs46
              refine AtL.skipped rfl rfl rfl rfl rfl rfl ?_
              refine AtL.skipped rfl rfl rfl rfl rfl rfl ?_
              refine AtL.skipped rfl rfl rfl rfl rfl rfl ?_
              refine AtL.skipped rfl rfl rfl rfl rfl rfl ?_
              refine AtL.skipped rfl rfl rfl rfl rfl rfl ?_
              refine AtL.skipped rfl rfl rfl rfl rfl rfl ?_
              refine AtL.pickT (.inl rfl) rfl rfl rfl ?_
              exact J _ (by exact ⟨(boolIs (by clear J; first | (simp [hs46]; done) | (simp_all; done) | grind)), rfl, rfl, rfl, rfl, trivial⟩)
            · intro hs46
              have hs46 : ¬ ((((b.getD k 0).toNat : Int) = 10) ∨ ((b.length : Int) ≤ ((k : Int) + 1))) := of_decide_eq_false hs46
              refine AtL.move (.inr ⟨_, _, _, rfl, rfl, rfl, rfl⟩) rfl rfl ?_
              refine AtL.move (.inr ⟨_, _, _, rfl, rfl, rfl, rfl⟩) rfl rfl ?_
              refine AtL.add (z := (k : Int) + 1) (.inr ⟨_, _, _, rfl, rfl, rfl, rfl⟩) rfl rfl rfl (w64 (by omega) (by omega)) ?_
              refine AtL.indexL (k + 1) (Rd.skip 1 h) Tryz.underlying22 tf_sz5 (.inr ⟨_, _, _, rfl, rfl, rfl, rfl⟩) rfl rfl rfl rfl (by omega) ?_
              refine AtL.load (v := .int .u8 ((b.getD (k + 1) 0).toNat : Int)) tf_flat5 (.inr ⟨_, _, _, rfl, rfl, rfl, rfl⟩) rfl rfl (Rd.cell0 (Rd.skip 1 h) (getD_some 0 (by omega)) rfl) ?_
              refine AtL.nei (.inr ⟨_, _, _, rfl, rfl, rfl, rfl⟩) rfl rfl rfl ?_
              refine AtL.pickF (.inl rfl) rfl rfl rfl ?_
              exact J _ (by exact ⟨(boolIs (by clear J; first | (simp [hs46]; done) | (simp_all; done) | grind)), rfl, rfl, rfl, rfl, trivial⟩)
          · skip
            refine AtL.done ?_
            refine At.cond rfl ?_ ?_
            · intro hc3
              have hc3 : ((((b.getD k 0).toNat : Int) = 10) ∨ ((b.length : Int) ≤ ((k : Int) + 1))) ∨ (¬ (((b.getD (k + 1) 0).toNat : Int) = 10)) := of_decide_eq_true hc3
              have hy3 : ((b.getD k 0).toNat : Int) = 10 ∨ (b.length : Int) ≤ (k : Int) + 1 ∨ ¬ ((b.getD (k + 1) 0).toNat : Int) = 10 := or_assoc.1 hc3
              refine At.seq ?_
              refine At.region ?_
              refine AtL.assign (.inl rfl) rfl rfl ?_
              refine AtL.assign (.inl rfl) rfl rfl ?_
              refine AtL.done ?_
              refine At.nil ?_
              refine At.pick (H' := [] :: H) [0] 2 rfl rfl ?_
              have hn := lines_none (b := b) (.inl (by rw [hln, hat, if_neg hc2, if_pos hy3]; rfl))
              exact At.ret Tryz.func120 rfl rfl (⟨Sl.nil, by rw [hn]; rfl, fun ls h => (by rw [hn] at h; cases h), rfl⟩)
            · intro hc3
              have hc3 : ¬ (((((b.getD k 0).toNat : Int) = 10) ∨ ((b.length : Int) ≤ ((k : Int) + 1))) ∨ (¬ (((b.getD (k + 1) 0).toNat : Int) = 10))) := of_decide_eq_false hc3
              have hn3 : ¬ (((b.getD k 0).toNat : Int) = 10 ∨ (b.length : Int) ≤ (k : Int) + 1 ∨ ¬ ((b.getD (k + 1) 0).toNat : Int) = 10) := fun h => hc3 (or_assoc.2 h)
              refine At.skip ?_
              refine At.seq ?_
              refine At.region ?_
              refine AtL.move (.inl rfl) rfl rfl ?_
              refine AtL.move (.inl rfl) rfl rfl ?_
              refine AtL.buildSlice (cs := [str line]) Tryz.underlying109 tf_zero9 tf_sz9 rfl rfl (.inl rfl) rfl rfl rfl ?_
              intro b4
              refine AtL.own1 tyS (l := ([line] : List (List UInt8))) rfl rfl (by first | decide | simp) ?_
              intro s5 o6
              refine AtL.append (l := x.l) (news := [line]) 1 tf_el109 rfl x.own (o6.rd (i := 0) rfl) (by simp; omega) (.inl rfl) rfl rfl rfl ?_
              intro A7 C8 s9 o10
              refine AtL.assign (.inl rfl) rfl rfl ?_
              refine AtL.done ?_
              refine At.seq ?_
              refine At.region ?_
              refine AtL.assign (.inl rfl) rfl rfl ?_
              refine AtL.done ?_
              refine At.region ?_
              refine AtL.move (.inl rfl) rfl rfl ?_
              refine AtL.add (z := (k : Int) + 1) (.inl rfl) rfl rfl rfl (w64 (by omega) (by omega)) ?_
              refine AtL.assign (.inl rfl) rfl rfl ?_
              refine AtL.done ?_
              refine At.inBlock ?_
              refine At.region ?_
              refine AtL.move (.inl rfl) rfl rfl ?_
              refine AtL.add (z := ((k : Int) + 1) + 1) (.inl rfl) rfl rfl rfl (w64 (by omega) (by omega)) ?_
              refine AtL.assign (.inl rfl) rfl rfl ?_
              refine AtL.done ?_
              refine At.pick (H' := s9 :: H) [1] 2 rfl rfl ?_
              refine ihL1 (k + 2) [] (⟨A7, C8, x.l ++ [line], s9, o10⟩) (⟨by omega, by rw [hln, hat, if_neg hc2, if_neg hn3, Option.map_map]; congr 1; funext q; simp, by simp; omega, by simp⟩) (by omega) _ ?_
              exact ⟨rfl, (by first | rfl | exact slLen (by simp []) | exact intEq (by omega) | exact intEq (by simp []) | exact slLen (by simp []; omega)), (by first | rfl | exact slLen (by simp []) | exact intEq (by omega) | exact intEq (by simp []) | exact slLen (by simp []; omega)), (by first | rfl | exact slLen (by simp []) | exact intEq (by omega) | exact intEq (by simp []) | exact slLen (by simp []; omega)), trivial⟩
  · intro hc1
    have hc1 : ¬ ((k : Int) < (b.length : Int)) := of_decide_eq_false hc1
    refine At.exit rfl ?_
    refine At.seq ?_
    refine At.seq ?_
    refine At.region ?_
    refine AtL.move (.inl rfl) rfl rfl ?_
    refine AtL.nes (a := line) (b := []) (.inl rfl) rfl rfl rfl ?_
    refine AtL.move (.inl rfl) rfl rfl ?_
    refine AtL.join 4 (E' := [(66, .bool (decide ((¬ (line = [])) ∨ ((x.l.length : Int) = 0)))), (4, .slice x.A x.l.length x.C)]) (H' := x.s :: H) (fun J => ?_) ?_
    · refine AtL.split (t := 62) rfl ?_ ?_
      · intro hs62
        have hs62 : ¬ (line = []) := of_decide_eq_false (bnot_true hs62)
        refine AtL.skipped rfl rfl rfl rfl rfl rfl ?_
        refine AtL.skipped rfl rfl rfl rfl rfl rfl ?_
        refine AtL.skipped rfl rfl rfl rfl rfl rfl ?_
        refine AtL.pickT (.inl rfl) rfl rfl rfl ?_
        exact J _ (by exact ⟨(boolIs (by clear J; first | (simp [hs62]; done) | (simp_all; done) | grind)), rfl, trivial⟩)
      · intro hs62
        have hs62 : line = [] := of_decide_eq_true (bnot_false hs62)
        refine AtL.move (.inr ⟨_, _, _, rfl, rfl, rfl, rfl⟩) rfl rfl ?_
        refine AtL.lenL Tryz.underlying109 (.inr ⟨_, _, _, rfl, rfl, rfl, rfl⟩) rfl rfl ?_
        refine AtL.eqi (.inr ⟨_, _, _, rfl, rfl, rfl, rfl⟩) rfl rfl rfl ?_
        refine AtL.pickF (.inl rfl) rfl rfl rfl ?_
        exact J _ (by exact ⟨(boolIs (by clear J; first | (simp [hs62]; done) | (simp_all; done) | grind)), rfl, trivial⟩)
    · skip
      refine AtL.done ?_
      refine At.cond rfl ?_ ?_
      · intro hc4
        have hc4 : (¬ (line = [])) ∨ ((x.l.length : Int) = 0) := of_decide_eq_true hc4
        refine At.seq ?_
        refine At.region ?_
        refine AtL.assign (.inl rfl) rfl rfl ?_
        refine AtL.assign (.inl rfl) rfl rfl ?_
        refine AtL.done ?_
        refine At.nil ?_
        refine At.pick (H' := [] :: H) [0] 2 rfl rfl ?_
        have hl0 : lnF [] b = if line = [] then some x.l else none := by rw [hln, List.drop_eq_nil_of_le (by omega), lnF]; split <;> simp
        have hx0 : line = [] → x.l = [] := fun h => (by rcases hc4 with h4 | h4; exact absurd h h4; exact List.eq_nil_of_length_eq_zero (by omega))
        have hn := lines_none (b := b) (by by_cases h : line = []; exact .inr ⟨[], by rw [hl0, if_pos h, hx0 h], rfl⟩; exact .inl (by rw [hl0, if_neg h]))
        exact At.ret Tryz.func120 rfl rfl (⟨Sl.nil, by rw [hn]; rfl, fun ls h => (by rw [hn] at h; cases h), rfl⟩)
      · intro hc4
        have hc4 : ¬ ((¬ (line = [])) ∨ ((x.l.length : Int) = 0)) := of_decide_eq_false hc4
        refine At.skip ?_
        refine At.seq ?_
        refine At.seq ?_
        refine At.region ?_
        refine AtL.assign (.inl rfl) rfl rfl ?_
        refine AtL.done ?_
        refine At.block ?_
        have hs1 : lnF [] b = some x.l := by rw [hln, List.drop_eq_nil_of_le (by omega), lnF]; simp only [not_or, Classical.not_not] at hc4; rw [if_pos hc4.1]; simp
        have hx0 : x.l.length ≠ 0 := by simp only [not_or] at hc4; omega
        refine At.loop (fun (j : Nat) => [(4, .slice x.A x.l.length x.C), (7, .int .i64 (j : Int))]) (fun (j : Nat) => x.s :: H) (fun (j : Nat) => j ≤ x.l.length ∧ wholeL x.l = (if j = x.l.length then true else wholeL (x.l.drop j))) (fun (j : Nat) => x.l.length - j) 0 (⟨Nat.zero_le _, by rw [if_neg (by omega)]; rfl⟩) ⟨rfl, rfl, trivial⟩ rfl ?_
        rintro j ⟨hj, hwl⟩ ihL2
        refine At.seq ?_
        refine At.seq ?_
        refine At.region ?_
        refine AtL.move (.inl rfl) rfl rfl ?_
        refine AtL.move (.inl rfl) rfl rfl ?_
        refine AtL.lenL Tryz.underlying109 (.inl rfl) rfl rfl ?_
        refine AtL.lss (.inl rfl) rfl rfl rfl ?_
        refine AtL.done ?_
        refine At.cond rfl ?_ ?_
        · intro hc5
          have hc5 : (j : Int) < (x.l.length : Int) := of_decide_eq_true hc5
          refine At.skip ?_
          refine At.seq ?_
          refine At.block ?_
          refine At.seq ?_
          refine At.region ?_
          refine AtL.move (.inl rfl) rfl rfl ?_
          refine AtL.move (.inl rfl) rfl rfl ?_
          refine AtL.indexL j (x.own.rd (i := 0) rfl) Tryz.underlying109 tf_sz9 (.inl rfl) rfl rfl rfl rfl (by omega) ?_
          refine AtL.load (v := str (x.l.getD j [])) tf_flat9 (.inl rfl) rfl rfl (Rd.cell0 (x.own.rd (i := 0) rfl) (getD_some [] (by omega)) rfl) ?_
          refine AtL.eqs (a := (x.l.getD j [])) (b := []) (.inl rfl) rfl rfl rfl ?_
          refine AtL.move (.inl rfl) rfl rfl ?_
          refine AtL.move (.inl rfl) rfl rfl ?_
          refine AtL.lenL Tryz.underlying109 (.inl rfl) rfl rfl ?_
          refine AtL.sub (z := (x.l.length : Int) - 1) (.inl rfl) rfl rfl rfl (w64 (by omega) (by omega)) ?_
          refine AtL.eqi (.inl rfl) rfl rfl rfl ?_
          refine AtL.neb Tryz.underlying4 (.inl rfl) rfl rfl rfl ?_
          refine AtL.done ?_
          refine At.cond rfl ?_ ?_
          · intro hc6
            have hc6 : ((decide ((x.l.getD j []) = [])) == (decide ((j : Int) = ((x.l.length : Int) - 1)))) = false := bnot_true hc6
            have hc6 : ¬ decide (x.l.getD j [] = []) = decide ((j : Int) = (x.l.length : Int) - 1) := by simpa using hc6
            refine At.seq ?_
            refine At.region ?_
            refine AtL.assign (.inl rfl) rfl rfl ?_
            refine AtL.assign (.inl rfl) rfl rfl ?_
            refine AtL.done ?_
            refine At.nil ?_
            refine At.pick (H' := [] :: H) [0] 2 rfl rfl ?_
            have hn := lines_none (b := b) (.inr ⟨x.l, hs1, by rw [hwl, if_neg (by omega), whole_step (by omega), if_neg hc6]⟩)
            exact At.ret Tryz.func120 rfl rfl (⟨Sl.nil, by rw [hn]; rfl, fun ls h => (by rw [hn] at h; cases h), rfl⟩)
          · intro hc6
            have hc6 : ((decide ((x.l.getD j []) = [])) == (decide ((j : Int) = ((x.l.length : Int) - 1)))) = true := bnot_false hc6
            have hc6 : decide (x.l.getD j [] = []) = decide ((j : Int) = (x.l.length : Int) - 1) := by simpa using hc6
            refine At.skip ?_
            refine At.inBlock ?_
            refine At.region ?_
            refine AtL.move (.inl rfl) rfl rfl ?_
            refine AtL.add (z := (j : Int) + 1) (.inl rfl) rfl rfl rfl (w64 (by omega) (by omega)) ?_
            refine AtL.assign (.inl rfl) rfl rfl ?_
            refine AtL.done ?_
            refine ihL2 (j + 1) (⟨by omega, by rw [hwl, if_neg (by omega), whole_step (by omega), if_pos hc6]⟩) (by omega) _ ?_
            exact ⟨rfl, (by first | rfl | exact slLen (by simp []) | exact intEq (by omega) | exact intEq (by simp []) | exact slLen (by simp []; omega)), trivial⟩
        · intro hc5
          have hc5 : ¬ ((j : Int) < (x.l.length : Int)) := of_decide_eq_false hc5
          refine At.exit rfl ?_
          refine At.seq ?_
          refine At.region ?_
          refine AtL.move (.inl rfl) rfl rfl ?_
          refine AtL.assign (.inl rfl) rfl rfl ?_
          refine AtL.assign (.inl rfl) rfl rfl ?_
          refine AtL.done ?_
          obtain ⟨q, hq, hq2⟩ := lines_some hs1 (by rw [hwl, if_pos (by omega)])
          exact At.ret Tryz.func120 rfl rfl (⟨x, by rw [hq]; rfl, fun ls h => (by rw [hq] at h; cases h; exact hq2), rfl⟩)
theorem pre1_at {c : UInt8} {s w : List UInt8} {k : Nat} (h : k < s.length) : pre1 w (spF c (s.drop k)) = if ((s.getD k 0).toNat : Int) = (c.toNat : Int) then w :: pre1 [] (spF c (s.drop (k + 1))) else pre1 (w ++ [s.getD k 0]) (spF c (s.drop (k + 1))) := by
  rw [List.drop_eq_getElem_cons h]
  have e : s[k] = s.getD k 0 := by simp [List.getD, h]
  rw [e, pre1_sp]
  by_cases h2 : s.getD k 0 = c
  · rw [if_pos h2, if_pos (by rw [h2])]
  · rw [if_neg h2, if_neg (fun h3 => h2 (u8_ofInt h3))]
set_option maxHeartbeats 400000 in
theorem rsplit_ok {w0 : World} {base : Nat} {H : List Seg} {s : List UInt8} (c : UInt8) (hl : s.length ≤ 4294967280) :
    SCalls Tryz.prog 121 [str s, .int .u8 (c.toNat : Int)] w0 base (H) (fun v H' => ∃ y : Sl tyS 9, y.l = spF c s ∧ v = .slice y.A y.l.length y.C ∧ H' = y.s :: H) := by
  refine SCalls.of_walk (n := 34) Tryz.func121 rfl rfl rfl fun cs => ?_
  refine At.seq ?_
  refine At.region ?_
  refine AtL.assign (.inl rfl) rfl rfl ?_
  refine AtL.done ?_
  refine At.seq ?_
  refine At.region ?_
  refine AtL.assign (.inl rfl) rfl rfl ?_
  refine AtL.done ?_
  refine At.seq ?_
  refine At.region ?_
  refine AtL.assign (.inl rfl) rfl rfl ?_
  refine AtL.done ?_
  refine At.seq ?_
  refine At.seq ?_
  refine At.region ?_
  refine AtL.assign (.inl rfl) rfl rfl ?_
  refine AtL.done ?_
  refine At.block ?_
  refine At.nil ?_
  refine At.loop3 (fun (k : Nat) (wd : List UInt8) (x : Sl tyS 9) => [(0, str s), (1, .int .u8 (c.toNat : Int)), (5, .slice x.A x.l.length x.C), (6, str wd), (7, .int .i64 (k : Int))]) (fun (k : Nat) (wd : List UInt8) (x : Sl tyS 9) => x.s :: H) (fun (k : Nat) (wd : List UInt8) (x : Sl tyS 9) => k ≤ s.length ∧ x.l ++ pre1 wd (spF c (s.drop k)) = spF c s ∧ x.l.length ≤ k ∧ wd.length ≤ k) (fun (k : Nat) (wd : List UInt8) (x : Sl tyS 9) => s.length - k) 0 [] Sl.nil (⟨Nat.zero_le _, by simp [Sl.nil]; exact pre1_nil _ (spF_ne c s), by simp [Sl.nil], by simp⟩) ⟨rfl, rfl, rfl, rfl, rfl, trivial⟩ rfl ?_
  rintro k wd x ⟨hk, hsp, hxk, hwk⟩ ihL1
  have hcapx := Own.cap_le x.own
  refine At.seq ?_
  refine At.seq ?_
  refine At.region ?_
  refine AtL.move (.inl rfl) rfl rfl ?_
  refine AtL.move (.inl rfl) rfl rfl ?_
  refine AtL.lenS (l := s) Tryz.underlying9 (.inl rfl) rfl rfl ?_
  refine AtL.lss (.inl rfl) rfl rfl rfl ?_
  refine AtL.done ?_
  refine At.cond rfl ?_ ?_
  · intro hc1
    have hc1 : (k : Int) < (s.length : Int) := of_decide_eq_true hc1
    have hs1 : (subl s k (k + 1)).length = 1 := by rw [sub_one (by omega)]; rfl
    refine At.skip ?_
    refine At.seq ?_
    refine At.block ?_
    refine At.seq ?_
    refine At.region ?_
    refine AtL.move (.inl rfl) rfl rfl ?_
    refine AtL.move (.inl rfl) rfl rfl ?_
    refine AtL.indexS (l := s) k rfl (by omega) Tryz.underlying9 (.inl rfl) rfl rfl rfl ?_
    refine AtL.move (.inl rfl) rfl rfl ?_
    refine AtL.eqi (.inl rfl) rfl rfl rfl ?_
    refine AtL.done ?_
    refine At.cond rfl ?_ ?_
    · intro hc2
      have hc2 : ((s.getD k 0).toNat : Int) = (c.toNat : Int) := of_decide_eq_true hc2
      refine At.seq ?_
      refine At.region ?_
      refine AtL.move (.inl rfl) rfl rfl ?_
      refine AtL.move (.inl rfl) rfl rfl ?_
      refine AtL.buildSlice (cs := [str wd]) Tryz.underlying109 tf_zero9 tf_sz9 rfl rfl (.inl rfl) rfl rfl rfl ?_
      intro b1
      refine AtL.own1 tyS (l := ([wd] : List (List UInt8))) rfl rfl (by first | decide | simp) ?_
      intro s2 o3
      refine AtL.append (l := x.l) (news := [wd]) 1 tf_el109 rfl x.own (o3.rd (i := 0) rfl) (by simp; omega) (.inl rfl) rfl rfl rfl ?_
      intro A4 C5 s6 o7
      refine AtL.assign (.inl rfl) rfl rfl ?_
      refine AtL.done ?_
      refine At.region ?_
      refine AtL.assign (.inl rfl) rfl rfl ?_
      refine AtL.done ?_
      refine At.inBlock ?_
      refine At.region ?_
      refine AtL.move (.inl rfl) rfl rfl ?_
      refine AtL.add (z := (k : Int) + 1) (.inl rfl) rfl rfl rfl (w64 (by omega) (by omega)) ?_
      refine AtL.assign (.inl rfl) rfl rfl ?_
      refine AtL.done ?_
      refine At.pick (H' := s6 :: H) [1] 2 rfl rfl ?_
      refine ihL1 (k + 1) [] (⟨A4, C5, x.l ++ [wd], s6, o7⟩) (⟨by omega, by rw [← hsp, pre1_at (w := wd) (k := k) (by omega), if_pos hc2]; simp, by simp; omega, by simp⟩) (by omega) _ ?_
      exact ⟨rfl, rfl, (by first | rfl | exact slLen (by simp []) | exact intEq (by omega) | exact intEq (by simp []) | exact slLen (by simp []; omega)), (by first | rfl | exact slLen (by simp []) | exact intEq (by omega) | exact intEq (by simp []) | exact slLen (by simp []; omega)), (by first | rfl | exact slLen (by simp []) | exact intEq (by omega) | exact intEq (by simp []) | exact slLen (by simp []; omega)), trivial⟩
    · intro hc2
      have hc2 : ¬ (((s.getD k 0).toNat : Int) = (c.toNat : Int)) := of_decide_eq_false hc2
      refine At.region ?_
      refine AtL.move (.inl rfl) rfl rfl ?_
      refine AtL.move (.inl rfl) rfl rfl ?_
      refine AtL.move (.inl rfl) rfl rfl ?_
      refine AtL.move (.inl rfl) rfl rfl ?_
      refine AtL.add (z := (k : Int) + 1) (.inl rfl) rfl rfl rfl (w64 (by omega) (by omega)) ?_
      refine AtL.sliceS (l := s) k (k + 1) (evBound_some rfl rfl) (evBound_some rfl rfl) (by omega) (by omega) Tryz.underlying9 (.inl rfl) rfl rfl ?_
      refine AtL.cat (.inl rfl) rfl rfl rfl (by first | omega | (simp only [List.length_append, List.length_cons, List.length_nil]; omega) | (simp; omega)) ?_
      refine AtL.assign (.inl rfl) rfl rfl ?_
      refine AtL.done ?_
      refine At.inBlock ?_
      refine At.region ?_
      refine AtL.move (.inl rfl) rfl rfl ?_
      refine AtL.add (z := (k : Int) + 1) (.inl rfl) rfl rfl rfl (w64 (by omega) (by omega)) ?_
      refine AtL.assign (.inl rfl) rfl rfl ?_
      refine AtL.done ?_
      refine ihL1 (k + 1) (wd ++ (subl s k (k + 1))) x (⟨by omega, by rw [← hsp, pre1_at (w := wd) (k := k) (by omega), if_neg hc2, sub_one (by omega)], by omega, by rw [sub_one (by omega)]; simp; omega⟩) (by omega) _ ?_
      exact ⟨rfl, rfl, (by first | rfl | exact slLen (by simp []) | exact intEq (by omega) | exact intEq (by simp []) | exact slLen (by simp []; omega)), (by first | rfl | exact slLen (by simp []) | exact intEq (by omega) | exact intEq (by simp []) | exact slLen (by simp []; omega)), (by first | rfl | exact slLen (by simp []) | exact intEq (by omega) | exact intEq (by simp []) | exact slLen (by simp []; omega)), trivial⟩
  · intro hc1
    have hc1 : ¬ ((k : Int) < (s.length : Int)) := of_decide_eq_false hc1
    refine At.exit rfl ?_
    refine At.seq ?_
    refine At.region ?_
    refine AtL.move (.inl rfl) rfl rfl ?_
    refine AtL.move (.inl rfl) rfl rfl ?_
    refine AtL.buildSlice (cs := [str wd]) Tryz.underlying109 tf_zero9 tf_sz9 rfl rfl (.inl rfl) rfl rfl rfl ?_
    intro b8
    refine AtL.own1 tyS (l := ([wd] : List (List UInt8))) rfl rfl (by first | decide | simp) ?_
    intro s9 o10
    refine AtL.append (l := x.l) (news := [wd]) 1 tf_el109 rfl x.own (o10.rd (i := 0) rfl) (by simp; omega) (.inl rfl) rfl rfl rfl ?_
    intro A11 C12 s13 o14
    refine AtL.assign (.inl rfl) rfl rfl ?_
    refine AtL.done ?_
    refine At.pick (H' := s13 :: H) [1] 2 rfl rfl ?_
    exact At.ret Tryz.func121 rfl rfl (⟨⟨A11, C12, x.l ++ [wd], s13, o14⟩, by rw [← hsp, List.drop_eq_nil_of_le (by omega)]; simp [pre1, spF], rfl, rfl⟩)
theorem rsplit_32 {w0 : World} {base : Nat} {H : List Seg} {s : List UInt8} (hl : s.length ≤ 4294967280) : SCalls Tryz.prog 121 [str s, .int .u8 32] w0 base H (fun v H' => ∃ y : Sl tyS 9, y.l = spF 32 s ∧ v = .slice y.A y.l.length y.C ∧ H' = y.s :: H) := by
  have h := rsplit_ok (w0 := w0) (base := base) (H := H) (s := s) 32 hl
  have e : ((32 : UInt8).toNat : Int) = 32 := by decide
  rw [e] at h
  exact h
theorem rsplit_44 {w0 : World} {base : Nat} {H : List Seg} {s : List UInt8} (hl : s.length ≤ 4294967280) : SCalls Tryz.prog 121 [str s, .int .u8 44] w0 base H (fun v H' => ∃ y : Sl tyS 9, y.l = spF 44 s ∧ v = .slice y.A y.l.length y.C ∧ H' = y.s :: H) := by
  have h := rsplit_ok (w0 := w0) (base := base) (H := H) (s := s) 44 hl
  have e : ((44 : UInt8).toNat : Int) = 44 := by decide
  rw [e] at h
  exact h
end Go.Proofs.YtlkdmbpbjhjkfaaGreatDoor
namespace Go.Proofs.YtlkdmbpbjhjkfaaGreatDoor
set_option linter.unusedVariables false
set_option linter.unusedSimpArgs false
set_option maxRecDepth 100000
theorem ver_one : ∀ b : Fin 256, 48 ≤ b.val → (¬ 49 < UInt8.ofNat b.val ↔ (UInt8.ofNat b.val = 48 ∨ UInt8.ofNat b.val = 49)) := by decide +kernel
theorem ver_two {b : UInt8} (h : 48 ≤ b) : (¬ 49 < b ↔ (b = 48 ∨ b = 49)) := by
  have := ver_one ⟨b.toNat, b.toNat_lt⟩ h
  simpa using this
theorem ver_list {v : List UInt8} (h : verF v = true) : v = [72, 84, 84, 80, 47, v.getD 5 0, 46, v.getD 7 0] := by
  simp only [verF, Bool.and_eq_true, decide_eq_true_eq] at h
  obtain ⟨⟨⟨⟨h1, h2⟩, h5⟩, h6⟩, h7⟩ := h
  match v, h1 with
  | [a, b, c, d, e, f, g, i], _ =>
    simp at h2 h6
    simp [h2, h6]
theorem ver_is {v : List UInt8} (h : verF v = true) : (¬ v = [72, 84, 84, 80, 47, 49, 46, 48] ∧ ¬ v = [72, 84, 84, 80, 47, 49, 46, 49]) ↔ (v.getD 5 0 ≠ 49 ∨ 49 < v.getD 7 0) := by
  have hl := ver_list h
  simp only [verF, Bool.and_eq_true, decide_eq_true_eq] at h
  obtain ⟨⟨⟨⟨h1, h2⟩, h5⟩, h6⟩, h7⟩ := h
  have hv2 := ver_two h7.1
  generalize v.getD 5 0 = a at hl
  generalize v.getD 7 0 = c at hl hv2
  subst hl
  by_cases ha : a = 49
  · subst ha
    have h3 : (¬ c = 48 ∧ ¬ c = 49) ↔ 49 < c := by
      rw [← not_or, ← hv2]; simp
    simpa using h3
  · simp [ha]
theorem cutC_at {x : List UInt8} {c : UInt8} {a : Nat} (h : ∀ j, j < a → x.getD j 0 ≠ c) (ha : a < x.length) (hc : x.getD a 0 = c) : cutC c x = some (x.take a, x.drop (a + 1)) := by
  induction x generalizing a with
  | nil => simp at ha
  | cons d x ih =>
    cases a with
    | zero => have hc : d = c := hc; subst hc; simp [cutC]
    | succ a =>
      have h0 : ¬ d = c := h 0 (by omega)
      rw [cutC, if_neg h0, ih (a := a) (fun j hj => by have := h (j + 1) (by omega); simpa using this) (by simpa using ha) (by simpa using hc)]
      simp
theorem cutC_no {x : List UInt8} {c : UInt8} (h : ∀ j, j < x.length → x.getD j 0 ≠ c) : cutC c x = none := by
  induction x with
  | nil => rfl
  | cons d x ih =>
    have h0 : ¬ d = c := h 0 (by simp)
    rw [cutC, if_neg h0, ih (fun j hj => by have := h (j + 1) (by simpa using hj); simpa using this)]
    rfl
theorem cut_at {x : List UInt8} {c : UInt8} {a : Nat} (h : ∀ j, j < a → x.getD j 0 ≠ c) (ha : a < x.length) (hc : x.getD a 0 = c) : (Lib.cut x [c]).2.2 = true ∧ (Lib.cut x [c]).1 = subl x 0 a ∧ (Lib.cut x [c]).2.1 = subl x (a + 1) x.length := by
  have h1 := cut_c c x
  rw [cutC_at h ha hc] at h1
  split at h1
  · rename_i h2
    simp only [Option.some.injEq, Prod.mk.injEq] at h1
    refine ⟨h2, ?_, ?_⟩
    · rw [← h1.1]; simp [subl]
    · rw [← h1.2]; unfold subl; rw [List.take_of_length_le (by simp)]
  · cases h1
theorem cut_at_no {x : List UInt8} {c : UInt8} (h : ∀ j, j < x.length → x.getD j 0 ≠ c) : (Lib.cut x [c]).2.2 = false := by
  have h1 := cut_c c x
  rw [cutC_no h] at h1
  split at h1
  · cases h1
  · rename_i h2; simpa using h2
set_option maxHeartbeats 400000 in
theorem rparse_ok {w0 : World} {base : Nat} {H : List Seg} {A : Option Addr} {C : Nat} {b : List UInt8} (h : Rd tyB w0 base H A C b) :
    SCalls Tryz.prog 81 [.slice A b.length C] w0 base (H) (fun v H' => ∃ x : Sl tyField 78, v = .tuple #[.agg #[str (parseF b).1.m, str (parseF b).1.t, int (parseF b).1.minor, .slice x.A x.l.length x.C], int (parseF b).2] ∧ x.l = (parseF b).1.fs ∧ H' = x.s :: H) := by
  have hcap := h.cap
  have hle := h.le
  refine SCalls.of_walk (n := 203) Tryz.func81 rfl rfl rfl fun cs => ?_
  refine At.seq ?_
  refine At.region ?_
  refine AtL.alloc tf_zero47 (cs := #[str [], str [], .int .i64 0, .slice none 0 0]) rfl (.inl rfl) rfl ?_
  intro b1
  refine AtL.assign (.inl rfl) rfl rfl ?_
  refine AtL.done ?_
  refine At.seq ?_
  refine At.seq ?_
  refine At.region ?_
  refine AtL.move (.inl rfl) rfl rfl ?_
  refine AtL.lenL Tryz.underlying22 (.inl rfl) rfl rfl ?_
  refine AtL.gtr (.inl rfl) rfl rfl rfl ?_
  refine AtL.done ?_
  refine At.cond rfl ?_ ?_
  · intro hc1
    have hc1 : 4096 < (b.length : Int) := of_decide_eq_true hc1
    refine At.seq ?_
    refine At.region ?_
    refine AtL.build (cs := [str [], str [], .int .i64 0, .slice none 0 0]) tf_lay47 (.inl rfl) rfl rfl rfl ?_
    refine AtL.store (H' := [(b1, .cells #[str [], str [], .int .i64 0, .slice none 0 0] 47 (0, 0))] :: H) 0 0 tf_sz47 (.inl rfl) rfl rfl rfl rfl rfl rfl rfl rfl rfl ?_
    refine AtL.assign (.inl rfl) rfl rfl ?_
    refine AtL.done ?_
    refine At.nil ?_
    have hp : parseF b = (.zero, 431) := by rw [parseF, if_pos (by omega)]
    exact At.retMP (vs := [.agg #[str [], str [], .int .i64 0, .slice none 0 0], .int .i64 431]) (H2 := [] :: H) [0] 2 rfl rfl Tryz.func81 rfl ⟨⟨_, rfl, LoadsTo.agg (cs := [str [], str [], .int .i64 0, .slice none 0 0]) tf_agg47 rfl (cellsOwn 1 0 0 rfl rfl rfl)⟩, rfl, trivial⟩ (⟨Sl.nil, by rw [hp]; rfl, by rw [hp]; rfl, rfl⟩)
  · intro hc1
    have hc1 : ¬ (4096 < (b.length : Int)) := of_decide_eq_false hc1
    refine At.skip ?_
    refine At.seq ?_
    refine At.region ?_
    refine AtL.move (.inl rfl) rfl rfl ?_
    refine AtL.call tf_body120 (.inl rfl) rfl rfl (rlines_ok (b := b) (Rd.skip 1 h) (by omega)) ?_
    rintro _ _ ⟨⟨A2, C3, l4, s5, o6⟩, rfl, hx7, rfl⟩
    have hlines : ∀ ls, linesF b = some ls → l4 = ls ++ [[]] := hx7
    refine AtL.move (.inl rfl) rfl rfl ?_
    refine AtL.extract (.inl rfl) rfl rfl rfl ?_
    refine AtL.extract (.inl rfl) rfl rfl rfl ?_
    refine AtL.assign (.inl rfl) rfl rfl ?_
    refine AtL.assign (.inl rfl) rfl rfl ?_
    refine AtL.done ?_
    refine At.seq ?_
    refine At.seq ?_
    refine At.region ?_
    refine AtL.move (.inl rfl) rfl rfl ?_
    refine AtL.not (.inl rfl) rfl rfl ?_
    refine AtL.move (.inl rfl) rfl rfl ?_
    refine AtL.join 4 (E' := [(26, .bool (decide ((((linesF b).isSome) = false) ∨ ((l4.length : Int) < 2)))), (2, .pointer (some ⟨b1, 0, none⟩)), (4, .slice A2 l4.length C3)]) (H' := s5 :: [(b1, .cells #[str [], str [], .int .i64 0, .slice none 0 0] 47 (0, 0))] :: H) (fun J => ?_) ?_
    · refine AtL.split (t := 22) rfl ?_ ?_
      · intro hs22
        have hs22 : ((linesF b).isSome) = false := bnot_true hs22
        refine AtL.skipped rfl rfl rfl rfl rfl rfl ?_
        refine AtL.skipped rfl rfl rfl rfl rfl rfl ?_
        refine AtL.skipped rfl rfl rfl rfl rfl rfl ?_
        refine AtL.pickT (.inl rfl) rfl rfl rfl ?_
        exact J _ (by exact ⟨(boolIs (by clear J; first | (simp [hs22]; done) | (simp_all; done) | grind)), rfl, rfl, trivial⟩)
      · intro hs22
        have hs22 : ((linesF b).isSome) = true := bnot_false hs22
        refine AtL.move (.inr ⟨_, _, _, rfl, rfl, rfl, rfl⟩) rfl rfl ?_
        refine AtL.lenL Tryz.underlying109 (.inr ⟨_, _, _, rfl, rfl, rfl, rfl⟩) rfl rfl ?_
        refine AtL.lss (.inr ⟨_, _, _, rfl, rfl, rfl, rfl⟩) rfl rfl rfl ?_
        refine AtL.pickF (.inl rfl) rfl rfl rfl ?_
        exact J _ (by exact ⟨(boolIs (by clear J; first | (simp [hs22]; done) | (simp_all; done) | grind)), rfl, rfl, trivial⟩)
    · skip
      refine AtL.done ?_
      refine At.cond rfl ?_ ?_
      · intro hc2
        have hc2 : (((linesF b).isSome) = false) ∨ ((l4.length : Int) < 2) := of_decide_eq_true hc2
        refine At.seq ?_
        refine At.region ?_
        refine AtL.build (cs := [str [], str [], .int .i64 0, .slice none 0 0]) tf_lay47 (.inl rfl) rfl rfl rfl ?_
        refine AtL.store (H' := s5 :: [(b1, .cells #[str [], str [], .int .i64 0, .slice none 0 0] 47 (0, 0))] :: H) 1 0 tf_sz47 (.inl rfl) rfl rfl rfl rfl rfl rfl rfl rfl rfl ?_
        refine AtL.assign (.inl rfl) rfl rfl ?_
        refine AtL.done ?_
        refine At.nil ?_
        have hp : parseF b = (.zero, 400) := by
          rw [parseF, if_neg (by omega)]
          cases hq : linesF b with
          | none => rfl
          | some q =>
            have hql := hlines q hq
            rw [hq] at hc2
            obtain rfl : q = [] := List.eq_nil_of_length_eq_zero (by rw [hql] at hc2; simp at hc2; omega)
            rfl
        exact At.retMP (vs := [.agg #[str [], str [], .int .i64 0, .slice none 0 0], .int .i64 400]) (H2 := [] :: H) [0] 3 rfl rfl Tryz.func81 rfl ⟨⟨_, rfl, LoadsTo.agg (cs := [str [], str [], .int .i64 0, .slice none 0 0]) tf_agg47 rfl (cellsOwn 2 0 0 rfl rfl rfl)⟩, rfl, trivial⟩ (⟨Sl.nil, by rw [hp]; rfl, by rw [hp]; rfl, rfl⟩)
      · intro hc2
        have hc2 : ¬ ((((linesF b).isSome) = false) ∨ ((l4.length : Int) < 2)) := of_decide_eq_false hc2
        obtain ⟨ls, hls⟩ : ∃ ls, linesF b = some ls := Option.isSome_iff_exists.1 (by cases hq : (linesF b).isSome <;> simp_all)
        have hll := hlines ls hls
        have hne : ls.length ≠ 0 := by intro h; have h2 := congrArg List.length hll; simp only [List.length_append, List.length_cons, List.length_nil] at h2; simp only [not_or] at hc2; exact hc2.2 (by omega)
        have hdl : (ls.drop 1).length = ls.length - 1 := by simp
        have hal : l4.length = ls.length + 1 := by rw [hll]; simp
        have hlb := lines_le hls
        have hp0 : parseF b = headF (ls.getD 0 []) (ls.drop 1) := by rw [parseF, if_neg (by omega), hls]; cases ls with | nil => simp at hne | cons a r => rfl
        have h0 : l4.getD 0 [] = ls.getD 0 [] := by rw [hll]; simp only [List.getD]; rw [List.getElem?_append_left (by omega)]
        have hl0 := hlb.1 (ls.getD 0 []) (getD_mem (l := ls) (i := 0) (by omega))
        have hw := spF_le 32 (ls.getD 0 [])
        have hWn : 0 < (spF 32 (ls.getD 0 [])).length := List.length_pos_iff.2 (spF_ne _ _)
        refine At.skip ?_
        refine At.seq ?_
        refine At.region ?_
        refine AtL.move (.inl rfl) rfl rfl ?_
        refine AtL.indexL 0 (o6.rd (i := 0) rfl) Tryz.underlying109 tf_sz9 (.inl rfl) rfl rfl rfl rfl (by omega) ?_
        refine AtL.load (v := str (l4.getD 0 [])) tf_flat9 (.inl rfl) rfl rfl (Rd.cell0 (o6.rd (i := 0) rfl) (getD_some [] (by omega)) rfl) ?_
        rw [h0]
        refine AtL.call tf_body121 (.inl rfl) rfl rfl (rsplit_32 (s := ls.getD 0 []) (by omega)) ?_
        rintro _ _ ⟨⟨A8, C9, l10, s11, o12⟩, hx13, rfl, rfl⟩
        obtain rfl : spF 32 (ls.getD 0 []) = l10 := hx13.symm
        refine AtL.assign (.inl rfl) rfl rfl ?_
        refine AtL.done ?_
        refine At.seq ?_
        refine At.seq ?_
        refine At.region ?_
        refine AtL.move (.inl rfl) rfl rfl ?_
        refine AtL.lenL Tryz.underlying109 (.inl rfl) rfl rfl ?_
        refine AtL.nei (.inl rfl) rfl rfl rfl ?_
        refine AtL.move (.inl rfl) rfl rfl ?_
        refine AtL.join 5 (E' := [(40, .bool (decide ((¬ (((spF 32 (ls.getD 0 [])).length : Int) = 3)) ∨ (((spF 32 (ls.getD 0 [])).getD 0 []) = [])))), (2, .pointer (some ⟨b1, 0, none⟩)), (4, .slice A2 l4.length C3), (6, .slice A8 (spF 32 (ls.getD 0 [])).length C9)]) (H' := s11 :: s5 :: [(b1, .cells #[str [], str [], .int .i64 0, .slice none 0 0] 47 (0, 0))] :: H) (fun J => ?_) ?_
        · refine AtL.split (t := 35) rfl ?_ ?_
          · intro hs35
            have hs35 : ¬ (((spF 32 (ls.getD 0 [])).length : Int) = 3) := of_decide_eq_false (bnot_true hs35)
            refine AtL.skipped rfl rfl rfl rfl rfl rfl ?_
            refine AtL.skipped rfl rfl rfl rfl rfl rfl ?_
            refine AtL.skipped rfl rfl rfl rfl rfl rfl ?_
            refine AtL.skipped rfl rfl rfl rfl rfl rfl ?_
            refine AtL.pickT (.inl rfl) rfl rfl rfl ?_
            exact J _ (by exact ⟨(boolIs (by clear J; first | (simp [hs35]; done) | (simp_all; done) | grind)), rfl, rfl, rfl, trivial⟩)
          · intro hs35
            have hs35 : ((spF 32 (ls.getD 0 [])).length : Int) = 3 := of_decide_eq_true (bnot_false hs35)
            refine AtL.move (.inr ⟨_, _, _, rfl, rfl, rfl, rfl⟩) rfl rfl ?_
            refine AtL.indexL 0 (o12.rd (i := 0) rfl) Tryz.underlying109 tf_sz9 (.inr ⟨_, _, _, rfl, rfl, rfl, rfl⟩) rfl rfl rfl rfl (by omega) ?_
            refine AtL.load (v := str ((spF 32 (ls.getD 0 [])).getD 0 [])) tf_flat9 (.inr ⟨_, _, _, rfl, rfl, rfl, rfl⟩) rfl rfl (Rd.cell0 (o12.rd (i := 0) rfl) (getD_some [] (by omega)) rfl) ?_
            refine AtL.eqs (a := ((spF 32 (ls.getD 0 [])).getD 0 [])) (b := []) (.inr ⟨_, _, _, rfl, rfl, rfl, rfl⟩) rfl rfl rfl ?_
            refine AtL.pickF (.inl rfl) rfl rfl rfl ?_
            exact J _ (by exact ⟨(boolIs (by clear J; first | (simp [hs35]; done) | (simp_all; done) | grind)), rfl, rfl, rfl, trivial⟩)
        · skip
          refine AtL.move (.inl rfl) rfl rfl ?_
          refine AtL.join 5 (E' := [(46, .bool (decide (((¬ (((spF 32 (ls.getD 0 [])).length : Int) = 3)) ∨ (((spF 32 (ls.getD 0 [])).getD 0 []) = [])) ∨ (((spF 32 (ls.getD 0 [])).getD 1 []) = [])))), (2, .pointer (some ⟨b1, 0, none⟩)), (4, .slice A2 l4.length C3), (6, .slice A8 (spF 32 (ls.getD 0 [])).length C9)]) (H' := s11 :: s5 :: [(b1, .cells #[str [], str [], .int .i64 0, .slice none 0 0] 47 (0, 0))] :: H) (fun J => ?_) ?_
          · refine AtL.split (t := 41) rfl ?_ ?_
            · intro hs41
              have hs41 : (¬ (((spF 32 (ls.getD 0 [])).length : Int) = 3)) ∨ (((spF 32 (ls.getD 0 [])).getD 0 []) = []) := of_decide_eq_true hs41
              refine AtL.skipped rfl rfl rfl rfl rfl rfl ?_
              refine AtL.skipped rfl rfl rfl rfl rfl rfl ?_
              refine AtL.skipped rfl rfl rfl rfl rfl rfl ?_
              refine AtL.skipped rfl rfl rfl rfl rfl rfl ?_
              refine AtL.pickT (.inl rfl) rfl rfl rfl ?_
              exact J _ (by exact ⟨(boolIs (by clear J; first | (simp [hs41]; done) | (simp_all; done) | grind)), rfl, rfl, rfl, trivial⟩)
            · intro hs41
              have hs41 : ¬ ((¬ (((spF 32 (ls.getD 0 [])).length : Int) = 3)) ∨ (((spF 32 (ls.getD 0 [])).getD 0 []) = [])) := of_decide_eq_false hs41
              have hW3 : (spF 32 (ls.getD 0 [])).length = 3 := by simp only [not_or, Classical.not_not] at hs41; omega
              refine AtL.move (.inr ⟨_, _, _, rfl, rfl, rfl, rfl⟩) rfl rfl ?_
              refine AtL.indexL 1 (o12.rd (i := 0) rfl) Tryz.underlying109 tf_sz9 (.inr ⟨_, _, _, rfl, rfl, rfl, rfl⟩) rfl rfl rfl rfl (by omega) ?_
              refine AtL.load (v := str ((spF 32 (ls.getD 0 [])).getD 1 [])) tf_flat9 (.inr ⟨_, _, _, rfl, rfl, rfl, rfl⟩) rfl rfl (Rd.cell0 (o12.rd (i := 0) rfl) (getD_some [] (by omega)) rfl) ?_
              refine AtL.eqs (a := ((spF 32 (ls.getD 0 [])).getD 1 [])) (b := []) (.inr ⟨_, _, _, rfl, rfl, rfl, rfl⟩) rfl rfl rfl ?_
              refine AtL.pickF (.inl rfl) rfl rfl rfl ?_
              exact J _ (by exact ⟨(boolIs (by clear J; first | (simp [hs41]; done) | (simp_all; done) | grind)), rfl, rfl, rfl, trivial⟩)
          · skip
            refine AtL.move (.inl rfl) rfl rfl ?_
            refine AtL.join 5 (E' := [(52, .bool (decide ((((¬ (((spF 32 (ls.getD 0 [])).length : Int) = 3)) ∨ (((spF 32 (ls.getD 0 [])).getD 0 []) = [])) ∨ (((spF 32 (ls.getD 0 [])).getD 1 []) = [])) ∨ (((spF 32 (ls.getD 0 [])).getD 2 []) = [])))), (2, .pointer (some ⟨b1, 0, none⟩)), (4, .slice A2 l4.length C3), (6, .slice A8 (spF 32 (ls.getD 0 [])).length C9)]) (H' := s11 :: s5 :: [(b1, .cells #[str [], str [], .int .i64 0, .slice none 0 0] 47 (0, 0))] :: H) (fun J => ?_) ?_
            · refine AtL.split (t := 47) rfl ?_ ?_
              · intro hs47
                have hs47 : ((¬ (((spF 32 (ls.getD 0 [])).length : Int) = 3)) ∨ (((spF 32 (ls.getD 0 [])).getD 0 []) = [])) ∨ (((spF 32 (ls.getD 0 [])).getD 1 []) = []) := of_decide_eq_true hs47
                refine AtL.skipped rfl rfl rfl rfl rfl rfl ?_
                refine AtL.skipped rfl rfl rfl rfl rfl rfl ?_
                refine AtL.skipped rfl rfl rfl rfl rfl rfl ?_
                refine AtL.skipped rfl rfl rfl rfl rfl rfl ?_
                refine AtL.pickT (.inl rfl) rfl rfl rfl ?_
                exact J _ (by exact ⟨(boolIs (by clear J; first | (simp [hs47]; done) | (simp_all; done) | grind)), rfl, rfl, rfl, trivial⟩)
              · intro hs47
                have hs47 : ¬ (((¬ (((spF 32 (ls.getD 0 [])).length : Int) = 3)) ∨ (((spF 32 (ls.getD 0 [])).getD 0 []) = [])) ∨ (((spF 32 (ls.getD 0 [])).getD 1 []) = [])) := of_decide_eq_false hs47
                have hW3 : (spF 32 (ls.getD 0 [])).length = 3 := by simp only [not_or, Classical.not_not] at hs47; omega
                refine AtL.move (.inr ⟨_, _, _, rfl, rfl, rfl, rfl⟩) rfl rfl ?_
                refine AtL.indexL 2 (o12.rd (i := 0) rfl) Tryz.underlying109 tf_sz9 (.inr ⟨_, _, _, rfl, rfl, rfl, rfl⟩) rfl rfl rfl rfl (by omega) ?_
                refine AtL.load (v := str ((spF 32 (ls.getD 0 [])).getD 2 [])) tf_flat9 (.inr ⟨_, _, _, rfl, rfl, rfl, rfl⟩) rfl rfl (Rd.cell0 (o12.rd (i := 0) rfl) (getD_some [] (by omega)) rfl) ?_
                refine AtL.eqs (a := ((spF 32 (ls.getD 0 [])).getD 2 [])) (b := []) (.inr ⟨_, _, _, rfl, rfl, rfl, rfl⟩) rfl rfl rfl ?_
                refine AtL.pickF (.inl rfl) rfl rfl rfl ?_
                exact J _ (by exact ⟨(boolIs (by clear J; first | (simp [hs47]; done) | (simp_all; done) | grind)), rfl, rfl, rfl, trivial⟩)
            · skip
              refine AtL.move (.inl rfl) rfl rfl ?_
              refine AtL.join 6 (E' := [(59, .bool (decide (((((¬ (((spF 32 (ls.getD 0 [])).length : Int) = 3)) ∨ (((spF 32 (ls.getD 0 [])).getD 0 []) = [])) ∨ (((spF 32 (ls.getD 0 [])).getD 1 []) = [])) ∨ (((spF 32 (ls.getD 0 [])).getD 2 []) = [])) ∨ ((wordF ((spF 32 (ls.getD 0 [])).getD 0 []) 16) = false)))), (2, .pointer (some ⟨b1, 0, none⟩)), (4, .slice A2 l4.length C3), (6, .slice A8 (spF 32 (ls.getD 0 [])).length C9)]) (H' := s11 :: s5 :: [(b1, .cells #[str [], str [], .int .i64 0, .slice none 0 0] 47 (0, 0))] :: H) (fun J => ?_) ?_
              · refine AtL.split (t := 53) rfl ?_ ?_
                · intro hs53
                  have hs53 : (((¬ (((spF 32 (ls.getD 0 [])).length : Int) = 3)) ∨ (((spF 32 (ls.getD 0 [])).getD 0 []) = [])) ∨ (((spF 32 (ls.getD 0 [])).getD 1 []) = [])) ∨ (((spF 32 (ls.getD 0 [])).getD 2 []) = []) := of_decide_eq_true hs53
                  refine AtL.skipped rfl rfl rfl rfl rfl rfl ?_
                  refine AtL.skipped rfl rfl rfl rfl rfl rfl ?_
                  refine AtL.skipped rfl rfl rfl rfl rfl rfl ?_
                  refine AtL.skipped rfl rfl rfl rfl rfl rfl ?_
                  refine AtL.skipped rfl rfl rfl rfl rfl rfl ?_
                  refine AtL.pickT (.inl rfl) rfl rfl rfl ?_
                  exact J _ (by exact ⟨(boolIs (by clear J; first | (simp [hs53]; done) | (simp_all; done) | grind)), rfl, rfl, rfl, trivial⟩)
                · intro hs53
                  have hs53 : ¬ ((((¬ (((spF 32 (ls.getD 0 [])).length : Int) = 3)) ∨ (((spF 32 (ls.getD 0 [])).getD 0 []) = [])) ∨ (((spF 32 (ls.getD 0 [])).getD 1 []) = [])) ∨ (((spF 32 (ls.getD 0 [])).getD 2 []) = [])) := of_decide_eq_false hs53
                  have hW3 : (spF 32 (ls.getD 0 [])).length = 3 := by simp only [not_or, Classical.not_not] at hs53; omega
                  refine AtL.move (.inr ⟨_, _, _, rfl, rfl, rfl, rfl⟩) rfl rfl ?_
                  refine AtL.indexL 0 (o12.rd (i := 0) rfl) Tryz.underlying109 tf_sz9 (.inr ⟨_, _, _, rfl, rfl, rfl, rfl⟩) rfl rfl rfl rfl (by omega) ?_
                  refine AtL.load (v := str ((spF 32 (ls.getD 0 [])).getD 0 [])) tf_flat9 (.inr ⟨_, _, _, rfl, rfl, rfl, rfl⟩) rfl rfl (Rd.cell0 (o12.rd (i := 0) rfl) (getD_some [] (by omega)) rfl) ?_
                  refine AtL.call tf_body109 (.inr ⟨_, _, _, rfl, rfl, rfl, rfl⟩) rfl rfl (rword_ok (l := ((spF 32 (ls.getD 0 [])).getD 0 [])) (by have := hw ((spF 32 (ls.getD 0 [])).getD 0 []) (getD_mem (l := spF 32 (ls.getD 0 [])) (i := 0) (by omega)); omega) 16) ?_
                  rintro _ _ ⟨rfl, rfl⟩
                  refine AtL.not (.inr ⟨_, _, _, rfl, rfl, rfl, rfl⟩) rfl rfl ?_
                  refine AtL.pickF (.inl rfl) rfl rfl rfl ?_
                  exact J _ (by exact ⟨(boolIs (by clear J; first | (simp [hs53]; done) | (simp_all; done) | grind)), rfl, rfl, rfl, trivial⟩)
              · skip
                refine AtL.done ?_
                refine At.cond rfl ?_ ?_
                · intro hc3
                  have hc3 : ((((¬ (((spF 32 (ls.getD 0 [])).length : Int) = 3)) ∨ (((spF 32 (ls.getD 0 [])).getD 0 []) = [])) ∨ (((spF 32 (ls.getD 0 [])).getD 1 []) = [])) ∨ (((spF 32 (ls.getD 0 [])).getD 2 []) = [])) ∨ ((wordF ((spF 32 (ls.getD 0 [])).getD 0 []) 16) = false) := of_decide_eq_true hc3
                  refine At.seq ?_
                  refine At.region ?_
                  refine AtL.build (cs := [str [], str [], .int .i64 0, .slice none 0 0]) tf_lay47 (.inl rfl) rfl rfl rfl ?_
                  refine AtL.store (H' := s11 :: s5 :: [(b1, .cells #[str [], str [], .int .i64 0, .slice none 0 0] 47 (0, 0))] :: H) 2 0 tf_sz47 (.inl rfl) rfl rfl rfl rfl rfl rfl rfl rfl rfl ?_
                  refine AtL.assign (.inl rfl) rfl rfl ?_
                  refine AtL.done ?_
                  refine At.nil ?_
                  have hp : parseF b = (.zero, 400) := by rw [hp0, headF_eq, if_pos (by rcases hc3 with (((h3 | h3) | h3) | h3) | h3; exact .inl (by omega); exact .inr (.inl h3); exact .inr (.inr (.inl h3)); exact .inr (.inr (.inr (.inl h3))); exact .inr (.inr (.inr (.inr h3))))]
                  exact At.retMP (vs := [.agg #[str [], str [], .int .i64 0, .slice none 0 0], .int .i64 400]) (H2 := [] :: H) [0] 4 rfl rfl Tryz.func81 rfl ⟨⟨_, rfl, LoadsTo.agg (cs := [str [], str [], .int .i64 0, .slice none 0 0]) tf_agg47 rfl (cellsOwn 3 0 0 rfl rfl rfl)⟩, rfl, trivial⟩ (⟨Sl.nil, by rw [hp]; rfl, by rw [hp]; rfl, rfl⟩)
                · intro hc3
                  have hc3 : ¬ (((((¬ (((spF 32 (ls.getD 0 [])).length : Int) = 3)) ∨ (((spF 32 (ls.getD 0 [])).getD 0 []) = [])) ∨ (((spF 32 (ls.getD 0 [])).getD 1 []) = [])) ∨ (((spF 32 (ls.getD 0 [])).getD 2 []) = [])) ∨ ((wordF ((spF 32 (ls.getD 0 [])).getD 0 []) 16) = false)) := of_decide_eq_false hc3
                  have hW3 : (spF 32 (ls.getD 0 [])).length = 3 := by simp only [not_or] at hc3; omega
                  have hn3 : ¬ (¬ (spF 32 (ls.getD 0 [])).length = 3 ∨ (spF 32 (ls.getD 0 [])).getD 0 [] = [] ∨ (spF 32 (ls.getD 0 [])).getD 1 [] = [] ∨ (spF 32 (ls.getD 0 [])).getD 2 [] = [] ∨ wordF ((spF 32 (ls.getD 0 [])).getD 0 []) 16 = false) := by simp only [not_or] at hc3 ⊢; exact ⟨by omega, hc3.1.1.1.2, hc3.1.1.2, hc3.1.2, by simpa using hc3.2⟩
                  refine At.skip ?_
                  refine At.seq ?_
                  refine At.region ?_
                  refine AtL.move (.inl rfl) rfl rfl ?_
                  refine AtL.indexL 2 (o12.rd (i := 0) rfl) Tryz.underlying109 tf_sz9 (.inl rfl) rfl rfl rfl rfl (by omega) ?_
                  refine AtL.load (v := str ((spF 32 (ls.getD 0 [])).getD 2 [])) tf_flat9 (.inl rfl) rfl rfl (Rd.cell0 (o12.rd (i := 0) rfl) (getD_some [] (by omega)) rfl) ?_
                  refine AtL.assign (.inl rfl) rfl rfl ?_
                  refine AtL.done ?_
                  refine At.seq ?_
                  refine At.seq ?_
                  refine At.region ?_
                  refine AtL.move (.inl rfl) rfl rfl ?_
                  refine AtL.lenS (l := ((spF 32 (ls.getD 0 [])).getD 2 [])) Tryz.underlying9 (.inl rfl) rfl rfl ?_
                  refine AtL.nei (.inl rfl) rfl rfl rfl ?_
                  refine AtL.move (.inl rfl) rfl rfl ?_
                  refine AtL.join 4 (E' := [(71, .bool (decide ((¬ ((((spF 32 (ls.getD 0 [])).getD 2 []).length : Int) = 8)) ∨ (¬ (subl ((spF 32 (ls.getD 0 [])).getD 2 []) 0 5 = [72, 84, 84, 80, 47]))))), (2, .pointer (some ⟨b1, 0, none⟩)), (4, .slice A2 l4.length C3), (6, .slice A8 (spF 32 (ls.getD 0 [])).length C9), (7, str ((spF 32 (ls.getD 0 [])).getD 2 []))]) (H' := s11 :: s5 :: [(b1, .cells #[str [], str [], .int .i64 0, .slice none 0 0] 47 (0, 0))] :: H) (fun J => ?_) ?_
                  · refine AtL.split (t := 67) rfl ?_ ?_
                    · intro hs67
                      have hs67 : ¬ ((((spF 32 (ls.getD 0 [])).getD 2 []).length : Int) = 8) := of_decide_eq_false (bnot_true hs67)
                      refine AtL.skipped rfl rfl rfl rfl rfl rfl ?_
                      refine AtL.skipped rfl rfl rfl rfl rfl rfl ?_
                      refine AtL.skipped rfl rfl rfl rfl rfl rfl ?_
                      refine AtL.pickT (.inl rfl) rfl rfl rfl ?_
                      exact J _ (by exact ⟨(boolIs (by clear J; first | (simp [hs67]; done) | (simp_all; done) | grind)), rfl, rfl, rfl, rfl, trivial⟩)
                    · intro hs67
                      have hs67 : (((spF 32 (ls.getD 0 [])).getD 2 []).length : Int) = 8 := of_decide_eq_true (bnot_false hs67)
                      refine AtL.move (.inr ⟨_, _, _, rfl, rfl, rfl, rfl⟩) rfl rfl ?_
                      refine AtL.sliceS (l := ((spF 32 (ls.getD 0 [])).getD 2 [])) 0 5 rfl (evBound_some rfl rfl) (by omega) (by omega) Tryz.underlying9 (.inr ⟨_, _, _, rfl, rfl, rfl, rfl⟩) rfl rfl ?_
                      refine AtL.nes (a := subl ((spF 32 (ls.getD 0 [])).getD 2 []) 0 5) (b := [72, 84, 84, 80, 47]) (.inr ⟨_, _, _, rfl, rfl, rfl, rfl⟩) rfl rfl rfl ?_
                      refine AtL.pickF (.inl rfl) rfl rfl rfl ?_
                      exact J _ (by exact ⟨(boolIs (by clear J; first | (simp [hs67]; done) | (simp_all; done) | grind)), rfl, rfl, rfl, rfl, trivial⟩)
                  · skip
                    refine AtL.move (.inl rfl) rfl rfl ?_
                    refine AtL.join 5 (E' := [(77, .bool (decide (((¬ ((((spF 32 (ls.getD 0 [])).getD 2 []).length : Int) = 8)) ∨ (¬ (subl ((spF 32 (ls.getD 0 [])).getD 2 []) 0 5 = [72, 84, 84, 80, 47]))) ∨ (¬ (48 ≤ ((((spF 32 (ls.getD 0 [])).getD 2 []).getD 5 0).toNat : Int) ∧ ((((spF 32 (ls.getD 0 [])).getD 2 []).getD 5 0).toNat : Int) ≤ 57))))), (2, .pointer (some ⟨b1, 0, none⟩)), (4, .slice A2 l4.length C3), (6, .slice A8 (spF 32 (ls.getD 0 [])).length C9), (7, str ((spF 32 (ls.getD 0 [])).getD 2 []))]) (H' := s11 :: s5 :: [(b1, .cells #[str [], str [], .int .i64 0, .slice none 0 0] 47 (0, 0))] :: H) (fun J => ?_) ?_
                    · refine AtL.split (t := 72) rfl ?_ ?_
                      · intro hs72
                        have hs72 : (¬ ((((spF 32 (ls.getD 0 [])).getD 2 []).length : Int) = 8)) ∨ (¬ (subl ((spF 32 (ls.getD 0 [])).getD 2 []) 0 5 = [72, 84, 84, 80, 47])) := of_decide_eq_true hs72
                        refine AtL.skipped rfl rfl rfl rfl rfl rfl ?_
                        refine AtL.skipped rfl rfl rfl rfl rfl rfl ?_
                        refine AtL.skipped rfl rfl rfl rfl rfl rfl ?_
                        refine AtL.skipped rfl rfl rfl rfl rfl rfl ?_
                        refine AtL.pickT (.inl rfl) rfl rfl rfl ?_
                        exact J _ (by exact ⟨(boolIs (by clear J; first | (simp [hs72]; done) | (simp_all; done) | grind)), rfl, rfl, rfl, rfl, trivial⟩)
                      · intro hs72
                        have hs72 : ¬ ((¬ ((((spF 32 (ls.getD 0 [])).getD 2 []).length : Int) = 8)) ∨ (¬ (subl ((spF 32 (ls.getD 0 [])).getD 2 []) 0 5 = [72, 84, 84, 80, 47]))) := of_decide_eq_false hs72
                        have h8 : ((spF 32 (ls.getD 0 [])).getD 2 []).length = 8 := by simp only [not_or, Classical.not_not] at hs72; omega
                        refine AtL.move (.inr ⟨_, _, _, rfl, rfl, rfl, rfl⟩) rfl rfl ?_
                        refine AtL.indexS (l := ((spF 32 (ls.getD 0 [])).getD 2 [])) 5 rfl (by omega) Tryz.underlying9 (.inr ⟨_, _, _, rfl, rfl, rfl, rfl⟩) rfl rfl rfl ?_
                        refine AtL.call tf_body122 (.inr ⟨_, _, _, rfl, rfl, rfl, rfl⟩) rfl rfl (rdigit_ok (((spF 32 (ls.getD 0 [])).getD 2 []).getD 5 0)) ?_
                        rintro _ _ ⟨rfl, rfl⟩
                        refine AtL.not (.inr ⟨_, _, _, rfl, rfl, rfl, rfl⟩) rfl rfl ?_
                        refine AtL.pickF (.inl rfl) rfl rfl rfl ?_
                        exact J _ (by exact ⟨(boolIs (by clear J; first | (simp [hs72]; done) | (simp_all; done) | grind)), rfl, rfl, rfl, rfl, trivial⟩)
                    · skip
                      refine AtL.move (.inl rfl) rfl rfl ?_
                      refine AtL.join 4 (E' := [(82, .bool (decide ((((¬ ((((spF 32 (ls.getD 0 [])).getD 2 []).length : Int) = 8)) ∨ (¬ (subl ((spF 32 (ls.getD 0 [])).getD 2 []) 0 5 = [72, 84, 84, 80, 47]))) ∨ (¬ (48 ≤ ((((spF 32 (ls.getD 0 [])).getD 2 []).getD 5 0).toNat : Int) ∧ ((((spF 32 (ls.getD 0 [])).getD 2 []).getD 5 0).toNat : Int) ≤ 57))) ∨ (¬ (((((spF 32 (ls.getD 0 [])).getD 2 []).getD 6 0).toNat : Int) = 46))))), (2, .pointer (some ⟨b1, 0, none⟩)), (4, .slice A2 l4.length C3), (6, .slice A8 (spF 32 (ls.getD 0 [])).length C9), (7, str ((spF 32 (ls.getD 0 [])).getD 2 []))]) (H' := s11 :: s5 :: [(b1, .cells #[str [], str [], .int .i64 0, .slice none 0 0] 47 (0, 0))] :: H) (fun J => ?_) ?_
                      · refine AtL.split (t := 78) rfl ?_ ?_
                        · intro hs78
                          have hs78 : ((¬ ((((spF 32 (ls.getD 0 [])).getD 2 []).length : Int) = 8)) ∨ (¬ (subl ((spF 32 (ls.getD 0 [])).getD 2 []) 0 5 = [72, 84, 84, 80, 47]))) ∨ (¬ (48 ≤ ((((spF 32 (ls.getD 0 [])).getD 2 []).getD 5 0).toNat : Int) ∧ ((((spF 32 (ls.getD 0 [])).getD 2 []).getD 5 0).toNat : Int) ≤ 57)) := of_decide_eq_true hs78
                          refine AtL.skipped rfl rfl rfl rfl rfl rfl ?_
                          refine AtL.skipped rfl rfl rfl rfl rfl rfl ?_
                          refine AtL.skipped rfl rfl rfl rfl rfl rfl ?_
                          refine AtL.pickT (.inl rfl) rfl rfl rfl ?_
                          exact J _ (by exact ⟨(boolIs (by clear J; first | (simp [hs78]; done) | (simp_all; done) | grind)), rfl, rfl, rfl, rfl, trivial⟩)
                        · intro hs78
                          have hs78 : ¬ (((¬ ((((spF 32 (ls.getD 0 [])).getD 2 []).length : Int) = 8)) ∨ (¬ (subl ((spF 32 (ls.getD 0 [])).getD 2 []) 0 5 = [72, 84, 84, 80, 47]))) ∨ (¬ (48 ≤ ((((spF 32 (ls.getD 0 [])).getD 2 []).getD 5 0).toNat : Int) ∧ ((((spF 32 (ls.getD 0 [])).getD 2 []).getD 5 0).toNat : Int) ≤ 57))) := of_decide_eq_false hs78
                          have h8 : ((spF 32 (ls.getD 0 [])).getD 2 []).length = 8 := by simp only [not_or, Classical.not_not] at hs78; omega
                          refine AtL.move (.inr ⟨_, _, _, rfl, rfl, rfl, rfl⟩) rfl rfl ?_
                          refine AtL.indexS (l := ((spF 32 (ls.getD 0 [])).getD 2 [])) 6 rfl (by omega) Tryz.underlying9 (.inr ⟨_, _, _, rfl, rfl, rfl, rfl⟩) rfl rfl rfl ?_
                          refine AtL.nei (.inr ⟨_, _, _, rfl, rfl, rfl, rfl⟩) rfl rfl rfl ?_
                          refine AtL.pickF (.inl rfl) rfl rfl rfl ?_
                          exact J _ (by exact ⟨(boolIs (by clear J; first | (simp [hs78]; done) | (simp_all; done) | grind)), rfl, rfl, rfl, rfl, trivial⟩)
                      · skip
                        refine AtL.move (.inl rfl) rfl rfl ?_
                        refine AtL.join 5 (E' := [(88, .bool (decide (((((¬ ((((spF 32 (ls.getD 0 [])).getD 2 []).length : Int) = 8)) ∨ (¬ (subl ((spF 32 (ls.getD 0 [])).getD 2 []) 0 5 = [72, 84, 84, 80, 47]))) ∨ (¬ (48 ≤ ((((spF 32 (ls.getD 0 [])).getD 2 []).getD 5 0).toNat : Int) ∧ ((((spF 32 (ls.getD 0 [])).getD 2 []).getD 5 0).toNat : Int) ≤ 57))) ∨ (¬ (((((spF 32 (ls.getD 0 [])).getD 2 []).getD 6 0).toNat : Int) = 46))) ∨ (¬ (48 ≤ ((((spF 32 (ls.getD 0 [])).getD 2 []).getD 7 0).toNat : Int) ∧ ((((spF 32 (ls.getD 0 [])).getD 2 []).getD 7 0).toNat : Int) ≤ 57))))), (2, .pointer (some ⟨b1, 0, none⟩)), (4, .slice A2 l4.length C3), (6, .slice A8 (spF 32 (ls.getD 0 [])).length C9), (7, str ((spF 32 (ls.getD 0 [])).getD 2 []))]) (H' := s11 :: s5 :: [(b1, .cells #[str [], str [], .int .i64 0, .slice none 0 0] 47 (0, 0))] :: H) (fun J => ?_) ?_
                        · refine AtL.split (t := 83) rfl ?_ ?_
                          · intro hs83
                            have hs83 : (((¬ ((((spF 32 (ls.getD 0 [])).getD 2 []).length : Int) = 8)) ∨ (¬ (subl ((spF 32 (ls.getD 0 [])).getD 2 []) 0 5 = [72, 84, 84, 80, 47]))) ∨ (¬ (48 ≤ ((((spF 32 (ls.getD 0 [])).getD 2 []).getD 5 0).toNat : Int) ∧ ((((spF 32 (ls.getD 0 [])).getD 2 []).getD 5 0).toNat : Int) ≤ 57))) ∨ (¬ (((((spF 32 (ls.getD 0 [])).getD 2 []).getD 6 0).toNat : Int) = 46)) := of_decide_eq_true hs83
                            refine AtL.skipped rfl rfl rfl rfl rfl rfl ?_
                            refine AtL.skipped rfl rfl rfl rfl rfl rfl ?_
                            refine AtL.skipped rfl rfl rfl rfl rfl rfl ?_
                            refine AtL.skipped rfl rfl rfl rfl rfl rfl ?_
                            refine AtL.pickT (.inl rfl) rfl rfl rfl ?_
                            exact J _ (by exact ⟨(boolIs (by clear J; first | (simp [hs83]; done) | (simp_all; done) | grind)), rfl, rfl, rfl, rfl, trivial⟩)
                          · intro hs83
                            have hs83 : ¬ ((((¬ ((((spF 32 (ls.getD 0 [])).getD 2 []).length : Int) = 8)) ∨ (¬ (subl ((spF 32 (ls.getD 0 [])).getD 2 []) 0 5 = [72, 84, 84, 80, 47]))) ∨ (¬ (48 ≤ ((((spF 32 (ls.getD 0 [])).getD 2 []).getD 5 0).toNat : Int) ∧ ((((spF 32 (ls.getD 0 [])).getD 2 []).getD 5 0).toNat : Int) ≤ 57))) ∨ (¬ (((((spF 32 (ls.getD 0 [])).getD 2 []).getD 6 0).toNat : Int) = 46))) := of_decide_eq_false hs83
                            have h8 : ((spF 32 (ls.getD 0 [])).getD 2 []).length = 8 := by simp only [not_or, Classical.not_not] at hs83; omega
                            refine AtL.move (.inr ⟨_, _, _, rfl, rfl, rfl, rfl⟩) rfl rfl ?_
                            refine AtL.indexS (l := ((spF 32 (ls.getD 0 [])).getD 2 [])) 7 rfl (by omega) Tryz.underlying9 (.inr ⟨_, _, _, rfl, rfl, rfl, rfl⟩) rfl rfl rfl ?_
                            refine AtL.call tf_body122 (.inr ⟨_, _, _, rfl, rfl, rfl, rfl⟩) rfl rfl (rdigit_ok (((spF 32 (ls.getD 0 [])).getD 2 []).getD 7 0)) ?_
                            rintro _ _ ⟨rfl, rfl⟩
                            refine AtL.not (.inr ⟨_, _, _, rfl, rfl, rfl, rfl⟩) rfl rfl ?_
                            refine AtL.pickF (.inl rfl) rfl rfl rfl ?_
                            exact J _ (by exact ⟨(boolIs (by clear J; first | (simp [hs83]; done) | (simp_all; done) | grind)), rfl, rfl, rfl, rfl, trivial⟩)
                        · skip
                          refine AtL.done ?_
                          refine At.cond rfl ?_ ?_
                          · intro hc4
                            have hc4 : ((((¬ ((((spF 32 (ls.getD 0 [])).getD 2 []).length : Int) = 8)) ∨ (¬ (subl ((spF 32 (ls.getD 0 [])).getD 2 []) 0 5 = [72, 84, 84, 80, 47]))) ∨ (¬ (48 ≤ ((((spF 32 (ls.getD 0 [])).getD 2 []).getD 5 0).toNat : Int) ∧ ((((spF 32 (ls.getD 0 [])).getD 2 []).getD 5 0).toNat : Int) ≤ 57))) ∨ (¬ (((((spF 32 (ls.getD 0 [])).getD 2 []).getD 6 0).toNat : Int) = 46))) ∨ (¬ (48 ≤ ((((spF 32 (ls.getD 0 [])).getD 2 []).getD 7 0).toNat : Int) ∧ ((((spF 32 (ls.getD 0 [])).getD 2 []).getD 7 0).toNat : Int) ≤ 57)) := of_decide_eq_true hc4
                            refine At.seq ?_
                            refine At.region ?_
                            refine AtL.build (cs := [str [], str [], .int .i64 0, .slice none 0 0]) tf_lay47 (.inl rfl) rfl rfl rfl ?_
                            refine AtL.store (H' := s11 :: s5 :: [(b1, .cells #[str [], str [], .int .i64 0, .slice none 0 0] 47 (0, 0))] :: H) 2 0 tf_sz47 (.inl rfl) rfl rfl rfl rfl rfl rfl rfl rfl rfl ?_
                            refine AtL.assign (.inl rfl) rfl rfl ?_
                            refine AtL.done ?_
                            refine At.nil ?_
                            have hver : verF ((spF 32 (ls.getD 0 [])).getD 2 []) = false := ver_no (by rintro ⟨a, b, c, d, e⟩; rcases hc4 with (((h | h) | h) | h) | h <;> contradiction)
                            have hp : parseF b = (.zero, 400) := by rw [hp0, headF_eq, if_neg hn3, if_pos hver]
                            exact At.retMP (vs := [.agg #[str [], str [], .int .i64 0, .slice none 0 0], .int .i64 400]) (H2 := [] :: H) [0] 4 rfl rfl Tryz.func81 rfl ⟨⟨_, rfl, LoadsTo.agg (cs := [str [], str [], .int .i64 0, .slice none 0 0]) tf_agg47 rfl (cellsOwn 3 0 0 rfl rfl rfl)⟩, rfl, trivial⟩ (⟨Sl.nil, by rw [hp]; rfl, by rw [hp]; rfl, rfl⟩)
                          · intro hc4
                            have hc4 : ¬ (((((¬ ((((spF 32 (ls.getD 0 [])).getD 2 []).length : Int) = 8)) ∨ (¬ (subl ((spF 32 (ls.getD 0 [])).getD 2 []) 0 5 = [72, 84, 84, 80, 47]))) ∨ (¬ (48 ≤ ((((spF 32 (ls.getD 0 [])).getD 2 []).getD 5 0).toNat : Int) ∧ ((((spF 32 (ls.getD 0 [])).getD 2 []).getD 5 0).toNat : Int) ≤ 57))) ∨ (¬ (((((spF 32 (ls.getD 0 [])).getD 2 []).getD 6 0).toNat : Int) = 46))) ∨ (¬ (48 ≤ ((((spF 32 (ls.getD 0 [])).getD 2 []).getD 7 0).toNat : Int) ∧ ((((spF 32 (ls.getD 0 [])).getD 2 []).getD 7 0).toNat : Int) ≤ 57))) := of_decide_eq_false hc4
                            simp only [not_or, Decidable.not_not] at hc4
                            obtain ⟨⟨⟨⟨v1, v2⟩, v3⟩, v4⟩, v5⟩ := hc4
                            have hver : verF ((spF 32 (ls.getD 0 [])).getD 2 []) = true := ver_yes v1 v2 v3 v4 v5
                            have h8 : ((spF 32 (ls.getD 0 [])).getD 2 []).length = 8 := by omega
                            refine At.skip ?_
                            refine At.seq ?_
                            refine At.seq ?_
                            refine At.region ?_
                            refine AtL.move (.inl rfl) rfl rfl ?_
                            refine AtL.nes (a := ((spF 32 (ls.getD 0 [])).getD 2 [])) (b := [72, 84, 84, 80, 47, 49, 46, 48]) (.inl rfl) rfl rfl rfl ?_
                            refine AtL.move (.inl rfl) rfl rfl ?_
                            refine AtL.join 3 (E' := [(95, .bool (decide ((¬ (((spF 32 (ls.getD 0 [])).getD 2 []) = [72, 84, 84, 80, 47, 49, 46, 48])) ∧ (¬ (((spF 32 (ls.getD 0 [])).getD 2 []) = [72, 84, 84, 80, 47, 49, 46, 49]))))), (2, .pointer (some ⟨b1, 0, none⟩)), (4, .slice A2 l4.length C3), (6, .slice A8 (spF 32 (ls.getD 0 [])).length C9), (7, str ((spF 32 (ls.getD 0 [])).getD 2 []))]) (H' := s11 :: s5 :: [(b1, .cells #[str [], str [], .int .i64 0, .slice none 0 0] 47 (0, 0))] :: H) (fun J => ?_) ?_
                            · refine AtL.split (t := 92) rfl ?_ ?_
                              · intro hs92
                                have hs92 : ¬ (((spF 32 (ls.getD 0 [])).getD 2 []) = [72, 84, 84, 80, 47, 49, 46, 48]) := of_decide_eq_false (bnot_true hs92)
                                refine AtL.move (.inr ⟨_, _, _, rfl, rfl, rfl, rfl⟩) rfl rfl ?_
                                refine AtL.nes (a := ((spF 32 (ls.getD 0 [])).getD 2 [])) (b := [72, 84, 84, 80, 47, 49, 46, 49]) (.inr ⟨_, _, _, rfl, rfl, rfl, rfl⟩) rfl rfl rfl ?_
                                refine AtL.pickT (.inl rfl) rfl rfl rfl ?_
                                exact J _ (by exact ⟨(boolIs (by clear J; first | (simp [hs92]; done) | (simp_all; done) | grind)), rfl, rfl, rfl, rfl, trivial⟩)
                              · intro hs92
                                have hs92 : ((spF 32 (ls.getD 0 [])).getD 2 []) = [72, 84, 84, 80, 47, 49, 46, 48] := of_decide_eq_true (bnot_false hs92)
                                refine AtL.skipped rfl rfl rfl rfl rfl rfl ?_
                                refine AtL.skipped rfl rfl rfl rfl rfl rfl ?_
                                refine AtL.pickF (.inl rfl) rfl rfl rfl ?_
                                exact J _ (by exact ⟨(boolIs (by clear J; first | (simp [hs92]; done) | (simp_all; done) | grind)), rfl, rfl, rfl, rfl, trivial⟩)
                            · skip
                              refine AtL.done ?_
                              refine At.cond rfl ?_ ?_
                              · intro hc5
                                have hc5 : (¬ (((spF 32 (ls.getD 0 [])).getD 2 []) = [72, 84, 84, 80, 47, 49, 46, 48])) ∧ (¬ (((spF 32 (ls.getD 0 [])).getD 2 []) = [72, 84, 84, 80, 47, 49, 46, 49])) := of_decide_eq_true hc5
                                refine At.seq ?_
                                refine At.region ?_
                                refine AtL.build (cs := [str [], str [], .int .i64 0, .slice none 0 0]) tf_lay47 (.inl rfl) rfl rfl rfl ?_
                                refine AtL.store (H' := s11 :: s5 :: [(b1, .cells #[str [], str [], .int .i64 0, .slice none 0 0] 47 (0, 0))] :: H) 2 0 tf_sz47 (.inl rfl) rfl rfl rfl rfl rfl rfl rfl rfl rfl ?_
                                refine AtL.assign (.inl rfl) rfl rfl ?_
                                refine AtL.done ?_
                                refine At.nil ?_
                                have hp : parseF b = (.zero, 505) := by rw [hp0, headF_eq, if_neg hn3, if_neg (by rw [hver]; simp), if_pos ((ver_is hver).1 hc5)]
                                exact At.retMP (vs := [.agg #[str [], str [], .int .i64 0, .slice none 0 0], .int .i64 505]) (H2 := [] :: H) [0] 4 rfl rfl Tryz.func81 rfl ⟨⟨_, rfl, LoadsTo.agg (cs := [str [], str [], .int .i64 0, .slice none 0 0]) tf_agg47 rfl (cellsOwn 3 0 0 rfl rfl rfl)⟩, rfl, trivial⟩ (⟨Sl.nil, by rw [hp]; rfl, by rw [hp]; rfl, rfl⟩)
                              · intro hc5
                                have hc5 : ¬ ((¬ (((spF 32 (ls.getD 0 [])).getD 2 []) = [72, 84, 84, 80, 47, 49, 46, 48])) ∧ (¬ (((spF 32 (ls.getD 0 [])).getD 2 []) = [72, 84, 84, 80, 47, 49, 46, 49]))) := of_decide_eq_false hc5
                                refine At.skip ?_
                                refine At.seq ?_
                                refine At.seq ?_
                                refine At.region ?_
                                refine AtL.move (.inl rfl) rfl rfl ?_
                                refine AtL.indexL 1 (o12.rd (i := 0) rfl) Tryz.underlying109 tf_sz9 (.inl rfl) rfl rfl rfl rfl (by omega) ?_
                                refine AtL.load (v := str ((spF 32 (ls.getD 0 [])).getD 1 [])) tf_flat9 (.inl rfl) rfl rfl (Rd.cell0 (o12.rd (i := 0) rfl) (getD_some [] (by omega)) rfl) ?_
                                refine AtL.lenS (l := ((spF 32 (ls.getD 0 [])).getD 1 [])) Tryz.underlying9 (.inl rfl) rfl rfl ?_
                                refine AtL.gtr (.inl rfl) rfl rfl rfl ?_
                                refine AtL.done ?_
                                refine At.cond rfl ?_ ?_
                                · intro hc6
                                  have hc6 : 2048 < (((spF 32 (ls.getD 0 [])).getD 1 []).length : Int) := of_decide_eq_true hc6
                                  refine At.seq ?_
                                  refine At.region ?_
                                  refine AtL.build (cs := [str [], str [], .int .i64 0, .slice none 0 0]) tf_lay47 (.inl rfl) rfl rfl rfl ?_
                                  refine AtL.store (H' := s11 :: s5 :: [(b1, .cells #[str [], str [], .int .i64 0, .slice none 0 0] 47 (0, 0))] :: H) 2 0 tf_sz47 (.inl rfl) rfl rfl rfl rfl rfl rfl rfl rfl rfl ?_
                                  refine AtL.assign (.inl rfl) rfl rfl ?_
                                  refine AtL.done ?_
                                  refine At.nil ?_
                                  have hp : parseF b = (.zero, 414) := by rw [hp0, headF_eq, if_neg hn3, if_neg (by rw [hver]; simp), if_neg (fun h5 => hc5 ((ver_is hver).2 h5)), if_pos (by omega)]
                                  exact At.retMP (vs := [.agg #[str [], str [], .int .i64 0, .slice none 0 0], .int .i64 414]) (H2 := [] :: H) [0] 4 rfl rfl Tryz.func81 rfl ⟨⟨_, rfl, LoadsTo.agg (cs := [str [], str [], .int .i64 0, .slice none 0 0]) tf_agg47 rfl (cellsOwn 3 0 0 rfl rfl rfl)⟩, rfl, trivial⟩ (⟨Sl.nil, by rw [hp]; rfl, by rw [hp]; rfl, rfl⟩)
                                · intro hc6
                                  have hc6 : ¬ (2048 < (((spF 32 (ls.getD 0 [])).getD 1 []).length : Int)) := of_decide_eq_false hc6
                                  refine At.skip ?_
                                  refine At.seq ?_
                                  refine At.seq ?_
                                  refine At.region ?_
                                  refine AtL.move (.inl rfl) rfl rfl ?_
                                  refine AtL.indexL 1 (o12.rd (i := 0) rfl) Tryz.underlying109 tf_sz9 (.inl rfl) rfl rfl rfl rfl (by omega) ?_
                                  refine AtL.load (v := str ((spF 32 (ls.getD 0 [])).getD 1 [])) tf_flat9 (.inl rfl) rfl rfl (Rd.cell0 (o12.rd (i := 0) rfl) (getD_some [] (by omega)) rfl) ?_
                                  refine AtL.call tf_body123 (.inl rfl) rfl rfl (rtarget_ok (l := ((spF 32 (ls.getD 0 [])).getD 1 [])) (by have := hw ((spF 32 (ls.getD 0 [])).getD 1 []) (getD_mem (l := spF 32 (ls.getD 0 [])) (i := 1) (by omega)); omega)) ?_
                                  rintro _ _ ⟨rfl, rfl⟩
                                  refine AtL.not (.inl rfl) rfl rfl ?_
                                  refine AtL.done ?_
                                  refine At.cond rfl ?_ ?_
                                  · intro hc7
                                    have hc7 : (targetF ((spF 32 (ls.getD 0 [])).getD 1 [])) = false := bnot_true hc7
                                    refine At.seq ?_
                                    refine At.region ?_
                                    refine AtL.build (cs := [str [], str [], .int .i64 0, .slice none 0 0]) tf_lay47 (.inl rfl) rfl rfl rfl ?_
                                    refine AtL.store (H' := s11 :: s5 :: [(b1, .cells #[str [], str [], .int .i64 0, .slice none 0 0] 47 (0, 0))] :: H) 2 0 tf_sz47 (.inl rfl) rfl rfl rfl rfl rfl rfl rfl rfl rfl ?_
                                    refine AtL.assign (.inl rfl) rfl rfl ?_
                                    refine AtL.done ?_
                                    refine At.nil ?_
                                    have hp : parseF b = (.zero, 400) := by rw [hp0, headF_eq, if_neg hn3, if_neg (by rw [hver]; simp), if_neg (fun h5 => hc5 ((ver_is hver).2 h5)), if_neg (by omega), if_pos (by simpa using hc7)]
                                    exact At.retMP (vs := [.agg #[str [], str [], .int .i64 0, .slice none 0 0], .int .i64 400]) (H2 := [] :: H) [0] 4 rfl rfl Tryz.func81 rfl ⟨⟨_, rfl, LoadsTo.agg (cs := [str [], str [], .int .i64 0, .slice none 0 0]) tf_agg47 rfl (cellsOwn 3 0 0 rfl rfl rfl)⟩, rfl, trivial⟩ (⟨Sl.nil, by rw [hp]; rfl, by rw [hp]; rfl, rfl⟩)
                                  · intro hc7
                                    have hc7 : (targetF ((spF 32 (ls.getD 0 [])).getD 1 [])) = true := bnot_false hc7
                                    refine At.skip ?_
                                    refine At.seq ?_
                                    have hB14 := u8_le ((((spF 32 (ls.getD 0 [])).getD 2 []).getD 7 0 - 48 : UInt8))
                                    refine At.draw (es := [11, 12]) (pv := [(0, .slice A8 (spF 32 (ls.getD 0 [])).length C9), (1, .pointer (some (eaddr A8 (0 * tyS.sz)))), (2, str ((spF 32 (ls.getD 0 [])).getD 0 [])), (3, .slice A8 (spF 32 (ls.getD 0 [])).length C9), (4, .pointer (some (eaddr A8 (1 * tyS.sz)))), (5, str ((spF 32 (ls.getD 0 [])).getD 1 [])), (6, str ((spF 32 (ls.getD 0 [])).getD 2 [])), (7, .int .u8 ((((spF 32 (ls.getD 0 [])).getD 2 []).getD 7 0).toNat : Int)), (8, .int .u8 ((((spF 32 (ls.getD 0 [])).getD 2 []).getD 7 0 - 48 : UInt8).toNat : Int)), (9, .int .i64 ((((spF 32 (ls.getD 0 [])).getD 2 []).getD 7 0 - 48 : UInt8).toNat : Int)), (10, .agg #[str ((spF 32 (ls.getD 0 [])).getD 0 []), str ((spF 32 (ls.getD 0 [])).getD 1 []), .int .i64 ((((spF 32 (ls.getD 0 [])).getD 2 []).getD 7 0 - 48 : UInt8).toNat : Int), .slice none 0 0])]) tf_mixed (by kernel_rfl) (by kernel_rfl) (by kernel_rfl) ?_
                                    refine ⟨⟨.inr ⟨_, rfl, rfl, .inl ⟨rfl, Do.move rfl⟩⟩, .inr ⟨_, rfl, rfl, .inl ⟨rfl, Do.indexL 0 (o12.rd (i := 0) rfl) Tryz.underlying109 tf_sz9 rfl rfl rfl (by omega)⟩⟩, .inr ⟨_, rfl, rfl, .inl ⟨rfl, Do.load (v := str ((spF 32 (ls.getD 0 [])).getD 0 [])) tf_flat9 rfl (Rd.cell0 (o12.rd (i := 0) rfl) (getD_some [] (by omega)) rfl)⟩⟩, .inr ⟨_, rfl, rfl, .inl ⟨rfl, Do.move rfl⟩⟩, .inr ⟨_, rfl, rfl, .inl ⟨rfl, Do.indexL 1 (o12.rd (i := 0) rfl) Tryz.underlying109 tf_sz9 rfl rfl rfl (by omega)⟩⟩, .inr ⟨_, rfl, rfl, .inl ⟨rfl, Do.load (v := str ((spF 32 (ls.getD 0 [])).getD 1 [])) tf_flat9 rfl (Rd.cell0 (o12.rd (i := 0) rfl) (getD_some [] (by omega)) rfl)⟩⟩, .inr ⟨_, rfl, rfl, .inl ⟨rfl, Do.move rfl⟩⟩, .inr ⟨_, rfl, rfl, .inl ⟨rfl, Do.indexS (l := ((spF 32 (ls.getD 0 [])).getD 2 [])) 7 rfl (by omega) Tryz.underlying9 rfl rfl⟩⟩, .inr ⟨_, rfl, rfl, .inl ⟨rfl, Do.sub (z := ((((spF 32 (ls.getD 0 [])).getD 2 []).getD 7 0 - 48 : UInt8).toNat : Int)) rfl rfl (sub48 v5)⟩⟩, .inr ⟨_, rfl, rfl, .inl ⟨rfl, Do.convInt (z := ((((spF 32 (ls.getD 0 [])).getD 2 []).getD 7 0 - 48 : UInt8).toNat : Int)) Tryz.underlying5 Tryz.underlying3 rfl (u8_i64 _)⟩⟩, .inr ⟨_, rfl, rfl, .inl ⟨rfl, Do.build (cs := [str ((spF 32 (ls.getD 0 [])).getD 0 []), str ((spF 32 (ls.getD 0 [])).getD 1 []), .int .i64 ((((spF 32 (ls.getD 0 [])).getD 2 []).getD 7 0 - 48 : UInt8).toNat : Int), .slice none 0 0]) tf_lay47 rfl rfl⟩⟩, trivial⟩, rfl, rfl, by kernel_rfl, _, rfl, rfl, rfl, _, Do.alloc tf_zero47 (cs := #[str [], str [], .int .i64 0, .slice none 0 0]) rfl, ?_⟩
                                    rintro _ _ ⟨b15, rfl, rfl⟩
                                    refine ⟨[], rfl, ?_⟩
                                    refine ⟨⟨.inr ⟨_, rfl, rfl, .inl ⟨rfl, Do.move rfl⟩⟩, .inr ⟨_, rfl, rfl, .inl ⟨rfl, Do.indexL 0 (o12.rd (i := 1) rfl) Tryz.underlying109 tf_sz9 rfl rfl rfl (by omega)⟩⟩, .inr ⟨_, rfl, rfl, .inl ⟨rfl, Do.load (v := str ((spF 32 (ls.getD 0 [])).getD 0 [])) tf_flat9 rfl (Rd.cell0 (o12.rd (i := 1) rfl) (getD_some [] (by omega)) rfl)⟩⟩, .inr ⟨_, rfl, rfl, .inl ⟨rfl, Do.move rfl⟩⟩, .inr ⟨_, rfl, rfl, .inl ⟨rfl, Do.indexL 1 (o12.rd (i := 1) rfl) Tryz.underlying109 tf_sz9 rfl rfl rfl (by omega)⟩⟩, .inr ⟨_, rfl, rfl, .inl ⟨rfl, Do.load (v := str ((spF 32 (ls.getD 0 [])).getD 1 [])) tf_flat9 rfl (Rd.cell0 (o12.rd (i := 1) rfl) (getD_some [] (by omega)) rfl)⟩⟩, .inr ⟨_, rfl, rfl, .inl ⟨rfl, Do.move rfl⟩⟩, .inr ⟨_, rfl, rfl, .inl ⟨rfl, Do.indexS (l := ((spF 32 (ls.getD 0 [])).getD 2 [])) 7 rfl (by omega) Tryz.underlying9 rfl rfl⟩⟩, .inr ⟨_, rfl, rfl, .inl ⟨rfl, Do.sub (z := ((((spF 32 (ls.getD 0 [])).getD 2 []).getD 7 0 - 48 : UInt8).toNat : Int)) rfl rfl (sub48 v5)⟩⟩, .inr ⟨_, rfl, rfl, .inl ⟨rfl, Do.convInt (z := ((((spF 32 (ls.getD 0 [])).getD 2 []).getD 7 0 - 48 : UInt8).toNat : Int)) Tryz.underlying5 Tryz.underlying3 rfl (u8_i64 _)⟩⟩, .inr ⟨_, rfl, rfl, .inl ⟨rfl, Do.build (cs := [str ((spF 32 (ls.getD 0 [])).getD 0 []), str ((spF 32 (ls.getD 0 [])).getD 1 []), .int .i64 ((((spF 32 (ls.getD 0 [])).getD 2 []).getD 7 0 - 48 : UInt8).toNat : Int), .slice none 0 0]) tf_lay47 rfl rfl⟩⟩, trivial⟩, rfl, rfl, by kernel_rfl, _, rfl, rfl, rfl, _, Do.store (H' := [(b15, .cells #[str ((spF 32 (ls.getD 0 [])).getD 0 []), str ((spF 32 (ls.getD 0 [])).getD 1 []), .int .i64 ((((spF 32 (ls.getD 0 [])).getD 2 []).getD 7 0 - 48 : UInt8).toNat : Int), .slice none 0 0] 47 (0, 0))] :: s11 :: s5 :: [(b1, .cells #[str [], str [], .int .i64 0, .slice none 0 0] 47 (0, 0))] :: H) 0 0 tf_sz47 rfl rfl rfl rfl rfl rfl rfl rfl rfl, ?_⟩
                                    rintro _ _ ⟨rfl, rfl⟩
                                    refine ⟨[], rfl, ?_⟩
                                    refine ⟨⟨.inl (by kernel_rfl), .inl (by kernel_rfl), .inl (by kernel_rfl), .inl (by kernel_rfl), .inl (by kernel_rfl), .inl (by kernel_rfl), .inl (by kernel_rfl), .inl (by kernel_rfl), .inl (by kernel_rfl), .inl (by kernel_rfl), .inl (by kernel_rfl), trivial⟩, by kernel_rfl, ?_⟩
                                    refine At.mono (E' := [(2, .pointer (some ⟨b1, 0, none⟩)), (4, .slice A2 l4.length C3), (8, .pointer (some ⟨b15, 0, none⟩))]) ⟨rfl, rfl, rfl, trivial⟩ ?_
                                    refine At.seq ?_
                                    refine At.seq ?_
                                    refine At.region ?_
                                    refine AtL.assign (.inl rfl) rfl rfl ?_
                                    refine AtL.done ?_
                                    refine At.block ?_
                                    refine At.nil ?_
                                    refine At.pick (H' := [(b15, .cells #[str ((spF 32 (ls.getD 0 [])).getD 0 []), str ((spF 32 (ls.getD 0 [])).getD 1 []), .int .i64 ((((spF 32 (ls.getD 0 [])).getD 2 []).getD 7 0 - 48 : UInt8).toNat : Int), .slice none 0 0] 47 (0, 0))] :: [] :: s5 :: [(b1, .cells #[str [], str [], .int .i64 0, .slice none 0 0] 47 (0, 0))] :: H) [1, 0, 3, 4] 5 rfl rfl ?_
                                    refine At.loop2 (fun (k : Nat) (x : Sl tyField 78) => [(2, .pointer (some ⟨b1, 0, none⟩)), (4, .slice A2 l4.length C3), (8, .pointer (some ⟨b15, 0, none⟩)), (9, .int .i64 ((k + 1 : Nat) : Int))]) (fun (k : Nat) (x : Sl tyField 78) => [(b15, .cells #[str ((spF 32 (ls.getD 0 [])).getD 0 []), str ((spF 32 (ls.getD 0 [])).getD 1 []), .int .i64 ((((spF 32 (ls.getD 0 [])).getD 2 []).getD 7 0 - 48 : UInt8).toNat : Int), .slice x.A x.l.length x.C] 47 (0, 0))] :: x.s :: s5 :: [(b1, .cells #[str [], str [], .int .i64 0, .slice none 0 0] 47 (0, 0))] :: H) (fun (k : Nat) (x : Sl tyField 78) => k ≤ (ls.drop 1).length ∧ (x.l.length = k ∧ k ≤ 32) ∧ fieldsF (ls.drop 1) 0 = (match fieldsF ((ls.drop 1).drop k) k with | .inl s => .inl s | .inr fs => .inr (x.l ++ fs)) ∧ (∀ f ∈ x.l, f.1.length ≤ b.length ∧ f.2.length ≤ b.length)) (fun (k : Nat) (x : Sl tyField 78) => (ls.drop 1).length - k) 0 Sl.nil (⟨Nat.zero_le _, ⟨rfl, by decide⟩, by rw [List.drop_zero]; cases fieldsF (ls.drop 1) 0 <;> simp [Sl.nil], fun f hf => absurd hf (by simp [Sl.nil])⟩) ⟨rfl, rfl, rfl, rfl, trivial⟩ rfl ?_
                                    rintro k x ⟨hk, ⟨hxl, hk32⟩, hfl, hxb⟩ ihL1
                                    have hcapx := Own.cap_le x.own
                                    refine At.seq ?_
                                    refine At.seq ?_
                                    refine At.region ?_
                                    refine AtL.move (.inl rfl) rfl rfl ?_
                                    refine AtL.move (.inl rfl) rfl rfl ?_
                                    refine AtL.lenL Tryz.underlying109 (.inl rfl) rfl rfl ?_
                                    refine AtL.sub (z := (l4.length : Int) - 1) (.inl rfl) rfl rfl rfl (w64 (by omega) (by omega)) ?_
                                    refine AtL.lss (.inl rfl) rfl rfl rfl ?_
                                    refine AtL.done ?_
                                    refine At.cond rfl ?_ ?_
                                    · intro hc8
                                      have hc8 : ((k + 1 : Nat) : Int) < ((l4.length : Int) - 1) := of_decide_eq_true hc8
                                      have hk1 : l4.getD (k + 1) [] = (ls.drop 1).getD k [] := by rw [hll]; simp only [List.getD]; rw [List.getElem?_append_left (by omega), List.getElem?_drop, Nat.add_comm]
                                      have hst := fields_step (L := ls.drop 1) (k := k) (by omega)
                                      rw [← hk1] at hst
                                      have hlk := hlb.1 ((ls.drop 1).getD k []) (List.mem_of_mem_drop (getD_mem (l := ls.drop 1) (i := k) (by omega)))
                                      rw [← hk1] at hlk
                                      refine At.skip ?_
                                      refine At.seq ?_
                                      refine At.block ?_
                                      refine At.seq ?_
                                      refine At.seq ?_
                                      refine At.region ?_
                                      refine AtL.move (.inl rfl) rfl rfl ?_
                                      refine AtL.gtr (.inl rfl) rfl rfl rfl ?_
                                      refine AtL.done ?_
                                      refine At.cond rfl ?_ ?_
                                      · intro hc9
                                        have hc9 : 32 < ((k + 1 : Nat) : Int) := of_decide_eq_true hc9
                                        refine At.seq ?_
                                        refine At.region ?_
                                        refine AtL.build (cs := [str [], str [], .int .i64 0, .slice none 0 0]) tf_lay47 (.inl rfl) rfl rfl rfl ?_
                                        refine AtL.store (H' := [(b15, .cells #[str ((spF 32 (ls.getD 0 [])).getD 0 []), str ((spF 32 (ls.getD 0 [])).getD 1 []), .int .i64 ((((spF 32 (ls.getD 0 [])).getD 2 []).getD 7 0 - 48 : UInt8).toNat : Int), .slice x.A x.l.length x.C] 47 (0, 0))] :: x.s :: s5 :: [(b1, .cells #[str [], str [], .int .i64 0, .slice none 0 0] 47 (0, 0))] :: H) 3 0 tf_sz47 (.inl rfl) rfl rfl rfl rfl rfl rfl rfl rfl rfl ?_
                                        refine AtL.assign (.inl rfl) rfl rfl ?_
                                        refine AtL.done ?_
                                        refine At.nil ?_
                                        have hp : parseF b = (.zero, 431) := by rw [hp0, headF_eq, if_neg hn3, if_neg (by rw [hver]; simp), if_neg (fun h5 => hc5 ((ver_is hver).2 h5)), if_neg (by omega), if_neg (by simpa using hc7), hfl, hst, if_pos (by omega)]
                                        exact At.retMP (vs := [.agg #[str [], str [], .int .i64 0, .slice none 0 0], .int .i64 431]) (H2 := [] :: H) [0] 5 rfl rfl Tryz.func81 rfl ⟨⟨_, rfl, LoadsTo.agg (cs := [str [], str [], .int .i64 0, .slice none 0 0]) tf_agg47 rfl (cellsOwn 4 0 0 rfl rfl rfl)⟩, rfl, trivial⟩ (⟨Sl.nil, by rw [hp]; rfl, by rw [hp]; rfl, rfl⟩)
                                      · intro hc9
                                        have hc9 : ¬ (32 < ((k + 1 : Nat) : Int)) := of_decide_eq_false hc9
                                        refine At.skip ?_
                                        refine At.seq ?_
                                        refine At.region ?_
                                        refine AtL.assign (.inl rfl) rfl rfl ?_
                                        refine AtL.done ?_
                                        refine At.seq ?_
                                        refine At.block ?_
                                        refine At.loop (fun (a : Nat) => [(2, .pointer (some ⟨b1, 0, none⟩)), (4, .slice A2 l4.length C3), (8, .pointer (some ⟨b15, 0, none⟩)), (9, .int .i64 ((k + 1 : Nat) : Int)), (10, .int .i64 (a : Int))]) (fun (a : Nat) => [(b15, .cells #[str ((spF 32 (ls.getD 0 [])).getD 0 []), str ((spF 32 (ls.getD 0 [])).getD 1 []), .int .i64 ((((spF 32 (ls.getD 0 [])).getD 2 []).getD 7 0 - 48 : UInt8).toNat : Int), .slice x.A x.l.length x.C] 47 (0, 0))] :: x.s :: s5 :: [(b1, .cells #[str [], str [], .int .i64 0, .slice none 0 0] 47 (0, 0))] :: H) (fun (a : Nat) => a ≤ (l4.getD (k + 1) []).length ∧ ∀ j, j < a → (l4.getD (k + 1) []).getD j 0 ≠ 58) (fun (a : Nat) => (l4.getD (k + 1) []).length - a) 0 (⟨Nat.zero_le _, fun j hj => absurd hj (by omega)⟩) ⟨rfl, rfl, rfl, rfl, rfl, trivial⟩ rfl ?_
                                        rintro a ⟨ha, hna⟩ ihL2
                                        refine At.seq ?_
                                        refine At.seq ?_
                                        refine At.region ?_
                                        refine AtL.move (.inl rfl) rfl rfl ?_
                                        refine AtL.move (.inl rfl) rfl rfl ?_
                                        refine AtL.move (.inl rfl) rfl rfl ?_
                                        refine AtL.indexL (k + 1 : Nat) (o6.rd (i := 2) rfl) Tryz.underlying109 tf_sz9 (.inl rfl) rfl rfl rfl rfl (by omega) ?_
                                        refine AtL.load (v := str (l4.getD (k + 1 : Nat) [])) tf_flat9 (.inl rfl) rfl rfl (Rd.cell0 (o6.rd (i := 2) rfl) (getD_some [] (by omega)) rfl) ?_
                                        refine AtL.lenS (l := (l4.getD (k + 1 : Nat) [])) Tryz.underlying9 (.inl rfl) rfl rfl ?_
                                        refine AtL.lss (.inl rfl) rfl rfl rfl ?_
                                        refine AtL.move (.inl rfl) rfl rfl ?_
                                        refine AtL.join 8 (E' := [(145, .bool (decide (((a : Int) < ((l4.getD (k + 1 : Nat) []).length : Int)) ∧ (¬ ((((l4.getD (k + 1 : Nat) []).getD a 0).toNat : Int) = 58))))), (2, .pointer (some ⟨b1, 0, none⟩)), (4, .slice A2 l4.length C3), (8, .pointer (some ⟨b15, 0, none⟩)), (9, .int .i64 ((k + 1 : Nat) : Int)), (10, .int .i64 (a : Int))]) (H' := [(b15, .cells #[str ((spF 32 (ls.getD 0 [])).getD 0 []), str ((spF 32 (ls.getD 0 [])).getD 1 []), .int .i64 ((((spF 32 (ls.getD 0 [])).getD 2 []).getD 7 0 - 48 : UInt8).toNat : Int), .slice x.A x.l.length x.C] 47 (0, 0))] :: x.s :: s5 :: [(b1, .cells #[str [], str [], .int .i64 0, .slice none 0 0] 47 (0, 0))] :: H) (fun J => ?_) ?_
                                        · refine AtL.split (t := 137) rfl ?_ ?_
                                          · intro hs137
                                            have hs137 : (a : Int) < ((l4.getD (k + 1 : Nat) []).length : Int) := of_decide_eq_true hs137
                                            refine AtL.move (.inr ⟨_, _, _, rfl, rfl, rfl, rfl⟩) rfl rfl ?_
                                            refine AtL.move (.inr ⟨_, _, _, rfl, rfl, rfl, rfl⟩) rfl rfl ?_
                                            refine AtL.indexL (k + 1 : Nat) (o6.rd (i := 2) rfl) Tryz.underlying109 tf_sz9 (.inr ⟨_, _, _, rfl, rfl, rfl, rfl⟩) rfl rfl rfl rfl (by omega) ?_
                                            refine AtL.load (v := str (l4.getD (k + 1 : Nat) [])) tf_flat9 (.inr ⟨_, _, _, rfl, rfl, rfl, rfl⟩) rfl rfl (Rd.cell0 (o6.rd (i := 2) rfl) (getD_some [] (by omega)) rfl) ?_
                                            refine AtL.move (.inr ⟨_, _, _, rfl, rfl, rfl, rfl⟩) rfl rfl ?_
                                            refine AtL.indexS (l := (l4.getD (k + 1 : Nat) [])) a rfl (by omega) Tryz.underlying9 (.inr ⟨_, _, _, rfl, rfl, rfl, rfl⟩) rfl rfl rfl ?_
                                            refine AtL.nei (.inr ⟨_, _, _, rfl, rfl, rfl, rfl⟩) rfl rfl rfl ?_
                                            refine AtL.pickT (.inl rfl) rfl rfl rfl ?_
                                            exact J _ (by exact ⟨(boolIs (by clear J; first | (simp [hs137]; done) | (simp_all; done) | grind)), rfl, rfl, rfl, rfl, rfl, trivial⟩)
                                          · intro hs137
                                            have hs137 : ¬ ((a : Int) < ((l4.getD (k + 1 : Nat) []).length : Int)) := of_decide_eq_false hs137
                                            refine AtL.skipped rfl rfl rfl rfl rfl rfl ?_
                                            refine AtL.skipped rfl rfl rfl rfl rfl rfl ?_
                                            refine AtL.skipped rfl rfl rfl rfl rfl rfl ?_
                                            refine AtL.skipped rfl rfl rfl rfl rfl rfl ?_
                                            refine AtL.skipped rfl rfl rfl rfl rfl rfl ?_
                                            refine AtL.skipped rfl rfl rfl rfl rfl rfl ?_
                                            refine AtL.skipped rfl rfl rfl rfl rfl rfl ?_
                                            refine AtL.pickF (.inl rfl) rfl rfl rfl ?_
                                            exact J _ (by exact ⟨(boolIs (by clear J; first | (simp [hs137]; done) | (simp_all; done) | grind)), rfl, rfl, rfl, rfl, rfl, trivial⟩)
                                        · skip
                                          refine AtL.done ?_
                                          refine At.cond rfl ?_ ?_
                                          · intro hc10
                                            have hc10 : ((a : Int) < ((l4.getD (k + 1 : Nat) []).length : Int)) ∧ (¬ ((((l4.getD (k + 1 : Nat) []).getD a 0).toNat : Int) = 58)) := of_decide_eq_true hc10
                                            refine At.skip ?_
                                            refine At.block ?_
                                            refine At.region ?_
                                            refine AtL.move (.inl rfl) rfl rfl ?_
                                            refine AtL.add (z := (a : Int) + 1) (.inl rfl) rfl rfl rfl (w64 (by omega) (by omega)) ?_
                                            refine AtL.assign (.inl rfl) rfl rfl ?_
                                            refine AtL.done ?_
                                            refine At.inBlock ?_
                                            refine ihL2 (a + 1) (⟨by omega, fun j hj => by
                                                  rcases Nat.lt_or_ge j a with h1 | h1
                                                  · exact hna j h1
                                                  · obtain rfl : j = a := by omega
                                                    exact fun h => hc10.2 ((u8_eq (n := 58) (by omega)).2 h)⟩) (by omega) _ ?_
                                            exact ⟨rfl, rfl, rfl, rfl, (by first | rfl | exact slLen (by simp []) | exact intEq (by omega) | exact intEq (by simp []) | exact slLen (by simp []; omega)), trivial⟩
                                          · intro hc10
                                            have hc10 : ¬ (((a : Int) < ((l4.getD (k + 1 : Nat) []).length : Int)) ∧ (¬ ((((l4.getD (k + 1 : Nat) []).getD a 0).toNat : Int) = 58))) := of_decide_eq_false hc10
                                            have hcc : a = (l4.getD (k + 1) []).length ∨ (a < (l4.getD (k + 1) []).length ∧ (l4.getD (k + 1) []).getD a 0 = 58) := by
                                              by_cases h : a < (l4.getD (k + 1) []).length
                                              · exact .inr ⟨h, (u8_eq (n := 58) (by omega)).1 (by by_cases h2 : (((l4.getD (k + 1) []).getD a 0).toNat : Int) = 58; exact h2; exact absurd ⟨by omega, h2⟩ hc10)⟩
                                              · exact .inl (by omega)
                                            refine At.exit rfl ?_
                                            refine At.seq ?_
                                            refine At.seq ?_
                                            refine At.region ?_
                                            refine AtL.move (.inl rfl) rfl rfl ?_
                                            refine AtL.move (.inl rfl) rfl rfl ?_
                                            refine AtL.move (.inl rfl) rfl rfl ?_
                                            refine AtL.indexL (k + 1 : Nat) (o6.rd (i := 2) rfl) Tryz.underlying109 tf_sz9 (.inl rfl) rfl rfl rfl rfl (by omega) ?_
                                            refine AtL.load (v := str (l4.getD (k + 1 : Nat) [])) tf_flat9 (.inl rfl) rfl rfl (Rd.cell0 (o6.rd (i := 2) rfl) (getD_some [] (by omega)) rfl) ?_
                                            refine AtL.lenS (l := (l4.getD (k + 1 : Nat) [])) Tryz.underlying9 (.inl rfl) rfl rfl ?_
                                            refine AtL.eqi (.inl rfl) rfl rfl rfl ?_
                                            refine AtL.move (.inl rfl) rfl rfl ?_
                                            refine AtL.join 9 (E' := [(164, .bool (decide (((a : Int) = ((l4.getD (k + 1 : Nat) []).length : Int)) ∨ ((wordF (subl (l4.getD (k + 1 : Nat) []) 0 a) 64) = false)))), (2, .pointer (some ⟨b1, 0, none⟩)), (4, .slice A2 l4.length C3), (8, .pointer (some ⟨b15, 0, none⟩)), (9, .int .i64 ((k + 1 : Nat) : Int)), (10, .int .i64 (a : Int))]) (H' := [(b15, .cells #[str ((spF 32 (ls.getD 0 [])).getD 0 []), str ((spF 32 (ls.getD 0 [])).getD 1 []), .int .i64 ((((spF 32 (ls.getD 0 [])).getD 2 []).getD 7 0 - 48 : UInt8).toNat : Int), .slice x.A x.l.length x.C] 47 (0, 0))] :: x.s :: s5 :: [(b1, .cells #[str [], str [], .int .i64 0, .slice none 0 0] 47 (0, 0))] :: H) (fun J => ?_) ?_
                                            · refine AtL.split (t := 155) rfl ?_ ?_
                                              · intro hs155
                                                have hs155 : (a : Int) = ((l4.getD (k + 1 : Nat) []).length : Int) := of_decide_eq_true hs155
                                                refine AtL.skipped rfl rfl rfl rfl rfl rfl ?_
                                                refine AtL.skipped rfl rfl rfl rfl rfl rfl ?_
                                                refine AtL.skipped rfl rfl rfl rfl rfl rfl ?_
                                                refine AtL.skipped rfl rfl rfl rfl rfl rfl ?_
                                                refine AtL.skipped rfl rfl rfl rfl rfl rfl ?_
                                                refine AtL.skipped rfl rfl rfl rfl rfl rfl ?_
                                                refine AtL.skipped rfl rfl rfl rfl rfl rfl ?_
                                                refine AtL.skipped rfl rfl rfl rfl rfl rfl ?_
                                                refine AtL.pickT (.inl rfl) rfl rfl rfl ?_
                                                exact J _ (by exact ⟨(boolIs (by clear J; first | (simp [hs155]; done) | (simp_all; done) | grind)), rfl, rfl, rfl, rfl, rfl, trivial⟩)
                                              · intro hs155
                                                have hs155 : ¬ ((a : Int) = ((l4.getD (k + 1 : Nat) []).length : Int)) := of_decide_eq_false hs155
                                                have hal2 : a < (l4.getD (k + 1) []).length := by first | omega | (simp only [not_or, Classical.not_not] at hs155; omega)
                                                refine AtL.move (.inr ⟨_, _, _, rfl, rfl, rfl, rfl⟩) rfl rfl ?_
                                                refine AtL.move (.inr ⟨_, _, _, rfl, rfl, rfl, rfl⟩) rfl rfl ?_
                                                refine AtL.indexL (k + 1 : Nat) (o6.rd (i := 2) rfl) Tryz.underlying109 tf_sz9 (.inr ⟨_, _, _, rfl, rfl, rfl, rfl⟩) rfl rfl rfl rfl (by omega) ?_
                                                refine AtL.load (v := str (l4.getD (k + 1 : Nat) [])) tf_flat9 (.inr ⟨_, _, _, rfl, rfl, rfl, rfl⟩) rfl rfl (Rd.cell0 (o6.rd (i := 2) rfl) (getD_some [] (by omega)) rfl) ?_
                                                refine AtL.move (.inr ⟨_, _, _, rfl, rfl, rfl, rfl⟩) rfl rfl ?_
                                                refine AtL.sliceS (l := (l4.getD (k + 1 : Nat) [])) 0 a rfl (evBound_some rfl rfl) (by omega) (by omega) Tryz.underlying9 (.inr ⟨_, _, _, rfl, rfl, rfl, rfl⟩) rfl rfl ?_
                                                refine AtL.call tf_body109 (.inr ⟨_, _, _, rfl, rfl, rfl, rfl⟩) rfl rfl (rword_ok (l := subl (l4.getD (k + 1 : Nat) []) 0 a) (by rw [subl_len (by omega)]; omega) 64) ?_
                                                rintro _ _ ⟨rfl, rfl⟩
                                                refine AtL.not (.inr ⟨_, _, _, rfl, rfl, rfl, rfl⟩) rfl rfl ?_
                                                refine AtL.pickF (.inl rfl) rfl rfl rfl ?_
                                                exact J _ (by exact ⟨(boolIs (by clear J; first | (simp [hs155]; done) | (simp_all; done) | grind)), rfl, rfl, rfl, rfl, rfl, trivial⟩)
                                            · skip
                                              refine AtL.move (.inl rfl) rfl rfl ?_
                                              refine AtL.join 11 (E' := [(176, .bool (decide ((((a : Int) = ((l4.getD (k + 1 : Nat) []).length : Int)) ∨ ((wordF (subl (l4.getD (k + 1 : Nat) []) 0 a) 64) = false)) ∨ ((valueF (trimF (subl (l4.getD (k + 1 : Nat) []) (a + 1) (l4.getD (k + 1 : Nat) []).length))) = false)))), (2, .pointer (some ⟨b1, 0, none⟩)), (4, .slice A2 l4.length C3), (8, .pointer (some ⟨b15, 0, none⟩)), (9, .int .i64 ((k + 1 : Nat) : Int)), (10, .int .i64 (a : Int))]) (H' := [(b15, .cells #[str ((spF 32 (ls.getD 0 [])).getD 0 []), str ((spF 32 (ls.getD 0 [])).getD 1 []), .int .i64 ((((spF 32 (ls.getD 0 [])).getD 2 []).getD 7 0 - 48 : UInt8).toNat : Int), .slice x.A x.l.length x.C] 47 (0, 0))] :: x.s :: s5 :: [(b1, .cells #[str [], str [], .int .i64 0, .slice none 0 0] 47 (0, 0))] :: H) (fun J => ?_) ?_
                                              · refine AtL.split (t := 165) rfl ?_ ?_
                                                · intro hs165
                                                  have hs165 : ((a : Int) = ((l4.getD (k + 1 : Nat) []).length : Int)) ∨ ((wordF (subl (l4.getD (k + 1 : Nat) []) 0 a) 64) = false) := of_decide_eq_true hs165
                                                  refine AtL.skipped rfl rfl rfl rfl rfl rfl ?_
                                                  refine AtL.skipped rfl rfl rfl rfl rfl rfl ?_
                                                  refine AtL.skipped rfl rfl rfl rfl rfl rfl ?_
                                                  refine AtL.skipped rfl rfl rfl rfl rfl rfl ?_
                                                  refine AtL.skipped rfl rfl rfl rfl rfl rfl ?_
                                                  refine AtL.skipped rfl rfl rfl rfl rfl rfl ?_
                                                  refine AtL.skipped rfl rfl rfl rfl rfl rfl ?_
                                                  refine AtL.skipped rfl rfl rfl rfl rfl rfl ?_
                                                  refine AtL.skipped rfl rfl rfl rfl rfl rfl ?_
                                                  refine AtL.skipped rfl rfl rfl rfl rfl rfl ?_
                                                  refine AtL.pickT (.inl rfl) rfl rfl rfl ?_
                                                  exact J _ (by exact ⟨(boolIs (by clear J; first | (simp [hs165]; done) | (simp_all; done) | grind)), rfl, rfl, rfl, rfl, rfl, trivial⟩)
                                                · intro hs165
                                                  have hs165 : ¬ (((a : Int) = ((l4.getD (k + 1 : Nat) []).length : Int)) ∨ ((wordF (subl (l4.getD (k + 1 : Nat) []) 0 a) 64) = false)) := of_decide_eq_false hs165
                                                  have hal2 : a < (l4.getD (k + 1) []).length := by first | omega | (simp only [not_or, Classical.not_not] at hs165; omega)
                                                  refine AtL.move (.inr ⟨_, _, _, rfl, rfl, rfl, rfl⟩) rfl rfl ?_
                                                  refine AtL.move (.inr ⟨_, _, _, rfl, rfl, rfl, rfl⟩) rfl rfl ?_
                                                  refine AtL.indexL (k + 1 : Nat) (o6.rd (i := 2) rfl) Tryz.underlying109 tf_sz9 (.inr ⟨_, _, _, rfl, rfl, rfl, rfl⟩) rfl rfl rfl rfl (by omega) ?_
                                                  refine AtL.load (v := str (l4.getD (k + 1 : Nat) [])) tf_flat9 (.inr ⟨_, _, _, rfl, rfl, rfl, rfl⟩) rfl rfl (Rd.cell0 (o6.rd (i := 2) rfl) (getD_some [] (by omega)) rfl) ?_
                                                  refine AtL.move (.inr ⟨_, _, _, rfl, rfl, rfl, rfl⟩) rfl rfl ?_
                                                  refine AtL.add (z := (a : Int) + 1) (.inr ⟨_, _, _, rfl, rfl, rfl, rfl⟩) rfl rfl rfl (w64 (by omega) (by omega)) ?_
                                                  refine AtL.sliceS (l := (l4.getD (k + 1 : Nat) [])) (a + 1) (l4.getD (k + 1 : Nat) []).length (evBound_some rfl rfl) rfl (by omega) (by omega) Tryz.underlying9 (.inr ⟨_, _, _, rfl, rfl, rfl, rfl⟩) rfl rfl ?_
                                                  refine AtL.call tf_body124 (.inr ⟨_, _, _, rfl, rfl, rfl, rfl⟩) rfl rfl (rtrim_ok (l := subl (l4.getD (k + 1 : Nat) []) (a + 1) (l4.getD (k + 1 : Nat) []).length) (by rw [subl_len (Nat.le_refl _)]; omega)) ?_
                                                  rintro _ _ ⟨rfl, rfl⟩
                                                  refine AtL.call tf_body110 (.inr ⟨_, _, _, rfl, rfl, rfl, rfl⟩) rfl rfl (rvalue_ok (l := trimF (subl (l4.getD (k + 1 : Nat) []) (a + 1) (l4.getD (k + 1 : Nat) []).length)) (by have := trimF_le (subl (l4.getD (k + 1) []) (a + 1) (l4.getD (k + 1) []).length); rw [subl_len (Nat.le_refl _)] at this; omega)) ?_
                                                  rintro _ _ ⟨rfl, rfl⟩
                                                  refine AtL.not (.inr ⟨_, _, _, rfl, rfl, rfl, rfl⟩) rfl rfl ?_
                                                  refine AtL.pickF (.inl rfl) rfl rfl rfl ?_
                                                  exact J _ (by exact ⟨(boolIs (by clear J; first | (simp [hs165]; done) | (simp_all; done) | grind)), rfl, rfl, rfl, rfl, rfl, trivial⟩)
                                              · skip
                                                refine AtL.done ?_
                                                refine At.cond rfl ?_ ?_
                                                · intro hc11
                                                  have hc11 : (((a : Int) = ((l4.getD (k + 1 : Nat) []).length : Int)) ∨ ((wordF (subl (l4.getD (k + 1 : Nat) []) 0 a) 64) = false)) ∨ ((valueF (trimF (subl (l4.getD (k + 1 : Nat) []) (a + 1) (l4.getD (k + 1 : Nat) []).length))) = false) := of_decide_eq_true hc11
                                                  have hbad : (¬ (Lib.cut (l4.getD (k + 1) []) [58]).2.2 = true ∨ wordF (Lib.cut (l4.getD (k + 1) []) [58]).1 64 = false ∨ valueF (Lib.trimS (Lib.cut (l4.getD (k + 1) []) [58]).2.1 [9, 32]) = false) := by
                                                    rcases hcc with hcc | ⟨hcc, h58⟩
                                                    · exact .inl (by rw [cut_at_no (fun j hj => hna j (by omega))]; simp)
                                                    · have hcut := cut_at hna hcc h58
                                                      rcases hc11 with (h | h) | h
                                                      · omega
                                                      · exact .inr (.inl (by rw [hcut.2.1]; exact h))
                                                      · exact .inr (.inr (by rw [hcut.2.2, trim_set]; exact h))
                                                  refine At.seq ?_
                                                  refine At.region ?_
                                                  refine AtL.build (cs := [str [], str [], .int .i64 0, .slice none 0 0]) tf_lay47 (.inl rfl) rfl rfl rfl ?_
                                                  refine AtL.store (H' := [(b15, .cells #[str ((spF 32 (ls.getD 0 [])).getD 0 []), str ((spF 32 (ls.getD 0 [])).getD 1 []), .int .i64 ((((spF 32 (ls.getD 0 [])).getD 2 []).getD 7 0 - 48 : UInt8).toNat : Int), .slice x.A x.l.length x.C] 47 (0, 0))] :: x.s :: s5 :: [(b1, .cells #[str [], str [], .int .i64 0, .slice none 0 0] 47 (0, 0))] :: H) 3 0 tf_sz47 (.inl rfl) rfl rfl rfl rfl rfl rfl rfl rfl rfl ?_
                                                  refine AtL.assign (.inl rfl) rfl rfl ?_
                                                  refine AtL.done ?_
                                                  refine At.nil ?_
                                                  have hp : parseF b = (.zero, 400) := by rw [hp0, headF_eq, if_neg hn3, if_neg (by rw [hver]; simp), if_neg (fun h5 => hc5 ((ver_is hver).2 h5)), if_neg (by omega), if_neg (by simpa using hc7), hfl, hst, if_neg (by omega), if_pos hbad]
                                                  exact At.retMP (vs := [.agg #[str [], str [], .int .i64 0, .slice none 0 0], .int .i64 400]) (H2 := [] :: H) [0] 5 rfl rfl Tryz.func81 rfl ⟨⟨_, rfl, LoadsTo.agg (cs := [str [], str [], .int .i64 0, .slice none 0 0]) tf_agg47 rfl (cellsOwn 4 0 0 rfl rfl rfl)⟩, rfl, trivial⟩ (⟨Sl.nil, by rw [hp]; rfl, by rw [hp]; rfl, rfl⟩)
                                                · intro hc11
                                                  have hc11 : ¬ ((((a : Int) = ((l4.getD (k + 1 : Nat) []).length : Int)) ∨ ((wordF (subl (l4.getD (k + 1 : Nat) []) 0 a) 64) = false)) ∨ ((valueF (trimF (subl (l4.getD (k + 1 : Nat) []) (a + 1) (l4.getD (k + 1 : Nat) []).length))) = false)) := of_decide_eq_false hc11
                                                  simp only [not_or] at hc11
                                                  have hcut := cut_at hna (show a < (l4.getD (k + 1) []).length by omega) (by rcases hcc with h | h; omega; exact h.2)
                                                  have hok : ¬ (¬ (Lib.cut (l4.getD (k + 1) []) [58]).2.2 = true ∨ wordF (Lib.cut (l4.getD (k + 1) []) [58]).1 64 = false ∨ valueF (Lib.trimS (Lib.cut (l4.getD (k + 1) []) [58]).2.1 [9, 32]) = false) := by rw [hcut.1, hcut.2.1, hcut.2.2, trim_set]; simp only [not_or]; exact ⟨by simp, hc11.1.2, hc11.2⟩
                                                  refine At.skip ?_
                                                  refine At.draw (es := [17, 18, 20]) (pv := [(0, .pointer (some ⟨b15, 3, none⟩)), (1, .slice x.A x.l.length x.C), (2, .slice A2 l4.length C3), (3, .int .i64 ((k + 1 : Nat) : Int)), (4, .pointer (some (eaddr A2 ((k + 1 : Nat) * tyS.sz)))), (5, str (l4.getD (k + 1 : Nat) [])), (6, .int .i64 (a : Int)), (7, str (subl (l4.getD (k + 1 : Nat) []) 0 a)), (8, .slice A2 l4.length C3), (9, .int .i64 ((k + 1 : Nat) : Int)), (10, .pointer (some (eaddr A2 ((k + 1 : Nat) * tyS.sz)))), (11, str (l4.getD (k + 1 : Nat) [])), (12, .int .i64 (a : Int)), (13, .int .i64 ((a : Int) + 1)), (14, str (subl (l4.getD (k + 1 : Nat) []) (a + 1) (l4.getD (k + 1 : Nat) []).length)), (15, str (trimF (subl (l4.getD (k + 1 : Nat) []) (a + 1) (l4.getD (k + 1 : Nat) []).length))), (16, .agg #[str (subl (l4.getD (k + 1 : Nat) []) 0 a), str (trimF (subl (l4.getD (k + 1 : Nat) []) (a + 1) (l4.getD (k + 1 : Nat) []).length))])]) tf_mixed (by kernel_rfl) (by kernel_rfl) (by kernel_rfl) ?_
                                                  refine ⟨⟨.inr ⟨_, rfl, rfl, .inl ⟨rfl, Do.fieldAddrB tf_fo47_3 rfl rfl⟩⟩, .inr ⟨_, rfl, rfl, .inl ⟨rfl, Do.load tf_flat45 rfl (Cell.own 0 0 rfl rfl rfl)⟩⟩, .inr ⟨_, rfl, rfl, .inl ⟨rfl, Do.move rfl⟩⟩, .inr ⟨_, rfl, rfl, .inl ⟨rfl, Do.move rfl⟩⟩, .inr ⟨_, rfl, rfl, .inl ⟨rfl, Do.indexL (k + 1 : Nat) (o6.rd (i := 2) rfl) Tryz.underlying109 tf_sz9 rfl rfl rfl (by omega)⟩⟩, .inr ⟨_, rfl, rfl, .inl ⟨rfl, Do.load (v := str (l4.getD (k + 1 : Nat) [])) tf_flat9 rfl (Rd.cell0 (o6.rd (i := 2) rfl) (getD_some [] (by omega)) rfl)⟩⟩, .inr ⟨_, rfl, rfl, .inl ⟨rfl, Do.move rfl⟩⟩, .inr ⟨_, rfl, rfl, .inl ⟨rfl, Do.sliceS (l := (l4.getD (k + 1 : Nat) [])) 0 a rfl (evBound_some rfl rfl) (by omega) (by omega) Tryz.underlying9 rfl⟩⟩, .inr ⟨_, rfl, rfl, .inl ⟨rfl, Do.move rfl⟩⟩, .inr ⟨_, rfl, rfl, .inl ⟨rfl, Do.move rfl⟩⟩, .inr ⟨_, rfl, rfl, .inl ⟨rfl, Do.indexL (k + 1 : Nat) (o6.rd (i := 2) rfl) Tryz.underlying109 tf_sz9 rfl rfl rfl (by omega)⟩⟩, .inr ⟨_, rfl, rfl, .inl ⟨rfl, Do.load (v := str (l4.getD (k + 1 : Nat) [])) tf_flat9 rfl (Rd.cell0 (o6.rd (i := 2) rfl) (getD_some [] (by omega)) rfl)⟩⟩, .inr ⟨_, rfl, rfl, .inl ⟨rfl, Do.move rfl⟩⟩, .inr ⟨_, rfl, rfl, .inl ⟨rfl, Do.add (z := (a : Int) + 1) rfl rfl (w64 (by omega) (by omega))⟩⟩, .inr ⟨_, rfl, rfl, .inl ⟨rfl, Do.sliceS (l := (l4.getD (k + 1 : Nat) [])) (a + 1) (l4.getD (k + 1 : Nat) []).length (evBound_some rfl rfl) rfl (by omega) (by omega) Tryz.underlying9 rfl⟩⟩, .inr ⟨_, rfl, rfl, .inl ⟨rfl, Do.call tf_body124 rfl (rtrim_ok (l := subl (l4.getD (k + 1 : Nat) []) (a + 1) (l4.getD (k + 1 : Nat) []).length) (by rw [subl_len (Nat.le_refl _)]; omega))⟩⟩, .inr ⟨_, rfl, rfl, .inl ⟨rfl, Do.build (cs := [str (subl (l4.getD (k + 1 : Nat) []) 0 a), str (trimF (subl (l4.getD (k + 1 : Nat) []) (a + 1) (l4.getD (k + 1 : Nat) []).length))]) tf_lay78 rfl rfl⟩⟩, trivial⟩, rfl, rfl, by kernel_rfl, _, rfl, rfl, rfl, _, Do.buildSlice (cs := [str (subl (l4.getD (k + 1 : Nat) []) 0 a), str (trimF (subl (l4.getD (k + 1 : Nat) []) (a + 1) (l4.getD (k + 1 : Nat) []).length))]) Tryz.underlying45 tf_zero78 tf_sz78 rfl rfl rfl rfl, ?_⟩
                                                  rintro _ _ ⟨b17, rfl, rfl⟩
                                                  obtain ⟨s18, hss18, o19⟩ := own_new tyField 78 b17 ([(subl (l4.getD (k + 1 : Nat) []) 0 a, trimF (subl (l4.getD (k + 1 : Nat) []) (a + 1) (l4.getD (k + 1 : Nat) []).length))] : List (List UInt8 × List UInt8)) 1 [str (subl (l4.getD (k + 1 : Nat) []) 0 a), str (trimF (subl (l4.getD (k + 1 : Nat) []) (a + 1) (l4.getD (k + 1 : Nat) []).length))] rfl rfl (by simp)
                                                  rw [← hss18]
                                                  refine ⟨[], rfl, ?_⟩
                                                  refine ⟨⟨.inr ⟨_, rfl, rfl, .inl ⟨rfl, Do.fieldAddrB tf_fo47_3 rfl rfl⟩⟩, .inr ⟨_, rfl, rfl, .inl ⟨rfl, Do.load tf_flat45 rfl (Cell.own 1 0 rfl rfl rfl)⟩⟩, .inl (by kernel_rfl), .inl (by kernel_rfl), .inl (by kernel_rfl), .inl (by kernel_rfl), .inl (by kernel_rfl), .inl (by kernel_rfl), .inl (by kernel_rfl), .inl (by kernel_rfl), .inl (by kernel_rfl), .inl (by kernel_rfl), .inl (by kernel_rfl), .inl (by kernel_rfl), .inl (by kernel_rfl), .inl (by kernel_rfl), .inl (by kernel_rfl), trivial⟩, rfl, rfl, by kernel_rfl, _, rfl, rfl, rfl, _, Do.append (l := x.l) (news := [(subl (l4.getD (k + 1 : Nat) []) 0 a, trimF (subl (l4.getD (k + 1 : Nat) []) (a + 1) (l4.getD (k + 1 : Nat) []).length))]) 2 tf_el45 rfl x.own (o19.rd (i := 0) rfl) (by first | omega | (simp only [List.length_append, List.length_cons, List.length_nil]; omega) | (simp; done) | (simp; omega)) rfl rfl, ?_⟩
                                                  rintro _ _ ⟨A20, C21, s22, o23, rfl, rfl⟩
                                                  refine ⟨[(19, .pointer (some ⟨b15, 3, none⟩))], rfl, ?_⟩
                                                  refine ⟨⟨.inr ⟨_, rfl, rfl, .inl ⟨rfl, Do.fieldAddrB tf_fo47_3 rfl rfl⟩⟩, .inl (by kernel_rfl), .inl (by kernel_rfl), .inl (by kernel_rfl), .inl (by kernel_rfl), .inl (by kernel_rfl), .inl (by kernel_rfl), .inl (by kernel_rfl), .inl (by kernel_rfl), .inl (by kernel_rfl), .inl (by kernel_rfl), .inl (by kernel_rfl), .inl (by kernel_rfl), .inl (by kernel_rfl), .inl (by kernel_rfl), .inl (by kernel_rfl), .inl (by kernel_rfl), .inl (by kernel_rfl), trivial⟩, rfl, rfl, by kernel_rfl, _, rfl, rfl, rfl, _, Do.store (H' := s18 :: [(b15, .cells #[str ((spF 32 (ls.getD 0 [])).getD 0 []), str ((spF 32 (ls.getD 0 [])).getD 1 []), .int .i64 ((((spF 32 (ls.getD 0 [])).getD 2 []).getD 7 0 - 48 : UInt8).toNat : Int), .slice A20 (x.l ++ ([(subl (l4.getD (k + 1 : Nat) []) 0 a, trimF (subl (l4.getD (k + 1 : Nat) []) (a + 1) (l4.getD (k + 1 : Nat) []).length))])).length C21] 47 (0, 0))] :: s22 :: s5 :: [(b1, .cells #[str [], str [], .int .i64 0, .slice none 0 0] 47 (0, 0))] :: H) 1 0 tf_sz45 rfl rfl rfl rfl rfl rfl rfl rfl rfl, ?_⟩
                                                  rintro _ _ ⟨rfl, rfl⟩
                                                  refine ⟨[], rfl, ?_⟩
                                                  refine ⟨⟨.inl (by kernel_rfl), .inl (by kernel_rfl), .inl (by kernel_rfl), .inl (by kernel_rfl), .inl (by kernel_rfl), .inl (by kernel_rfl), .inl (by kernel_rfl), .inl (by kernel_rfl), .inl (by kernel_rfl), .inl (by kernel_rfl), .inl (by kernel_rfl), .inl (by kernel_rfl), .inl (by kernel_rfl), .inl (by kernel_rfl), .inl (by kernel_rfl), .inl (by kernel_rfl), .inl (by kernel_rfl), .inl (by kernel_rfl), trivial⟩, by kernel_rfl, ?_⟩
                                                  refine At.mono (E' := [(2, .pointer (some ⟨b1, 0, none⟩)), (4, .slice A2 l4.length C3), (8, .pointer (some ⟨b15, 0, none⟩)), (9, .int .i64 ((k + 1 : Nat) : Int))]) ⟨rfl, rfl, rfl, rfl, trivial⟩ ?_
                                                  refine At.inBlock ?_
                                                  refine At.region ?_
                                                  refine AtL.move (.inl rfl) rfl rfl ?_
                                                  refine AtL.add (z := ((k + 1 : Nat) : Int) + 1) (.inl rfl) rfl rfl rfl (w64 (by omega) (by omega)) ?_
                                                  refine AtL.assign (.inl rfl) rfl rfl ?_
                                                  refine AtL.done ?_
                                                  refine At.pick (H' := [(b15, .cells #[str ((spF 32 (ls.getD 0 [])).getD 0 []), str ((spF 32 (ls.getD 0 [])).getD 1 []), .int .i64 ((((spF 32 (ls.getD 0 [])).getD 2 []).getD 7 0 - 48 : UInt8).toNat : Int), .slice A20 (x.l ++ ([(subl (l4.getD (k + 1 : Nat) []) 0 a, trimF (subl (l4.getD (k + 1 : Nat) []) (a + 1) (l4.getD (k + 1 : Nat) []).length))])).length C21] 47 (0, 0))] :: s22 :: s5 :: [(b1, .cells #[str [], str [], .int .i64 0, .slice none 0 0] 47 (0, 0))] :: H) [1, 2, 3, 4] 5 rfl rfl ?_
                                                  refine ihL1 (k + 1) (⟨A20, C21, x.l ++ ([(subl (l4.getD (k + 1 : Nat) []) 0 a, trimF (subl (l4.getD (k + 1 : Nat) []) (a + 1) (l4.getD (k + 1 : Nat) []).length))]), s22, o23⟩) (⟨by omega, ⟨by simp; omega, by omega⟩, by rw [hfl, hst, if_neg (by omega), if_neg hok]; rw [hcut.2.1, hcut.2.2, trim_set]; cases fieldsF ((ls.drop 1).drop (k + 1)) (k + 1) <;> simp, fun f hf => by
                                                        rcases List.mem_append.1 hf with hf | hf
                                                        · exact hxb f hf
                                                        · simp only [List.mem_singleton] at hf; subst hf; exact ⟨by dsimp only; rw [subl_len (by omega)]; omega, by dsimp only; have := trimF_le (subl (l4.getD (k + 1) []) (a + 1) (l4.getD (k + 1) []).length); rw [subl_len (Nat.le_refl _)] at this; omega⟩⟩) (by omega) _ ?_
                                                  exact ⟨rfl, rfl, rfl, (by first | rfl | exact slLen (by simp [hxl]) | exact intEq (by omega) | exact intEq (by simp [hxl]) | exact slLen (by simp [hxl]; omega)), trivial⟩
                                    · intro hc8
                                      have hc8 : ¬ (((k + 1 : Nat) : Int) < ((l4.length : Int) - 1)) := of_decide_eq_false hc8
                                      refine At.exit rfl ?_
                                      refine At.seq ?_
                                      refine At.seq ?_
                                      refine At.region ?_
                                      refine AtL.loadN (cs := [str ((spF 32 (ls.getD 0 [])).getD 0 []), str ((spF 32 (ls.getD 0 [])).getD 1 []), .int .i64 ((((spF 32 (ls.getD 0 [])).getD 2 []).getD 7 0 - 48 : UInt8).toNat : Int), .slice x.A x.l.length x.C]) tf_agg47 (.inl rfl) rfl rfl rfl (cellsOwn 0 0 0 rfl rfl rfl) ?_
                                      refine AtL.call tf_body125 (.inl rfl) rfl rfl (rhosts_ok (m := ((spF 32 (ls.getD 0 [])).getD 0 [])) (t := ((spF 32 (ls.getD 0 [])).getD 1 [])) (minor := ((((spF 32 (ls.getD 0 [])).getD 2 []).getD 7 0 - 48 : UInt8).toNat : Int)) (fs := x.l) (x.own.rd (i := 1) rfl) (by omega) (fun f hf => by have := hxb f hf; omega)) ?_
                                      rintro _ _ ⟨rfl, rfl⟩
                                      refine AtL.not (.inl rfl) rfl rfl ?_
                                      refine AtL.done ?_
                                      refine At.cond rfl ?_ ?_
                                      · intro hc12
                                        have hc12 : (hostsF x.l ((((spF 32 (ls.getD 0 [])).getD 2 []).getD 7 0 - 48 : UInt8).toNat : Int)) = false := bnot_true hc12
                                        refine At.seq ?_
                                        refine At.region ?_
                                        refine AtL.build (cs := [str [], str [], .int .i64 0, .slice none 0 0]) tf_lay47 (.inl rfl) rfl rfl rfl ?_
                                        refine AtL.store (H' := [(b15, .cells #[str ((spF 32 (ls.getD 0 [])).getD 0 []), str ((spF 32 (ls.getD 0 [])).getD 1 []), .int .i64 ((((spF 32 (ls.getD 0 [])).getD 2 []).getD 7 0 - 48 : UInt8).toNat : Int), .slice x.A x.l.length x.C] 47 (0, 0))] :: x.s :: s5 :: [(b1, .cells #[str [], str [], .int .i64 0, .slice none 0 0] 47 (0, 0))] :: H) 3 0 tf_sz47 (.inl rfl) rfl rfl rfl rfl rfl rfl rfl rfl rfl ?_
                                        refine AtL.assign (.inl rfl) rfl rfl ?_
                                        refine AtL.done ?_
                                        refine At.nil ?_
                                        have hend : fieldsF (ls.drop 1) 0 = .inr x.l := by rw [hfl, List.drop_eq_nil_of_le (by omega), fieldsF]; simp
                                        have hp : parseF b = (.zero, 400) := by rw [hp0, headF_eq, if_neg hn3, if_neg (by rw [hver]; simp), if_neg (fun h5 => hc5 ((ver_is hver).2 h5)), if_neg (by omega), if_neg (by simpa using hc7), hend]; simp only []; rw [if_neg (by simpa using hc12)]
                                        exact At.retMP (vs := [.agg #[str [], str [], .int .i64 0, .slice none 0 0], .int .i64 400]) (H2 := [] :: H) [0] 5 rfl rfl Tryz.func81 rfl ⟨⟨_, rfl, LoadsTo.agg (cs := [str [], str [], .int .i64 0, .slice none 0 0]) tf_agg47 rfl (cellsOwn 4 0 0 rfl rfl rfl)⟩, rfl, trivial⟩ (⟨Sl.nil, by rw [hp]; rfl, by rw [hp]; rfl, rfl⟩)
                                      · intro hc12
                                        have hc12 : (hostsF x.l ((((spF 32 (ls.getD 0 [])).getD 2 []).getD 7 0 - 48 : UInt8).toNat : Int)) = true := bnot_false hc12
                                        refine At.skip ?_
                                        refine At.seq ?_
                                        refine At.region ?_
                                        refine AtL.loadN (cs := [str ((spF 32 (ls.getD 0 [])).getD 0 []), str ((spF 32 (ls.getD 0 [])).getD 1 []), .int .i64 ((((spF 32 (ls.getD 0 [])).getD 2 []).getD 7 0 - 48 : UInt8).toNat : Int), .slice x.A x.l.length x.C]) tf_agg47 (.inl rfl) rfl rfl rfl (cellsOwn 0 0 0 rfl rfl rfl) ?_
                                        refine AtL.store (H' := [(b15, .cells #[str ((spF 32 (ls.getD 0 [])).getD 0 []), str ((spF 32 (ls.getD 0 [])).getD 1 []), .int .i64 ((((spF 32 (ls.getD 0 [])).getD 2 []).getD 7 0 - 48 : UInt8).toNat : Int), .slice x.A x.l.length x.C] 47 (0, 0))] :: x.s :: s5 :: [(b1, .cells #[str ((spF 32 (ls.getD 0 [])).getD 0 []), str ((spF 32 (ls.getD 0 [])).getD 1 []), .int .i64 ((((spF 32 (ls.getD 0 [])).getD 2 []).getD 7 0 - 48 : UInt8).toNat : Int), .slice x.A x.l.length x.C] 47 (0, 0))] :: H) 3 0 tf_sz47 (.inl rfl) rfl rfl rfl rfl rfl rfl rfl rfl rfl ?_
                                        refine AtL.assign (.inl rfl) rfl rfl ?_
                                        refine AtL.done ?_
                                        have hend : fieldsF (ls.drop 1) 0 = .inr x.l := by rw [hfl, List.drop_eq_nil_of_le (by omega), fieldsF]; simp
                                        have hp : parseF b = (⟨(spF 32 (ls.getD 0 [])).getD 0 [], (spF 32 (ls.getD 0 [])).getD 1 [], ((((spF 32 (ls.getD 0 [])).getD 2 []).getD 7 0 - 48).toNat : Int), x.l⟩, 200) := by rw [hp0, headF_eq, if_neg hn3, if_neg (by rw [hver]; simp), if_neg (fun h5 => hc5 ((ver_is hver).2 h5)), if_neg (by omega), if_neg (by simpa using hc7), hend]; simp only []; rw [if_pos (by simpa using hc12)]
                                        exact At.retMP (vs := [.agg #[str ((spF 32 (ls.getD 0 [])).getD 0 []), str ((spF 32 (ls.getD 0 [])).getD 1 []), .int .i64 ((((spF 32 (ls.getD 0 [])).getD 2 []).getD 7 0 - 48 : UInt8).toNat : Int), .slice x.A x.l.length x.C], .int .i64 200]) (H2 := x.s :: H) [1] 4 rfl rfl Tryz.func81 rfl ⟨⟨_, rfl, LoadsTo.agg (cs := [str ((spF 32 (ls.getD 0 [])).getD 0 []), str ((spF 32 (ls.getD 0 [])).getD 1 []), .int .i64 ((((spF 32 (ls.getD 0 [])).getD 2 []).getD 7 0 - 48 : UInt8).toNat : Int), .slice x.A x.l.length x.C]) tf_agg47 rfl (cellsOwn 3 0 0 rfl rfl rfl)⟩, rfl, trivial⟩ (⟨x, by rw [hp]; rfl, by rw [hp], rfl⟩)
end Go.Proofs.YtlkdmbpbjhjkfaaGreatDoor
namespace Go.Proofs.YtlkdmbpbjhjkfaaGreatDoor
set_option linter.unusedVariables false
set_option linter.unusedSimpArgs false
set_option maxRecDepth 100000
theorem all_mem {fs : List Fld} {nm : List UInt8} {f : Fld} (hf : f ∈ fs) (hn : lowerF f.1 = lowerF nm) : f.2 ∈ allF fs nm := List.mem_map.2 ⟨f, List.mem_filter.2 ⟨hf, by simpa using hn⟩, rfl⟩
theorem len_bad2 {fs : List Fld} (h : ¬ (0 : Int) < ((fieldF fs [116, 114, 97, 110, 115, 102, 101, 114, 45, 101, 110, 99, 111, 100, 105, 110, 103]).2 : Int)) {f : Fld} (hf : f ∈ fs) (hn : lowerF f.1 = lowerF [99, 111, 110, 116, 101, 110, 116, 45, 108, 101, 110, 103, 116, 104]) (hv : ¬ f.2 = (fieldF fs [99, 111, 110, 116, 101, 110, 116, 45, 108, 101, 110, 103, 116, 104]).1) : lengthF fs = (0, 400) := by
  have hm := all_mem hf hn
  obtain ⟨k, hk⟩ := List.mem_iff_getElem?.1 hm
  have hkl := (List.getElem?_eq_some_iff.1 hk).1
  have e : (allF fs [99, 111, 110, 116, 101, 110, 116, 45, 108, 101, 110, 103, 116, 104]).getD k [] = f.2 := by simp [List.getD, hk]
  refine len_bad h rfl hkl (.inr ?_)
  rw [e]
  intro h2
  exact hv (by rw [h2, fieldF]; cases allF fs [99, 111, 110, 116, 101, 110, 116, 45, 108, 101, 110, 103, 116, 104] <;> rfl)
theorem first_get {fs : List Fld} {nm : List UInt8} : (fieldF fs nm).1 = (allF fs nm).getD 0 [] := by rw [fieldF]; cases allF fs nm <;> rfl
theorem all_first {fs : List Fld} (hall : ∀ f ∈ fs, lowerF f.1 = lowerF [99, 111, 110, 116, 101, 110, 116, 45, 108, 101, 110, 103, 116, 104] → f.2 = (fieldF fs [99, 111, 110, 116, 101, 110, 116, 45, 108, 101, 110, 103, 116, 104]).1) : ∀ k, k < (allF fs [99, 111, 110, 116, 101, 110, 116, 45, 108, 101, 110, 103, 116, 104]).length → (allF fs [99, 111, 110, 116, 101, 110, 116, 45, 108, 101, 110, 103, 116, 104]).getD k [] = (allF fs [99, 111, 110, 116, 101, 110, 116, 45, 108, 101, 110, 103, 116, 104]).getD 0 [] := by
  intro k hk
  have hm := getD_mem (l := allF fs [99, 111, 110, 116, 101, 110, 116, 45, 108, 101, 110, 103, 116, 104]) (i := k) (d := ([] : List UInt8)) hk
  obtain ⟨f, hf, he⟩ := List.mem_map.1 hm
  obtain ⟨h1, h2⟩ := List.mem_filter.1 hf
  rw [← he, ← first_get]
  exact hall f h1 (by simpa using h2)
theorem size_bad {s : List UInt8} {k : Nat} (hk : k < s.length) (h : ¬ (48 ≤ ((s.getD k 0).toNat : Int) ∧ ((s.getD k 0).toNat : Int) ≤ 57)) : (sizeF s).isSome = false := by
  rw [sizeF]
  split
  · rw [Lib.decNat]
    split
    · rfl
    · rw [dec_all]
      exact all_bad (p := fun c => decide (48 ≤ c.toNat ∧ c.toNat ≤ 57)) hk (decide_eq_false (by omega))
  · rfl
theorem size_end {s : List UInt8} {n : Nat} (h0 : s ≠ []) (h1 : s.length ≤ 10) (h : Lib.decFrom 0 s = some n) : sizeF s = some n := by
  rw [sizeF, if_pos h1, Lib.decNat, if_neg (by cases s <;> simp_all), h]
theorem nat48 {c : UInt8} (hd : 48 ≤ (c.toNat : Int) ∧ (c.toNat : Int) ≤ 57) : (c - 48).toNat = c.toNat - 48 := by
  have := sub48 (c := c) hd
  have h2 : IntKind.u8.wrap ((c.toNat : Int) - 48) = (c.toNat : Int) - 48 := w8 (by omega) (by omega)
  omega
theorem dec_step {s : List UInt8} {k n : Nat} (hk : k < s.length) (h : Lib.decFrom 0 (s.take k) = some n) (hd : 48 ≤ ((s.getD k 0).toNat : Int) ∧ ((s.getD k 0).toNat : Int) ≤ 57) : Lib.decFrom 0 (s.take (k + 1)) = some (10 * n + ((s.getD k 0) - 48).toNat) := by
  rw [take_succ_d s k hk]
  have h48 : ((s.getD k 0) - 48).toNat = (s.getD k 0).toNat - 48 := by
    have := sub48 (c := s.getD k 0) hd
    have h2 : IntKind.u8.wrap (((s.getD k 0).toNat : Int) - 48) = ((s.getD k 0).toNat : Int) - 48 := w8 (by omega) (by omega)
    omega
  refine decFrom_app _ _ 0 n _ ((s.getD k 0).toNat - 48) h ?_ (by rw [h48]; omega)
  rw [Lib.digitVal, if_pos (by omega)]
set_option maxHeartbeats 400000 in
theorem rlength_ok {w0 : World} {base : Nat} {H : List Seg} {m t : List UInt8} {minor : Int} {A : Option Addr} {C : Nat} {fs : List (List UInt8 × List UInt8)} (h : Rd tyField w0 base H A C fs) (hfl : fs.length ≤ 1000) (hb : ∀ f ∈ fs, f.1.length ≤ 140737488355000 ∧ f.2.length ≤ 140737488355000) :
    SCalls Tryz.prog 83 [.agg #[str m, str t, .int .i64 minor, .slice A fs.length C]] w0 base (H) (fun v H' => v = .tuple #[int (lengthF fs).1, int (lengthF fs).2] ∧ H' = H) := by
  have hle0 := h.le
  have hcap0 := h.cap
  refine SCalls.of_walk (n := 79) Tryz.func83 rfl rfl rfl fun cs => ?_
  refine At.seq ?_
  refine At.region ?_
  refine AtL.box (cs := #[str m, str t, .int .i64 minor, .slice A fs.length C]) rfl (.inl rfl) rfl rfl ?_
  intro b1
  refine AtL.assign (.inl rfl) rfl rfl ?_
  refine AtL.assign (.inl rfl) rfl rfl ?_
  refine AtL.done ?_
  refine At.seq ?_
  refine At.region ?_
  refine AtL.loadN (cs := [str m, str t, .int .i64 minor, .slice A fs.length C]) tf_agg47 (.inl rfl) rfl rfl rfl (cellsOwn 0 0 0 rfl rfl rfl) ?_
  refine AtL.call tf_body82 (.inl rfl) rfl rfl (rfield_ok (m := m) (t := t) (minor := minor) (fs := fs) (Rd.skip 1 h) (nm := [116, 114, 97, 110, 115, 102, 101, 114, 45, 101, 110, 99, 111, 100, 105, 110, 103]) (by decide) hfl hb) ?_
  rintro _ _ ⟨rfl, rfl⟩
  refine AtL.move (.inl rfl) rfl rfl ?_
  refine AtL.extract (.inl rfl) rfl rfl rfl ?_
  refine AtL.extract (.inl rfl) rfl rfl rfl ?_
  refine AtL.assign (.inl rfl) rfl rfl ?_
  refine AtL.assign (.inl rfl) rfl rfl ?_
  refine AtL.done ?_
  refine At.seq ?_
  refine At.seq ?_
  refine At.region ?_
  refine AtL.move (.inl rfl) rfl rfl ?_
  refine AtL.gtr (.inl rfl) rfl rfl rfl ?_
  refine AtL.done ?_
  refine At.cond rfl ?_ ?_
  · intro hc1
    have hc1 : 0 < ((fieldF fs [116, 114, 97, 110, 115, 102, 101, 114, 45, 101, 110, 99, 111, 100, 105, 110, 103]).2 : Int) := of_decide_eq_true hc1
    refine At.seq ?_
    refine At.region ?_
    refine AtL.assign (.inl rfl) rfl rfl ?_
    refine AtL.assign (.inl rfl) rfl rfl ?_
    refine AtL.done ?_
    refine At.pick (H' := H) [] 1 rfl rfl ?_
    exact At.ret Tryz.func83 rfl rfl (⟨by rw [len_te hc1]; rfl, rfl⟩)
  · intro hc1
    have hc1 : ¬ (0 < ((fieldF fs [116, 114, 97, 110, 115, 102, 101, 114, 45, 101, 110, 99, 111, 100, 105, 110, 103]).2 : Int)) := of_decide_eq_false hc1
    refine At.skip ?_
    refine At.seq ?_
    refine At.region ?_
    refine AtL.loadN (cs := [str m, str t, .int .i64 minor, .slice A fs.length C]) tf_agg47 (.inl rfl) rfl rfl rfl (cellsOwn 0 0 0 rfl rfl rfl) ?_
    refine AtL.call tf_body82 (.inl rfl) rfl rfl (rfield_ok (m := m) (t := t) (minor := minor) (fs := fs) (Rd.skip 1 h) (nm := [99, 111, 110, 116, 101, 110, 116, 45, 108, 101, 110, 103, 116, 104]) (by decide) hfl hb) ?_
    rintro _ _ ⟨rfl, rfl⟩
    refine AtL.move (.inl rfl) rfl rfl ?_
    refine AtL.extract (.inl rfl) rfl rfl rfl ?_
    refine AtL.extract (.inl rfl) rfl rfl rfl ?_
    refine AtL.assign (.inl rfl) rfl rfl ?_
    refine AtL.assign (.inl rfl) rfl rfl ?_
    refine AtL.done ?_
    refine At.seq ?_
    refine At.seq ?_
    refine At.region ?_
    refine AtL.move (.inl rfl) rfl rfl ?_
    refine AtL.eqi (.inl rfl) rfl rfl rfl ?_
    refine AtL.done ?_
    refine At.cond rfl ?_ ?_
    · intro hc2
      have hc2 : ((fieldF fs [99, 111, 110, 116, 101, 110, 116, 45, 108, 101, 110, 103, 116, 104]).2 : Int) = 0 := of_decide_eq_true hc2
      refine At.seq ?_
      refine At.region ?_
      refine AtL.assign (.inl rfl) rfl rfl ?_
      refine AtL.assign (.inl rfl) rfl rfl ?_
      refine AtL.done ?_
      refine At.pick (H' := H) [] 1 rfl rfl ?_
      exact At.ret Tryz.func83 rfl rfl (⟨by rw [len_no hc1 rfl (List.eq_nil_of_length_eq_zero (by rw [fieldF] at hc2; simpa using hc2))]; rfl, rfl⟩)
    · intro hc2
      have hc2 : ¬ (((fieldF fs [99, 111, 110, 116, 101, 110, 116, 45, 108, 101, 110, 103, 116, 104]).2 : Int) = 0) := of_decide_eq_false hc2
      refine At.skip ?_
      refine At.seq ?_
      refine At.seq ?_
      refine At.region ?_
      refine AtL.assign (.inl rfl) rfl rfl ?_
      refine AtL.done ?_
      refine At.block ?_
      refine At.loop (fun (k : Nat) => [(1, .pointer (some ⟨b1, 0, none⟩)), (6, str ((fieldF fs [99, 111, 110, 116, 101, 110, 116, 45, 108, 101, 110, 103, 116, 104]).1)), (8, .int .i64 (k : Int))]) (fun (k : Nat) => [(b1, .cells #[str m, str t, .int .i64 minor, .slice A fs.length C] 47 (0, 0))] :: H) (fun (k : Nat) => k ≤ fs.length ∧ ∀ f ∈ fs.take k, lowerF f.1 = lowerF [99, 111, 110, 116, 101, 110, 116, 45, 108, 101, 110, 103, 116, 104] → f.2 = (fieldF fs [99, 111, 110, 116, 101, 110, 116, 45, 108, 101, 110, 103, 116, 104]).1) (fun (k : Nat) => fs.length - k) 0 (⟨Nat.zero_le _, fun f hf => absurd hf (by simp)⟩) ⟨rfl, rfl, rfl, trivial⟩ rfl ?_
      rintro k ⟨hk, hall⟩ ihL1
      refine At.seq ?_
      refine At.seq ?_
      refine At.region ?_
      refine AtL.move (.inl rfl) rfl rfl ?_
      refine AtL.fieldAddrB tf_fo47_3 (.inl rfl) rfl rfl rfl ?_
      refine AtL.load tf_flat45 (.inl rfl) rfl rfl (Cell.own 0 0 rfl rfl rfl) ?_
      refine AtL.lenL Tryz.underlying45 (.inl rfl) rfl rfl ?_
      refine AtL.lss (.inl rfl) rfl rfl rfl ?_
      refine AtL.done ?_
      refine At.cond rfl ?_ ?_
      · intro hc3
        have hc3 : (k : Int) < (fs.length : Int) := of_decide_eq_true hc3
        have hbk := hb _ (getD_mem (l := fs) (i := k) (d := (([], []) : List UInt8 × List UInt8)) (by omega))
        refine At.skip ?_
        refine At.seq ?_
        refine At.block ?_
        refine At.seq ?_
        refine At.region ?_
        refine AtL.fieldAddrB tf_fo47_3 (.inl rfl) rfl rfl rfl ?_
        refine AtL.load tf_flat45 (.inl rfl) rfl rfl (Cell.own 0 0 rfl rfl rfl) ?_
        refine AtL.move (.inl rfl) rfl rfl ?_
        refine AtL.indexL k (Rd.skip 1 h) Tryz.underlying45 tf_sz78 (.inl rfl) rfl rfl rfl rfl (by omega) ?_
        refine AtL.fieldAddr tf_fo78_0 (.inl rfl) rfl rfl ?_
        refine AtL.load (v := str ((fs.getD k (([], []) : List UInt8 × List UInt8)).1)) tf_flat9 (.inl rfl) rfl rfl (Rd.cell_at (Rd.skip 1 h) (j := 0) (getD_some (([], []) : List UInt8 × List UInt8) (by omega)) rfl) ?_
        refine AtL.call tf_body126 (.inl rfl) rfl rfl (rsame_ok (a := (fs.getD k (([], []) : List UInt8 × List UInt8)).1) (b := [99, 111, 110, 116, 101, 110, 116, 45, 108, 101, 110, 103, 116, 104]) (by omega) (by decide)) ?_
        rintro _ _ ⟨rfl, rfl⟩
        refine AtL.move (.inl rfl) rfl rfl ?_
        refine AtL.join 9 (E' := [(48, .bool (decide ((lowerF ((fs.getD k (([], []) : List UInt8 × List UInt8)).1) = lowerF [99, 111, 110, 116, 101, 110, 116, 45, 108, 101, 110, 103, 116, 104]) ∧ (¬ ((fs.getD k (([], []) : List UInt8 × List UInt8)).2 = (fieldF fs [99, 111, 110, 116, 101, 110, 116, 45, 108, 101, 110, 103, 116, 104]).1))))), (1, .pointer (some ⟨b1, 0, none⟩)), (6, str ((fieldF fs [99, 111, 110, 116, 101, 110, 116, 45, 108, 101, 110, 103, 116, 104]).1)), (8, .int .i64 (k : Int))]) (H' := [(b1, .cells #[str m, str t, .int .i64 minor, .slice A fs.length C] 47 (0, 0))] :: H) (fun J => ?_) ?_
        · refine AtL.split (t := 39) rfl ?_ ?_
          · intro hs39
            have hs39 : lowerF ((fs.getD k (([], []) : List UInt8 × List UInt8)).1) = lowerF [99, 111, 110, 116, 101, 110, 116, 45, 108, 101, 110, 103, 116, 104] := of_decide_eq_true hs39
            refine AtL.fieldAddrB tf_fo47_3 (.inr ⟨_, _, _, rfl, rfl, rfl, rfl⟩) rfl rfl rfl ?_
            refine AtL.load tf_flat45 (.inr ⟨_, _, _, rfl, rfl, rfl, rfl⟩) rfl rfl (Cell.own 0 0 rfl rfl rfl) ?_
            refine AtL.move (.inr ⟨_, _, _, rfl, rfl, rfl, rfl⟩) rfl rfl ?_
            refine AtL.indexL k (Rd.skip 1 h) Tryz.underlying45 tf_sz78 (.inr ⟨_, _, _, rfl, rfl, rfl, rfl⟩) rfl rfl rfl rfl (by omega) ?_
            refine AtL.fieldAddr tf_fo78_1 (.inr ⟨_, _, _, rfl, rfl, rfl, rfl⟩) rfl rfl ?_
            refine AtL.load (v := str ((fs.getD k (([], []) : List UInt8 × List UInt8)).2)) tf_flat9 (.inr ⟨_, _, _, rfl, rfl, rfl, rfl⟩) rfl rfl (Rd.cell_at (Rd.skip 1 h) (j := 1) (getD_some (([], []) : List UInt8 × List UInt8) (by omega)) rfl) ?_
            refine AtL.move (.inr ⟨_, _, _, rfl, rfl, rfl, rfl⟩) rfl rfl ?_
            refine AtL.nes (a := (fs.getD k (([], []) : List UInt8 × List UInt8)).2) (b := (fieldF fs [99, 111, 110, 116, 101, 110, 116, 45, 108, 101, 110, 103, 116, 104]).1) (.inr ⟨_, _, _, rfl, rfl, rfl, rfl⟩) rfl rfl rfl ?_
            refine AtL.pickT (.inl rfl) rfl rfl rfl ?_
            exact J _ (by exact ⟨(boolIs (by clear J; first | (simp [hs39]; done) | (simp_all; done) | grind)), rfl, rfl, rfl, trivial⟩)
          · intro hs39
            have hs39 : ¬ (lowerF ((fs.getD k (([], []) : List UInt8 × List UInt8)).1) = lowerF [99, 111, 110, 116, 101, 110, 116, 45, 108, 101, 110, 103, 116, 104]) := of_decide_eq_false hs39
            refine AtL.skipped rfl rfl rfl rfl rfl rfl ?_
            refine AtL.skipped rfl rfl rfl rfl rfl rfl ?_
            refine AtL.skipped rfl rfl rfl rfl rfl rfl ?_
            refine AtL.skipped rfl rfl rfl rfl rfl rfl ?_
            refine AtL.skipped rfl rfl rfl rfl rfl rfl ?_
            refine AtL.skipped rfl rfl rfl rfl rfl rfl ?_
            refine AtL.skipped rfl rfl rfl rfl rfl rfl ?_
            refine AtL.skipped rfl rfl rfl rfl rfl rfl ?_
            refine AtL.pickF (.inl rfl) rfl rfl rfl ?_
            exact J _ (by exact ⟨(boolIs (by clear J; first | (simp [hs39]; done) | (simp_all; done) | grind)), rfl, rfl, rfl, trivial⟩)
        · skip
          refine AtL.done ?_
          refine At.cond rfl ?_ ?_
          · intro hc4
            have hc4 : (lowerF ((fs.getD k (([], []) : List UInt8 × List UInt8)).1) = lowerF [99, 111, 110, 116, 101, 110, 116, 45, 108, 101, 110, 103, 116, 104]) ∧ (¬ ((fs.getD k (([], []) : List UInt8 × List UInt8)).2 = (fieldF fs [99, 111, 110, 116, 101, 110, 116, 45, 108, 101, 110, 103, 116, 104]).1)) := of_decide_eq_true hc4
            refine At.seq ?_
            refine At.region ?_
            refine AtL.assign (.inl rfl) rfl rfl ?_
            refine AtL.assign (.inl rfl) rfl rfl ?_
            refine AtL.done ?_
            refine At.pick (H' := H) [] 1 rfl rfl ?_
            exact At.ret Tryz.func83 rfl rfl (⟨by rw [len_bad2 hc1 (getD_mem (l := fs) (i := k) (d := (([], []) : List UInt8 × List UInt8)) (by omega)) hc4.1 hc4.2]; rfl, rfl⟩)
          · intro hc4
            have hc4 : ¬ ((lowerF ((fs.getD k (([], []) : List UInt8 × List UInt8)).1) = lowerF [99, 111, 110, 116, 101, 110, 116, 45, 108, 101, 110, 103, 116, 104]) ∧ (¬ ((fs.getD k (([], []) : List UInt8 × List UInt8)).2 = (fieldF fs [99, 111, 110, 116, 101, 110, 116, 45, 108, 101, 110, 103, 116, 104]).1))) := of_decide_eq_false hc4
            refine At.skip ?_
            refine At.inBlock ?_
            refine At.region ?_
            refine AtL.move (.inl rfl) rfl rfl ?_
            refine AtL.add (z := (k : Int) + 1) (.inl rfl) rfl rfl rfl (w64 (by omega) (by omega)) ?_
            refine AtL.assign (.inl rfl) rfl rfl ?_
            refine AtL.done ?_
            refine ihL1 (k + 1) (⟨by omega, fun f hf hn => (by rw [List.take_succ_eq_append_getElem (show k < fs.length by omega)] at hf; rcases List.mem_append.1 hf with hf | hf; exact hall f hf hn; simp only [List.mem_singleton] at hf; have e : f = fs.getD k ([], []) := (by rw [hf]; simp [List.getD, show k < fs.length by omega]); subst e; exact Classical.byContradiction (fun hv => hc4 ⟨hn, hv⟩))⟩) (by omega) _ ?_
            exact ⟨rfl, rfl, (by first | rfl | exact slLen (by simp []) | exact intEq (by omega) | exact intEq (by simp []) | exact slLen (by simp []; omega)), trivial⟩
      · intro hc3
        have hc3 : ¬ ((k : Int) < (fs.length : Int)) := of_decide_eq_false hc3
        refine At.exit rfl ?_
        refine At.seq ?_
        refine At.seq ?_
        refine At.region ?_
        refine AtL.move (.inl rfl) rfl rfl ?_
        refine AtL.lenS (l := (fieldF fs [99, 111, 110, 116, 101, 110, 116, 45, 108, 101, 110, 103, 116, 104]).1) Tryz.underlying9 (.inl rfl) rfl rfl ?_
        refine AtL.lss (.inl rfl) rfl rfl rfl ?_
        refine AtL.move (.inl rfl) rfl rfl ?_
        refine AtL.join 4 (E' := [(56, .bool (decide (((((fieldF fs [99, 111, 110, 116, 101, 110, 116, 45, 108, 101, 110, 103, 116, 104]).1).length : Int) < 1) ∨ (10 < (((fieldF fs [99, 111, 110, 116, 101, 110, 116, 45, 108, 101, 110, 103, 116, 104]).1).length : Int))))), (6, str ((fieldF fs [99, 111, 110, 116, 101, 110, 116, 45, 108, 101, 110, 103, 116, 104]).1))]) (H' := [(b1, .cells #[str m, str t, .int .i64 minor, .slice A fs.length C] 47 (0, 0))] :: H) (fun J => ?_) ?_
        · refine AtL.split (t := 52) rfl ?_ ?_
          · intro hs52
            have hs52 : (((fieldF fs [99, 111, 110, 116, 101, 110, 116, 45, 108, 101, 110, 103, 116, 104]).1).length : Int) < 1 := of_decide_eq_true hs52
            refine AtL.skipped rfl rfl rfl rfl rfl rfl ?_
            refine AtL.skipped rfl rfl rfl rfl rfl rfl ?_
            refine AtL.skipped rfl rfl rfl rfl rfl rfl ?_
            refine AtL.pickT (.inl rfl) rfl rfl rfl ?_
            exact J _ (by exact ⟨(boolIs (by clear J; first | (simp [hs52]; done) | (simp_all; done) | grind)), rfl, trivial⟩)
          · intro hs52
            have hs52 : ¬ ((((fieldF fs [99, 111, 110, 116, 101, 110, 116, 45, 108, 101, 110, 103, 116, 104]).1).length : Int) < 1) := of_decide_eq_false hs52
            refine AtL.move (.inr ⟨_, _, _, rfl, rfl, rfl, rfl⟩) rfl rfl ?_
            refine AtL.lenS (l := (fieldF fs [99, 111, 110, 116, 101, 110, 116, 45, 108, 101, 110, 103, 116, 104]).1) Tryz.underlying9 (.inr ⟨_, _, _, rfl, rfl, rfl, rfl⟩) rfl rfl ?_
            refine AtL.gtr (.inr ⟨_, _, _, rfl, rfl, rfl, rfl⟩) rfl rfl rfl ?_
            refine AtL.pickF (.inl rfl) rfl rfl rfl ?_
            exact J _ (by exact ⟨(boolIs (by clear J; first | (simp [hs52]; done) | (simp_all; done) | grind)), rfl, trivial⟩)
        · skip
          refine AtL.done ?_
          refine At.cond rfl ?_ ?_
          · intro hc5
            have hc5 : ((((fieldF fs [99, 111, 110, 116, 101, 110, 116, 45, 108, 101, 110, 103, 116, 104]).1).length : Int) < 1) ∨ (10 < (((fieldF fs [99, 111, 110, 116, 101, 110, 116, 45, 108, 101, 110, 103, 116, 104]).1).length : Int)) := of_decide_eq_true hc5
            refine At.seq ?_
            refine At.region ?_
            refine AtL.assign (.inl rfl) rfl rfl ?_
            refine AtL.assign (.inl rfl) rfl rfl ?_
            refine AtL.done ?_
            refine At.pick (H' := H) [] 1 rfl rfl ?_
            exact At.ret Tryz.func83 rfl rfl (⟨by rw [len_bad hc1 rfl (k := 0) (by have h0 : (fieldF fs [99, 111, 110, 116, 101, 110, 116, 45, 108, 101, 110, 103, 116, 104]).2 = (allF fs [99, 111, 110, 116, 101, 110, 116, 45, 108, 101, 110, 103, 116, 104]).length := rfl; omega) (.inl (by rw [← first_get, sizeF]; split; rw [Lib.decNat, if_pos (by rw [List.isEmpty_iff]; exact List.eq_nil_of_length_eq_zero (by omega))]; rfl; rfl))]; rfl, rfl⟩)
          · intro hc5
            have hc5 : ¬ (((((fieldF fs [99, 111, 110, 116, 101, 110, 116, 45, 108, 101, 110, 103, 116, 104]).1).length : Int) < 1) ∨ (10 < (((fieldF fs [99, 111, 110, 116, 101, 110, 116, 45, 108, 101, 110, 103, 116, 104]).1).length : Int))) := of_decide_eq_false hc5
            refine At.skip ?_
            refine At.seq ?_
            refine At.region ?_
            refine AtL.assign (.inl rfl) rfl rfl ?_
            refine AtL.done ?_
            refine At.seq ?_
            refine At.seq ?_
            refine At.region ?_
            refine AtL.assign (.inl rfl) rfl rfl ?_
            refine AtL.done ?_
            refine At.block ?_
            rw [List.take_of_length_le (by omega)] at hall
            have hF : ((fieldF fs [99, 111, 110, 116, 101, 110, 116, 45, 108, 101, 110, 103, 116, 104]).1).length ≤ 10 := by omega
            refine At.loop2 (fun (k : Nat) (n : Nat) => [(6, str ((fieldF fs [99, 111, 110, 116, 101, 110, 116, 45, 108, 101, 110, 103, 116, 104]).1)), (9, .int .i64 (n : Int)), (10, .int .i64 (k : Int))]) (fun (k : Nat) (n : Nat) => [(b1, .cells #[str m, str t, .int .i64 minor, .slice A fs.length C] 47 (0, 0))] :: H) (fun (k : Nat) (n : Nat) => k ≤ ((fieldF fs [99, 111, 110, 116, 101, 110, 116, 45, 108, 101, 110, 103, 116, 104]).1).length ∧ Lib.decFrom 0 (((fieldF fs [99, 111, 110, 116, 101, 110, 116, 45, 108, 101, 110, 103, 116, 104]).1).take k) = some n ∧ n < 10 ^ k) (fun (k : Nat) (n : Nat) => ((fieldF fs [99, 111, 110, 116, 101, 110, 116, 45, 108, 101, 110, 103, 116, 104]).1).length - k) 0 0 (⟨Nat.zero_le _, rfl, by decide⟩) ⟨rfl, rfl, rfl, trivial⟩ rfl ?_
            rintro k n ⟨hk, hdec, hn⟩ ihL2
            have hp10 : (10 : Nat) ^ k ≤ 10 ^ 10 := Nat.pow_le_pow_right (by decide) (by omega)
            have hp11 : (10 : Nat) ^ 10 = 10000000000 := by decide
            refine At.seq ?_
            refine At.seq ?_
            refine At.region ?_
            refine AtL.move (.inl rfl) rfl rfl ?_
            refine AtL.move (.inl rfl) rfl rfl ?_
            refine AtL.lenS (l := (fieldF fs [99, 111, 110, 116, 101, 110, 116, 45, 108, 101, 110, 103, 116, 104]).1) Tryz.underlying9 (.inl rfl) rfl rfl ?_
            refine AtL.lss (.inl rfl) rfl rfl rfl ?_
            refine AtL.done ?_
            refine At.cond rfl ?_ ?_
            · intro hc6
              have hc6 : (k : Int) < (((fieldF fs [99, 111, 110, 116, 101, 110, 116, 45, 108, 101, 110, 103, 116, 104]).1).length : Int) := of_decide_eq_true hc6
              refine At.skip ?_
              refine At.seq ?_
              refine At.block ?_
              refine At.seq ?_
              refine At.seq ?_
              refine At.region ?_
              refine AtL.move (.inl rfl) rfl rfl ?_
              refine AtL.move (.inl rfl) rfl rfl ?_
              refine AtL.indexS (l := (fieldF fs [99, 111, 110, 116, 101, 110, 116, 45, 108, 101, 110, 103, 116, 104]).1) k rfl (by omega) Tryz.underlying9 (.inl rfl) rfl rfl rfl ?_
              refine AtL.call tf_body122 (.inl rfl) rfl rfl (rdigit_ok (((fieldF fs [99, 111, 110, 116, 101, 110, 116, 45, 108, 101, 110, 103, 116, 104]).1).getD k 0)) ?_
              rintro _ _ ⟨rfl, rfl⟩
              refine AtL.not (.inl rfl) rfl rfl ?_
              refine AtL.done ?_
              refine At.cond rfl ?_ ?_
              · intro hc7
                have hc7 : ¬ (48 ≤ ((((fieldF fs [99, 111, 110, 116, 101, 110, 116, 45, 108, 101, 110, 103, 116, 104]).1).getD k 0).toNat : Int) ∧ ((((fieldF fs [99, 111, 110, 116, 101, 110, 116, 45, 108, 101, 110, 103, 116, 104]).1).getD k 0).toNat : Int) ≤ 57) := of_decide_eq_false (bnot_true hc7)
                refine At.seq ?_
                refine At.region ?_
                refine AtL.assign (.inl rfl) rfl rfl ?_
                refine AtL.assign (.inl rfl) rfl rfl ?_
                refine AtL.done ?_
                refine At.pick (H' := H) [] 1 rfl rfl ?_
                exact At.ret Tryz.func83 rfl rfl (⟨by rw [len_bad hc1 rfl (k := 0) (by have h0 : (fieldF fs [99, 111, 110, 116, 101, 110, 116, 45, 108, 101, 110, 103, 116, 104]).2 = (allF fs [99, 111, 110, 116, 101, 110, 116, 45, 108, 101, 110, 103, 116, 104]).length := rfl; omega) (.inl (by rw [← first_get]; exact size_bad (k := k) (by omega) hc7))]; rfl, rfl⟩)
              · intro hc7
                have hc7 : 48 ≤ ((((fieldF fs [99, 111, 110, 116, 101, 110, 116, 45, 108, 101, 110, 103, 116, 104]).1).getD k 0).toNat : Int) ∧ ((((fieldF fs [99, 111, 110, 116, 101, 110, 116, 45, 108, 101, 110, 103, 116, 104]).1).getD k 0).toNat : Int) ≤ 57 := of_decide_eq_true (bnot_false hc7)
                refine At.skip ?_
                refine At.region ?_
                refine AtL.move (.inl rfl) rfl rfl ?_
                refine AtL.mul (z := 10 * (n : Int)) (.inl rfl) rfl rfl rfl (w64 (by omega) (by omega)) ?_
                refine AtL.move (.inl rfl) rfl rfl ?_
                refine AtL.move (.inl rfl) rfl rfl ?_
                refine AtL.indexS (l := (fieldF fs [99, 111, 110, 116, 101, 110, 116, 45, 108, 101, 110, 103, 116, 104]).1) k rfl (by omega) Tryz.underlying9 (.inl rfl) rfl rfl rfl ?_
                refine AtL.sub (z := ((((fieldF fs [99, 111, 110, 116, 101, 110, 116, 45, 108, 101, 110, 103, 116, 104]).1).getD k 0 - 48 : UInt8).toNat : Int)) (.inl rfl) rfl rfl rfl (sub48 hc7) ?_
                have hB2 := u8_le ((((fieldF fs [99, 111, 110, 116, 101, 110, 116, 45, 108, 101, 110, 103, 116, 104]).1).getD k 0 - 48 : UInt8))
                refine AtL.convInt (z := ((((fieldF fs [99, 111, 110, 116, 101, 110, 116, 45, 108, 101, 110, 103, 116, 104]).1).getD k 0 - 48 : UInt8).toNat : Int)) Tryz.underlying5 Tryz.underlying3 (.inl rfl) rfl rfl (u8_i64 _) ?_
                refine AtL.add (z := (10 * (n : Int)) + ((((fieldF fs [99, 111, 110, 116, 101, 110, 116, 45, 108, 101, 110, 103, 116, 104]).1).getD k 0 - 48 : UInt8).toNat : Int)) (.inl rfl) rfl rfl rfl (w64 (by omega) (by omega)) ?_
                refine AtL.assign (.inl rfl) rfl rfl ?_
                refine AtL.done ?_
                refine At.inBlock ?_
                refine At.region ?_
                refine AtL.move (.inl rfl) rfl rfl ?_
                refine AtL.add (z := (k : Int) + 1) (.inl rfl) rfl rfl rfl (w64 (by omega) (by omega)) ?_
                refine AtL.assign (.inl rfl) rfl rfl ?_
                refine AtL.done ?_
                refine ihL2 (k + 1) ((10 * n) + ((((fieldF fs [99, 111, 110, 116, 101, 110, 116, 45, 108, 101, 110, 103, 116, 104]).1).getD k 0 - 48 : UInt8).toNat)) (⟨by omega, dec_step (by omega) hdec hc7, by have h48 := nat48 hc7; rw [Nat.pow_succ]; omega⟩) (by omega) _ ?_
                exact ⟨rfl, (by first | rfl | exact slLen (by simp []) | exact intEq (by omega) | exact intEq (by simp []) | exact slLen (by simp []; omega)), (by first | rfl | exact slLen (by simp []) | exact intEq (by omega) | exact intEq (by simp []) | exact slLen (by simp []; omega)), trivial⟩
            · intro hc6
              have hc6 : ¬ ((k : Int) < (((fieldF fs [99, 111, 110, 116, 101, 110, 116, 45, 108, 101, 110, 103, 116, 104]).1).length : Int)) := of_decide_eq_false hc6
              refine At.exit rfl ?_
              refine At.seq ?_
              refine At.seq ?_
              refine At.region ?_
              refine AtL.move (.inl rfl) rfl rfl ?_
              refine AtL.gtr (.inl rfl) rfl rfl rfl ?_
              refine AtL.done ?_
              refine At.cond rfl ?_ ?_
              · intro hc8
                have hc8 : 65535 < (n : Int) := of_decide_eq_true hc8
                refine At.seq ?_
                refine At.region ?_
                refine AtL.assign (.inl rfl) rfl rfl ?_
                refine AtL.assign (.inl rfl) rfl rfl ?_
                refine AtL.done ?_
                refine At.pick (H' := H) [] 1 rfl rfl ?_
                have hsz : sizeF ((allF fs [99, 111, 110, 116, 101, 110, 116, 45, 108, 101, 110, 103, 116, 104]).getD 0 []) = some n := by rw [← first_get]; rw [List.take_of_length_le (by omega)] at hdec; exact size_end (fun h => by rw [h] at hc5; simp at hc5) hF hdec
                have hlen0 := len_ok hc1 rfl (by have h0 : (fieldF fs [99, 111, 110, 116, 101, 110, 116, 45, 108, 101, 110, 103, 116, 104]).2 = (allF fs [99, 111, 110, 116, 101, 110, 116, 45, 108, 101, 110, 103, 116, 104]).length := rfl; omega) (all_first hall) hsz
                exact At.ret Tryz.func83 rfl rfl (⟨by rw [hlen0, if_pos (by omega)]; rfl, rfl⟩)
              · intro hc8
                have hc8 : ¬ (65535 < (n : Int)) := of_decide_eq_false hc8
                refine At.skip ?_
                refine At.seq ?_
                refine At.region ?_
                refine AtL.move (.inl rfl) rfl rfl ?_
                refine AtL.assign (.inl rfl) rfl rfl ?_
                refine AtL.assign (.inl rfl) rfl rfl ?_
                refine AtL.done ?_
                refine At.pick (H' := H) [] 1 rfl rfl ?_
                have hsz : sizeF ((allF fs [99, 111, 110, 116, 101, 110, 116, 45, 108, 101, 110, 103, 116, 104]).getD 0 []) = some n := by rw [← first_get]; rw [List.take_of_length_le (by omega)] at hdec; exact size_end (fun h => by rw [h] at hc5; simp at hc5) hF hdec
                have hlen0 := len_ok hc1 rfl (by have h0 : (fieldF fs [99, 111, 110, 116, 101, 110, 116, 45, 108, 101, 110, 103, 116, 104]).2 = (allF fs [99, 111, 110, 116, 101, 110, 116, 45, 108, 101, 110, 103, 116, 104]).length := rfl; omega) (all_first hall) hsz
                exact At.ret Tryz.func83 rfl rfl (⟨by rw [hlen0, if_neg (by omega)]; rfl, rfl⟩)
end Go.Proofs.YtlkdmbpbjhjkfaaGreatDoor
