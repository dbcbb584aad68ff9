/- Heads: which bytes are among two. -/
import Derived.Lib.IndexEntry
import Derived.Lib.Index
import Derived.Test.YtlfkoimkojbghaaDoorH6
namespace Go.Proofs.YtlfkoimkojbghaaDoor
set_option linter.unusedVariables false
set_option linter.unusedSimpArgs false
set_option maxRecDepth 100000

/-- Not one of the two bytes that end a line. -/
def ncr (c : UInt8) : Bool := !crlf c
theorem ncr_128 {c : UInt8} (h : 128 ≤ c.toNat) : ncr c = true := by
  have h1 : ¬ c = 13 := by rintro rfl; exact absurd h (by decide)
  have h2 : ¬ c = 10 := by rintro rfl; exact absurd h (by decide)
  simp [ncr, crlf, h1, h2]
theorem any_ncr (l : List UInt8) : l.any crlf = !l.all ncr := by
  have : ncr = fun c => !crlf c := rfl
  rw [this]
  induction l with
  | nil => rfl
  | cons c l ih => simp [ih, Bool.not_and]
/-- IndexByteString of the two bytes. -/
def two (c : UInt8) : Int := Lib.indexByte [13, 10] c
theorem two_neg (c : UInt8) : decide (0 ≤ two c) = crlf c := by
  unfold two
  rw [Bool.eq_iff_iff]
  simp only [Lib.indexByte, crlf, decide_eq_true_eq, Bool.or_eq_true]
  by_cases h1 : c = 13
  · subst h1; simp
  · by_cases h2 : c = 10
    · subst h2; decide
    · have h3 : ¬ ((13 : UInt8) == c) = true := by simpa using fun h : (13 : UInt8) = c => h1 h.symm
      have h4 : ¬ ((10 : UInt8) == c) = true := by simpa using fun h : (10 : UInt8) = c => h2 h.symm
      simp [h1, h2, h3, h4]
theorem take_more {l : List UInt8} {i n : Nat} (h : i + n ≤ l.length) (ha : (l.take i).all ncr = true) (hn : ∀ j, j < n → ncr (l.getD (i + j) 0) = true) : (l.take (i + n)).all ncr = true := by
  induction n with
  | zero => exact ha
  | succ n ih => exact all_step (k := i + n) (by omega) (ih (by omega) (fun j hj => hn j (by omega))) (hn n (by omega))
theorem take_dec {l : List UInt8} {k n : Nat} (hk : k < l.length) (h0 : 128 ≤ (l.getD k 0).toNat) (hb : n ≤ (subl l k l.length).length) (hc : ∀ i, 1 ≤ i → i < n → 128 ≤ ((subl l k l.length).getD i 0).toNat) (ha : (l.take k).all ncr = true) : (l.take (k + n)).all ncr = true := by
  have hl := subl_len (l := l) (i := k) (j := l.length) (Nat.le_refl _)
  refine take_more (by omega) ha fun j hj => ?_
  rcases Nat.eq_zero_or_pos j with h | h
  · subst h; exact ncr_128 h0
  · have := hc j h hj
    rw [subl_gets (by omega)] at this
    exact ncr_128 this
theorem letA_two : ((List.replicate 256 false).set 13 true).set 10 true = letA [13, 10] := by decide +kernel
theorem two_crlf (c : UInt8) : (letA [13, 10]).getD c.toNat false = crlf c := by
  rw [letA_get]
  simp [crlf]

set_option maxHeartbeats 400000 in
theorem useset_ok {w0 : World} {base : Nat} {H : List Seg} (n : Int) :
    SCalls Tryd.prog 162 [.int .i64 n] w0 base (H) (fun v H' => v = .bool (decide (8 < n)) ∧ H' = H) := by
  refine SCalls.of_walk (n := 5) Tryd.func162 rfl rfl rfl fun cs => ?_
  refine At.seq ?_
  refine At.region ?_
  refine AtL.assign (.inl rfl) rfl rfl ?_
  refine AtL.done ?_
  refine At.seq ?_
  refine At.region ?_
  refine AtL.move (.inl rfl) rfl rfl ?_
  refine AtL.gtr (.inl rfl) rfl rfl rfl ?_
  refine AtL.assign (.inl rfl) rfl rfl ?_
  refine AtL.done ?_
  exact At.ret Tryd.func162 rfl rfl (⟨rfl, rfl⟩)

set_option maxHeartbeats 400000 in
theorem makeset_ok {w0 : World} {base : Nat} {H : List Seg}  :
    SCalls Tryd.prog 163 [str ([13, 10] : List UInt8)] w0 base (H) (fun v H' => v = .tuple #[.agg (tyBool.cells (letA [13, 10])).toArray, .bool true] ∧ H' = H) := by
  have h2l : ([13, 10] : List UInt8).length = 2 := rfl
  refine SCalls.of_walk (n := 21) Tryd.func163 rfl rfl rfl fun cs => ?_
  refine At.seq ?_
  refine At.region ?_
  refine AtL.allocArr tyBool (l := List.replicate 256 false) tf_zero182 tf_zarr182 (by simp) (.inl rfl) rfl ?_
  intro b1 s2 o3
  rw [List.length_replicate] at o3
  refine AtL.assign (.inl rfl) rfl rfl ?_
  refine AtL.done ?_
  refine At.seq ?_
  refine At.seq ?_
  refine At.region ?_
  refine AtL.assign (.inl rfl) rfl rfl ?_
  refine AtL.done ?_
  refine At.block ?_
  refine At.unroll ?_
  refine At.seq ?_
  refine At.seq ?_
  refine At.region ?_
  refine AtL.move (.inl rfl) rfl rfl ?_
  refine AtL.move (.inl rfl) rfl rfl ?_
  refine AtL.lenS (l := ([13, 10] : List UInt8)) Tryd.underlying9 (.inl rfl) rfl rfl ?_
  refine AtL.lss (.inl rfl) rfl rfl rfl ?_
  refine AtL.done ?_
  refine At.condIs true rfl rfl ?_
  refine At.skip ?_
  refine At.seq ?_
  refine At.block ?_
  refine At.seq ?_
  refine At.region ?_
  refine AtL.move (.inl rfl) rfl rfl ?_
  refine AtL.move (.inl rfl) rfl rfl ?_
  refine AtL.indexS (l := ([13, 10] : List UInt8)) 0 rfl (by omega) Tryd.underlying9 (.inl rfl) rfl rfl rfl ?_
  refine AtL.assign (.inl rfl) rfl rfl ?_
  refine AtL.done ?_
  refine At.seq ?_
  refine At.seq ?_
  refine At.region ?_
  refine AtL.move (.inl rfl) rfl rfl ?_
  refine AtL.geq (.inl rfl) rfl rfl rfl ?_
  refine AtL.done ?_
  refine At.condIs false rfl (by decide) ?_
  refine At.skip ?_
  refine At.region ?_
  refine AtL.move (.inl rfl) rfl rfl ?_
  refine AtL.indexArr 13 Tryd.underlying182 tf_sz4 (.inl rfl) rfl rfl rfl (by decide) (by decide) ?_
  refine AtL.setIdx (u := true) 0 13 tf_sz4 rfl o3 (by decide) (.inl rfl) rfl rfl ?_
  intro s4 o5
  refine AtL.done ?_
  refine At.inBlock ?_
  refine At.region ?_
  refine AtL.move (.inl rfl) rfl rfl ?_
  refine AtL.add (z := 1) (.inl rfl) rfl rfl rfl (by decide) ?_
  refine AtL.assign (.inl rfl) rfl rfl ?_
  refine AtL.done ?_
  refine At.again ?_
  refine At.seq ?_
  refine At.seq ?_
  refine At.region ?_
  refine AtL.move (.inl rfl) rfl rfl ?_
  refine AtL.move (.inl rfl) rfl rfl ?_
  refine AtL.lenS (l := ([13, 10] : List UInt8)) Tryd.underlying9 (.inl rfl) rfl rfl ?_
  refine AtL.lss (.inl rfl) rfl rfl rfl ?_
  refine AtL.done ?_
  refine At.condIs true rfl rfl ?_
  refine At.skip ?_
  refine At.seq ?_
  refine At.block ?_
  refine At.seq ?_
  refine At.region ?_
  refine AtL.move (.inl rfl) rfl rfl ?_
  refine AtL.move (.inl rfl) rfl rfl ?_
  refine AtL.indexS (l := ([13, 10] : List UInt8)) 1 rfl (by omega) Tryd.underlying9 (.inl rfl) rfl rfl rfl ?_
  refine AtL.assign (.inl rfl) rfl rfl ?_
  refine AtL.done ?_
  refine At.seq ?_
  refine At.seq ?_
  refine At.region ?_
  refine AtL.move (.inl rfl) rfl rfl ?_
  refine AtL.geq (.inl rfl) rfl rfl rfl ?_
  refine AtL.done ?_
  refine At.condIs false rfl (by decide) ?_
  refine At.skip ?_
  refine At.region ?_
  refine AtL.move (.inl rfl) rfl rfl ?_
  refine AtL.indexArr 10 Tryd.underlying182 tf_sz4 (.inl rfl) rfl rfl rfl (by decide) (by decide) ?_
  refine AtL.setIdx (u := true) 0 10 tf_sz4 rfl o5 (by decide) (.inl rfl) rfl rfl ?_
  intro s6 o7
  refine AtL.done ?_
  refine At.inBlock ?_
  refine At.region ?_
  refine AtL.move (.inl rfl) rfl rfl ?_
  refine AtL.add (z := 2) (.inl rfl) rfl rfl rfl (by decide) ?_
  refine AtL.assign (.inl rfl) rfl rfl ?_
  refine AtL.done ?_
  refine At.again ?_
  refine At.seq ?_
  refine At.seq ?_
  refine At.region ?_
  refine AtL.move (.inl rfl) rfl rfl ?_
  refine AtL.move (.inl rfl) rfl rfl ?_
  refine AtL.lenS (l := ([13, 10] : List UInt8)) Tryd.underlying9 (.inl rfl) rfl rfl ?_
  refine AtL.lss (.inl rfl) rfl rfl rfl ?_
  refine AtL.done ?_
  refine At.condIs false rfl rfl ?_
  refine At.exit rfl ?_
  refine At.seq ?_
  refine At.region ?_
  refine AtL.loadArr (o7.rd (i := 0) rfl) tf_agg182 (by simp [Ty.cells_len, tyBool]) (.inl rfl) rfl rfl ?_
  refine AtL.storeArr (T := tyBool) (l' := ((List.replicate 256 false).set 13 true).set 10 true) 0 tf_sz182 rfl o7 rfl rfl (by simp [Ty.cells_len, tyBool]) (.inl rfl) rfl rfl ?_
  intro s8 o9
  refine AtL.assign (.inl rfl) rfl rfl ?_
  refine AtL.done ?_
  exact At.retMP (vs := [.agg (tyBool.cells (((List.replicate 256 false).set 13 true).set 10 true)).toArray, .bool true]) (H2 := H) [] 1 rfl rfl Tryd.func163 rfl ⟨⟨_, rfl, LoadsTo.arr (o9.rd (i := 0) rfl) tf_agg182 (by simp [Ty.cells_len, tyBool, letA_len])⟩, rfl, trivial⟩ (⟨congrArg (fun l => Value.tuple #[.agg (tyBool.cells l).toArray, .bool true]) letA_two, rfl⟩)

set_option maxHeartbeats 400000 in
theorem inset_ok {w0 : World} {base : Nat} {H : List Seg} {b C : Nat} (h : Rd tyBool w0 base H (some ⟨b, 0, none⟩) C (letA [13, 10])) (c : UInt8) :
    SCalls Tryd.prog 164 [.pointer (some ⟨b, 0, none⟩), .int .u8 (c.toNat : Int)] w0 base (H) (fun v H' => v = .bool (crlf c) ∧ H' = H) := by
  refine SCalls.of_walk (n := 10) Tryd.func164 rfl rfl rfl fun cs => ?_
  refine At.seq ?_
  refine At.region ?_
  refine AtL.assign (.inl rfl) rfl rfl ?_
  refine AtL.done ?_
  refine At.seq ?_
  refine At.region ?_
  refine AtL.move (.inl rfl) rfl rfl ?_
  refine AtL.move (.inl rfl) rfl rfl ?_
  refine AtL.nilCheck (.inl rfl) rfl rfl ?_
  refine AtL.indexArr c.toNat Tryd.underlying182 tf_sz4 (.inl rfl) rfl rfl rfl rfl c.toNat_lt ?_
  refine AtL.load (v := .bool ((letA [13, 10]).getD c.toNat false)) tf_flat4 (.inl rfl) rfl rfl (Rd.cell0 h (getD_some false (by rw [letA_len]; exact c.toNat_lt)) rfl) ?_
  refine AtL.assign (.inl rfl) rfl rfl ?_
  refine AtL.done ?_
  exact At.ret Tryd.func164 rfl rfl (⟨congrArg Value.bool (two_crlf c), rfl⟩)

theorem ibs_run (c : UInt8) (w : World) : (callFunc 160 #[str [13, 10], byt c]).run Tryd.prog w = .ok (.value (int (two c))) w := by
  rw [run_callFunc_extern Tryd.func160 (by kernel_rfl) (by kernel_rfl) (by kernel_rfl) (e := Extern.BytealgIndexByte.indexByte) (by kernel_rfl)]
  have := Lib.run_indexByteString (P := Tryd.prog) ⟨⟨[13, 10]⟩⟩ (c.toNat : Int) w
  simp only [Sem.run_bind, str, byt]
  rw [this]
  have e : ((c.toNat : Int).toNat.toUInt8) = c := by simp
  rw [e]
  rfl
theorem index_two {s : List UInt8} (h : 3 ≤ s.length) : Lib.index [13, 10] s = -1 := by
  have h1 := Lib.index_ge [13, 10] s
  by_cases h2 : 0 ≤ Lib.index [13, 10] s
  · have h3 := Lib.index_room [13, 10] s h2
    simp at h3
    omega
  · omega
theorem ixs_run {w0 : World} {base : Nat} {H : List Seg} {m : Int} (hb : 0 < base) (hm : w0.cell? ⟨0, 0, none⟩ = some (int m)) {s : List UInt8} (h3 : 3 ≤ s.length) (h4 : (s.length : Int) ≤ m) (w : World) (S : Sep w0 base w H) : (callFunc 147 #[str [13, 10], str s]).run Tryd.prog w = .ok (.value (int (-1))) w := by
  rw [run_callFunc_extern Tryd.func147 (by kernel_rfl) (by kernel_rfl) (by kernel_rfl) (e := Extern.BytealgIndex.index) (by kernel_rfl)]
  have := Lib.run_indexString (P := Tryd.prog) ⟨⟨[13, 10]⟩⟩ ⟨⟨s⟩⟩ w 0 m (by kernel_rfl) (S.cellBelow hb hm) (by rw [str_size]; omega) (by rw [str_size]; omega) (by decide)
  simp only [str]
  rw [this, index_two h3]
  rfl
theorem any_no {l : List UInt8} (h : l.all ncr = true) : decide (0 ≤ (-1 : Int)) = l.any crlf := by rw [any_ncr, h]; rfl
theorem any_yes {l : List UInt8} {k : Nat} (hk : k < l.length) (h : crlf (l.getD k 0) = true) {z : Int} (hz : 0 ≤ z) : decide (0 ≤ z) = l.any crlf := by
  rw [any_ncr, all_bad hk (by rw [ncr, h]; rfl), decide_eq_true hz]; rfl
theorem ncr_two {c : UInt8} (h : ¬ 0 ≤ two c) : ncr c = true := by
  have := two_neg c
  rw [decide_eq_false h] at this
  rw [ncr, ← this]; rfl
theorem crlf_two {c : UInt8} (h : 0 ≤ two c) : crlf c = true := by
  have := two_neg c
  rw [decide_eq_true h] at this
  exact this.symm

set_option maxHeartbeats 400000 in
theorem indexany_ok {w0 : World} {base : Nat} {H : List Seg} {A : Option Addr} {C : Nat} {l : List UInt8} (h : Rd tyB w0 base H A C l) (T : Tabs w0 base) :
    SCalls Tryd.prog 132 [.slice A l.length C, str [13, 10]] w0 base (H) (fun v H' => ∃ z : Int, v = int z ∧ decide (0 ≤ z) = l.any crlf ∧ H' = H) := by
  have hcap := h.cap
  have hle := h.le
  have h2l : ([13, 10] : List UInt8).length = 2 := rfl
  obtain ⟨m, hm⟩ := T.max
  refine SCalls.of_walk (n := 129) Tryd.func132 rfl rfl rfl fun cs => ?_
  refine At.seq ?_
  refine At.region ?_
  refine AtL.assign (.inl rfl) rfl rfl ?_
  refine AtL.done ?_
  refine At.seq ?_
  refine At.seq ?_
  refine At.region ?_
  refine AtL.move (.inl rfl) rfl rfl ?_
  refine AtL.eqs (a := [13, 10]) (b := []) (.inl rfl) rfl rfl rfl ?_
  refine AtL.done ?_
  refine At.condIs false rfl (by decide) ?_
  refine At.skip ?_
  refine At.seq ?_
  refine At.seq ?_
  refine At.region ?_
  refine AtL.move (.inl rfl) rfl rfl ?_
  refine AtL.lenL Tryd.underlying25 (.inl rfl) rfl rfl ?_
  refine AtL.eqi (.inl rfl) rfl rfl rfl ?_
  refine AtL.done ?_
  refine At.cond rfl ?_ ?_
  · intro hc2
    have hc2 : (l.length : Int) = 1 := of_decide_eq_true hc2
    refine At.seq ?_
    refine At.region ?_
    refine AtL.move (.inl rfl) rfl rfl ?_
    refine AtL.indexL 0 h Tryd.underlying25 tf_sz5 (.inl rfl) rfl rfl rfl rfl (by omega) ?_
    refine AtL.load (v := .int .u8 ((l.getD 0 0).toNat : Int)) tf_flat5 (.inl rfl) rfl rfl (Rd.cell0 h (getD_some 0 (by omega)) rfl) ?_
    have hB1 := u8_le ((l.getD 0 0))
    refine AtL.convInt (z := ((l.getD 0 0).toNat : Int)) Tryd.underlying5 Tryd.underlying21 (.inl rfl) rfl rfl (w32i (by omega) (by omega)) ?_
    refine AtL.assign (.inl rfl) rfl rfl ?_
    refine AtL.done ?_
    refine At.seq ?_
    refine At.seq ?_
    refine At.region ?_
    refine AtL.move (.inl rfl) rfl rfl ?_
    refine AtL.geq (.inl rfl) rfl rfl rfl ?_
    refine AtL.done ?_
    refine At.cond rfl ?_ ?_
    · intro hc3
      have hc3 : 128 ≤ ((l.getD 0 0).toNat : Int) := of_decide_eq_true hc3
      refine At.seq ?_
      refine At.seq ?_
      refine At.region ?_
      refine AtL.move (.inl rfl) rfl rfl ?_
      refine AtL.rangeS Tryd.underlying9 (.inl rfl) rfl rfl ?_
      intro b2
      refine AtL.done ?_
      refine At.block ?_
      refine At.unroll ?_
      refine At.seq ?_
      refine At.region ?_
      refine AtL.nextS (p := 0) (n := 1) (c := 13) (l := [13, 10]) (H' := [(b2, .stringIter ⟨⟨[13, 10]⟩⟩ 1)] :: H) 0 0 (.inl rfl) rfl rfl rfl rfl rfl (by decide) rfl ?_
      refine AtL.extract (.inl rfl) rfl rfl rfl ?_
      refine AtL.done ?_
      refine At.seq ?_
      refine At.condT rfl ?_
      refine At.skip ?_
      refine At.block ?_
      refine At.seq ?_
      refine At.region ?_
      refine AtL.extract (.inl rfl) rfl rfl rfl ?_
      refine AtL.assign (.inl rfl) rfl rfl ?_
      refine AtL.done ?_
      refine At.seq ?_
      refine At.region ?_
      refine AtL.move (.inl rfl) rfl rfl ?_
      refine AtL.eqi (.inl rfl) rfl rfl rfl ?_
      refine AtL.done ?_
      refine At.condF rfl ?_
      refine At.skip ?_
      refine At.inBlock ?_
      refine At.again ?_
      refine At.seq ?_
      refine At.region ?_
      refine AtL.nextS (p := 1) (n := 1) (c := 10) (l := [13, 10]) (H' := [(b2, .stringIter ⟨⟨[13, 10]⟩⟩ 2)] :: H) 0 0 (.inl rfl) rfl rfl rfl rfl rfl (by decide) rfl ?_
      refine AtL.extract (.inl rfl) rfl rfl rfl ?_
      refine AtL.done ?_
      refine At.seq ?_
      refine At.condT rfl ?_
      refine At.skip ?_
      refine At.block ?_
      refine At.seq ?_
      refine At.region ?_
      refine AtL.extract (.inl rfl) rfl rfl rfl ?_
      refine AtL.assign (.inl rfl) rfl rfl ?_
      refine AtL.done ?_
      refine At.seq ?_
      refine At.region ?_
      refine AtL.move (.inl rfl) rfl rfl ?_
      refine AtL.eqi (.inl rfl) rfl rfl rfl ?_
      refine AtL.done ?_
      refine At.condF rfl ?_
      refine At.skip ?_
      refine At.inBlock ?_
      refine At.again ?_
      refine At.seq ?_
      refine At.region ?_
      refine AtL.nextOver (p := 2) (l := [13, 10]) 0 0 (.inl rfl) rfl rfl rfl rfl rfl ?_
      refine AtL.extract (.inl rfl) rfl rfl rfl ?_
      refine AtL.done ?_
      refine At.seq ?_
      refine At.condF rfl ?_
      refine At.exit rfl ?_
      refine At.seq ?_
      refine At.region ?_
      refine AtL.assign (.inl rfl) rfl rfl ?_
      refine AtL.done ?_
      refine At.pick (H' := H) [] 1 rfl rfl ?_
      exact At.ret Tryd.func132 rfl rfl (⟨_, rfl, any_no (all_end (k := 1) (by omega) (all_step (k := 0) (by omega) rfl (ncr_128 (by omega)))), rfl⟩)
    · intro hc3
      have hc3 : ¬ (128 ≤ ((l.getD 0 0).toNat : Int)) := of_decide_eq_false hc3
      refine At.skip ?_
      refine At.seq ?_
      refine At.seq ?_
      refine At.region ?_
      refine AtL.move (.inl rfl) rfl rfl ?_
      refine AtL.move (.inl rfl) rfl rfl ?_
      refine AtL.indexL 0 h Tryd.underlying25 tf_sz5 (.inl rfl) rfl rfl rfl rfl (by omega) ?_
      refine AtL.load (v := .int .u8 ((l.getD 0 0).toNat : Int)) tf_flat5 (.inl rfl) rfl rfl (Rd.cell0 h (getD_some 0 (by omega)) rfl) ?_
      refine AtL.callX (v := .int .i64 (two (l.getD 0 0))) (fun w S => ibs_run _ w) (.inl rfl) rfl rfl ?_
      refine AtL.geq (.inl rfl) rfl rfl rfl ?_
      refine AtL.done ?_
      refine At.cond rfl ?_ ?_
      · intro hc6
        have hc6 : 0 ≤ (two (l.getD 0 0) : Int) := of_decide_eq_true hc6
        refine At.seq ?_
        refine At.region ?_
        refine AtL.assign (.inl rfl) rfl rfl ?_
        refine AtL.done ?_
        exact At.ret Tryd.func132 rfl rfl (⟨_, rfl, any_yes (k := 0) (by omega) (crlf_two hc6) (by omega), rfl⟩)
      · intro hc6
        have hc6 : ¬ (0 ≤ (two (l.getD 0 0) : Int)) := of_decide_eq_false hc6
        refine At.skip ?_
        refine At.seq ?_
        refine At.region ?_
        refine AtL.assign (.inl rfl) rfl rfl ?_
        refine AtL.done ?_
        exact At.ret Tryd.func132 rfl rfl (⟨_, rfl, any_no (all_end (k := 1) (by omega) (all_step (k := 0) (by omega) rfl (ncr_two hc6))), rfl⟩)
  · intro hc2
    have hc2 : ¬ ((l.length : Int) = 1) := of_decide_eq_false hc2
    refine At.skip ?_
    refine At.seq ?_
    refine At.seq ?_
    refine At.region ?_
    refine AtL.move (.inl rfl) rfl rfl ?_
    refine AtL.lenS (l := [13, 10]) Tryd.underlying9 (.inl rfl) rfl rfl ?_
    refine AtL.eqi (.inl rfl) rfl rfl rfl ?_
    refine AtL.done ?_
    refine At.condIs false rfl (by decide) ?_
    refine At.skip ?_
    refine At.seq ?_
    refine At.seq ?_
    refine At.region ?_
    refine AtL.move (.inl rfl) rfl rfl ?_
    refine AtL.lenL Tryd.underlying25 (.inl rfl) rfl rfl ?_
    refine AtL.call tf_body162 (.inl rfl) rfl rfl (useset_ok (l.length : Int)) ?_
    rintro _ _ ⟨rfl, hHq⟩
    obtain rfl := hHq.symm
    refine AtL.done ?_
    refine At.cond rfl ?_ ?_
    · intro hc9
      have hc9 : 8 < (l.length : Int) := of_decide_eq_true hc9
      refine At.seq ?_
      refine At.region ?_
      refine AtL.move (.inl rfl) rfl rfl ?_
      refine AtL.call tf_body163 (.inl rfl) rfl rfl makeset_ok ?_
      rintro _ _ ⟨rfl, hHq⟩
      obtain rfl := hHq.symm
      refine AtL.move (.inl rfl) rfl rfl ?_
      refine AtL.extract (.inl rfl) rfl rfl rfl ?_
      refine AtL.extract (.inl rfl) rfl rfl rfl ?_
      refine AtL.allocArr tyBool (l := List.replicate 256 false) tf_zero182 tf_zarr182 (by simp) (.inl rfl) rfl ?_
      intro b3 s4 o5
      rw [List.length_replicate] at o5
      refine AtL.storeArr (T := tyBool) (l' := letA [13, 10]) 0 tf_sz182 rfl o5 (by simp [letA_len]) rfl (by simp [Ty.cells_len, tyBool, letA_len]) (.inl rfl) rfl rfl ?_
      intro s6 o7
      refine AtL.assign (.inl rfl) rfl rfl ?_
      refine AtL.done ?_
      refine At.seq ?_
      refine At.region ?_
      refine AtL.move (.inl rfl) rfl rfl ?_
      refine AtL.done ?_
      refine At.condT rfl ?_
      refine At.seq ?_
      refine At.seq ?_
      refine At.region ?_
      refine AtL.move (.inl rfl) rfl rfl ?_
      refine AtL.lenL Tryd.underlying25 (.inl rfl) rfl rfl ?_
      refine AtL.move (.inl rfl) rfl rfl ?_
      refine AtL.done ?_
      refine At.block ?_
      refine At.loop (fun (k : Nat) => [(7, .pointer (some ⟨b3, 0, none⟩)), (60, .slice A l.length C), (61, .int .i64 (l.length : Int)), (62, .int .i64 (k : Int))]) (fun (k : Nat) => s6 :: H) (fun (k : Nat) => k ≤ l.length ∧ (l.take k).all ncr = true) (fun (k : Nat) => l.length - k) 0 (⟨Nat.zero_le _, rfl⟩) ⟨rfl, rfl, rfl, rfl, trivial⟩ rfl ?_
      rintro k ⟨hk, ha⟩ ihL2
      refine At.seq ?_
      refine At.region ?_
      refine AtL.lss (.inl rfl) rfl rfl rfl ?_
      refine AtL.done ?_
      refine At.seq ?_
      refine At.cond rfl ?_ ?_
      · intro hc11
        have hc11 : (k : Int) < (l.length : Int) := of_decide_eq_true hc11
        refine At.skip ?_
        refine At.seq ?_
        refine At.block ?_
        refine At.seq ?_
        refine At.region ?_
        refine AtL.move (.inl rfl) rfl rfl ?_
        refine AtL.indexL k (Rd.skip 1 h) Tryd.underlying25 tf_sz5 (.inl rfl) rfl rfl rfl rfl (by omega) ?_
        refine AtL.load (v := .int .u8 ((l.getD k 0).toNat : Int)) tf_flat5 (.inl rfl) rfl rfl (Rd.cell0 (Rd.skip 1 h) (getD_some 0 (by omega)) rfl) ?_
        refine AtL.assign (.inl rfl) rfl rfl ?_
        refine AtL.assign (.inl rfl) rfl rfl ?_
        refine AtL.done ?_
        refine At.seq ?_
        refine At.region ?_
        refine AtL.move (.inl rfl) rfl rfl ?_
        refine AtL.call tf_body164 (.inl rfl) rfl rfl (inset_ok (o7.rd (i := 0) rfl) (l.getD k 0)) ?_
        rintro _ _ ⟨rfl, rfl⟩
        refine AtL.done ?_
        refine At.cond rfl ?_ ?_
        · intro hc12
          have hc12 : (crlf (l.getD k 0)) = true := hc12
          refine At.seq ?_
          refine At.region ?_
          refine AtL.move (.inl rfl) rfl rfl ?_
          refine AtL.assign (.inl rfl) rfl rfl ?_
          refine AtL.done ?_
          refine At.pick (H' := H) [] 1 rfl rfl ?_
          exact At.ret Tryd.func132 rfl rfl (⟨_, rfl, any_yes (k := k) (by omega) hc12 (by omega), rfl⟩)
        · intro hc12
          have hc12 : (crlf (l.getD k 0)) = false := hc12
          refine At.skip ?_
          refine At.inBlock ?_
          refine At.region ?_
          refine AtL.add (z := (k : Int) + 1) (.inl rfl) rfl rfl rfl (w64 (by omega) (by omega)) ?_
          refine AtL.move (.inl rfl) rfl rfl ?_
          refine AtL.done ?_
          refine ihL2 (k + 1) (⟨by omega, all_step (by omega) ha (by rw [ncr, hc12]; rfl)⟩) (by omega) _ ?_
          exact ⟨rfl, rfl, rfl, (by first | rfl | exact slLen (by simp []) | exact intEq (by omega) | exact intEq (by simp []) | exact slLen (by simp []; omega)), trivial⟩
      · intro hc11
        have hc11 : ¬ ((k : Int) < (l.length : Int)) := of_decide_eq_false hc11
        refine At.exit rfl ?_
        refine At.seq ?_
        refine At.region ?_
        refine AtL.assign (.inl rfl) rfl rfl ?_
        refine AtL.done ?_
        refine At.pick (H' := H) [] 1 rfl rfl ?_
        exact At.ret Tryd.func132 rfl rfl (⟨_, rfl, any_no (all_end (k := k) (by omega) ha), rfl⟩)
    · intro hc9
      have hc9 : ¬ (8 < (l.length : Int)) := of_decide_eq_false hc9
      refine At.skip ?_
      refine At.seq ?_
      refine At.region ?_
      refine AtL.assign (.inl rfl) rfl rfl ?_
      refine AtL.done ?_
      refine At.seq ?_
      refine At.seq ?_
      refine At.region ?_
      refine AtL.assign (.inl rfl) rfl rfl ?_
      refine AtL.done ?_
      refine At.block ?_
      refine At.loop (fun (k : Nat) => [(0, .slice A l.length C), (1, str [13, 10]), (12, .int .i64 (k : Int))]) (fun (k : Nat) => H) (fun (k : Nat) => k ≤ l.length ∧ (l.take k).all ncr = true) (fun (k : Nat) => l.length - k) 0 (⟨Nat.zero_le _, rfl⟩) ⟨rfl, rfl, rfl, trivial⟩ rfl ?_
      rintro k ⟨hk, ha⟩ ihL3
      refine At.seq ?_
      refine At.seq ?_
      refine At.region ?_
      refine AtL.move (.inl rfl) rfl rfl ?_
      refine AtL.move (.inl rfl) rfl rfl ?_
      refine AtL.lenL Tryd.underlying25 (.inl rfl) rfl rfl ?_
      refine AtL.lss (.inl rfl) rfl rfl rfl ?_
      refine AtL.done ?_
      refine At.cond rfl ?_ ?_
      · intro hc13
        have hc13 : (k : Int) < (l.length : Int) := of_decide_eq_true hc13
        refine At.skip ?_
        refine At.seq ?_
        refine At.block ?_
        refine At.seq ?_
        refine At.region ?_
        refine AtL.move (.inl rfl) rfl rfl ?_
        refine AtL.move (.inl rfl) rfl rfl ?_
        refine AtL.indexL k h Tryd.underlying25 tf_sz5 (.inl rfl) rfl rfl rfl rfl (by omega) ?_
        refine AtL.load (v := .int .u8 ((l.getD k 0).toNat : Int)) tf_flat5 (.inl rfl) rfl rfl (Rd.cell0 h (getD_some 0 (by omega)) rfl) ?_
        have hB8 := u8_le ((l.getD k 0))
        refine AtL.convInt (z := ((l.getD k 0).toNat : Int)) Tryd.underlying5 Tryd.underlying21 (.inl rfl) rfl rfl (w32i (by omega) (by omega)) ?_
        refine AtL.assign (.inl rfl) rfl rfl ?_
        refine AtL.done ?_
        refine At.seq ?_
        refine At.seq ?_
        refine At.region ?_
        refine AtL.move (.inl rfl) rfl rfl ?_
        refine AtL.lss (.inl rfl) rfl rfl rfl ?_
        refine AtL.done ?_
        refine At.cond rfl ?_ ?_
        · intro hc14
          have hc14 : ((l.getD k 0).toNat : Int) < 128 := of_decide_eq_true hc14
          refine At.seq ?_
          refine At.seq ?_
          refine At.region ?_
          refine AtL.move (.inl rfl) rfl rfl ?_
          refine AtL.move (.inl rfl) rfl rfl ?_
          refine AtL.move (.inl rfl) rfl rfl ?_
          refine AtL.indexL k h Tryd.underlying25 tf_sz5 (.inl rfl) rfl rfl rfl rfl (by omega) ?_
          refine AtL.load (v := .int .u8 ((l.getD k 0).toNat : Int)) tf_flat5 (.inl rfl) rfl rfl (Rd.cell0 h (getD_some 0 (by omega)) rfl) ?_
          refine AtL.callX (v := .int .i64 (two (l.getD k 0))) (fun w S => ibs_run _ w) (.inl rfl) rfl rfl ?_
          refine AtL.geq (.inl rfl) rfl rfl rfl ?_
          refine AtL.done ?_
          refine At.cond rfl ?_ ?_
          · intro hc15
            have hc15 : 0 ≤ (two (l.getD k 0) : Int) := of_decide_eq_true hc15
            refine At.seq ?_
            refine At.region ?_
            refine AtL.move (.inl rfl) rfl rfl ?_
            refine AtL.assign (.inl rfl) rfl rfl ?_
            refine AtL.done ?_
            exact At.ret Tryd.func132 rfl rfl (⟨_, rfl, any_yes (k := k) (by omega) (crlf_two hc15) (by omega), rfl⟩)
          · intro hc15
            have hc15 : ¬ (0 ≤ (two (l.getD k 0) : Int)) := of_decide_eq_false hc15
            refine At.skip ?_
            refine At.seq ?_
            refine At.region ?_
            refine AtL.assign (.inl rfl) rfl rfl ?_
            refine AtL.done ?_
            refine At.exit rfl ?_
            refine At.region ?_
            refine AtL.move (.inl rfl) rfl rfl ?_
            refine AtL.move (.inl rfl) rfl rfl ?_
            refine AtL.add (z := (k : Int) + 1) (.inl rfl) rfl rfl rfl (w64 (by omega) (by omega)) ?_
            refine AtL.assign (.inl rfl) rfl rfl ?_
            refine AtL.done ?_
            refine ihL3 (k + 1) (⟨by omega, all_step (by omega) ha (ncr_two hc15)⟩) (by omega) _ ?_
            exact ⟨rfl, rfl, (by first | rfl | exact slLen (by simp []) | exact intEq (by omega) | exact intEq (by simp []) | exact slLen (by simp []; omega)), trivial⟩
        · intro hc14
          have hc14 : ¬ (((l.getD k 0).toNat : Int) < 128) := of_decide_eq_false hc14
          refine At.skip ?_
          refine At.seq ?_
          refine At.region ?_
          refine AtL.move (.inl rfl) rfl rfl ?_
          refine AtL.move (.inl rfl) rfl rfl ?_
          have hleo11 := Rd.le h
          refine AtL.sliceR 0 k l.length C h (evBound_some rfl rfl) rfl rfl (by intro h; cases h) (by omega) (by omega) (by omega) (by omega) Tryd.underlying25 tf_sz5 (.inl rfl) rfl rfl ?_
          clear hleo11
          intro A9 C10 (o11 : Rd tyB w0 base H A9 C10 (subl l k l.length))
          have hlo11 : (subl l k l.length).length = l.length - k := subl_len (by omega)
          refine AtL.call tf_body165 (.inl rfl) rfl rfl (decode_ok (l := subl l k l.length) o11 T (fun h => by have := congrArg List.length h; rw [subl_len (Nat.le_refl _)] at this; simp at this; omega) (by rw [subl_gets (by omega), Nat.add_zero]; omega)) ?_
          rintro _ _ ⟨r12, n13, rfl, ⟨hd14a, hd14b, hd14c, hd14d⟩, hHq⟩
          obtain rfl := hHq.symm
          have hdc := hd14c
          have hda := hd14a
          have hdb := hd14b
          refine AtL.move (.inl rfl) rfl rfl ?_
          refine AtL.extract (.inl rfl) rfl rfl rfl ?_
          refine AtL.extract (.inl rfl) rfl rfl rfl ?_
          refine AtL.assign (.inl rfl) rfl rfl ?_
          refine AtL.assign (.inl rfl) rfl rfl ?_
          refine AtL.done ?_
          refine At.seq ?_
          refine At.seq ?_
          refine At.region ?_
          refine AtL.move (.inl rfl) rfl rfl ?_
          refine AtL.nei (.inl rfl) rfl rfl rfl ?_
          refine AtL.done ?_
          refine At.cond rfl ?_ ?_
          · intro hc16
            have hc16 : ¬ ((r12 : Int) = 65533) := of_decide_eq_false (bnot_true hc16)
            refine At.seq ?_
            refine At.seq ?_
            refine At.region ?_
            refine AtL.move (.inl rfl) rfl rfl ?_
            refine AtL.lenS (l := [13, 10]) Tryd.underlying9 (.inl rfl) rfl rfl ?_
            refine AtL.move (.inl rfl) rfl rfl ?_
            refine AtL.eqi (.inl rfl) rfl rfl rfl ?_
            refine AtL.done ?_
            refine At.cond rfl ?_ ?_
            · intro hc17
              have hc17 : ([13, 10].length : Int) = (n13 : Int) := of_decide_eq_true hc17
              refine At.seq ?_
              refine At.seq ?_
              refine At.region ?_
              refine AtL.move (.inl rfl) rfl rfl ?_
              refine AtL.move (.inl rfl) rfl rfl ?_
              refine AtL.convRune Tryd.underlying21 Tryd.underlying9 (.inl rfl) rfl rfl ?_
              refine AtL.eqs (a := [13, 10]) (b := encL r12) (.inl rfl) rfl rfl rfl ?_
              refine AtL.done ?_
              refine At.condIs false rfl (decide_eq_false (fun h => enc_no _ h.symm)) ?_
              refine At.skip ?_
              refine At.exit rfl ?_
              refine At.region ?_
              refine AtL.move (.inl rfl) rfl rfl ?_
              refine AtL.move (.inl rfl) rfl rfl ?_
              refine AtL.add (z := (k : Int) + (n13 : Int)) (.inl rfl) rfl rfl rfl (w64 (by omega) (by omega)) ?_
              refine AtL.assign (.inl rfl) rfl rfl ?_
              refine AtL.done ?_
              refine ihL3 (k + n13) (⟨by omega, take_dec (by omega) (by omega) hdb hdc ha⟩) (by omega) _ ?_
              exact ⟨rfl, rfl, (by first | rfl | exact slLen (by simp []) | exact intEq (by omega) | exact intEq (by simp []) | exact slLen (by simp []; omega)), trivial⟩
            · intro hc17
              have hc17 : ¬ (([13, 10].length : Int) = (n13 : Int)) := of_decide_eq_false hc17
              refine At.skip ?_
              refine At.seq ?_
              refine At.region ?_
              refine AtL.load (v := int m) tf_flat3 (.inl rfl) rfl rfl (Cell.below T.lt0 hm) ?_
              refine AtL.move (.inl rfl) rfl rfl ?_
              refine AtL.geq (.inl rfl) rfl rfl rfl ?_
              refine AtL.done ?_
              refine At.cond rfl ?_ ?_
              · intro hc19
                have hc19 : (n13 : Int) ≤ m := of_decide_eq_true hc19
                refine At.seq ?_
                refine At.seq ?_
                refine At.region ?_
                refine AtL.move (.inl rfl) rfl rfl ?_
                refine AtL.move (.inl rfl) rfl rfl ?_
                refine AtL.convRune Tryd.underlying21 Tryd.underlying9 (.inl rfl) rfl rfl ?_
                have hel : 3 ≤ (encL r12).length ∧ ((encL r12).length : Int) ≤ m := by
                  rcases (show (2048 ≤ r12 ∧ r12 ≤ 65535 ∧ 3 ≤ m) ∨ (2048 ≤ r12 ∧ 4 ≤ m) by omega) with ⟨q1, q2, q3⟩ | ⟨q1, q2⟩
                  · have := enc3 q1 q2; omega
                  · have := enc_long q1; omega
                refine AtL.callX (v := .int .i64 (-1)) (fun w S => ixs_run T.lt0 hm hel.1 hel.2 w S) (.inl rfl) rfl rfl ?_
                refine AtL.geq (.inl rfl) rfl rfl rfl ?_
                refine AtL.done ?_
                refine At.condF rfl ?_
                refine At.skip ?_
                refine At.exit rfl ?_
                refine At.region ?_
                refine AtL.move (.inl rfl) rfl rfl ?_
                refine AtL.move (.inl rfl) rfl rfl ?_
                refine AtL.add (z := (k : Int) + (n13 : Int)) (.inl rfl) rfl rfl rfl (w64 (by omega) (by omega)) ?_
                refine AtL.assign (.inl rfl) rfl rfl ?_
                refine AtL.done ?_
                refine ihL3 (k + n13) (⟨by omega, take_dec (by omega) (by omega) hdb hdc ha⟩) (by omega) _ ?_
                exact ⟨rfl, rfl, (by first | rfl | exact slLen (by simp []) | exact intEq (by omega) | exact intEq (by simp []) | exact slLen (by simp []; omega)), trivial⟩
              · intro hc19
                have hc19 : ¬ ((n13 : Int) ≤ m) := of_decide_eq_false hc19
                refine At.skip ?_
                refine At.seq ?_
                refine At.region ?_
                refine AtL.move (.inl rfl) rfl rfl ?_
                refine AtL.rangeS Tryd.underlying9 (.inl rfl) rfl rfl ?_
                intro b15
                refine AtL.done ?_
                refine At.block ?_
                refine At.unroll ?_
                refine At.seq ?_
                refine At.region ?_
                refine AtL.nextS (p := 0) (n := 1) (c := 13) (l := [13, 10]) (H' := [(b15, .stringIter ⟨⟨[13, 10]⟩⟩ 1)] :: H) 0 0 (.inl rfl) rfl rfl rfl rfl rfl (by decide) rfl ?_
                refine AtL.extract (.inl rfl) rfl rfl rfl ?_
                refine AtL.done ?_
                refine At.seq ?_
                refine At.condT rfl ?_
                refine At.skip ?_
                refine At.block ?_
                refine At.seq ?_
                refine At.region ?_
                refine AtL.extract (.inl rfl) rfl rfl rfl ?_
                refine AtL.assign (.inl rfl) rfl rfl ?_
                refine AtL.done ?_
                refine At.seq ?_
                refine At.region ?_
                refine AtL.move (.inl rfl) rfl rfl ?_
                refine AtL.move (.inl rfl) rfl rfl ?_
                refine AtL.eqi (.inl rfl) rfl rfl rfl ?_
                refine AtL.done ?_
                refine At.condIs false rfl (decide_eq_false (by omega)) ?_
                refine At.skip ?_
                refine At.inBlock ?_
                refine At.again ?_
                refine At.seq ?_
                refine At.region ?_
                refine AtL.nextS (p := 1) (n := 1) (c := 10) (l := [13, 10]) (H' := [(b15, .stringIter ⟨⟨[13, 10]⟩⟩ 2)] :: H) 0 0 (.inl rfl) rfl rfl rfl rfl rfl (by decide) rfl ?_
                refine AtL.extract (.inl rfl) rfl rfl rfl ?_
                refine AtL.done ?_
                refine At.seq ?_
                refine At.condT rfl ?_
                refine At.skip ?_
                refine At.block ?_
                refine At.seq ?_
                refine At.region ?_
                refine AtL.extract (.inl rfl) rfl rfl rfl ?_
                refine AtL.assign (.inl rfl) rfl rfl ?_
                refine AtL.done ?_
                refine At.seq ?_
                refine At.region ?_
                refine AtL.move (.inl rfl) rfl rfl ?_
                refine AtL.move (.inl rfl) rfl rfl ?_
                refine AtL.eqi (.inl rfl) rfl rfl rfl ?_
                refine AtL.done ?_
                refine At.condIs false rfl (decide_eq_false (by omega)) ?_
                refine At.skip ?_
                refine At.inBlock ?_
                refine At.again ?_
                refine At.seq ?_
                refine At.region ?_
                refine AtL.nextOver (p := 2) (l := [13, 10]) 0 0 (.inl rfl) rfl rfl rfl rfl rfl ?_
                refine AtL.extract (.inl rfl) rfl rfl rfl ?_
                refine AtL.done ?_
                refine At.seq ?_
                refine At.condF rfl ?_
                refine At.exit rfl ?_
                refine At.inBlock ?_
                refine At.region ?_
                refine AtL.move (.inl rfl) rfl rfl ?_
                refine AtL.move (.inl rfl) rfl rfl ?_
                refine AtL.add (z := (k : Int) + (n13 : Int)) (.inl rfl) rfl rfl rfl (w64 (by omega) (by omega)) ?_
                refine AtL.assign (.inl rfl) rfl rfl ?_
                refine AtL.done ?_
                refine At.pick (H' := H) [] 1 rfl rfl ?_
                refine ihL3 (k + n13) (⟨by omega, take_dec (by omega) (by omega) hdb hdc ha⟩) (by omega) _ ?_
                exact ⟨rfl, rfl, (by first | rfl | exact slLen (by simp []) | exact intEq (by omega) | exact intEq (by simp []) | exact slLen (by simp []; omega)), trivial⟩
          · intro hc16
            have hc16 : (r12 : Int) = 65533 := of_decide_eq_true (bnot_false hc16)
            refine At.skip ?_
            refine At.seq ?_
            refine At.region ?_
            refine AtL.move (.inl rfl) rfl rfl ?_
            refine AtL.rangeS Tryd.underlying9 (.inl rfl) rfl rfl ?_
            intro b16
            refine AtL.done ?_
            refine At.block ?_
            refine At.unroll ?_
            refine At.seq ?_
            refine At.region ?_
            refine AtL.nextS (p := 0) (n := 1) (c := 13) (l := [13, 10]) (H' := [(b16, .stringIter ⟨⟨[13, 10]⟩⟩ 1)] :: H) 0 0 (.inl rfl) rfl rfl rfl rfl rfl (by decide) rfl ?_
            refine AtL.extract (.inl rfl) rfl rfl rfl ?_
            refine AtL.done ?_
            refine At.seq ?_
            refine At.condT rfl ?_
            refine At.skip ?_
            refine At.block ?_
            refine At.seq ?_
            refine At.region ?_
            refine AtL.extract (.inl rfl) rfl rfl rfl ?_
            refine AtL.assign (.inl rfl) rfl rfl ?_
            refine AtL.done ?_
            refine At.seq ?_
            refine At.region ?_
            refine AtL.move (.inl rfl) rfl rfl ?_
            refine AtL.move (.inl rfl) rfl rfl ?_
            refine AtL.eqi (.inl rfl) rfl rfl rfl ?_
            refine AtL.done ?_
            refine At.condIs false rfl (decide_eq_false (by omega)) ?_
            refine At.skip ?_
            refine At.inBlock ?_
            refine At.again ?_
            refine At.seq ?_
            refine At.region ?_
            refine AtL.nextS (p := 1) (n := 1) (c := 10) (l := [13, 10]) (H' := [(b16, .stringIter ⟨⟨[13, 10]⟩⟩ 2)] :: H) 0 0 (.inl rfl) rfl rfl rfl rfl rfl (by decide) rfl ?_
            refine AtL.extract (.inl rfl) rfl rfl rfl ?_
            refine AtL.done ?_
            refine At.seq ?_
            refine At.condT rfl ?_
            refine At.skip ?_
            refine At.block ?_
            refine At.seq ?_
            refine At.region ?_
            refine AtL.extract (.inl rfl) rfl rfl rfl ?_
            refine AtL.assign (.inl rfl) rfl rfl ?_
            refine AtL.done ?_
            refine At.seq ?_
            refine At.region ?_
            refine AtL.move (.inl rfl) rfl rfl ?_
            refine AtL.move (.inl rfl) rfl rfl ?_
            refine AtL.eqi (.inl rfl) rfl rfl rfl ?_
            refine AtL.done ?_
            refine At.condIs false rfl (decide_eq_false (by omega)) ?_
            refine At.skip ?_
            refine At.inBlock ?_
            refine At.again ?_
            refine At.seq ?_
            refine At.region ?_
            refine AtL.nextOver (p := 2) (l := [13, 10]) 0 0 (.inl rfl) rfl rfl rfl rfl rfl ?_
            refine AtL.extract (.inl rfl) rfl rfl rfl ?_
            refine AtL.done ?_
            refine At.seq ?_
            refine At.condF rfl ?_
            refine At.exit rfl ?_
            refine At.inBlock ?_
            refine At.region ?_
            refine AtL.move (.inl rfl) rfl rfl ?_
            refine AtL.move (.inl rfl) rfl rfl ?_
            refine AtL.add (z := (k : Int) + (n13 : Int)) (.inl rfl) rfl rfl rfl (w64 (by omega) (by omega)) ?_
            refine AtL.assign (.inl rfl) rfl rfl ?_
            refine AtL.done ?_
            refine At.pick (H' := H) [] 1 rfl rfl ?_
            refine ihL3 (k + n13) (⟨by omega, take_dec (by omega) (by omega) hdb hdc ha⟩) (by omega) _ ?_
            exact ⟨rfl, rfl, (by first | rfl | exact slLen (by simp []) | exact intEq (by omega) | exact intEq (by simp []) | exact slLen (by simp []; omega)), trivial⟩
      · intro hc13
        have hc13 : ¬ ((k : Int) < (l.length : Int)) := of_decide_eq_false hc13
        refine At.exit rfl ?_
        refine At.seq ?_
        refine At.region ?_
        refine AtL.assign (.inl rfl) rfl rfl ?_
        refine AtL.done ?_
        exact At.ret Tryd.func132 rfl rfl (⟨_, rfl, any_no (all_end (k := k) (by omega) ha), rfl⟩)

set_option maxHeartbeats 400000 in
theorem containsany_ok {w0 : World} {base : Nat} {H : List Seg} {A : Option Addr} {C : Nat} {l : List UInt8} (h : Rd tyB w0 base H A C l) (T : Tabs w0 base) :
    SCalls Tryd.prog 104 [.slice A l.length C, str [13, 10]] w0 base (H) (fun v H' => v = .bool (l.any crlf) ∧ H' = H) := by
  refine SCalls.of_walk (n := 9) Tryd.func104 rfl rfl rfl fun cs => ?_
  refine At.seq ?_
  refine At.region ?_
  refine AtL.assign (.inl rfl) rfl rfl ?_
  refine AtL.done ?_
  refine At.seq ?_
  refine At.region ?_
  refine AtL.move (.inl rfl) rfl rfl ?_
  refine AtL.move (.inl rfl) rfl rfl ?_
  refine AtL.call tf_body132 (.inl rfl) rfl rfl (indexany_ok (l := l) h T) ?_
  rintro _ _ ⟨z1, rfl, hz2, hHq⟩
  obtain rfl := hHq.symm
  refine AtL.geq (.inl rfl) rfl rfl rfl ?_
  refine AtL.assign (.inl rfl) rfl rfl ?_
  refine AtL.done ?_
  exact At.ret Tryd.func104 rfl rfl (⟨congrArg Value.bool hz2, rfl⟩)

end Go.Proofs.YtlfkoimkojbghaaDoor
