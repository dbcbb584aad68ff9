/- The walk of the law SmoothBetween. -/
import Derived.Test.YtmopjmnpbmkjpaaH
import Derived.Test.YtmopjmnpbmkjpaaBt
import Derived.Deep.DeepCutAuto
namespace Go.Proofs.Ytmopjmnpbmkjpaa
open Go.RowKit Fl
attribute [local go_sem] fold_lt fold_gt fold_eq fold_ne fold_le fold_ge nanB_eqB run_fl_add run_fl_sub run_fl_mul

theorem read_zero {x : Nat} (hx : fin x) (h : (FloatKind.f64.decode x).isZero = true) : key x = 0 := by
  obtain ⟨m, a, e1, e2⟩ := read_fin hx
  have h' : (Ieee.double.read x).isZero = true := h
  rw [e1] at h'
  have hm : m = 0 := by
    cases m with
    | zero => rfl
    | succ m => cases h'
  rw [hm, Nat.zero_mul] at e2
  have : rung x = 0 := by
    rcases Nat.eq_zero_or_pos (rung x) with h0 | h0
    · exact h0
    · have := M_lt h0; rw [M_zero] at this; omega
  unfold key; rw [this]; split <;> rfl
theorem no_inf {x : Nat} (hx : fin x) (s : Bool) : (FloatKind.f64.decode x == .infinity s) = false := by
  obtain ⟨m, a, e1, _⟩ := read_fin hx
  have : FloatKind.f64.decode x = .number (ng x) m (-1074 + (a : Int)) := e1
  rw [this, beq_eq_false_iff_ne]
  intro h; cases h
theorem no_nan {x : Nat} (hx : fin x) : (FloatKind.f64.decode x).isNaN = false := by
  obtain ⟨m, a, e1, _⟩ := read_fin hx
  have : FloatKind.f64.decode x = .number (ng x) m (-1074 + (a : Int)) := e1
  rw [this]; rfl

theorem run_min {P : Program} {x y : Nat} (hx : fin x) (hy : fin y) (nm : String) (w : World) : ∃ r, (Extern.MathDim.pick nm true .lt #[.float .f64 x, .float .f64 y]).run P w = .ok (.float .f64 r) w ∧ key r = min (key x) (key y) := by
  refine ⟨_, rfl, ?_⟩
  rw [no_inf hx, no_inf hy, no_nan hx, no_nan hy]
  simp only [Bool.or_self, Bool.false_eq_true, if_false]
  have hl : ((FloatKind.f64.decode x).order (FloatKind.f64.decode y) == some .lt) = true ↔ real x ∧ real y ∧ key x < key y := lt_iff x y
  split
  · rename_i hz
    rw [Bool.and_eq_true] at hz
    have a := read_zero hx hz.1
    have b := read_zero hy hz.2
    split <;> omega
  · by_cases h : ((FloatKind.f64.decode x).order (FloatKind.f64.decode y) == some .lt) = true
    · rw [if_pos h]
      have := hl.1 h
      omega
    · rw [if_neg h]
      have : ¬ key x < key y := fun hh => h (hl.2 ⟨fin_real hx, fin_real hy, hh⟩)
      omega
theorem run_max {P : Program} {x y : Nat} (hx : fin x) (hy : fin y) (nm : String) (w : World) : ∃ r, (Extern.MathDim.pick nm false .gt #[.float .f64 x, .float .f64 y]).run P w = .ok (.float .f64 r) w ∧ key r = max (key x) (key y) := by
  refine ⟨_, rfl, ?_⟩
  rw [no_inf hx, no_inf hy, no_nan hx, no_nan hy]
  simp only [Bool.or_self, Bool.false_eq_true, if_false]
  have hl : ((FloatKind.f64.decode x).order (FloatKind.f64.decode y) == some .gt) = true ↔ real x ∧ real y ∧ key y < key x := gt_iff x y
  split
  · rename_i hz
    rw [Bool.and_eq_true] at hz
    have a := read_zero hx hz.1
    have b := read_zero hy hz.2
    split <;> omega
  · by_cases h : ((FloatKind.f64.decode x).order (FloatKind.f64.decode y) == some .gt) = true
    · rw [if_pos h]
      have := hl.1 h
      omega
    · rw [if_neg h]
      have : ¬ key y < key x := fun hh => h (hl.2 ⟨fin_real hx, fin_real hy, hh⟩)
      omega

theorem min_any (x y : Nat) (w : World) (hx : fin x) (hy : fin y) :
    Calls Try.prog 27 #[.float .f64 x, .float .f64 y] w fun e w' => ∃ r, e = .returned (.float .f64 r) ∧ key r = min (key x) (key y) ∧ w = w' := by
  obtain ⟨r, h, hk⟩ := run_min (P := Try.prog) hx hy "math.archMin" w
  refine Calls.mono (R := fun e w' => e = .returned (.float .f64 r) ∧ w = w') ?_ (fun _ _ ⟨h1, h2⟩ => ⟨r, h1, hk, h2⟩)
  have hr : (callFunc 36 #[.float .f64 x, .float .f64 y]).run Try.prog w = .ok (.value (.float .f64 r)) w := by
    rw [run_callFunc_extern Try.func36 (by kernel_rfl) (by kernel_rfl) (by kernel_rfl) (e := Extern.MathDim.pick "math.archMin" true .lt) (by kernel_rfl), h]; rfl
  clear hk h hx hy
  go_enter Try.func27, Try.ntmps27
  go_wp2
  go_ret; exact ⟨rfl, rfl⟩
theorem max_any (x y : Nat) (w : World) (hx : fin x) (hy : fin y) :
    Calls Try.prog 28 #[.float .f64 x, .float .f64 y] w fun e w' => ∃ r, e = .returned (.float .f64 r) ∧ key r = max (key x) (key y) ∧ w = w' := by
  obtain ⟨r, h, hk⟩ := run_max (P := Try.prog) hx hy "math.archMax" w
  refine Calls.mono (R := fun e w' => e = .returned (.float .f64 r) ∧ w = w') ?_ (fun _ _ ⟨h1, h2⟩ => ⟨r, h1, hk, h2⟩)
  have hr : (callFunc 38 #[.float .f64 x, .float .f64 y]).run Try.prog w = .ok (.value (.float .f64 r)) w := by
    rw [run_callFunc_extern Try.func38 (by kernel_rfl) (by kernel_rfl) (by kernel_rfl) (e := Extern.MathDim.pick "math.archMax" false .gt) (by kernel_rfl), h]; rfl
  clear hk h hx hy
  go_enter Try.func28, Try.ntmps28
  go_wp2
  go_ret; exact ⟨rfl, rfl⟩

/-- A mean is a NaN only if what came now is. -/
theorem mean_nan {o n p : Nat} (h : nanB (meanF o n p) = true) : nanB n = true := by
  unfold meanF at h
  split at h
  · exact h
  · split at h
    · assumption
    · cases hq : meanQ o n p with
      | none => rw [hq] at h; exact h
      | some q =>
        rw [hq, nanB_iff] at h
        exact absurd (meanX_some default default default hq).2 h

/-- The guard: one of its tests; or none. -/
def Grd (o n p : Nat) (s : Value) : Prop := s = .bool true ∨ (s = .bool false ∧ nanB o = false ∧ nanB n = false ∧ nanB p = false ∧ gtB (absF o) 6850974717710472879 = false ∧ gtB (absF n) 6850974717710472879 = false ∧ ltB p 0 = false ∧ gtB p 4607182418800017408 = false)
theorem grd_no {o n p : Nat} {bg : Bool} (hb : (gtB (absF o) 6850974717710472879 || gtB (absF n) 6850974717710472879) = bg) (h1 : nanB o = false) (h2 : nanB n = false) (h3 : nanB p = false) (h4 : bg = false) (h6 : ltB p 0 = false) : Grd o n p (.bool (gtB p 4607182418800017408)) := by
  subst h4
  rw [Bool.or_eq_false_iff] at hb
  cases h7 : gtB p 4607182418800017408 with
  | true => exact .inl rfl
  | false => exact .inr ⟨rfl, h1, h2, h3, hb.1, hb.2, h6, h7⟩
theorem btw_of {o n p : Nat} (h1 : nanB o = false) (h2 : nanB n = false) (h3 : nanB p = false) (h4 : gtB (absF o) 6850974717710472879 = false) (h5 : gtB (absF n) 6850974717710472879 = false) (h6 : ltB p 0 = false) (h7 : gtB p 4607182418800017408 = false) : Btw o n p := by
  rw [nanB_false] at h1 h2 h3
  have rk : real 6850974717710472879 := by unfold real rung; omega
  have r0 : real 0 := by unfold real rung; omega
  have r1 : real 4607182418800017408 := by unfold real rung; omega
  have kk : key 6850974717710472879 = 6850974717710472879 := by decide
  have q0 : key 0 = 0 := by decide
  have q1 : key 4607182418800017408 = 4607182418800017408 := by decide
  have f4 : ¬ key 6850974717710472879 < key (absF o) := fun hh => by rw [(gtB_iff _ _).2 ⟨(real_abs o).2 h1, rk, hh⟩] at h4; cases h4
  have f5 : ¬ key 6850974717710472879 < key (absF n) := fun hh => by rw [(gtB_iff _ _).2 ⟨(real_abs n).2 h2, rk, hh⟩] at h5; cases h5
  have f6 : ¬ key p < key 0 := fun hh => by rw [(ltB_iff _ _).2 ⟨h3, r0, hh⟩] at h6; cases h6
  have f7 : ¬ key 4607182418800017408 < key p := fun hh => by rw [(gtB_iff _ _).2 ⟨h3, r1, hh⟩] at h7; cases h7
  rw [key_abs, kk] at f4 f5
  have hk := k0_eq
  exact ⟨by omega, by omega, h3, by omega, by omega⟩

theorem fin_btw {o n p : Nat} (h : Btw o n p) : fin o ∧ fin n := by
  have := h.fo; have := h.fn; have := k0_eq
  exact ⟨by unfold fin; omega, by unfold fin; omega⟩

/-- What the last tests come to. -/
theorem btw_end {o n p lo hi : Nat} (h : Btw o n p) (hlo : key lo = min (key o) (key n)) (hhi : key hi = max (key o) (key n)) :
    ∃ t sl a b, (∀ w, flR .add (absF o) (absF n) w = t) ∧ (∀ w, flR .mul 4472406533629990549 t w = sl) ∧ (∀ w, flR .sub lo sl w = a) ∧ (∀ w, flR .add hi sl w = b) ∧
      geB (meanF o n p) a = true ∧ leB (meanF o n p) b = true := by
  obtain ⟨hm, _, _, t, sl, a, b, e1, e2, e3, e4, ra, rb, ka, kb⟩ := between h hlo hhi
  exact ⟨t, sl, a, b, fun w => flR_some w e1, fun w => flR_some w e2, fun w => flR_some w e3, fun w => flR_some w e4, (geB_iff _ _).2 ⟨hm, ra, ka⟩, (leB_iff _ _).2 ⟨hm, rb, kb⟩⟩
theorem btw_zero {o n p : Nat} (h : Btw o n p) (h0 : eqB p 0 = true) : eqB (meanF o n p) o = true := by
  have q0 : key 0 = 0 := by decide
  obtain ⟨_, _, hk⟩ := (eqB_iff _ _).1 h0
  have hf := fin_btw h
  have hl : ∃ lo, key lo = min (key o) (key n) := ⟨if key o ≤ key n then o else n, by split <;> omega⟩
  have hh : ∃ hi, key hi = max (key o) (key n) := ⟨if key o ≤ key n then n else o, by split <;> omega⟩
  obtain ⟨lo, hl⟩ := hl
  obtain ⟨hi, hh⟩ := hh
  obtain ⟨hm, h1, _⟩ := between h hl hh
  exact (eqB_iff _ _).2 ⟨hm, fin_real hf.1, h1 (by omega)⟩
theorem btw_one {o n p : Nat} (h : Btw o n p) (h0 : eqB p 4607182418800017408 = true) (ho : eqB o 0 = true) : eqB (meanF o n p) n = true := by
  have q0 : key 0 = 0 := by decide
  have q1 : key 4607182418800017408 = 4607182418800017408 := by decide
  obtain ⟨_, _, hk⟩ := (eqB_iff _ _).1 h0
  obtain ⟨_, _, hk2⟩ := (eqB_iff _ _).1 ho
  have hf := fin_btw h
  have hl : ∃ lo, key lo = min (key o) (key n) := ⟨if key o ≤ key n then o else n, by split <;> omega⟩
  have hh : ∃ hi, key hi = max (key o) (key n) := ⟨if key o ≤ key n then n else o, by split <;> omega⟩
  obtain ⟨lo, hl⟩ := hl
  obtain ⟨hi, hh⟩ := hh
  obtain ⟨hm, _, h1, _⟩ := between h hl hh
  exact (eqB_iff _ _).2 ⟨hm, fin_real hf.2, h1 (by omega) (by omega)⟩

set_option maxHeartbeats 1000000 in
set_option maxRecDepth 100000 in
theorem between_walk (o n p : Nat) (w : World) (ho : W64 o) (hn : W64 n) : Calls Try.prog 9 #[.float .f64 o, .float .f64 n, .float .f64 p] w (Yes w) := by
  have HO := Lib.hid ho
  have HN := Lib.hid hn
  clear ho hn
  cases hm : nanB (meanF o n p) with
  | true =>
    have hnn := mean_nan hm
    go_enter Try.func9, Try.ntmps9
    go_wp2_with (first | (go_at_call 10; refine (awake_any _).mono ?_; rintro e w1 ⟨rfl, hb⟩; have HB := Lib.hid hb; clear hb) | (go_at_call 20; refine (mean_any _ _ _ _).mono ?_; rintro e w' ⟨rfl, n1, rfl⟩) | (go_at_call 19; refine (isNaN_any _ _).mono ?_; rintro e w' ⟨rfl, rfl⟩))
    go_ret
    exact ⟨rfl, below_drewN HB.out _⟩
  | false =>
    go_enter Try.func9, Try.ntmps9
    go_upto_region 5 with (first | (go_at_call 10; refine (awake_any _).mono ?_; rintro e w1 ⟨rfl, hb⟩; have HB := Lib.hid hb; clear hb) | (go_at_call 20; refine (mean_any _ _ _ _).mono ?_; rintro e w' ⟨rfl, n1, rfl⟩) | (go_at_call 19; refine (isNaN_any _ _).mono ?_; rintro e w' ⟨rfl, rfl⟩))
    go_cut [9] (fun s wx => s = .bool (gtB (absF o) 6850974717710472879 || gtB (absF n) 6850974717710472879) ∧ wx = w1.drewN n1)
    case first =>
      go_wp2_with (first | (go_at_call 18; (with_reducible refine (abs_any o _ HO.out).mono ?_); rintro e w' ⟨rfl, rfl⟩) | (go_at_call 18; (with_reducible refine (abs_any n _ HN.out).mono ?_); rintro e w' ⟨rfl, rfl⟩))
      all_goals
        go_meet
        exact ⟨by simp [*], rfl⟩
    case rest =>
      obtain ⟨rfl, rfl⟩ := hcut
      generalize hbg : (gtB (absF o) 6850974717710472879 || gtB (absF n) 6850974717710472879) = bg
      have HG := Lib.hid hbg
      clear hbg
      go_upto_region 6 with fail
      go_cut [9, 53] (fun _ s wx => Grd o n p s ∧ wx = w1.drewN n1)
      case first =>
        go_wp2_with (first | (go_at_call 19; refine (isNaN_any _ _).mono ?_; rintro e w' ⟨rfl, rfl⟩))
        · go_meet; exact ⟨.inl rfl, rfl⟩
        · go_meet; exact ⟨.inl rfl, rfl⟩
        · go_meet; exact ⟨.inl rfl, rfl⟩
        · go_meet; exact ⟨.inl rfl, rfl⟩
        · go_meet; exact ⟨.inl rfl, rfl⟩
        · go_meet; exact ⟨grd_no HG.out (Bool.eq_false_iff.2 ‹_›) (Bool.eq_false_iff.2 ‹_›) (Bool.eq_false_iff.2 ‹_›) (Bool.eq_false_iff.2 ‹_›) (Bool.eq_false_iff.2 ‹_›), rfl⟩
      case rest =>
        obtain ⟨hgd, rfl⟩ := hcut
        rcases hgd with rfl | ⟨rfl, h1, h2, h3, h4, h5, h6, h7⟩
        · go_wp2
          go_ret
          exact ⟨rfl, below_drewN HB.out _⟩
        · have hB := btw_of h1 h2 h3 h4 h5 h6 h7
          have HBt := Lib.hid hB
          clear h1 h2 h3 h4 h5 h6 h7 hB HG hm
          go_upto_region 8 with fail
          go_cut [74] (fun s wx => s = .bool false ∧ wx = w1.drewN n1)
          case first =>
            cases q0 : eqB p 0 with
            | true =>
              have q1 := btw_zero HBt.out q0
              cases q2 : eqB p 4607182418800017408 with
              | true =>
                cases q3 : eqB o 0 with
                | true =>
                  have q4 := btw_one HBt.out q2 q3
                  go_wp2
                  go_meet; exact ⟨rfl, rfl⟩
                | false =>
                  go_wp2
                  go_meet; exact ⟨rfl, rfl⟩
              | false =>
                go_wp2
                go_meet; exact ⟨rfl, rfl⟩
            | false =>
              cases q2 : eqB p 4607182418800017408 with
              | true =>
                cases q3 : eqB o 0 with
                | true =>
                  have q4 := btw_one HBt.out q2 q3
                  go_wp2
                  go_meet; exact ⟨rfl, rfl⟩
                | false =>
                  go_wp2
                  go_meet; exact ⟨rfl, rfl⟩
              | false =>
                go_wp2
                go_meet; exact ⟨rfl, rfl⟩
          case rest =>
            obtain ⟨rfl, rfl⟩ := hcut
            have hf := fin_btw HBt.out
            have HF1 := Lib.hid hf.1
            have HF2 := Lib.hid hf.2
            clear hf
            go_wp2_with (first | (go_at_call 27; refine (min_any _ _ _ HF1.out HF2.out).mono ?_; rintro e w' ⟨lo, rfl, hlo, rfl⟩; have HL := Lib.hid hlo; clear hlo) | (go_at_call 28; refine (max_any _ _ _ HF1.out HF2.out).mono ?_; rintro e w' ⟨hi, rfl, hhi, rfl⟩; obtain ⟨t, sl, a, b, g1, g2, g3, g4, g5, g6⟩ := btw_end HBt.out HL.out hhi; clear hhi) | (go_at_call 18; (with_reducible refine (abs_any o _ HO.out).mono ?_); rintro e w' ⟨rfl, rfl⟩) | (go_at_call 18; (with_reducible refine (abs_any n _ HN.out).mono ?_); rintro e w' ⟨rfl, rfl⟩))
            go_ret
            exact ⟨rfl, below_drewN HB.out _⟩
end Go.Proofs.Ytmopjmnpbmkjpaa
