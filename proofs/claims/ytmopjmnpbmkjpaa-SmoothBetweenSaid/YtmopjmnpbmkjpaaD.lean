/- The walks of the laws SmoothBest and SmoothOrder, which take a slice of floats. -/
import Derived.Test.YtmopjmnpbmkjpaaC
import Derived.Maps.AppendAt
import Derived.Deep.AppendLies
import Derived.Deep.Slices
namespace Go.Proofs.Ytmopjmnpbmkjpaa
open Go.RowKit Fl
attribute [local go_sem] fold_lt fold_gt fold_eq fold_ne fold_le fold_ge
attribute [local go_sem] nanB_eqB run_fl_add run_fl_sub run_fl_mul run_conv

/-- The cells of the first n. -/
def flts (xs : Nat → Nat) (n : Nat) : List Value := (List.range n).map fun i => .float .f64 (xs i)
theorem flts_get (xs : Nat → Nat) (n j : Nat) (h : j < n) : (flts xs n)[j]? = some (.float .f64 (xs j)) := by simp [flts, h]
theorem flts_len (xs : Nat → Nat) (n : Nat) : (flts xs n).length = n := by simp [flts]
theorem flts_one (xs : Nat → Nat) (n : Nat) : ∀ u ∈ flts xs n, u.oneCell' = true := by
  intro u hu
  obtain ⟨i, _, rfl⟩ := List.mem_map.1 hu
  rfl
theorem frow_sl {w : World} {a : Option Addr} {n c : Nat} {xs : Nat → Nat} (h : Sl w a n c 1 (flts xs n)) : FRow w a n c xs := by
  refine ⟨h.le, h.cap, fun hn => ?_⟩
  obtain ⟨b, off, e, hc⟩ := h.cells (by intro e; have := flts_len xs n; rw [e] at this; simp at this; omega)
  exact ⟨b, off, e, fun i hi => hc i _ (flts_get xs n i hi)⟩

theorem trod_float {H : Type} {enc : TypeId × Value → H} {P : Program} {W : World} {spare : Nat → Bool} {held : Bool} {base : Nat} {t : TypeId} {k : FloatKind} {fuel : Nat} {cs : List Value} {x : DataW H × List MemPlace} (ht : P.underlying t = some (.float k)) (h : DataW.trod enc P W base spare held fuel t cs = some x) : ∃ n, cs = [.float k n] ∧ (Lit.float k n).wf = true := by
  cases fuel with
  | zero => simp [DataW.trod] at h
  | succ n =>
    unfold DataW.trod at h
    rw [ht] at h
    split at h <;> simp_all

theorem addr_of {a : Addr} {w : World} {v : Value} (h : w.cell? (a.add 0) = some v) : a = ⟨a.block, a.off, none⟩ := by
  have : a.add 0 = a := by simp [Addr.add]
  rw [this] at h
  have hs := World.cell?_spot h
  cases a
  simp_all

/-- What a slice of floats that came in reads as. -/
theorem frow_of {H : Type} {enc : TypeId × Value → H} {P : Program} {W : World} {spare : Nat → Bool} {held : Bool} {t e : TypeId} (ht : P.underlying t = some (.slice e)) (he : P.underlying e = some (.float .f64)) (hc : P.cellsOf e = 1)
    {a : Option Addr} {n c : Nat} {d : DataW H} {ps : List MemPlace} (h : DataW.Trod enc P W 0 spare held t (.slice a n c) d ps) : ∃ xs, Sl W a n c 1 (flts xs n) := by
  obtain ⟨fuel, hf⟩ := h
  rcases Deep.open_slice1 ht hc hf with ⟨hcs, _⟩ | ⟨x, len, cap, m, k, V, D, Pl, hcs, _, hl, hm, hmm, _, hx⟩
  · simp [Value.cells] at hcs
    obtain ⟨rfl, rfl, rfl⟩ := hcs
    exact ⟨fun _ => 0, Sl.nil_ W 1⟩
  · simp [Value.cells] at hcs
    obtain ⟨rfl, rfl, rfl⟩ := hcs
    have hlm : n ≤ m := by rw [hmm]; split <;> omega
    have hv : ∀ i, i < n → ∃ b, W.cell? (x.add i) = some (.float .f64 b) := by
      intro i hi
      obtain ⟨h1, h2⟩ := hx i (by omega)
      obtain ⟨b, e1, _⟩ := trod_float he h2
      injection e1 with e1
      exact ⟨b, by rw [h1, e1]⟩
    obtain ⟨xs, hxs⟩ := Deep.choose_lt (α := Nat) (p := fun i b => W.cell? (x.add i) = some (.float .f64 b)) hv
    refine ⟨xs, hl, by simpa [maxLen] using hm, by rw [flts_len, Nat.mul_one], (fun e => by cases e), fun hn => ?_⟩
    have h0 : 0 < n := by
      rcases Nat.eq_zero_or_pos n with e | e
      · subst e; exact absurd rfl hn
      · exact e
    have hx0 := addr_of (hxs 0 h0)
    refine ⟨x.block, x.off, by rw [← hx0], fun j u hu => ?_⟩
    have hj : j < n := by
      have := (List.getElem?_eq_some_iff.1 hu).1
      rwa [flts_len] at this
    rw [flts_get xs n j hj] at hu
    injection hu with hu
    subst hu
    have h1 := hxs j hj
    rw [hx0, add_mk] at h1
    exact h1

/-- A loop over two slices that read alike. -/
def Two (n : Nat) (w : World) (i : Value) (wr : World) : Prop := ∃ k m : Nat, k ≤ n ∧ i = .int .i64 k ∧ wr = w.drewN m
theorem f_info : (Try.prog.info? 22).map (fun i => (i.zero, i.size, i.bytes)) = some (some (.float .f64 0), 1, 8) := by kernel_rfl

theorem ref_best (a : Option Addr) (n c : Nat) (xs : Nat → Nat) (w : World) (h : FRow w a n c xs) :
    Calls Try.prog 14 #[.slice a n c] w fun e w' => e = .returned (.int .i64 (optI (bst xs n))) ∧ ∃ m, w' = w.drewN m :=
  (best_ref a n c xs w h).mono fun _ _ ⟨r, he, hr, hm⟩ => ⟨by rw [he, best_one hr], hm⟩
theorem bef_ref' (a b : Nat) (w : World) : Calls Try.prog 12 #[.float .f64 a, .float .f64 b] w fun e w' => e = .returned (.bool (befB a b)) ∧ w = w' :=
  (bef_ref a b w).mono fun _ _ ⟨h1, h2⟩ => ⟨h1, h2.symm⟩

set_option maxHeartbeats 400000 in
theorem best_over (x y : Nat) (a : Option Addr) (n c : Nat) (w : World) (hn : 200 < n) :
    Calls Try.prog 3 #[.float .f64 x, .float .f64 y, .slice a n c] w (Yes w) := by
  go_enter Try.func3, Try.ntmps3
  go_wp2_with (first | (go_at_call 10; refine (awake_any _).mono ?_; rintro e w' ⟨rfl, hb⟩))
  go_ret
  exact ⟨rfl, hb⟩

theorem same_ref (a b : Nat) (w : World) : Calls Try.prog 15 #[.float .f64 a, .float .f64 b] w fun e w' => e = .returned (.bool (sameB a b)) ∧ w' = w :=
  (same_any a b w).mono fun _ _ ⟨h1, h2⟩ => ⟨h1, h2.symm⟩

set_option maxHeartbeats 1000000 in
theorem best_walk (x y : Nat) (a : Option Addr) (n c : Nat) (xs : Nat → Nat) (w : World) (h : Sl w a n c 1 (flts xs n)) (hn : n ≤ 200) :
    Calls Try.prog 3 #[.float .f64 x, .float .f64 y, .slice a n c] w (Yes w) := by
  obtain ⟨i0, hi0, hz0, hz1, hz2⟩ := info_parts f_info
  have hnc := h.le
  have hcc := h.cap
  have HS := Lib.hid h
  clear h
  go_enter Try.func3, Try.ntmps3
  go_wp2_with (first | (at_builtin; refine wpList_app _ rfl (.tmp 13) (.tmp 14) 23 rfl w.heap.size 22 i0 (.float .f64 0) 1 8 Try.underlying23 hi0 hz0 hz1 hz2 rfl (by omega) (.slice (some ⟨w.heap.size, 0, none⟩) 0 0) 0 [] rfl (World.ownsRow_made w #[] 0 (Nat.le_refl _) (by simp [maxLen]) rfl) a n c (flts xs n) rfl (HS.out.alloc _) (flts_one xs n) (by simp only [maxLen]; omega) (by omega) (by simp) ?_; intro v1 w1 hown1 hg1 _))
  have hb1 : Below w.heap.size w w1 := below_app ((Below.refl _ w).alloc (Nat.le_refl _) _) (World.ownsRow_made w #[] 0 (e := 22) (size := 1) (Nat.le_refl _) (by simp [maxLen]) rfl) (by simp) hg1
  have hl1 : Sl w1 a n c 1 (flts xs n) := HS.out.below hb1
  obtain ⟨A1, C1, hv, hs1⟩ := Sl.of_own hown1
  rw [Nat.zero_add, List.nil_append] at hs1
  rw [Nat.zero_add] at hv
  rw [hv]
  have hc1 := hs1.cap
  have hf1 := Lib.hid (frow_sl hl1)
  have hf2 := Lib.hid (frow_sl hs1)
  have HB := Lib.hid hb1
  clear hown1 hg1 hv hs1 hl1 hb1 hi0 hz0 hz1 hz2
  go_wp2_with (first | (go_at_call 11; refine (before_any _ _ _).mono ?_; rintro e w' ⟨rfl, rfl⟩) | (go_at_call 12; refine (bef_ref' _ _ _).mono ?_; rintro e w' ⟨rfl, rfl⟩) | (go_at_call 13; refine (best_any _ _ _ _ _ hf2.out).mono ?_; rintro e w' ⟨rfl, rfl⟩) | (go_at_call 14; refine (ref_best _ _ _ _ _ hf1.out).mono ?_; rintro e w' ⟨rfl, m, rfl⟩))
  go_loopw [8] (fun i wr => Two n w1 i wr) (fun i _ => n - (intOf i).toNat)
  case atStart => exact ⟨0, _, Nat.zero_le _, rfl, rfl⟩
  case round =>
    obtain ⟨k, q, hk, rfl, rfl⟩ := hrel
    by_cases hlt : k < n
    · obtain ⟨b, off, rfl, hcell⟩ := hf1.out.2.2 (by omega)
      have hck := hcell k hlt
      obtain ⟨b2, off2, rfl, hcell2⟩ := hf2.out.2.2 (by omega)
      have hck2 := hcell2 k hlt
      have hp1 : (0 : Int) ≤ (k : Int) ∧ (k : Int) < n := by omega
      have hsm := sameB_refl (xs k)
      clear hcell hcell2
      go_wp2_with fail
      go_quiet ((go_at_call 15; exact quiet_add_same (same_ref _ _ _)))
      go_wp2
      go_roundw
      case rel => exact ⟨k + 1, _, by omega, by go_num, rfl⟩
      case measure => simp [intOf]; omega
    · have e : k = n := by omega
      subst e
      go_wp2_with (first | (go_at_call 10; refine (awake_any _).mono ?_; rintro e w' ⟨rfl, hb⟩))
      go_ret
      exact ⟨rfl, (below_drewN HB.out _).trans (hb.mono HB.out.size)⟩
theorem best_all (x y : Nat) (a : Option Addr) (n c : Nat) (xs : Nat → Nat) (w : World) (h : Sl w a n c 1 (flts xs n)) :
    Calls Try.prog 3 #[.float .f64 x, .float .f64 y, .slice a n c] w (Yes w) := by
  by_cases hn : n ≤ 200
  · exact best_walk x y a n c xs w h hn
  · exact best_over x y a n c w (by omega)
end Go.Proofs.Ytmopjmnpbmkjpaa
