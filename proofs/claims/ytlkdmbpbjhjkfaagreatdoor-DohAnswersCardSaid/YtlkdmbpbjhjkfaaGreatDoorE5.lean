/- Requests: the plain law, the library. -/
import Derived.Lib.IndexMore
import Derived.Lib.MapLaws
import Derived.Lib.TrimAscii
import Derived.WalkKit
import Derived.Test.YtlkdmbpbjhjkfaaGreatDoorT8
import Derived.Test.YtlkdmbpbjhjkfaaGreatDoorE4
import Derived.Test.YtlkdmbpbjhjkfaaGreatDoorLgY
namespace Go.Proofs.YtlkdmbpbjhjkfaaGreatDoor
set_option linter.unusedVariables false
set_option linter.unusedSimpArgs false
set_option maxRecDepth 100000

/-- Letters made small, rune by rune. -/
def lowI (r : Int) : Int := if 65 ≤ r ∧ r ≤ 90 then r + 32 else r
theorem low_ascii {c : UInt8} (h : c.toNat < 128) : Go.Lib.encodeRune (lowI (c.toNat : Int)) = [lowB c] := by
  have := (by decide +kernel : ∀ n : Fin 128, Go.Lib.encodeRune (lowI (n.val : Int)) = [lowB (UInt8.ofNat n.val)]) ⟨c.toNat, h⟩
  simpa using this
theorem lowI_nn {r : Int} (h : 0 ≤ r) : 0 ≤ lowI r := by unfold lowI; split <;> omega
theorem lowB_big {c : UInt8} (h : ¬ c.toNat < 128) : lowB c = c := by
  have := (by decide +kernel : ∀ n : Fin 256, ¬ n.val < 128 → lowB (UInt8.ofNat n.val) = UInt8.ofNat n.val) ⟨c.toNat, c.toNat_lt⟩ h
  simpa using this
theorem map_big {c : UInt8} (l : List UInt8) (h : ¬ c.toNat < 128) : ∃ x r, Go.Lib.mapD lowI (c :: l) = x :: r ∧ ¬ x.toNat < 128 := by
  rw [Go.Lib.mapD_step _ _ (by simp)]
  by_cases hv : (Go.Lib.decodeL (c :: l)).1 = 65533 ∧ (Go.Lib.decodeL (c :: l)).2 = 1
  · rw [hv.1]
    have e : (if 0 ≤ lowI ((65533 : Nat) : Int) then Go.Lib.encodeRune (lowI ((65533 : Nat) : Int)) else []) = [239, 191, 189] := by decide +kernel
    rw [e]; exact ⟨239, _, rfl, by decide⟩
  · have he := Go.Lib.encode_decode (c :: l) (by simp) hv
    have hl : 1 ≤ (Go.Lib.encodeRune ((Go.Lib.decodeL (c :: l)).1 : Int)).length := by
      have := (Go.Lib.encodeRuneZ_length ((Go.Lib.decodeL (c :: l)).1 : Int)).1
      rw [Go.Lib.encodeRune, List.length_map]; exact this
    obtain ⟨n, hn⟩ : ∃ n, (Go.Lib.decodeL (c :: l)).2 = n + 1 := by
      cases hq : (Go.Lib.decodeL (c :: l)).2 with
      | zero => rw [he, hq] at hl; simp at hl
      | succ n => exact ⟨n, rfl⟩
    rw [hn] at he
    have hr : ¬ ((Go.Lib.decodeL (c :: l)).1 : Int) ≤ 127 := by
      intro h1
      rw [Go.Lib.encodeRune, Go.Lib.encodeRuneZ_one (by omega) h1] at he
      simp only [List.map_cons, List.map_nil, List.take_succ_cons] at he
      have h2 := (List.cons.inj he).1
      rw [← h2] at h
      apply h
      simp; omega
    have hlow : lowI ((Go.Lib.decodeL (c :: l)).1 : Int) = ((Go.Lib.decodeL (c :: l)).1 : Int) := by unfold lowI; rw [if_neg (by omega)]
    rw [hlow, if_pos (by omega), he, List.take_succ_cons]
    exact ⟨c, _, rfl, h⟩
/-- What is made small is a word of letters just if it is, byte by byte. -/
theorem map_low {m : List UInt8} (hm : m.all (fun c => decide (c.toNat < 128)) = true) (v : List UInt8) : Go.Lib.mapD lowI v = m ↔ lowerF v = m := by
  induction v generalizing m with
  | nil => exact Iff.rfl
  | cons c l ih =>
    have el : lowerF (c :: l) = lowB c :: lowerF l := rfl
    by_cases h : c.toNat < 128
    · have e : Go.Lib.mapD lowI (c :: l) = lowB c :: Go.Lib.mapD lowI l := by
        rw [Go.Lib.mapD_step _ _ (by simp), Go.Lib.decodeL_ascii c l h]
        dsimp only
        rw [if_pos (lowI_nn (by omega)), low_ascii h]; rfl
      rw [e, el]
      cases m with
      | nil => simp
      | cons d m =>
        simp only [List.all_cons, Bool.and_eq_true] at hm
        simp only [List.cons.injEq, ih hm.2]
    · obtain ⟨x, r, e, hx⟩ := map_big l h
      rw [e, el, lowB_big h]
      cases m with
      | nil => simp
      | cons d m =>
        simp only [List.all_cons, Bool.and_eq_true, decide_eq_true_eq] at hm
        constructor
        · intro h2; rw [(List.cons.inj h2).1] at hx; exact absurd hm.1 hx
        · intro h2; rw [(List.cons.inj h2).1] at h; exact absurd hm.1 h
def MEDIA : List UInt8 := [97, 112, 112, 108, 105, 99, 97, 116, 105, 111, 110, 47, 100, 110, 115, 45, 109, 101, 115, 115, 97, 103, 101]
def CTYPE : List UInt8 := [99, 111, 110, 116, 101, 110, 116, 45, 116, 121, 112, 101]
def DNSQ : List UInt8 := [47, 100, 110, 115, 45, 113, 117, 101, 114, 121]
def DNSE : List UInt8 := [100, 110, 115, 61]
def GETM : List UInt8 := [71, 69, 84]
def POSTM : List UInt8 := [80, 79, 83, 84]
theorem media_low (v : List UInt8) : Go.Lib.mapD lowI v = MEDIA ↔ lowerF v = lowerF MEDIA := by
  have h := map_low (m := MEDIA) (by decide) v
  have e : lowerF MEDIA = MEDIA := by decide
  rw [h, e]
theorem cut_less {q : List UInt8} (h : (Go.Lib.cut q [38]).2.2 = true) : (Go.Lib.cut q [38]).2.1.length < q.length := by
  unfold Go.Lib.cut at h ⊢
  split
  · rename_i h1
    have := Go.Lib.index_room q [38] h1
    simp only [List.length_drop, List.length_cons, List.length_nil] at this ⊢; omega
  · rename_i h1; rw [if_neg h1] at h; cases h
/-- P16.1: the first part that tells a message. -/
def partF (q : List UInt8) : Option (List UInt8) :=
  if DNSE <+: (Go.Lib.cut q [38]).1 then some ((Go.Lib.cut q [38]).1.drop 4) else if h : (Go.Lib.cut q [38]).2.2 = true then partF (Go.Lib.cut q [38]).2.1 else none
termination_by q.length
decreasing_by exact cut_less h
theorem part_yes {q : List UInt8} (h : DNSE <+: (Go.Lib.cut q [38]).1) : partF q = some ((Go.Lib.cut q [38]).1.drop 4) := by rw [partF, if_pos h]
theorem part_more {q : List UInt8} (h : ¬ DNSE <+: (Go.Lib.cut q [38]).1) (h2 : (Go.Lib.cut q [38]).2.2 = true) : partF q = partF (Go.Lib.cut q [38]).2.1 := by rw [partF, if_neg h, dif_pos h2]
theorem part_none {q : List UInt8} (h : ¬ DNSE <+: (Go.Lib.cut q [38]).1) (h2 : (Go.Lib.cut q [38]).2.2 = false) : partF q = none := by rw [partF, if_neg h, dif_neg (by rw [h2]; simp)]
def sizesF (b : List UInt8) : List UInt8 × Int := if b.length < 12 then ([], 400) else if 65535 < b.length then ([], 413) else (b, 200)
def getF (target : List UInt8) : List UInt8 × Int := match partF (Go.Lib.cut target [63]).2.1 with | none => ([], 400) | some t => match decB t with | none => ([], 400) | some b => (b, 200)
def postF (fs : List Fld) (body : List UInt8) : List UInt8 × Int := if ¬ (fieldF fs CTYPE).2 = 1 ∨ ¬ lowerF (fieldF fs CTYPE).1 = lowerF MEDIA then ([], 415) else (body, 200)
def thenF (r : List UInt8 × Int) : List UInt8 × Int := if r.2 = 200 then sizesF r.1 else ([], r.2)
/-- P16.1. -/
def askF (m t : List UInt8) (fs : List Fld) (body : List UInt8) : List UInt8 × Int :=
  if ¬ (Go.Lib.cut t [63]).1 = DNSQ then ([], 404) else if m = GETM then thenF (getF t) else if m = POSTM then thenF (postF fs body) else ([], 405)

theorem low1 (w : World) : Go.Proofs.MapAtRunes Tryz.prog 133 #[] lowI w := fun W x hx _ => by
  unfold FnGives
  by_cases h1 : 65 ≤ x <;> by_cases h2 : x ≤ 90
  all_goals
    have z1 : (65 : Int) ≤ (x : Int) ↔ 65 ≤ x := by omega
    have z2 : (x : Int) ≤ 90 ↔ x ≤ 90 := by omega
    go_enter Tryz.func133, Tryz.ntmps133
    go_wp2
    all_goals first | (exfalso; omega) | (go_ret; refine ⟨?_, 0, rfl⟩; unfold lowI; (first | rw [if_pos (by omega)] | rw [if_neg (by omega)]); rfl)
theorem Tabs.u8 {w0 w : World} {base : Nat} {H : List Seg} (T : Tabs w0 base) (S : Sep w0 base w H) : Lib.Utf8Tabs 4 5 w :=
  ⟨fun c hc => S.cellBelow T.lt (T.first c hc), fun i hi => ⟨S.cellBelow T.lt2 (T.acc i hi).1, S.cellBelow T.lt2 (T.acc i hi).2⟩⟩
theorem smap_ok {w0 : World} {base : Nat} {H : List Seg} {x : List UInt8} (hx : x.length ≤ 4294967280) (T : Tabs w0 base) : SCalls Tryz.prog 132 [.func (.func 133) #[] #[], str x] w0 base H (fun u H' => u = str (Lib.mapD lowI x) ∧ H' = H) := by
  refine SCalls.of_below fun w S => ?_
  exact Tryz.strings_Map_runes 133 #[] (enters_of Tryz.func133 (by kernel_rfl) rfl) lowI ⟨⟨x⟩⟩ w (by rw [str_size]; omega) (low1 w) (fun y hy => by unfold lowI; split <;> omega) (T.u8 S)
theorem cutW_ok {w0 : World} {base : Nat} {H : List Seg} {x : List UInt8} (sep : List UInt8) (hx : x.length < 4294967281) (T : Tabs w0 base) :
    SCalls Tryz.prog 53 [str x, str sep] w0 base H (fun v H' => v = .tuple #[str (Lib.cut x sep).1, str (Lib.cut x sep).2.1, .bool (Lib.cut x sep).2.2] ∧ H' = H) := by
  obtain ⟨m, hm⟩ := T.max
  refine SCalls.of_draws fun w S => ?_
  exact Tryz.strings_Cut ⟨⟨x⟩⟩ ⟨⟨sep⟩⟩ m w (by rw [str_size]; omega) (S.cellBelow T.lt0 hm)
theorem cutW_le (sep x : List UInt8) : (Lib.cut x sep).1.length ≤ x.length ∧ (Lib.cut x sep).2.1.length ≤ x.length := by
  unfold Lib.cut
  split <;> simp; omega
theorem cutp_ok {w0 : World} {base : Nat} {H : List Seg} (x p : List UInt8) :
    SCalls Tryz.prog 89 [str x, str p] w0 base H (fun v H' => v = .tuple #[str (if p <+: x then x.drop p.length else x), .bool (decide (p <+: x))] ∧ H' = H) := by
  refine SCalls.of_same fun w S => ?_
  have h := Tryz.strings_CutPrefix ⟨⟨x⟩⟩ ⟨⟨p⟩⟩ w
  have e : Lib.hasPrefix x p = decide (p <+: x) := by
    rw [Lib.hasPrefix, Bool.eq_iff_iff, decide_eq_true_eq, List.isPrefixOf_iff_prefix]
  have e2 : Lib.trimPrefix x p = if p <+: x then x.drop p.length else x := by
    rw [Lib.trimPrefix, e]; by_cases hp : p <+: x <;> simp [hp]
  rw [← e, ← e2]
  exact h

set_option maxHeartbeats 400000 in
theorem dlower_ok {w0 : World} {base : Nat} {H : List Seg} {x : List UInt8} (hx : x.length ≤ 4294967280) (T : Tabs w0 base) :
    SCalls Tryz.prog 91 [str x] w0 base (H) (fun v H' => v = str (Lib.mapD lowI x) ∧ H' = H) := by
  refine SCalls.of_walk (n := 5) Tryz.func91 rfl rfl rfl fun cs => ?_
  refine At.seq ?_
  refine At.region ?_
  refine AtL.assign (.inl rfl) rfl rfl ?_
  refine AtL.done ?_
  refine At.seq ?_
  refine At.region ?_
  refine AtL.move (.inl rfl) rfl rfl ?_
  refine AtL.call tf_body132 (.inl rfl) rfl rfl (smap_ok (x := x) (by omega) T) ?_
  rintro _ _ ⟨rfl, hHq⟩
  obtain rfl := hHq.symm
  refine AtL.assign (.inl rfl) rfl rfl ?_
  refine AtL.done ?_
  exact At.ret Tryz.func91 rfl rfl (⟨rfl, rfl⟩)

set_option maxHeartbeats 400000 in
theorem path_ok {w0 : World} {base : Nat} {H : List Seg} {t : List UInt8} (ht : t.length ≤ 4294967280) (T : Tabs w0 base) :
    SCalls Tryz.prog 35 [str t] w0 base (H) (fun v H' => v = .tuple #[str (Lib.cut t [63]).1, str (Lib.cut t [63]).2.1] ∧ H' = H) := by
  refine SCalls.of_walk (n := 15) Tryz.func35 rfl rfl rfl fun cs => ?_
  refine At.seq ?_
  refine At.region ?_
  refine AtL.assign (.inl rfl) rfl rfl ?_
  refine AtL.assign (.inl rfl) rfl rfl ?_
  refine AtL.done ?_
  refine At.seq ?_
  refine At.region ?_
  refine AtL.move (.inl rfl) rfl rfl ?_
  refine AtL.call tf_body53 (.inl rfl) rfl rfl (cutW_ok (x := t) [63] (by omega) T) ?_
  rintro _ _ ⟨rfl, hHq⟩
  obtain rfl := hHq.symm
  refine AtL.move (.inl rfl) rfl rfl ?_
  refine AtL.extract (.inl rfl) rfl rfl rfl ?_
  refine AtL.extract (.inl rfl) rfl rfl rfl ?_
  refine AtL.extract (.inl rfl) rfl rfl rfl ?_
  refine AtL.assign (.inl rfl) rfl rfl ?_
  refine AtL.assign (.inl rfl) rfl rfl ?_
  refine AtL.assign (.inl rfl) rfl rfl ?_
  refine AtL.done ?_
  refine At.seq ?_
  refine At.region ?_
  refine AtL.move (.inl rfl) rfl rfl ?_
  refine AtL.move (.inl rfl) rfl rfl ?_
  refine AtL.assign (.inl rfl) rfl rfl ?_
  refine AtL.assign (.inl rfl) rfl rfl ?_
  refine AtL.done ?_
  exact At.ret Tryz.func35 rfl rfl (⟨rfl, rfl⟩)

end Go.Proofs.YtlkdmbpbjhjkfaaGreatDoor
