/- The library, taken over. -/
import Derived.Lib.IndexMore
import Derived.Lib.Split
import Derived.Shelf.Strings.SlTrimAscii
import Derived.Test.YtlkdmbpbjhjkfaaGreatDoorT6
import Derived.Test.YtlkdmbpbjhjkfaaGreatDoorSh3
import Derived.Test.YtlkdmbpbjhjkfaaGreatDoorLgQ
namespace Go.Proofs.YtlkdmbpbjhjkfaaGreatDoor
set_option linter.unusedVariables false
set_option linter.unusedSimpArgs false
set_option maxRecDepth 100000

def nums (l : List UInt8) : List Int := l.map fun u => (u.toNat : Int)
theorem nums_bytes (l : List UInt8) : Lib.bytesOf (nums l) = l := by
  unfold Lib.bytesOf nums
  rw [List.map_map]
  conv => rhs; rw [← List.map_id l]
  apply List.map_congr_left
  intro x _
  simp
theorem nums_rng (l : List UInt8) : ∀ x ∈ nums l, 0 ≤ x ∧ x < 256 := by
  intro x hx
  obtain ⟨u, _, rfl⟩ := List.mem_map.1 hx
  have := u.toNat_lt
  omega
theorem nums_get (l : List UInt8) (i : Nat) (h : i < l.length) : (nums l).getD i 0 = ((l.getD i 0).toNat : Int) := by
  simp [nums, List.getD, h]
theorem Rd.byte {w0 : World} {base : Nat} {H : List Seg} {A : Addr} {C : Nat} {l : List UInt8} (h : Rd tyB w0 base H (some A) C l) {w : World} (S : Sep w0 base w H) (i : Nat) (hi : i < l.length) : w.cell? (A.add i) = some (.int .u8 ((nums l).getD i 0)) := by
  obtain ⟨b, off, hA, hc⟩ := h.cells (by rintro rfl; simp at hi)
  cases hA
  rw [addr_add, nums_get l i hi]
  refine hc w S i _ ?_
  rw [tyB_cells]
  simp [hi, byt, List.getD]
theorem index_ok {w0 : World} {base : Nat} {H : List Seg} {A A2 : Option Addr} {C C2 : Nat} {l l2 : List UInt8} (h : Rd tyB w0 base H A C l) (h2 : Rd tyB w0 base H A2 C2 l2) (hl : l.length < 4294967281) (h3 : 2 ≤ l2.length) (T : Tabs w0 base) :
    SCalls Tryz.prog 74 [.slice A l.length C, .slice A2 l2.length C2] w0 base H (fun v H' => v = int (Lib.index l l2) ∧ H' = H) := by
  obtain ⟨m, hm⟩ := T.max
  have hc2 := h2.cap
  have hl2 := h2.le
  cases A with
  | none =>
    have hC := h.nil rfl
    have hle := h.le
    obtain rfl : l = [] := List.eq_nil_of_length_eq_zero (by omega)
    subst hC
    refine SCalls.of_same fun w S => ?_
    have := Tryz.bytes_Index_nil A2 l2.length C2 w (by omega) (by omega)
    rw [if_neg (by omega)] at this
    have e : Lib.index [] l2 = -1 := by
      cases l2 with
      | nil => simp at h3
      | cons c l2 => rfl
    rw [e]
    exact this
  | some a =>
    cases A2 with
    | none => have := h2.nil rfl; omega
    | some a2 =>
      refine SCalls.of_draws fun w S => ?_
      have := Tryz.bytes_Index_at a a2 l.length C l2.length C2 (nums l) (nums l2) m w (by simp [nums]) (by simp [nums]) (nums_rng _) (nums_rng _) (fun i hi => h.byte S i hi) (fun i hi => h2.byte S i hi) h.le hl (by omega) (S.cellBelow T.lt0 hm)
      rw [nums_bytes, nums_bytes] at this
      exact this
/-- strings.Cut at one byte. -/
theorem cut_c (c : UInt8) (x : List UInt8) : cutC c x = if (Lib.cut x [c]).2.2 = true then some ((Lib.cut x [c]).1, (Lib.cut x [c]).2.1) else none := by
  induction x with
  | nil => rfl
  | cons a x ih =>
    have hg := Lib.index_ge x [c]
    unfold cutC
    by_cases h : a = c
    · subst h
      rw [if_pos rfl]
      have e : Lib.index (a :: x) [a] = 0 := by unfold Lib.index; simp [List.isPrefixOf]
      simp [Lib.cut, e]
    · rw [if_neg h, ih]
      have hp : List.isPrefixOf [c] (a :: x) = false := by
        simp only [List.isPrefixOf, Bool.and_true]
        simpa using fun h1 : c = a => h h1.symm
      have e : Lib.index (a :: x) [c] = if Lib.index x [c] = -1 then -1 else Lib.index x [c] + 1 := by
        rw [Lib.index, hp]
        by_cases h3 : Lib.index x [c] = -1 <;> simp [h3]
      unfold Lib.cut
      rw [e]
      by_cases h3 : Lib.index x [c] = -1
      · simp [h3]
      · have h4 : 0 ≤ Lib.index x [c] := by omega
        have h5 : 0 ≤ Lib.index x [c] + 1 := by omega
        have h6 : (Lib.index x [c] + 1).toNat = (Lib.index x [c]).toNat + 1 := by omega
        simp [h3, h4, h5, h6, Nat.add_right_comm]
theorem cut_no {c : UInt8} {x : List UInt8} (h : (Lib.cut x [c]).2.2 = false) : Lib.cut x [c] = (x, [], false) := by
  unfold Lib.cut at h ⊢
  split
  · rename_i h1; rw [if_pos h1] at h; cases h
  · rfl
theorem cut_le (c : UInt8) (x : List UInt8) : (Lib.cut x [c]).1.length ≤ x.length ∧ (Lib.cut x [c]).2.1.length ≤ x.length := by
  unfold Lib.cut
  split <;> simp; omega
theorem cut_ok {w0 : World} {base : Nat} {H : List Seg} {x : List UInt8} (c : UInt8) (hx : x.length < 4294967281) (T : Tabs w0 base) :
    SCalls Tryz.prog 53 [str x, str [c]] w0 base H (fun v H' => v = .tuple #[str (Lib.cut x [c]).1, str (Lib.cut x [c]).2.1, .bool (Lib.cut x [c]).2.2] ∧ H' = H) := by
  obtain ⟨m, hm⟩ := T.max
  refine SCalls.of_draws fun w S => ?_
  exact Tryz.strings_Cut ⟨⟨x⟩⟩ ⟨⟨[c]⟩⟩ m w (by rw [str_size]; omega) (S.cellBelow T.lt0 hm)
theorem spF_len (c : UInt8) (l : List UInt8) : (spF c l).length = l.count c + 1 := by
  induction l with
  | nil => rfl
  | cons a l ih =>
    unfold spF
    by_cases h : a = c
    · subst h; simp [ih]
    · have : (spF c l) ≠ [] := spF_ne c l
      cases hs : spF c l with
      | nil => exact absurd hs this
      | cons y ys =>
        rw [hs] at ih
        simp at ih
        rw [List.count_cons]
        simp [h, ih]
theorem split_ok {w0 : World} {base : Nat} {H : List Seg} {x : List UInt8} (c : UInt8) (hx : x.length < 4294967281) (T : Tabs w0 base) :
    SCalls Tryz.prog 92 [str x, str [c]] w0 base H (fun v H' => ∃ y : Sl tyS 9, y.l = spF c x ∧ v = .slice y.A y.l.length y.C ∧ H' = y.s :: H) := by
  obtain ⟨m, hm⟩ := T.max
  have hk : Lib.countB ⟨⟨x⟩⟩ ⟨⟨[c]⟩⟩ = x.count c := by
    exact count_c c _ x (Nat.lt_succ_self _)
  have hb : (Lib.splitB ⟨⟨[c]⟩⟩ 0 (Lib.countB ⟨⟨x⟩⟩ ⟨⟨[c]⟩⟩) ⟨⟨x⟩⟩).map (fun b => b.data.toList) = spF c x := by
    rw [Lib.splitB_data, hk]
    exact splitK_sp c x
  have hcells : ((Lib.splitB ⟨⟨[c]⟩⟩ 0 (Lib.countB ⟨⟨x⟩⟩ ⟨⟨[c]⟩⟩) ⟨⟨x⟩⟩).map Value.string).toArray = (tyS.cells (spF c x)).toArray := by
    rw [← hb]
    congr 1
    rw [show tyS.cells = fun l => l.map str from funext fun l => by simp [Ty.cells, tyS, str, Value.cells, List.flatMap_singleton', List.map_eq_flatMap]]
    simp only [List.map_map]
    rfl
  have hc := SCalls.of_alloc (P := Tryz.prog) (f := 92) (args := [str x, str [c]]) (w0 := w0) (base := base) (H := H) (v := fun b => .slice (some ⟨b, 0, none⟩) (x.count c + 1) (x.count c + 1)) (o := .cells (tyS.cells (spF c x)).toArray 9) fun w S => by
    have := Tryz.strings_Split ⟨⟨x⟩⟩ ⟨⟨[c]⟩⟩ m w (by rw [str_size]; omega) (S.cellBelow T.lt0 hm) (Nat.le_refl 1)
    rw [hcells, hk] at this
    exact this.mono fun e w' ⟨h1, h2⟩ => ⟨h1, 0, h2⟩
  refine hc.mono ?_
  rintro v H' ⟨b, rfl, rfl⟩
  have hle : (spF c x).length ≤ x.length + 1 := by rw [spF_len]; have := List.count_le_length (a := c) (l := x); omega
  obtain ⟨s, hs, ho⟩ := own_new tyS 9 b (spF c x) (spF c x).length _ rfl rfl (by omega)
  subst hs
  exact ⟨⟨_, _, _, _, ho⟩, rfl, by simp only [spF_len], rfl⟩
theorem trim_ok {w0 : World} {base : Nat} {H : List Seg} {x cs : List UInt8} (hx : x.length ≤ 9223372036854775807) (hcs : cs.length < 4294967281) (ha : cs.all (fun b => decide (b.toNat < 128)) = true) :
    SCalls Tryz.prog 102 [str x, str cs] w0 base H (fun v H' => v = str (Lib.trimS x cs) ∧ H' = H) := by
  refine SCalls.of_below fun w S => ?_
  exact Any.strings_Trim_laid Tryz.lays160 (by kernel_rfl) ⟨⟨x⟩⟩ ⟨⟨cs⟩⟩ w (by rw [str_size]; omega) (by rw [str_size]; omega) (fun j b hb => of_decide_eq_true (List.all_eq_true.1 ha b (List.mem_iff_getElem?.2 ⟨j, hb⟩)))

end Go.Proofs.YtlkdmbpbjhjkfaaGreatDoor
