/- FrameScript, walked. -/
import Derived.Test.YtllfgcekebafhaaDoorF6
namespace Go.Proofs.YtllfgcekebafhaaDoor
set_option linter.unusedVariables false
set_option linter.unusedSimpArgs false
set_option maxRecDepth 100000

theorem seg_at {l : List Bs} {ys : List (Sl tyB 5)} {k : Nat} (h : l = ys.map Sl.v) (hk : k < l.length) : ∃ yk, ys.drop k = yk :: ys.drop (k + 1) ∧ l.getD k ⟨none, 0, []⟩ = yk.v := by
  subst h
  have h2 : k < ys.length := by simpa using hk
  exact ⟨ys[k], List.drop_eq_getElem_cons h2, by simp [List.getD, h2]⟩
theorem flat_head {ys t : List (Sl tyB 5)} {k : Nat} {y : Sl tyB 5} (h : ys.drop k = y :: t) (H : List Seg) : (segsOf (ys.drop k) :: H).flatten.Perm (y.s :: segsOf t :: H).flatten := by
  rw [h, segs_cons]; simp
theorem flat_take_succ (ps : List (List UInt8)) (i : Nat) (h : i < ps.length) : (ps.take (i + 1)).flatten.length = (ps.take i).flatten.length + (ps.getD i []).length := by
  rw [List.take_succ_eq_append_getElem h, List.flatten_append, List.length_append]
  simp [List.getD, h]
theorem map_getD (l : List Bs) (i : Nat) : (l.map (·.l)).getD i [] = (l.getD i ⟨none, 0, []⟩).l := by
  simp only [List.getD, List.getElem?_map]
  cases l[i]? <;> rfl

set_option maxHeartbeats 400000 in
theorem script_bad {w0 : World} {base : Nat} {H : List Seg} (m : Int) (hm : m < 12 ∨ 65535 < m) {A : Option Addr} {C : Nat} {l : List Bs} (h : Rd tyL w0 base H A C l) (he0 : ∀ x ∈ l, Rd tyB w0 base H x.A x.C x.l) (hb : ∀ x ∈ l, x.l.length ≤ 140737488351232) (hl : l.length ≤ 140737488351232) :
    SCalls Tryd.prog 5 [.int .i64 m, .slice A l.length C] w0 base (H) (fun v H' => v = .bool true ∧ H' = H) := by
  refine SCalls.of_walk (n := 123) Tryd.func5 rfl rfl rfl fun cs => ?_
  refine At.seq ?_
  refine At.region ?_
  refine AtL.assign (.inl rfl) rfl rfl ?_
  refine AtL.done ?_
  refine At.seq ?_
  refine At.seq ?_
  refine At.region ?_
  refine AtL.move (.inl rfl) rfl rfl ?_
  refine AtL.call tf_body19 (.inl rfl) rfl rfl (long_ok (l := l) h hb hl) ?_
  rintro _ _ ⟨z1, hz2, rfl, hHq⟩
  obtain rfl := hHq.symm
  have hlong := hz2
  refine AtL.done ?_
  refine At.cond rfl ?_ ?_
  · intro hc1
    have hc1 : z1 = true := hc1
    refine At.seq ?_
    refine At.region ?_
    refine AtL.call tf_body9 (.inl rfl) rfl rfl awake_ok ?_
    rintro _ _ ⟨rfl, hHq⟩
    obtain rfl := hHq.symm
    refine AtL.assign (.inl rfl) rfl rfl ?_
    refine AtL.done ?_
    exact At.ret Tryd.func5 rfl rfl (⟨rfl, rfl⟩)
  · intro hc1
    have hc1 : z1 = false := hc1
    refine At.skip ?_
    refine At.seq ?_
    refine At.region ?_
    refine AtL.move (.inl rfl) rfl rfl ?_
    refine AtL.call tf_body20 (.inl rfl) rfl rfl (new_bad m hm) ?_
    rintro _ _ ⟨rfl, hHq⟩
    obtain rfl := hHq.symm
    refine AtL.move (.inl rfl) rfl rfl ?_
    refine AtL.extract (.inl rfl) rfl rfl rfl ?_
    refine AtL.extract (.inl rfl) rfl rfl rfl ?_
    refine AtL.assign (.inl rfl) rfl rfl ?_
    refine AtL.assign (.inl rfl) rfl rfl ?_
    refine AtL.done ?_
    refine At.seq ?_
    refine At.region ?_
    refine AtL.move (.inl rfl) rfl rfl ?_
    refine AtL.call tf_body21 (.inl rfl) rfl rfl (rnew_bad m hm) ?_
    rintro _ _ ⟨rfl, hHq⟩
    obtain rfl := hHq.symm
    refine AtL.move (.inl rfl) rfl rfl ?_
    refine AtL.extract (.inl rfl) rfl rfl rfl ?_
    refine AtL.extract (.inl rfl) rfl rfl rfl ?_
    refine AtL.assign (.inl rfl) rfl rfl ?_
    refine AtL.assign (.inl rfl) rfl rfl ?_
    refine AtL.done ?_
    refine At.seq ?_
    refine At.seq ?_
    refine At.region ?_
    refine AtL.move (.inl rfl) rfl rfl ?_
    refine AtL.move (.inl rfl) rfl rfl ?_
    refine AtL.nei (.inl rfl) rfl rfl rfl ?_
    refine AtL.done ?_
    refine At.condF rfl ?_
    refine At.skip ?_
    refine At.seq ?_
    refine At.seq ?_
    refine At.region ?_
    refine AtL.move (.inl rfl) rfl rfl ?_
    refine AtL.nei (.inl rfl) rfl rfl rfl ?_
    refine AtL.done ?_
    refine At.condT rfl ?_
    refine At.seq ?_
    refine At.region ?_
    refine AtL.move (.inl rfl) rfl rfl ?_
    refine AtL.eqPtrNil Tryd.underlying39 (.inl rfl) rfl rfl rfl ?_
    refine AtL.move (.inl rfl) rfl rfl ?_
    refine AtL.call tf_body9 (.inr ⟨_, _, _, rfl, rfl, rfl, rfl⟩) rfl rfl awake_ok ?_
    rintro _ _ ⟨rfl, hHq⟩
    obtain rfl := hHq.symm
    refine AtL.pickT (.inl rfl) rfl rfl rfl ?_
    refine AtL.assign (.inl rfl) rfl rfl ?_
    refine AtL.done ?_
    exact At.ret Tryd.func5 rfl rfl (⟨rfl, rfl⟩)

set_option maxHeartbeats 2000000 in
theorem script_ok {w0 : World} {base : Nat} {H : List Seg} (m : Int) (hm : ¬ (m < 12 ∨ 65535 < m)) {A : Option Addr} {C : Nat} {l : List Bs} (h : Rd tyL w0 base H A C l) (he0 : ∀ x ∈ l, Rd tyB w0 base H x.A x.C x.l) (hb : ∀ x ∈ l, x.l.length ≤ 140737488351232) (hl : l.length ≤ 140737488351232) :
    SCalls Tryd.prog 5 [.int .i64 m, .slice A l.length C] w0 base (H) (fun v H' => v = .bool true ∧ H' = H) := by
  refine SCalls.of_walk (n := 123) Tryd.func5 rfl rfl rfl fun cs => ?_
  refine At.seq ?_
  refine At.region ?_
  refine AtL.assign (.inl rfl) rfl rfl ?_
  refine AtL.done ?_
  refine At.seq ?_
  refine At.seq ?_
  refine At.region ?_
  refine AtL.move (.inl rfl) rfl rfl ?_
  refine AtL.call tf_body19 (.inl rfl) rfl rfl (long_ok (l := l) h hb hl) ?_
  rintro _ _ ⟨z1, hz2, rfl, hHq⟩
  obtain rfl := hHq.symm
  have hlong := hz2
  refine AtL.done ?_
  refine At.cond rfl ?_ ?_
  · intro hc1
    have hc1 : z1 = true := hc1
    refine At.seq ?_
    refine At.region ?_
    refine AtL.call tf_body9 (.inl rfl) rfl rfl awake_ok ?_
    rintro _ _ ⟨rfl, hHq⟩
    obtain rfl := hHq.symm
    refine AtL.assign (.inl rfl) rfl rfl ?_
    refine AtL.done ?_
    exact At.ret Tryd.func5 rfl rfl (⟨rfl, rfl⟩)
  · intro hc1
    have hc1 : z1 = false := hc1
    refine At.skip ?_
    refine At.seq ?_
    refine At.region ?_
    refine AtL.move (.inl rfl) rfl rfl ?_
    refine AtL.call tf_body20 (.inl rfl) rfl rfl (new_ok m hm) ?_
    rintro _ _ ⟨b3, rfl, rfl⟩
    refine AtL.move (.inl rfl) rfl rfl ?_
    refine AtL.extract (.inl rfl) rfl rfl rfl ?_
    refine AtL.extract (.inl rfl) rfl rfl rfl ?_
    refine AtL.assign (.inl rfl) rfl rfl ?_
    refine AtL.assign (.inl rfl) rfl rfl ?_
    refine AtL.done ?_
    refine At.seq ?_
    refine At.region ?_
    refine AtL.move (.inl rfl) rfl rfl ?_
    refine AtL.call tf_body21 (.inl rfl) rfl rfl (rnew_ok m hm) ?_
    rintro _ _ ⟨b4, rfl, rfl⟩
    refine AtL.move (.inl rfl) rfl rfl ?_
    refine AtL.extract (.inl rfl) rfl rfl rfl ?_
    refine AtL.extract (.inl rfl) rfl rfl rfl ?_
    refine AtL.assign (.inl rfl) rfl rfl ?_
    refine AtL.assign (.inl rfl) rfl rfl ?_
    refine AtL.done ?_
    refine At.seq ?_
    refine At.seq ?_
    refine At.region ?_
    refine AtL.move (.inl rfl) rfl rfl ?_
    refine AtL.move (.inl rfl) rfl rfl ?_
    refine AtL.nei (.inl rfl) rfl rfl rfl ?_
    refine AtL.done ?_
    refine At.condF rfl ?_
    refine At.skip ?_
    refine At.seq ?_
    refine At.seq ?_
    refine At.region ?_
    refine AtL.move (.inl rfl) rfl rfl ?_
    refine AtL.nei (.inl rfl) rfl rfl rfl ?_
    refine AtL.done ?_
    refine At.condF rfl ?_
    refine At.skip ?_
    refine At.seq ?_
    refine At.seq ?_
    refine At.region ?_
    refine AtL.move (.inl rfl) rfl rfl ?_
    refine AtL.eqPtrNil Tryd.underlying39 (.inl rfl) rfl rfl rfl ?_
    refine AtL.done ?_
    refine At.condF rfl ?_
    refine At.skip ?_
    refine At.seq ?_
    refine At.seq ?_
    refine At.region ?_
    refine AtL.assign (.inl rfl) rfl rfl ?_
    refine AtL.done ?_
    refine At.block ?_
    obtain ⟨hl60, hl7⟩ := hlong hc1
    refine At.nil ?_
    refine At.nil ?_
    refine At.pick (H' := [] :: [] :: [(b3, .cells #[.int .i64 m, .bool false, .slice none 0 0, .int .i64 0, .int .i8 0, .int .i64 0] 56 (0, 0))] :: [(b4, .cells #[.int .i64 m, .slice none 0 0, .bool false] 49 (0, 0))] :: H) [0, 1, 3, 2] 4 rfl rfl ?_
    refine At.loop7 (fun (i : Nat) (y : Sl tyB 5) (off : Nat) (lr : Int) (e : Int) (br : Bool) (z : Sl tyB 5) => [(1, .slice A l.length C), (5, .pointer (some ⟨b3, 0, none⟩)), (7, .pointer (some ⟨b4, 0, none⟩)), (9, .int .i64 (i : Int))]) (fun (i : Nat) (y : Sl tyB 5) (off : Nat) (lr : Int) (e : Int) (br : Bool) (z : Sl tyB 5) => y.s :: z.s :: [(b3, .cells #[.int .i64 m, .bool br, .slice y.A y.l.length y.C, .int .i64 (off : Int), .int .i8 lr, .int .i64 e] 56 (0, 0))] :: [(b4, .cells #[.int .i64 m, .slice z.A z.l.length z.C, .bool br] 49 (0, 0))] :: H) (fun (i : Nat) (y : Sl tyB 5) (off : Nat) (lr : Int) (e : Int) (br : Bool) (z : Sl tyB 5) => i ≤ l.length ∧ off ≤ y.l.length ∧ y.l.drop off = z.l ∧ y.l.length ≤ ((l.map (·.l)).take i).flatten.length ∧ (br = false → e = 0)) (fun (i : Nat) (y : Sl tyB 5) (off : Nat) (lr : Int) (e : Int) (br : Bool) (z : Sl tyB 5) => l.length - i) 0 Sl.nil 0 0 0 false Sl.nil (⟨Nat.zero_le _, Nat.zero_le _, rfl, Nat.zero_le _, fun _ => rfl⟩) ⟨rfl, rfl, rfl, rfl, trivial⟩ rfl ?_
    rintro i y off lr e br z ⟨hi, hoff, hc, hyl, he⟩ ihL1
    have hT1 := flat_take_le (l.map (·.l)) i
    have hT2 := flat_getD_le (l.map (·.l)) i
    rw [map_getD] at hT2
    have hzl : z.l.length ≤ y.l.length := by rw [← hc, List.length_drop]; omega
    refine At.seq ?_
    refine At.seq ?_
    refine At.region ?_
    refine AtL.move (.inl rfl) rfl rfl ?_
    refine AtL.move (.inl rfl) rfl rfl ?_
    refine AtL.lenL Tryd.underlying31 (.inl rfl) rfl rfl ?_
    refine AtL.lss (.inl rfl) rfl rfl rfl ?_
    refine AtL.done ?_
    refine At.cond rfl ?_ ?_
    · intro hc5
      have hc5 : (i : Int) < (l.length : Int) := of_decide_eq_true hc5
      have hT3 := flat_take_succ (l.map (·.l)) i (by simp; omega)
      rw [map_getD] at hT3
      refine At.skip ?_
      refine At.seq ?_
      refine At.block ?_
      refine At.seq ?_
      refine At.region ?_
      refine AtL.move (.inl rfl) rfl rfl ?_
      refine AtL.move (.inl rfl) rfl rfl ?_
      refine AtL.indexL i (Rd.skip 4 h) Tryd.underlying31 tf_sz22 (.inl rfl) rfl rfl rfl rfl (by omega) ?_
      refine AtL.load (v := .slice ((l.getD i (⟨none, 0, []⟩ : Bs)).A) ((l.getD i (⟨none, 0, []⟩ : Bs)).l).length ((l.getD i (⟨none, 0, []⟩ : Bs)).C)) tf_flat22 (.inl rfl) rfl rfl (Rd.cell0 (Rd.skip 4 h) (getD_some (⟨none, 0, []⟩ : Bs) (by omega)) rfl) ?_
      refine AtL.call tf_body22 (.inl rfl) rfl rfl (copy_ok (l := (l.getD i (⟨none, 0, []⟩ : Bs)).l) (Rd.skip 4 (he0 _ (getD_mem (l := l) (i := i) (d := (⟨none, 0, []⟩ : Bs)) (by omega)))) (by omega)) ?_
      rintro _ _ ⟨A5, C6, s7, o8, rfl, rfl⟩
      refine AtL.assign (.inl rfl) rfl rfl ?_
      refine AtL.done ?_
      refine At.seq ?_
      refine At.region ?_
      refine AtL.move (.inl rfl) rfl rfl ?_
      refine AtL.move (.inl rfl) rfl rfl ?_
      refine AtL.pick (H' := y.s :: [(b3, .cells #[.int .i64 m, .bool br, .slice y.A y.l.length y.C, .int .i64 (off : Int), .int .i8 lr, .int .i64 e] 56 (0, 0))] :: s7 :: z.s :: [(b4, .cells #[.int .i64 m, .slice z.A z.l.length z.C, .bool br] 49 (0, 0))] :: H) [1, 3, 0, 2, 4] 5 rfl rfl ?_
      refine AtL.call tf_body23 (.inl rfl) rfl rfl (push_ok (y := y) (off := off) (l := (l.getD i (⟨none, 0, []⟩ : Bs)).l) (o8.rd (i := 0) rfl) (by first | omega | (dsimp only; omega) | (simp [Sl.nil]; omega) | simp [Sl.nil]) (by first | omega | (dsimp only; omega) | (simp [Sl.nil]; omega) | simp [Sl.nil]) (by omega) (by first | exact fun _ => rfl | assumption | exact frB_e (fun _ => rfl) | exact frB_e (frB_e (fun _ => rfl)) | exact frB_e (frB_e (frB_e (fun _ => rfl))) | exact frB_e (by assumption))) ?_
      rintro _ _ ⟨⟨A9, C10, l11, s12, o13⟩, ys14, ⟨A15, C16, l17, s18, o19⟩, p20, lr21, h22, h23, h24, h25, h26, rfl, rfl⟩
      dsimp only at h22 h24 h25 h26
      try simp only [Sl.nil, List.length_nil, Nat.zero_add] at h25
      have hm27 : l11.map (·.l) = (frP br m (y.l.drop off) ((l.getD i (⟨none, 0, []⟩ : Bs)).l)).out := by rw [h22, List.map_map]; exact h23
      have hm27e : l11 = [] ↔ (frP br m (y.l.drop off) ((l.getD i (⟨none, 0, []⟩ : Bs)).l)).out = [] := by rw [← hm27]; simp
      refine AtL.move (.inl rfl) rfl rfl ?_
      refine AtL.extract (.inl rfl) rfl rfl rfl ?_
      refine AtL.extract (.inl rfl) rfl rfl rfl ?_
      refine AtL.assign (.inl rfl) rfl rfl ?_
      refine AtL.assign (.inl rfl) rfl rfl ?_
      refine AtL.done ?_
      refine At.seq ?_
      refine At.region ?_
      refine AtL.move (.inl rfl) rfl rfl ?_
      refine AtL.move (.inl rfl) rfl rfl ?_
      refine AtL.move (.inl rfl) rfl rfl ?_
      refine AtL.indexL i (Rd.skip 7 h) Tryd.underlying31 tf_sz22 (.inl rfl) rfl rfl rfl rfl (by omega) ?_
      refine AtL.load (v := .slice ((l.getD i (⟨none, 0, []⟩ : Bs)).A) ((l.getD i (⟨none, 0, []⟩ : Bs)).l).length ((l.getD i (⟨none, 0, []⟩ : Bs)).C)) tf_flat22 (.inl rfl) rfl rfl (Rd.cell0 (Rd.skip 7 h) (getD_some (⟨none, 0, []⟩ : Bs) (by omega)) rfl) ?_
      refine AtL.pick (H' := z.s :: [(b4, .cells #[.int .i64 m, .slice z.A z.l.length z.C, .bool br] 49 (0, 0))] :: s12 :: segsOf ys14 :: s18 :: [(b3, .cells #[.int .i64 m, .bool (frB br m (y.l.drop off) ((l.getD i (⟨none, 0, []⟩ : Bs)).l)), .slice A15 l17.length C16, .int .i64 (p20 : Int), .int .i8 lr21, .int .i64 (if br = true then e else (frF m ((y.l.drop off) ++ ((l.getD i (⟨none, 0, []⟩ : Bs)).l))).e)] 56 (0, 0))] :: s7 :: H) [5, 6, 0, 1, 2, 3, 4] 7 rfl rfl ?_
      refine AtL.call tf_body24 (.inl rfl) rfl rfl (rpush_ok (y := z) (l := (l.getD i (⟨none, 0, []⟩ : Bs)).l) (Rd.skip 5 (he0 _ (getD_mem (l := l) (i := i) (d := (⟨none, 0, []⟩ : Bs)) (by omega)))) (by first | omega | (dsimp only; omega) | (simp [Sl.nil]; omega) | simp [Sl.nil]) (by omega)) ?_
      rintro _ _ ⟨⟨A28, C29, l30, s31, o32⟩, ys33, ⟨A34, C35, l36, s37, o38⟩, h39, h40, h41, rfl, rfl⟩
      dsimp only at h39 h41
      have hm42 : l30.map (·.l) = (frP br m z.l ((l.getD i (⟨none, 0, []⟩ : Bs)).l)).out := by rw [h39, List.map_map]; exact h40
      have hm42e : l30 = [] ↔ (frP br m z.l ((l.getD i (⟨none, 0, []⟩ : Bs)).l)).out = [] := by rw [← hm42]; simp
      refine AtL.move (.inl rfl) rfl rfl ?_
      refine AtL.extract (.inl rfl) rfl rfl rfl ?_
      refine AtL.extract (.inl rfl) rfl rfl rfl ?_
      refine AtL.assign (.inl rfl) rfl rfl ?_
      refine AtL.assign (.inl rfl) rfl rfl ?_
      refine AtL.done ?_
      have hl3 : l36 = l17.drop p20 := by rw [h41, h26, hc]
      have hl2 : l36.length ≤ l17.length := by rw [hl3, List.length_drop]; omega
      refine At.seq ?_
      refine At.seq ?_
      refine At.region ?_
      refine AtL.move (.inl rfl) rfl rfl ?_
      refine AtL.move (.inl rfl) rfl rfl ?_
      refine AtL.nei (.inl rfl) rfl rfl rfl ?_
      refine AtL.move (.inl rfl) rfl rfl ?_
      refine AtL.split (t := 70) rfl ?_ ?_
      · intro hs70
        have hs70 : ¬ (((frP br m (y.l.drop off) ((l.getD i (⟨none, 0, []⟩ : Bs)).l)).e) = ((frP br m z.l ((l.getD i (⟨none, 0, []⟩ : Bs)).l)).e)) := of_decide_eq_false (bnot_true hs70)
        exfalso; revert hs70; simp [hc]
      · intro hs70
        have hs70 : ((frP br m (y.l.drop off) ((l.getD i (⟨none, 0, []⟩ : Bs)).l)).e) = ((frP br m z.l ((l.getD i (⟨none, 0, []⟩ : Bs)).l)).e) := of_decide_eq_true (bnot_false hs70)
        refine AtL.move (.inr ⟨_, _, _, rfl, rfl, rfl, rfl⟩) rfl rfl ?_
        refine AtL.move (.inr ⟨_, _, _, rfl, rfl, rfl, rfl⟩) rfl rfl ?_
        refine AtL.call tf_body18 (.inr ⟨_, _, _, rfl, rfl, rfl, rfl⟩) rfl rfl (slists_ok (a := l11) (b := l30) (o13.rd (i := 4) rfl) (fun x hx => Rd.pick [5] 9 rfl rfl ((Sl.rdV (H := segsOf ys14 :: H) h22 (i := 0) rfl) x hx)) (o32.rd (i := 0) rfl) (fun x hx => Rd.pick [1] 9 rfl rfl ((Sl.rdV (H := segsOf ys33 :: H) h39 (i := 0) rfl) x hx))) ?_
        rintro _ _ ⟨rfl, rfl⟩
        refine AtL.not (.inr ⟨_, _, _, rfl, rfl, rfl, rfl⟩) rfl rfl ?_
        refine AtL.pickF (.inl rfl) rfl rfl rfl ?_
        refine AtL.move (.inl rfl) rfl rfl ?_
        refine AtL.split (t := 76) rfl ?_ ?_
        · intro hs76
          have hs76 : ¬ (l11.map (·.l) = l30.map (·.l)) := of_decide_eq_false (bnot_true hs76)
          exfalso; revert hs76; simp [hc, h26, hm27, hm27e, h41, hm42, hm42e]
        · intro hs76
          have hs76 : l11.map (·.l) = l30.map (·.l) := of_decide_eq_true (bnot_false hs76)
          refine AtL.move (.inr ⟨_, _, _, rfl, rfl, rfl, rfl⟩) rfl rfl ?_
          refine AtL.move (.inr ⟨_, _, _, rfl, rfl, rfl, rfl⟩) rfl rfl ?_
          refine AtL.move (.inr ⟨_, _, _, rfl, rfl, rfl, rfl⟩) rfl rfl ?_
          refine AtL.indexL i (Rd.skip 9 h) Tryd.underlying31 tf_sz22 (.inr ⟨_, _, _, rfl, rfl, rfl, rfl⟩) rfl rfl rfl rfl (by omega) ?_
          refine AtL.load (v := .slice ((l.getD i (⟨none, 0, []⟩ : Bs)).A) ((l.getD i (⟨none, 0, []⟩ : Bs)).l).length ((l.getD i (⟨none, 0, []⟩ : Bs)).C)) tf_flat22 (.inr ⟨_, _, _, rfl, rfl, rfl, rfl⟩) rfl rfl (Rd.cell0 (Rd.skip 9 h) (getD_some (⟨none, 0, []⟩ : Bs) (by omega)) rfl) ?_
          refine AtL.call tf_body14 (.inr ⟨_, _, _, rfl, rfl, rfl, rfl⟩) rfl rfl (same_ok (l := (l.getD i (⟨none, 0, []⟩ : Bs)).l) (l2 := (l.getD i (⟨none, 0, []⟩ : Bs)).l) (o8.rd (i := 8) rfl) (Rd.skip 9 (he0 _ (getD_mem (l := l) (i := i) (d := (⟨none, 0, []⟩ : Bs)) (by omega))))) ?_
          rintro _ _ ⟨rfl, rfl⟩
          refine AtL.not (.inr ⟨_, _, _, rfl, rfl, rfl, rfl⟩) rfl rfl ?_
          refine AtL.pickF (.inl rfl) rfl rfl rfl ?_
          refine AtL.done ?_
          refine At.condIs false rfl (congrArg not (decide_eq_true rfl)) ?_
          refine At.skip ?_
          refine At.seq ?_
          refine At.region ?_
          refine AtL.move (.inl rfl) rfl rfl ?_
          refine AtL.pick (H' := s7 :: s31 :: segsOf ys33 :: s37 :: [(b4, .cells #[.int .i64 m, .slice A34 l36.length C35, .bool (frB br m z.l ((l.getD i (⟨none, 0, []⟩ : Bs)).l))] 49 (0, 0))] :: s12 :: segsOf ys14 :: s18 :: [(b3, .cells #[.int .i64 m, .bool (frB br m (y.l.drop off) ((l.getD i (⟨none, 0, []⟩ : Bs)).l)), .slice A15 l17.length C16, .int .i64 (p20 : Int), .int .i8 lr21, .int .i64 (if br = true then e else (frF m ((y.l.drop off) ++ ((l.getD i (⟨none, 0, []⟩ : Bs)).l))).e)] 56 (0, 0))] :: H) [8, 0, 1, 2, 3, 4, 5, 6, 7] 9 rfl rfl ?_
          refine AtL.call tf_body13 (.inl rfl) rfl rfl (over_own o8) ?_
          rintro _ _ ⟨s43, rfl, rfl⟩
          refine AtL.done ?_
          refine At.seq ?_
          refine At.seq ?_
          refine At.region ?_
          refine AtL.assign (.inl rfl) rfl rfl ?_
          refine AtL.done ?_
          refine At.block ?_
          refine At.loop (fun (k : Nat) => [(1, .slice A l.length C), (5, .pointer (some ⟨b3, 0, none⟩)), (7, .pointer (some ⟨b4, 0, none⟩)), (9, .int .i64 (i : Int)), (11, .slice A9 l11.length C10), (15, .int .i64 (k : Int))]) (fun (k : Nat) => s43 :: s31 :: segsOf ys33 :: s37 :: [(b4, .cells #[.int .i64 m, .slice A34 l36.length C35, .bool (frB br m z.l ((l.getD i (⟨none, 0, []⟩ : Bs)).l))] 49 (0, 0))] :: s12 :: segsOf (ys14.drop k) :: s18 :: [(b3, .cells #[.int .i64 m, .bool (frB br m (y.l.drop off) ((l.getD i (⟨none, 0, []⟩ : Bs)).l)), .slice A15 l17.length C16, .int .i64 (p20 : Int), .int .i8 lr21, .int .i64 (if br = true then e else (frF m ((y.l.drop off) ++ ((l.getD i (⟨none, 0, []⟩ : Bs)).l))).e)] 56 (0, 0))] :: H) (fun (k : Nat) => k ≤ l11.length) (fun (k : Nat) => l11.length - k) 0 (Nat.zero_le _) ⟨rfl, rfl, rfl, rfl, rfl, rfl, trivial⟩ rfl ?_
          rintro k hk ihL2
          have hxc := Own.cap_le o13
          have hxd := Own.le_cap o13
          refine At.seq ?_
          refine At.seq ?_
          refine At.region ?_
          refine AtL.move (.inl rfl) rfl rfl ?_
          refine AtL.move (.inl rfl) rfl rfl ?_
          refine AtL.lenL Tryd.underlying31 (.inl rfl) rfl rfl ?_
          refine AtL.lss (.inl rfl) rfl rfl rfl ?_
          refine AtL.done ?_
          refine At.cond rfl ?_ ?_
          · intro hc7
            have hc7 : (k : Int) < (l11.length : Int) := of_decide_eq_true hc7
            refine At.skip ?_
            refine At.seq ?_
            refine At.block ?_
            refine At.region ?_
            refine AtL.move (.inl rfl) rfl rfl ?_
            refine AtL.move (.inl rfl) rfl rfl ?_
            refine AtL.indexL k (o13.rd (i := 5) rfl) Tryd.underlying31 tf_sz22 (.inl rfl) rfl rfl rfl rfl (by omega) ?_
            refine AtL.load (v := .slice ((l11.getD k (⟨none, 0, []⟩ : Bs)).A) ((l11.getD k (⟨none, 0, []⟩ : Bs)).l).length ((l11.getD k (⟨none, 0, []⟩ : Bs)).C)) tf_flat22 (.inl rfl) rfl rfl (Rd.cell0 (o13.rd (i := 5) rfl) (getD_some (⟨none, 0, []⟩ : Bs) (by omega)) rfl) ?_
            obtain ⟨yk, hyk, hxk⟩ := seg_at (k := k) h22 (by omega)
            refine AtL.pick (H' := segsOf (ys14.drop k) :: s43 :: s31 :: segsOf ys33 :: s37 :: [(b4, .cells #[.int .i64 m, .slice A34 l36.length C35, .bool (frB br m z.l ((l.getD i (⟨none, 0, []⟩ : Bs)).l))] 49 (0, 0))] :: s12 :: s18 :: [(b3, .cells #[.int .i64 m, .bool (frB br m (y.l.drop off) ((l.getD i (⟨none, 0, []⟩ : Bs)).l)), .slice A15 l17.length C16, .int .i64 (p20 : Int), .int .i8 lr21, .int .i64 (if br = true then e else (frF m ((y.l.drop off) ++ ((l.getD i (⟨none, 0, []⟩ : Bs)).l))).e)] 56 (0, 0))] :: H) [6, 0, 1, 2, 3, 4, 5, 7, 8] 9 rfl rfl ?_
            refine AtL.flat (flat_head hyk _) ?_
            refine AtL.call tf_body13 (.inl rfl) rfl rfl (show SCalls Tryd.prog 13 [.slice ((l11.getD k (⟨none, 0, []⟩ : Bs)).A) ((l11.getD k (⟨none, 0, []⟩ : Bs)).l).length ((l11.getD k (⟨none, 0, []⟩ : Bs)).C)] w0 base (yk.s :: segsOf (ys14.drop (k + 1)) :: s43 :: s31 :: segsOf ys33 :: s37 :: [(b4, .cells #[.int .i64 m, .slice A34 l36.length C35, .bool (frB br m z.l ((l.getD i (⟨none, 0, []⟩ : Bs)).l))] 49 (0, 0))] :: s12 :: s18 :: [(b3, .cells #[.int .i64 m, .bool (frB br m (y.l.drop off) ((l.getD i (⟨none, 0, []⟩ : Bs)).l)), .slice A15 l17.length C16, .int .i64 (p20 : Int), .int .i8 lr21, .int .i64 (if br = true then e else (frF m ((y.l.drop off) ++ ((l.getD i (⟨none, 0, []⟩ : Bs)).l))).e)] 56 (0, 0))] :: H) (fun v H' => ∃ s', v = .tuple #[] ∧ H' = s' :: segsOf (ys14.drop (k + 1)) :: s43 :: s31 :: segsOf ys33 :: s37 :: [(b4, .cells #[.int .i64 m, .slice A34 l36.length C35, .bool (frB br m z.l ((l.getD i (⟨none, 0, []⟩ : Bs)).l))] 49 (0, 0))] :: s12 :: s18 :: [(b3, .cells #[.int .i64 m, .bool (frB br m (y.l.drop off) ((l.getD i (⟨none, 0, []⟩ : Bs)).l)), .slice A15 l17.length C16, .int .i64 (p20 : Int), .int .i8 lr21, .int .i64 (if br = true then e else (frF m ((y.l.drop off) ++ ((l.getD i (⟨none, 0, []⟩ : Bs)).l))).e)] 56 (0, 0))] :: H) from by rw [hxk]; exact over_own yk.own) ?_
            rintro _ _ ⟨s44, rfl, rfl⟩
            refine AtL.done ?_
            refine At.inBlock ?_
            refine At.region ?_
            refine AtL.move (.inl rfl) rfl rfl ?_
            refine AtL.add (z := (k : Int) + 1) (.inl rfl) rfl rfl rfl (w64 (by omega) (by omega)) ?_
            refine AtL.assign (.inl rfl) rfl rfl ?_
            refine AtL.done ?_
            refine At.pick (H' := s43 :: s31 :: segsOf ys33 :: s37 :: [(b4, .cells #[.int .i64 m, .slice A34 l36.length C35, .bool (frB br m z.l ((l.getD i (⟨none, 0, []⟩ : Bs)).l))] 49 (0, 0))] :: s12 :: segsOf (ys14.drop (k + 1)) :: s18 :: [(b3, .cells #[.int .i64 m, .bool (frB br m (y.l.drop off) ((l.getD i (⟨none, 0, []⟩ : Bs)).l)), .slice A15 l17.length C16, .int .i64 (p20 : Int), .int .i8 lr21, .int .i64 (if br = true then e else (frF m ((y.l.drop off) ++ ((l.getD i (⟨none, 0, []⟩ : Bs)).l))).e)] 56 (0, 0))] :: H) [2, 3, 4, 5, 6, 7, 1, 8, 9] 10 rfl rfl ?_
            refine ihL2 (k + 1) (by omega) (by omega) _ ?_
            exact ⟨rfl, rfl, rfl, rfl, rfl, (by first | rfl | exact slLen (by simp []) | exact intEq (by omega) | exact intEq (by simp []) | exact slLen (by simp []; omega)), trivial⟩
          · intro hc7
            have hc7 : ¬ ((k : Int) < (l11.length : Int)) := of_decide_eq_false hc7
            refine At.exit rfl ?_
            refine At.seq ?_
            refine At.draw (es := [1, 10, 12, 17]) (pv := [(0, .pointer (some ⟨b3, 0, none⟩)), (2, .pointer (some ⟨b4, 0, none⟩)), (3, .pointer (some ⟨b4, 0, none⟩)), (4, .pointer (some ⟨b4, 1, none⟩)), (5, .slice A34 l36.length C35), (6, .int .i64 (l36.length : Int))]) tf_mixed (by kernel_rfl) (by kernel_rfl) (by kernel_rfl) ?_
            refine ⟨⟨.inr ⟨_, rfl, rfl, .inl ⟨rfl, Do.move rfl⟩⟩, .inr ⟨_, rfl, rfl, .inl ⟨rfl, Do.move rfl⟩⟩, .inr ⟨_, rfl, rfl, .inl ⟨rfl, Do.nilCheck rfl⟩⟩, .inr ⟨_, rfl, rfl, .inl ⟨rfl, Do.fieldAddrB tf_fo49_1 rfl rfl⟩⟩, .inr ⟨_, rfl, rfl, .inl ⟨rfl, Do.load tf_flat22 rfl (Cell.own 4 0 rfl rfl rfl)⟩⟩, .inr ⟨_, rfl, rfl, .inl ⟨rfl, Do.lenL Tryd.underlying22 rfl⟩⟩, trivial⟩, rfl, rfl, by kernel_rfl, _, rfl, rfl, rfl, _, Does.pick (H' := s18 :: [(b3, .cells #[.int .i64 m, .bool (frB br m (y.l.drop off) ((l.getD i (⟨none, 0, []⟩ : Bs)).l)), .slice A15 l17.length C16, .int .i64 (p20 : Int), .int .i8 lr21, .int .i64 (if br = true then e else (frF m ((y.l.drop off) ++ ((l.getD i (⟨none, 0, []⟩ : Bs)).l))).e)] 56 (0, 0))] :: s43 :: s31 :: segsOf ys33 :: s37 :: [(b4, .cells #[.int .i64 m, .slice A34 l36.length C35, .bool (frB br m z.l ((l.getD i (⟨none, 0, []⟩ : Bs)).l))] 49 (0, 0))] :: s12 :: segsOf (ys14.drop k) :: H) [7, 8, 0, 1, 2, 3, 4, 5, 6] 9 rfl rfl (Do.call tf_body25 rfl (left_ok (y := ⟨A15, C16, l17, s18, o19⟩) (off := p20) (by first | omega | (dsimp only; omega)) (by first | omega | (dsimp only; omega)) (by first | omega | assumption))), ?_⟩
            rintro _ _ ⟨rfl, rfl⟩
            refine ⟨[(7, .bool false), (8, .bool false), (9, .pointer (some ⟨b3, 0, none⟩)), (11, .pointer (some ⟨b4, 0, none⟩))], rfl, ?_⟩
            refine ⟨⟨.inr ⟨_, rfl, rfl, .inl ⟨rfl, Do.asBool (Do.nei rfl rfl) (by simp [hc, h26, hm27, hm27e, h41, hm42, hm42e])⟩⟩, .inr ⟨_, rfl, rfl, .inl ⟨rfl, Do.move rfl⟩⟩, .inr ⟨_, rfl, rfl, .inl ⟨⟨_, _, _, rfl, rfl, rfl, rfl⟩, Do.move rfl⟩⟩, .inr ⟨_, rfl, rfl, .inl ⟨⟨_, _, _, rfl, rfl, rfl, rfl⟩, Do.move rfl⟩⟩, .inl (by kernel_rfl), .inr ⟨_, rfl, rfl, .inl ⟨rfl, Do.move rfl⟩⟩, .inr ⟨_, rfl, rfl, .inl ⟨rfl, Do.nilCheck rfl⟩⟩, .inr ⟨_, rfl, rfl, .inl ⟨rfl, Do.fieldAddrB tf_fo49_1 rfl rfl⟩⟩, .inr ⟨_, rfl, rfl, .inl ⟨rfl, Do.load tf_flat22 rfl (Cell.own 6 0 rfl rfl rfl)⟩⟩, .inr ⟨_, rfl, rfl, .inl ⟨rfl, Do.lenL Tryd.underlying22 rfl⟩⟩, trivial⟩, rfl, rfl, by kernel_rfl, _, rfl, rfl, ⟨_, _, _, rfl, rfl, rfl, rfl⟩, _, Do.call tf_body26 rfl (want_ok (y := ⟨A15, C16, l17, s18, o19⟩) (off := p20) (by first | omega | (dsimp only; omega)) (by first | omega | (dsimp only; omega)) (by first | omega | assumption)), ?_⟩
            rintro _ _ ⟨rfl, rfl⟩
            refine ⟨[], rfl, ?_⟩
            refine ⟨⟨.inl (by kernel_rfl), .inl (by kernel_rfl), .inl (by kernel_rfl), .inr ⟨_, rfl, rfl, .inl ⟨⟨_, _, _, rfl, rfl, rfl, rfl⟩, Do.move rfl⟩⟩, .inl (by kernel_rfl), .inl (by kernel_rfl), .inl (by kernel_rfl), .inl (by kernel_rfl), .inl (by kernel_rfl), .inl (by kernel_rfl), trivial⟩, rfl, rfl, by kernel_rfl, _, rfl, rfl, ⟨_, _, _, rfl, rfl, rfl, rfl⟩, _, Does.pick (H' := s37 :: [(b4, .cells #[.int .i64 m, .slice A34 l36.length C35, .bool (frB br m z.l ((l.getD i (⟨none, 0, []⟩ : Bs)).l))] 49 (0, 0))] :: s18 :: [(b3, .cells #[.int .i64 m, .bool (frB br m (y.l.drop off) ((l.getD i (⟨none, 0, []⟩ : Bs)).l)), .slice A15 l17.length C16, .int .i64 (p20 : Int), .int .i8 lr21, .int .i64 (if br = true then e else (frF m ((y.l.drop off) ++ ((l.getD i (⟨none, 0, []⟩ : Bs)).l))).e)] 56 (0, 0))] :: s43 :: s31 :: segsOf ys33 :: s12 :: segsOf (ys14.drop k) :: H) [5, 6, 0, 1, 2, 3, 4, 7, 8] 9 rfl rfl (Do.call tf_body27 rfl (rwant_ok (y := ⟨A34, C35, l36, s37, o38⟩) (by first | omega | (dsimp only; omega)))), ?_⟩
            rintro _ _ ⟨rfl, rfl⟩
            refine ⟨[(13, .bool false), (14, .bool false), (15, .bool false), (16, .pointer (some ⟨b3, 0, none⟩)), (18, .pointer (some ⟨b4, 0, none⟩)), (19, .pointer (some ⟨b4, 0, none⟩)), (20, .pointer (some ⟨b4, 2, none⟩)), (21, .bool (frB br m z.l ((l.getD i (⟨none, 0, []⟩ : Bs)).l)))], rfl, ?_⟩
            refine ⟨⟨.inr ⟨_, rfl, rfl, .inl ⟨⟨_, _, _, rfl, rfl, rfl, rfl⟩, Do.asBool (Do.nei rfl rfl) (by simp [hc, h26, hm27, hm27e, h41, hm42, hm42e])⟩⟩, .inr ⟨_, rfl, rfl, .inl ⟨rfl, Do.pickF rfl rfl⟩⟩, .inr ⟨_, rfl, rfl, .inl ⟨rfl, Do.move rfl⟩⟩, .inr ⟨_, rfl, rfl, .inl ⟨⟨_, _, _, rfl, rfl, rfl, rfl⟩, Do.move rfl⟩⟩, .inr ⟨_, rfl, rfl, .inl ⟨⟨_, _, _, rfl, rfl, rfl, rfl⟩, Do.move rfl⟩⟩, .inr ⟨_, rfl, rfl, .inl ⟨⟨_, _, _, rfl, rfl, rfl, rfl⟩, Do.nilCheck rfl⟩⟩, .inr ⟨_, rfl, rfl, .inl ⟨⟨_, _, _, rfl, rfl, rfl, rfl⟩, Do.fieldAddrB tf_fo49_2 rfl rfl⟩⟩, .inr ⟨_, rfl, rfl, .inl ⟨⟨_, _, _, rfl, rfl, rfl, rfl⟩, Do.load tf_flat4 rfl (Cell.own 1 0 rfl rfl rfl)⟩⟩, .inl (by kernel_rfl), .inl (by kernel_rfl), .inl (by kernel_rfl), .inl (by kernel_rfl), .inl (by kernel_rfl), .inl (by kernel_rfl), .inl (by kernel_rfl), .inl (by kernel_rfl), .inl (by kernel_rfl), .inl (by kernel_rfl), trivial⟩, rfl, rfl, by kernel_rfl, _, rfl, rfl, ⟨_, _, _, rfl, rfl, rfl, rfl⟩, _, Does.pick (H' := [(b3, .cells #[.int .i64 m, .bool (frB br m (y.l.drop off) ((l.getD i (⟨none, 0, []⟩ : Bs)).l)), .slice A15 l17.length C16, .int .i64 (p20 : Int), .int .i8 lr21, .int .i64 (if br = true then e else (frF m ((y.l.drop off) ++ ((l.getD i (⟨none, 0, []⟩ : Bs)).l))).e)] 56 (0, 0))] :: s37 :: [(b4, .cells #[.int .i64 m, .slice A34 l36.length C35, .bool (frB br m z.l ((l.getD i (⟨none, 0, []⟩ : Bs)).l))] 49 (0, 0))] :: s18 :: s43 :: s31 :: segsOf ys33 :: s12 :: segsOf (ys14.drop k) :: H) [3, 0, 1, 2, 4, 5, 6, 7, 8] 9 rfl rfl (Do.call tf_body28 rfl broken_ok), ?_⟩
            rintro _ _ ⟨rfl, rfl⟩
            refine ⟨[(22, .bool false), (23, .bool false)], rfl, ?_⟩
            refine ⟨⟨.inr ⟨_, rfl, rfl, .inl ⟨⟨_, _, _, rfl, rfl, rfl, rfl⟩, Do.asBool (Do.neb Tryd.underlying4 rfl rfl) (by simp [hc, h26, hm27, hm27e, h41, hm42, hm42e])⟩⟩, .inr ⟨_, rfl, rfl, .inl ⟨rfl, Do.pickF rfl rfl⟩⟩, .inl (by kernel_rfl), .inl (by kernel_rfl), .inl (by kernel_rfl), .inl (by kernel_rfl), .inr ⟨_, rfl, rfl, .inl ⟨⟨_, _, _, rfl, rfl, rfl, rfl⟩, Do.move rfl⟩⟩, .inr ⟨_, rfl, rfl, .inl ⟨⟨_, _, _, rfl, rfl, rfl, rfl⟩, Do.nilCheck rfl⟩⟩, .inr ⟨_, rfl, rfl, .inl ⟨⟨_, _, _, rfl, rfl, rfl, rfl⟩, Do.fieldAddrB tf_fo49_2 rfl rfl⟩⟩, .inr ⟨_, rfl, rfl, .inl ⟨⟨_, _, _, rfl, rfl, rfl, rfl⟩, Do.load tf_flat4 rfl (Cell.own 2 0 rfl rfl rfl)⟩⟩, .inl (by kernel_rfl), .inl (by kernel_rfl), .inl (by kernel_rfl), .inl (by kernel_rfl), .inl (by kernel_rfl), .inl (by kernel_rfl), .inl (by kernel_rfl), .inl (by kernel_rfl), .inl (by kernel_rfl), .inl (by kernel_rfl), trivial⟩, by kernel_rfl, ?_⟩
            refine At.mono (E' := [(1, .slice A l.length C), (5, .pointer (some ⟨b3, 0, none⟩)), (7, .pointer (some ⟨b4, 0, none⟩)), (9, .int .i64 (i : Int)), (121, .bool false)]) ⟨rfl, rfl, rfl, rfl, rfl, trivial⟩ ?_
            refine At.condF rfl ?_
            refine At.skip ?_
            refine At.inBlock ?_
            refine At.region ?_
            refine AtL.move (.inl rfl) rfl rfl ?_
            refine AtL.add (z := (i : Int) + 1) (.inl rfl) rfl rfl rfl (w64 (by omega) (by omega)) ?_
            refine AtL.assign (.inl rfl) rfl rfl ?_
            refine AtL.done ?_
            refine At.eqH (H' := [(b3, .cells #[.int .i64 m, .bool (frB br m (y.l.drop off) ((l.getD i (⟨none, 0, []⟩ : Bs)).l)), .slice A15 l17.length C16, .int .i64 (p20 : Int), .int .i8 lr21, .int .i64 (if br = true then e else (frF m ((y.l.drop off) ++ ((l.getD i (⟨none, 0, []⟩ : Bs)).l))).e)] 56 (0, 0))] :: s37 :: [(b4, .cells #[.int .i64 m, .slice A34 l36.length C35, .bool (frB br m (y.l.drop off) ((l.getD i (⟨none, 0, []⟩ : Bs)).l))] 49 (0, 0))] :: s18 :: s43 :: s31 :: segsOf ys33 :: s12 :: segsOf (ys14.drop k) :: H) (by rw [hc]) ?_
            refine At.pick (H' := s18 :: s37 :: [(b3, .cells #[.int .i64 m, .bool (frB br m (y.l.drop off) ((l.getD i (⟨none, 0, []⟩ : Bs)).l)), .slice A15 l17.length C16, .int .i64 (p20 : Int), .int .i8 lr21, .int .i64 (if br = true then e else (frF m ((y.l.drop off) ++ ((l.getD i (⟨none, 0, []⟩ : Bs)).l))).e)] 56 (0, 0))] :: [(b4, .cells #[.int .i64 m, .slice A34 l36.length C35, .bool (frB br m (y.l.drop off) ((l.getD i (⟨none, 0, []⟩ : Bs)).l))] 49 (0, 0))] :: H) [3, 1, 0, 2] 9 rfl rfl ?_
            refine ihL1 (i + 1) (⟨A15, C16, l17, s18, o19⟩) p20 lr21 (if br = true then e else (frF m ((y.l.drop off) ++ ((l.getD i (⟨none, 0, []⟩ : Bs)).l))).e) (frB br m (y.l.drop off) ((l.getD i (⟨none, 0, []⟩ : Bs)).l)) (⟨A34, C35, l36, s37, o38⟩) (⟨by omega, h24, by dsimp only; rw [h26, h41, hc], by have h9 := h25; dsimp only; omega, frB_e he⟩) (by omega) _ ?_
            exact ⟨rfl, rfl, rfl, (by first | rfl | exact slLen (by simp []) | exact intEq (by omega) | exact intEq (by simp []) | exact slLen (by simp []; omega)), trivial⟩
    · intro hc5
      have hc5 : ¬ ((i : Int) < (l.length : Int)) := of_decide_eq_false hc5
      refine At.exit rfl ?_
      refine At.seq ?_
      refine At.region ?_
      refine AtL.call tf_body9 (.inl rfl) rfl rfl awake_ok ?_
      rintro _ _ ⟨rfl, rfl⟩
      refine AtL.assign (.inl rfl) rfl rfl ?_
      refine AtL.done ?_
      refine At.pick (H' := H) [] 4 rfl rfl ?_
      exact At.ret Tryd.func5 rfl rfl (⟨rfl, rfl⟩)

end Go.Proofs.YtllfgcekebafhaaDoor
