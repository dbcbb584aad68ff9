/- The statements of requests: awake. -/
import Derived.Test.YtlkdmbpbjhjkfaaGreatDoorE8
namespace Go.Proofs.YtlkdmbpbjhjkfaaGreatDoor
set_option linter.unusedVariables false
set_option linter.unusedSimpArgs false
set_option maxRecDepth 100000

theorem ho16 : ([(([72, 111, 115, 116] : List UInt8), ([120] : List UInt8))] : List Fld).length ≤ 1000 ∧ ∀ f ∈ ([(([72, 111, 115, 116] : List UInt8), ([120] : List UInt8))] : List Fld), f.1.length ≤ 4294967280 ∧ f.2.length ≤ 4294967280 := by decide
theorem ask_kn {w0 : World} {base : Nat} {H : List Seg} {m t : List UInt8} {minor : Int} {A Ab : Option Addr} {C Cb : Nat} {fs : List (List UInt8 × List UInt8)} {body L : List UInt8} {s : Int} (hk : askF m t fs body = (L, s)) (h : Rd tyField w0 base H A C fs) (hbody : Rd tyB w0 base H Ab Cb body) (hfl : fs.length ≤ 1000) (hb : ∀ f ∈ fs, f.1.length ≤ 4294967280 ∧ f.2.length ≤ 4294967280) (hbl : body.length ≤ 4294967280) (ht : t.length ≤ 4294967280) (T : Tabs w0 base) :
    SCalls Tryz.prog 36 [.agg #[str m, str t, int minor, .slice A fs.length C], .slice Ab body.length Cb] w0 base H (fun v H' => ∃ x : Sl tyB 5, x.l = L ∧ v = .tuple #[.slice x.A x.l.length x.C, int s] ∧ H' = x.s :: H) := by
  refine (ask_ok h hbody hfl hb hbl ht T).mono ?_
  rintro v H' ⟨x, hx, rfl, rfl⟩
  rw [hk] at hx ⊢
  exact ⟨x, hx, rfl, rfl⟩
def t16 : List UInt8 := [47, 100, 110, 115, 45, 113, 117, 101, 114, 121, 63, 120, 61, 49, 38, 100, 110, 115, 61, 65, 65, 65, 65, 65, 65, 65, 65, 65, 65, 65, 65, 65, 65, 65, 65]
theorem askT1 (fs : List Fld) : askF [71, 69, 84] t16 fs [] = ([0, 0, 0, 0, 0, 0, 0, 0, 0, 0, 0, 0], 200) := by
  have hq : Lib.cut t16 [63] = ([47, 100, 110, 115, 45, 113, 117, 101, 114, 121], [120, 61, 49, 38, 100, 110, 115, 61, 65, 65, 65, 65, 65, 65, 65, 65, 65, 65, 65, 65, 65, 65, 65, 65], true) := by decide +kernel
  have hq2 : Lib.cut [120, 61, 49, 38, 100, 110, 115, 61, 65, 65, 65, 65, 65, 65, 65, 65, 65, 65, 65, 65, 65, 65, 65, 65] [38] = ([120, 61, 49], [100, 110, 115, 61, 65, 65, 65, 65, 65, 65, 65, 65, 65, 65, 65, 65, 65, 65, 65, 65], true) := by decide +kernel
  have hq3 : Lib.cut [100, 110, 115, 61, 65, 65, 65, 65, 65, 65, 65, 65, 65, 65, 65, 65, 65, 65, 65, 65] [38] = ([100, 110, 115, 61, 65, 65, 65, 65, 65, 65, 65, 65, 65, 65, 65, 65, 65, 65, 65, 65], [], false) := by decide +kernel
  have hp : partF (Lib.cut t16 [63]).2.1 = some [65, 65, 65, 65, 65, 65, 65, 65, 65, 65, 65, 65, 65, 65, 65, 65] := by
    rw [hq]
    show partF [120, 61, 49, 38, 100, 110, 115, 61, 65, 65, 65, 65, 65, 65, 65, 65, 65, 65, 65, 65, 65, 65, 65, 65] = _
    rw [part_more (by rw [hq2]; decide) (by rw [hq2]), hq2]
    show partF [100, 110, 115, 61, 65, 65, 65, 65, 65, 65, 65, 65, 65, 65, 65, 65, 65, 65, 65, 65] = _
    rw [part_yes (by rw [hq3]; decide), hq3]; rfl
  have hd : decB [65, 65, 65, 65, 65, 65, 65, 65, 65, 65, 65, 65, 65, 65, 65, 65] = some [0, 0, 0, 0, 0, 0, 0, 0, 0, 0, 0, 0] := by decide +kernel
  refine (ask_get (m := [71, 69, 84]) (t := t16) (by rw [hq]; rfl) rfl).trans ?_
  rw [get_good hp hd]
  exact then_ok (by decide) (by decide)
theorem askT2 (fs : List Fld) : askF [71, 69, 84] [47, 97] fs [] = ([], 404) := ask_404 (by decide +kernel)

set_option maxHeartbeats 400000 in
theorem awake16_ok {w0 : World} {base : Nat} {H : List Seg} (T : Tabs w0 base) :
    SCalls Tryz.prog 12 [] w0 base (H) (fun v H' => v = .bool true ∧ H' = H) := by
  refine SCalls.of_walk (n := 40) Tryz.func12 rfl rfl rfl fun cs => ?_
  refine At.seq ?_
  refine At.region ?_
  refine AtL.assign (.inl rfl) rfl rfl ?_
  refine AtL.done ?_
  refine At.seq ?_
  refine At.region ?_
  refine AtL.call tf_body37 (.inl rfl) rfl rfl (get16_ok (m := [71, 69, 84]) (t := t16)) ?_
  rintro _ _ ⟨⟨A1, C2, l3, s4, o5⟩, hx6, rfl, rfl⟩
  obtain rfl : [(([72, 111, 115, 116] : List UInt8), ([120] : List UInt8))] = l3 := hx6.symm
  refine AtL.call tf_body36 (.inl rfl) rfl rfl (ask_kn (Ab := none) (Cb := 0) (body := []) (m := [71, 69, 84]) (t := t16) (askT1 ([(([72, 111, 115, 116] : List UInt8), ([120] : List UInt8))])) (o5.rd (i := 0) rfl) Rd.nil_ ho16.1 ho16.2 (by decide) (by decide) T) ?_
  rintro _ _ ⟨⟨A7, C8, l9, s10, o11⟩, hx12, rfl, rfl⟩
  obtain rfl : ([0, 0, 0, 0, 0, 0, 0, 0, 0, 0, 0, 0] : List UInt8) = l9 := hx12.symm
  refine AtL.move (.inl rfl) rfl rfl ?_
  refine AtL.extract (.inl rfl) rfl rfl rfl ?_
  refine AtL.extract (.inl rfl) rfl rfl rfl ?_
  refine AtL.assign (.inl rfl) rfl rfl ?_
  refine AtL.assign (.inl rfl) rfl rfl ?_
  refine AtL.done ?_
  refine At.seq ?_
  refine At.region ?_
  refine AtL.call tf_body35 (.inl rfl) rfl rfl ((path_ok (t := [47, 97, 63, 98, 61, 99]) (by decide) T).mono (fun v H' h => by rw [show Lib.cut [47, 97, 63, 98, 61, 99] [63] = ([47, 97], [98, 61, 99], true) by decide +kernel] at h; exact h)) ?_
  rintro _ _ ⟨rfl, rfl⟩
  refine AtL.move (.inl rfl) rfl rfl ?_
  refine AtL.extract (.inl rfl) rfl rfl rfl ?_
  refine AtL.extract (.inl rfl) rfl rfl rfl ?_
  refine AtL.assign (.inl rfl) rfl rfl ?_
  refine AtL.assign (.inl rfl) rfl rfl ?_
  refine AtL.done ?_
  refine At.seq ?_
  refine At.region ?_
  refine AtL.call tf_body37 (.inl rfl) rfl rfl (get16_ok (m := [71, 69, 84]) (t := [47, 97])) ?_
  rintro _ _ ⟨⟨A13, C14, l15, s16, o17⟩, hx18, rfl, rfl⟩
  obtain rfl : [(([72, 111, 115, 116] : List UInt8), ([120] : List UInt8))] = l15 := hx18.symm
  refine AtL.call tf_body36 (.inl rfl) rfl rfl (ask_kn (Ab := none) (Cb := 0) (body := []) (m := [71, 69, 84]) (t := [47, 97]) (askT2 ([(([72, 111, 115, 116] : List UInt8), ([120] : List UInt8))])) (o17.rd (i := 0) rfl) Rd.nil_ ho16.1 ho16.2 (by decide) (by decide) T) ?_
  rintro _ _ ⟨⟨A19, C20, l21, s22, o23⟩, hx24, rfl, rfl⟩
  obtain rfl : ([] : List UInt8) = l21 := hx24.symm
  refine AtL.move (.inl rfl) rfl rfl ?_
  refine AtL.extract (.inl rfl) rfl rfl rfl ?_
  refine AtL.extract (.inl rfl) rfl rfl rfl ?_
  refine AtL.assign (.inl rfl) rfl rfl ?_
  refine AtL.assign (.inl rfl) rfl rfl ?_
  refine AtL.done ?_
  refine At.seq ?_
  refine At.region ?_
  refine AtL.move (.inl rfl) rfl rfl ?_
  refine AtL.eqi (.inl rfl) rfl rfl rfl ?_
  refine AtL.move (.inl rfl) rfl rfl ?_
  refine AtL.move (.inr ⟨_, _, _, rfl, rfl, rfl, rfl⟩) rfl rfl ?_
  refine AtL.makeSlice (n := 12) (c := 12) tf_el22 (by decide) (.inr ⟨_, _, _, rfl, rfl, rfl, rfl⟩) rfl rfl rfl (by omega) (by omega) ?_
  intro A25 s26 o27 q28
  refine AtL.call tf_body18 (.inr ⟨_, _, _, rfl, rfl, rfl, rfl⟩) rfl rfl (same_ok (l := ([0, 0, 0, 0, 0, 0, 0, 0, 0, 0, 0, 0] : List UInt8)) (l2 := List.replicate 12 (0 : UInt8)) (o11.rd (i := 3) rfl) (o27.rd (i := 0) rfl)) ?_
  rintro _ _ ⟨rfl, rfl⟩
  refine AtL.pickT (.inl rfl) rfl rfl rfl ?_
  refine AtL.move (.inl rfl) rfl rfl ?_
  refine AtL.join 3 (E' := [(31, .bool (decide ([47, 97] = [47, 97]))), (4, str [98, 61, 99]), (6, .int .i64 404)]) (H' := s26 :: s22 :: s16 :: s10 :: s4 :: H) (fun J => ?_) ?_
  · refine AtL.split (t := 28) rfl ?_ ?_
    · intro hs28
      have hs28 : ([0, 0, 0, 0, 0, 0, 0, 0, 0, 0, 0, 0] : List UInt8) = List.replicate 12 (0 : UInt8) := of_decide_eq_true hs28
      refine AtL.move (.inr ⟨_, _, _, rfl, rfl, rfl, rfl⟩) rfl rfl ?_
      refine AtL.eqs (a := [47, 97]) (b := [47, 97]) (.inr ⟨_, _, _, rfl, rfl, rfl, rfl⟩) rfl rfl rfl ?_
      refine AtL.pickT (.inl rfl) rfl rfl rfl ?_
      exact J _ (by exact ⟨(boolIs (by clear J; first | (simp [hs28]; done) | (simp_all; done) | grind)), rfl, rfl, trivial⟩)
    · intro hs28
      have hs28 : ¬ (([0, 0, 0, 0, 0, 0, 0, 0, 0, 0, 0, 0] : List UInt8) = List.replicate 12 (0 : UInt8)) := of_decide_eq_false hs28
      exfalso; revert hs28; simp
  · skip
    refine AtL.move (.inl rfl) rfl rfl ?_
    refine AtL.join 3 (E' := [(35, .bool (decide ([98, 61, 99] = [98, 61, 99]))), (6, .int .i64 404)]) (H' := s26 :: s22 :: s16 :: s10 :: s4 :: H) (fun J => ?_) ?_
    · refine AtL.split (t := 32) rfl ?_ ?_
      · intro hs32
        have hs32 : [47, 97] = [47, 97] := of_decide_eq_true hs32
        refine AtL.move (.inr ⟨_, _, _, rfl, rfl, rfl, rfl⟩) rfl rfl ?_
        refine AtL.eqs (a := [98, 61, 99]) (b := [98, 61, 99]) (.inr ⟨_, _, _, rfl, rfl, rfl, rfl⟩) rfl rfl rfl ?_
        refine AtL.pickT (.inl rfl) rfl rfl rfl ?_
        exact J _ (by exact ⟨(boolIs (by clear J; first | (simp [hs32]; done) | (simp_all; done) | grind)), rfl, trivial⟩)
      · intro hs32
        exact Bool.noConfusion (hs32.symm.trans (decide_eq_true rfl))
    · skip
      refine AtL.move (.inl rfl) rfl rfl ?_
      refine AtL.join 3 (E' := [(39, .bool true)]) (H' := s26 :: s22 :: s16 :: s10 :: s4 :: H) (fun J => ?_) ?_
      · refine AtL.split (t := 36) rfl ?_ ?_
        · intro hs36
          have hs36 : [98, 61, 99] = [98, 61, 99] := of_decide_eq_true hs36
          refine AtL.move (.inr ⟨_, _, _, rfl, rfl, rfl, rfl⟩) rfl rfl ?_
          refine AtL.eqi (.inr ⟨_, _, _, rfl, rfl, rfl, rfl⟩) rfl rfl rfl ?_
          refine AtL.pickT (.inl rfl) rfl rfl rfl ?_
          exact J _ (by exact ⟨rfl, trivial⟩)
        · intro hs36
          exact Bool.noConfusion (hs36.symm.trans (decide_eq_true rfl))
      · skip
        refine AtL.assign (.inl rfl) rfl rfl ?_
        refine AtL.done ?_
        refine At.pick (H' := H) [] 5 rfl rfl ?_
        exact At.ret Tryz.func12 rfl rfl (⟨rfl, rfl⟩)

end Go.Proofs.YtlkdmbpbjhjkfaaGreatDoor
