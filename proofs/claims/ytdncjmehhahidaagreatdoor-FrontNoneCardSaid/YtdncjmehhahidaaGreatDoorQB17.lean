/- The parts of the proof that this law needs, in the order of their texts: the logic of walks, the plain laws, the walks. -/
import Derived.Test.YtdncjmehhahidaaGreatDoorQB15
import Derived.Test.YtdncjmehhahidaaGreatDoorQB16
namespace Go.Proofs.YtdncjmehhahidaaGreatDoor
set_option linter.unusedVariables false
set_option linter.unusedSimpArgs false
set_option maxRecDepth 100000
theorem awake_any {w0 : World} {base : Nat} {H : List Seg} : SCalls Tryz.prog 8 [] w0 base H (fun u H' => u = .bool true ∧ H' = H) :=
  SCalls.of_belowX fun w S => (law_ofE awake_ok).mono fun e w' ⟨he, hb⟩ => ⟨.bool true, he, rfl, hb⟩
def tyEv : Ty (Int × Int × Int × Int × Int × Int × Vs UInt8) := { val := fun x => .agg #[int x.1, int x.2.1, int x.2.2.1, int x.2.2.2.1, int x.2.2.2.2.1, int x.2.2.2.2.2.1, .slice x.2.2.2.2.2.2.A x.2.2.2.2.2.2.l.length x.2.2.2.2.2.2.C], sz := 7, ok := fun _ => rfl, plain := fun x c hc => by simp [int, Value.cells] at hc; rcases hc with rfl | rfl | rfl | rfl | rfl | rfl | rfl <;> rfl }
set_option maxHeartbeats 400000 in
theorem longev_ok {w0 : World} {base : Nat} {H : List Seg} {A : Option Addr} {C : Nat} {l : List (Int × Int × Int × Int × Int × Int × Vs UInt8)} {mo by_ : Int} (hby : 0 ≤ by_ ∧ by_ ≤ 40000) (h : Rd tyEv w0 base H A C l) (hb : ∀ x ∈ l, x.2.2.2.2.2.2.l.length ≤ 140737488351232) :
    SCalls Tryz.prog 7 [.slice A l.length C, .int .i64 mo, .int .i64 by_] w0 base (H) (fun v H' => ∃ z : Bool, v = .bool z ∧ H' = H) := by
  have hle0 := h.le
  have hcap0 := h.cap
  refine SCalls.of_walk (n := 37) Tryz.func7 rfl rfl rfl fun cs => ?_
  refine At.seq ?_
  refine At.region ?_
  refine AtL.assign (.inl rfl) rfl rfl ?_
  refine AtL.done ?_
  refine At.seq ?_
  refine At.region ?_
  refine AtL.assign (.inl rfl) rfl rfl ?_
  refine AtL.done ?_
  refine At.seq ?_
  refine At.seq ?_
  refine At.region ?_
  refine AtL.assign (.inl rfl) rfl rfl ?_
  refine AtL.done ?_
  refine At.block ?_
  refine At.loop2 (fun (i : Nat) (n : Nat) => [(0, .slice A l.length C), (1, .int .i64 mo), (2, .int .i64 by_), (7, .int .i64 (n : Int)), (8, .int .i64 (i : Int))]) (fun (i : Nat) (n : Nat) => H) (fun (i : Nat) (n : Nat) => i ≤ l.length ∧ n ≤ 140737488400000) (fun (i : Nat) (n : Nat) => l.length - i) 0 0 (⟨Nat.zero_le _, by omega⟩) ⟨rfl, rfl, rfl, rfl, rfl, trivial⟩ rfl ?_
  rintro i n ⟨hi, hn⟩ ihL1
  refine At.seq ?_
  refine At.seq ?_
  refine At.region ?_
  refine AtL.move (.inl rfl) rfl rfl ?_
  refine AtL.move (.inl rfl) rfl rfl ?_
  refine AtL.lenL Tryz.underlying26 (.inl rfl) rfl rfl ?_
  refine AtL.lss (.inl rfl) rfl rfl rfl ?_
  refine AtL.move (.inl rfl) rfl rfl ?_
  refine AtL.join 4 (E' := [(17, .bool (decide (((i : Int) < (l.length : Int)) ∧ ((n : Int) ≤ by_)))), (0, .slice A l.length C), (1, .int .i64 mo), (2, .int .i64 by_), (7, .int .i64 (n : Int)), (8, .int .i64 (i : Int))]) (H' := H) (fun J => ?_) ?_
  · refine AtL.split (t := 13) rfl ?_ ?_
    · intro hs13
      have hs13 : (i : Int) < (l.length : Int) := of_decide_eq_true hs13
      refine AtL.move (.inr ⟨_, _, _, rfl, rfl, rfl, rfl⟩) rfl rfl ?_
      refine AtL.move (.inr ⟨_, _, _, rfl, rfl, rfl, rfl⟩) rfl rfl ?_
      refine AtL.leq (.inr ⟨_, _, _, rfl, rfl, rfl, rfl⟩) rfl rfl rfl ?_
      refine AtL.pickT (.inl rfl) rfl rfl rfl ?_
      exact J _ (by exact ⟨(boolIs (by clear J; first | (simp [hs13]; done) | (simp_all; done) | grind)), rfl, rfl, rfl, rfl, rfl, trivial⟩)
    · intro hs13
      have hs13 : ¬ ((i : Int) < (l.length : Int)) := of_decide_eq_false hs13
      refine AtL.skipped rfl rfl rfl rfl rfl rfl ?_
      refine AtL.skipped rfl rfl rfl rfl rfl rfl ?_
      refine AtL.skipped rfl rfl rfl rfl rfl rfl ?_
      refine AtL.pickF (.inl rfl) rfl rfl rfl ?_
      exact J _ (by exact ⟨(boolIs (by clear J; first | (simp [hs13]; done) | (simp_all; done) | grind)), rfl, rfl, rfl, rfl, rfl, trivial⟩)
  · skip
    refine AtL.done ?_
    refine At.cond rfl ?_ ?_
    · intro hc1
      have hc1 : ((i : Int) < (l.length : Int)) ∧ ((n : Int) ≤ by_) := of_decide_eq_true hc1
      have hb1 := hb _ (getD_mem (l := l) (i := i) (d := ((0, 0, 0, 0, 0, 0, ⟨none, 0, []⟩) : Int × Int × Int × Int × Int × Int × Vs UInt8)) (by omega))
      refine At.skip ?_
      refine At.seq ?_
      refine At.block ?_
      refine At.region ?_
      refine AtL.move (.inl rfl) rfl rfl ?_
      refine AtL.move (.inl rfl) rfl rfl ?_
      refine AtL.move (.inl rfl) rfl rfl ?_
      refine AtL.indexL i h Tryz.underlying26 tf_sz24 (.inl rfl) rfl rfl rfl rfl (by omega) ?_
      refine AtL.fieldAddr tf_fo24_6 (.inl rfl) rfl rfl ?_
      refine AtL.load (v := .slice ((l.getD i ((0, 0, 0, 0, 0, 0, ⟨none, 0, []⟩) : Int × Int × Int × Int × Int × Int × Vs UInt8)).2.2.2.2.2.2.A) ((l.getD i ((0, 0, 0, 0, 0, 0, ⟨none, 0, []⟩) : Int × Int × Int × Int × Int × Int × Vs UInt8)).2.2.2.2.2.2.l).length ((l.getD i ((0, 0, 0, 0, 0, 0, ⟨none, 0, []⟩) : Int × Int × Int × Int × Int × Int × Vs UInt8)).2.2.2.2.2.2.C)) tf_flat22 (.inl rfl) rfl rfl (Rd.cell_at h (j := 6) (getD_some ((0, 0, 0, 0, 0, 0, ⟨none, 0, []⟩) : Int × Int × Int × Int × Int × Int × Vs UInt8) (by omega)) rfl) ?_
      refine AtL.lenL Tryz.underlying22 (.inl rfl) rfl rfl ?_
      refine AtL.add (z := (n : Int) + (((l.getD i ((0, 0, 0, 0, 0, 0, ⟨none, 0, []⟩) : Int × Int × Int × Int × Int × Int × Vs UInt8)).2.2.2.2.2.2.l).length : Int)) (.inl rfl) rfl rfl rfl (w64 (by omega) (by omega)) ?_
      refine AtL.assign (.inl rfl) rfl rfl ?_
      refine AtL.done ?_
      refine At.inBlock ?_
      refine At.region ?_
      refine AtL.move (.inl rfl) rfl rfl ?_
      refine AtL.add (z := (i : Int) + 1) (.inl rfl) rfl rfl rfl (w64 (by omega) (by omega)) ?_
      refine AtL.assign (.inl rfl) rfl rfl ?_
      refine AtL.done ?_
      refine ihL1 (i + 1) (n + (((l.getD i ((0, 0, 0, 0, 0, 0, ⟨none, 0, []⟩) : Int × Int × Int × Int × Int × Int × Vs UInt8)).2.2.2.2.2.2.l).length)) (⟨by omega, by omega⟩) (by omega) _ ?_
      exact ⟨rfl, rfl, rfl, (by first | rfl | exact slLen (by simp []) | exact intEq (by omega) | exact intEq (by simp []) | exact slLen (by simp []; omega)), (by first | rfl | exact slLen (by simp []) | exact intEq (by omega) | exact intEq (by simp []) | exact slLen (by simp []; omega)), trivial⟩
    · intro hc1
      have hc1 : ¬ (((i : Int) < (l.length : Int)) ∧ ((n : Int) ≤ by_)) := of_decide_eq_false hc1
      refine At.exit rfl ?_
      refine At.seq ?_
      refine At.region ?_
      refine AtL.move (.inl rfl) rfl rfl ?_
      refine AtL.lenL Tryz.underlying26 (.inl rfl) rfl rfl ?_
      refine AtL.move (.inl rfl) rfl rfl ?_
      refine AtL.gtr (.inl rfl) rfl rfl rfl ?_
      refine AtL.move (.inl rfl) rfl rfl ?_
      refine AtL.join 4 (E' := [(36, .bool (decide ((mo < (l.length : Int)) ∨ (by_ < (n : Int)))))]) (H' := H) (fun J => ?_) ?_
      · refine AtL.split (t := 32) rfl ?_ ?_
        · intro hs32
          have hs32 : mo < (l.length : Int) := of_decide_eq_true hs32
          refine AtL.skipped rfl rfl rfl rfl rfl rfl ?_
          refine AtL.skipped rfl rfl rfl rfl rfl rfl ?_
          refine AtL.skipped rfl rfl rfl rfl rfl rfl ?_
          refine AtL.pickT (.inl rfl) rfl rfl rfl ?_
          exact J _ (by exact ⟨(boolIs (by clear J; first | (simp [hs32]; done) | (simp_all; done) | grind)), trivial⟩)
        · intro hs32
          have hs32 : ¬ (mo < (l.length : Int)) := of_decide_eq_false hs32
          refine AtL.move (.inr ⟨_, _, _, rfl, rfl, rfl, rfl⟩) rfl rfl ?_
          refine AtL.move (.inr ⟨_, _, _, rfl, rfl, rfl, rfl⟩) rfl rfl ?_
          refine AtL.gtr (.inr ⟨_, _, _, rfl, rfl, rfl, rfl⟩) rfl rfl rfl ?_
          refine AtL.pickF (.inl rfl) rfl rfl rfl ?_
          exact J _ (by exact ⟨(boolIs (by clear J; first | (simp [hs32]; done) | (simp_all; done) | grind)), trivial⟩)
      · skip
        refine AtL.assign (.inl rfl) rfl rfl ?_
        refine AtL.done ?_
        exact At.ret Tryz.func7 rfl rfl (⟨_, rfl, rfl⟩)
set_option maxHeartbeats 400000 in
theorem frontnone_ok {w0 : World} {base : Nat} {H : List Seg} (x : (Int × Int × Int × Int × Int × Int × Vs UInt8)) (k : Int) (h : Rd tyB w0 base H x.2.2.2.2.2.2.A x.2.2.2.2.2.2.C x.2.2.2.2.2.2.l) (hb : x.2.2.2.2.2.2.l.length ≤ 140737488351232) :
    SCalls Tryz.prog 3 [.agg #[.int .i64 x.1, .int .i64 x.2.1, .int .i64 x.2.2.1, .int .i64 x.2.2.2.1, .int .i64 x.2.2.2.2.1, .int .i64 x.2.2.2.2.2.1, .slice x.2.2.2.2.2.2.A x.2.2.2.2.2.2.l.length x.2.2.2.2.2.2.C], .int .i64 k] w0 base (H) (fun v H' => v = .bool true ∧ H' = H) := by
  have hle0 := h.le
  have hcap0 := h.cap
  refine SCalls.of_walk (n := 65) Tryz.func3 rfl rfl rfl fun cs => ?_
  refine At.seq ?_
  refine At.region ?_
  refine AtL.box (cs := #[.int .i64 x.1, .int .i64 x.2.1, .int .i64 x.2.2.1, .int .i64 x.2.2.2.1, .int .i64 x.2.2.2.2.1, .int .i64 x.2.2.2.2.2.1, .slice x.2.2.2.2.2.2.A x.2.2.2.2.2.2.l.length x.2.2.2.2.2.2.C]) rfl (.inl rfl) rfl rfl ?_
  intro b1
  refine AtL.assign (.inl rfl) rfl rfl ?_
  refine AtL.done ?_
  refine At.seq ?_
  refine At.seq ?_
  refine At.region ?_
  refine AtL.loadN (cs := [.int .i64 x.1, .int .i64 x.2.1, .int .i64 x.2.2.1, .int .i64 x.2.2.2.1, .int .i64 x.2.2.2.2.1, .int .i64 x.2.2.2.2.2.1, .slice x.2.2.2.2.2.2.A x.2.2.2.2.2.2.l.length x.2.2.2.2.2.2.C]) tf_agg24 (.inl rfl) rfl rfl rfl (cellsOwn 0 0 0 rfl rfl rfl) ?_
  refine AtL.buildSlice (cs := [.int .i64 x.1, .int .i64 x.2.1, .int .i64 x.2.2.1, .int .i64 x.2.2.2.1, .int .i64 x.2.2.2.2.1, .int .i64 x.2.2.2.2.2.1, .slice x.2.2.2.2.2.2.A x.2.2.2.2.2.2.l.length x.2.2.2.2.2.2.C]) Tryz.underlying26 tf_zero24 tf_sz24 rfl rfl (.inl rfl) rfl rfl rfl ?_
  intro b2
  refine AtL.own1 tyEv (l := ([((x.1 : Int), (x.2.1 : Int), (x.2.2.1 : Int), (x.2.2.2.1 : Int), (x.2.2.2.2.1 : Int), (x.2.2.2.2.2.1 : Int), (⟨x.2.2.2.2.2.2.A, x.2.2.2.2.2.2.C, x.2.2.2.2.2.2.l⟩ : Vs UInt8))] : List (Int × Int × Int × Int × Int × Int × Vs UInt8))) rfl rfl (by first | decide | simp) ?_
  intro s3 o4
  refine AtL.call tf_body7 (.inl rfl) rfl rfl (longev_ok (l := [((x.1 : Int), (x.2.1 : Int), (x.2.2.1 : Int), (x.2.2.2.1 : Int), (x.2.2.2.2.1 : Int), (x.2.2.2.2.2.1 : Int), (⟨x.2.2.2.2.2.2.A, x.2.2.2.2.2.2.C, x.2.2.2.2.2.2.l⟩ : Vs UInt8))]) (mo := 1) (by_ := 6000) (by omega) (o4.rd (i := 0) rfl) (fun y hy => by rw [List.mem_singleton.1 hy]; exact hb)) ?_
  rintro _ _ ⟨z5, rfl, rfl⟩
  refine AtL.done ?_
  refine At.cond rfl ?_ ?_
  · intro hc1
    have hc1 : z5 = true := hc1
    refine At.seq ?_
    refine At.region ?_
    refine AtL.call tf_body8 (.inl rfl) rfl rfl awake_any ?_
    rintro _ _ ⟨rfl, rfl⟩
    refine AtL.assign (.inl rfl) rfl rfl ?_
    refine AtL.done ?_
    refine At.pick (H' := H) [] 2 rfl rfl ?_
    exact At.ret Tryz.func3 rfl rfl (⟨rfl, rfl⟩)
  · intro hc1
    have hc1 : z5 = false := hc1
    refine At.skip ?_
    refine At.seq ?_
    refine At.region ?_
    refine AtL.assign (.inl rfl) rfl rfl ?_
    refine AtL.done ?_
    refine At.seq ?_
    refine At.region ?_
    refine AtL.move (.inl rfl) rfl rfl ?_
    refine AtL.build (cs := [.slice none 0 0, .int .i64 0, .int .i64 0, .int .i64 0, .int .i64 0, .int .i64 0, .int .i64 0, .int .i64 0, .int .i64 0, .int .i64 0, .int .i64 0, .int .i64 0, .int .i64 0, .int .i64 0, .int .i64 0, .int .i64 0, .int .i64 0, .int .i64 0, .int .i64 0, .int .i64 0, .int .i64 0, .bool false, .pointer none, .pointer none, .pointer none, .pointer none, .pointer none, .map none, .map none, .map none, .int .i64 0, .slice none 0 0, .slice none 0 0, .int .i64 0, .int .i64 0, .int .i64 0, .int .i64 0, .int .i64 0, .int .i64 0, .nilFunc, .nilFunc, .nilFunc, .nilFunc, .nilFunc, .nilFunc, .nilFunc, .nilFunc, .nilFunc, .nilFunc, .nilFunc]) tf_lay48 (.inl rfl) rfl rfl rfl ?_
    refine AtL.box (cs := #[.slice none 0 0, .int .i64 0, .int .i64 0, .int .i64 0, .int .i64 0, .int .i64 0, .int .i64 0, .int .i64 0, .int .i64 0, .int .i64 0, .int .i64 0, .int .i64 0, .int .i64 0, .int .i64 0, .int .i64 0, .int .i64 0, .int .i64 0, .int .i64 0, .int .i64 0, .int .i64 0, .int .i64 0, .bool false, .pointer none, .pointer none, .pointer none, .pointer none, .pointer none, .map none, .map none, .map none, .int .i64 0, .slice none 0 0, .slice none 0 0, .int .i64 0, .int .i64 0, .int .i64 0, .int .i64 0, .int .i64 0, .int .i64 0, .nilFunc, .nilFunc, .nilFunc, .nilFunc, .nilFunc, .nilFunc, .nilFunc, .nilFunc, .nilFunc, .nilFunc, .nilFunc]) rfl (.inl rfl) rfl rfl ?_
    intro b6
    refine AtL.buildSlice (cs := [.pointer none, .pointer (some ⟨b6, 0, none⟩)]) Tryz.underlying49 tf_zero28 tf_sz28 rfl rfl (.inl rfl) rfl rfl rfl ?_
    intro b7
    refine AtL.assign (.inl rfl) rfl rfl ?_
    refine AtL.done ?_
    refine At.seq ?_
    refine At.seq ?_
    refine At.region ?_
    refine AtL.assign (.inl rfl) rfl rfl ?_
    refine AtL.done ?_
    refine At.block ?_
    refine At.unroll ?_
    refine At.seq ?_
    refine At.seq ?_
    refine At.region ?_
    refine AtL.move (.inl rfl) rfl rfl ?_
    refine AtL.lss (.inl rfl) rfl rfl rfl ?_
    refine AtL.done ?_
    refine At.condT rfl ?_
    refine At.skip ?_
    refine At.seq ?_
    refine At.block ?_
    refine At.seq ?_
    refine At.region ?_
    refine AtL.move (.inl rfl) rfl rfl ?_
    refine AtL.move (.inl rfl) rfl rfl ?_
    refine AtL.indexB 0 Tryz.underlying49 tf_sz28 (.inl rfl) rfl rfl rfl rfl rfl rfl ?_
    refine AtL.load tf_flat28 (.inl rfl) rfl rfl (Cell.own 0 0 rfl rfl rfl) ?_
    refine AtL.assign (.inl rfl) rfl rfl ?_
    refine AtL.done ?_
    refine At.seq ?_
    refine At.region ?_
    refine AtL.move (.inl rfl) rfl rfl ?_
    refine AtL.move (.inl rfl) rfl rfl ?_
    refine AtL.call tf_body9 (.inl rfl) rfl rfl fconn_nil ?_
    rintro _ _ ⟨rfl, rfl⟩
    refine AtL.move (.inl rfl) rfl rfl ?_
    refine AtL.extract (.inl rfl) rfl rfl rfl ?_
    refine AtL.extract (.inl rfl) rfl rfl rfl ?_
    refine AtL.alloc tf_zero51 (cs := #[.int .i64 0, .bool false, .int .i64 0, .int .i64 0, .int .i64 0, .bool false]) rfl (.inl rfl) rfl ?_
    intro b8
    refine AtL.store (H' := [(b8, .cells #[.int .i64 0, .bool false, .int .i64 0, .int .i64 0, .int .i64 0, .bool false] 51 (0, 0))] :: [(b7, .cells #[.pointer none, .pointer (some ⟨b6, 0, none⟩)] 28 (0, 0))] :: [(b6, .cells #[.slice none 0 0, .int .i64 0, .int .i64 0, .int .i64 0, .int .i64 0, .int .i64 0, .int .i64 0, .int .i64 0, .int .i64 0, .int .i64 0, .int .i64 0, .int .i64 0, .int .i64 0, .int .i64 0, .int .i64 0, .int .i64 0, .int .i64 0, .int .i64 0, .int .i64 0, .int .i64 0, .int .i64 0, .bool false, .pointer none, .pointer none, .pointer none, .pointer none, .pointer none, .map none, .map none, .map none, .int .i64 0, .slice none 0 0, .slice none 0 0, .int .i64 0, .int .i64 0, .int .i64 0, .int .i64 0, .int .i64 0, .int .i64 0, .nilFunc, .nilFunc, .nilFunc, .nilFunc, .nilFunc, .nilFunc, .nilFunc, .nilFunc, .nilFunc, .nilFunc, .nilFunc] 48 (0, 0))] :: s3 :: [(b1, .cells #[.int .i64 x.1, .int .i64 x.2.1, .int .i64 x.2.2.1, .int .i64 x.2.2.2.1, .int .i64 x.2.2.2.2.1, .int .i64 x.2.2.2.2.2.1, .slice x.2.2.2.2.2.2.A x.2.2.2.2.2.2.l.length x.2.2.2.2.2.2.C] 24 (0, 0))] :: H) 0 0 tf_sz51 (.inl rfl) rfl rfl rfl rfl rfl rfl rfl rfl rfl ?_
    refine AtL.assign (.inl rfl) rfl rfl ?_
    refine AtL.done ?_
    refine At.seq ?_
    refine At.region ?_
    refine AtL.move (.inl rfl) rfl rfl ?_
    refine AtL.loadN (cs := [.int .i64 x.1, .int .i64 x.2.1, .int .i64 x.2.2.1, .int .i64 x.2.2.2.1, .int .i64 x.2.2.2.2.1, .int .i64 x.2.2.2.2.2.1, .slice x.2.2.2.2.2.2.A x.2.2.2.2.2.2.l.length x.2.2.2.2.2.2.C]) tf_agg24 (.inl rfl) rfl rfl rfl (cellsOwn 4 0 0 rfl rfl rfl) ?_
    refine AtL.call tf_body10 (.inl rfl) rfl rfl (fdo_nil (l := x.2.2.2.2.2.2.l)) ?_
    rintro _ _ ⟨rfl, rfl⟩
    refine AtL.nei (.inl rfl) rfl rfl rfl ?_
    refine AtL.move (.inl rfl) rfl rfl ?_
    refine AtL.move (.inr ⟨_, _, _, rfl, rfl, rfl, rfl⟩) rfl rfl ?_
    refine AtL.call tf_body11 (.inr ⟨_, _, _, rfl, rfl, rfl, rfl⟩) rfl rfl fout_nil ?_
    rintro _ _ ⟨rfl, rfl⟩
    refine AtL.lenL Tryz.underlying41 (.inr ⟨_, _, _, rfl, rfl, rfl, rfl⟩) rfl rfl ?_
    refine AtL.nei (.inr ⟨_, _, _, rfl, rfl, rfl, rfl⟩) rfl rfl rfl ?_
    refine AtL.pickF (.inl rfl) rfl rfl rfl ?_
    refine AtL.move (.inl rfl) rfl rfl ?_
    refine AtL.move (.inr ⟨_, _, _, rfl, rfl, rfl, rfl⟩) rfl rfl ?_
    refine AtL.call tf_body12 (.inr ⟨_, _, _, rfl, rfl, rfl, rfl⟩) rfl rfl fpassed_nil ?_
    rintro _ _ ⟨rfl, rfl⟩
    refine AtL.lenL Tryz.underlying42 (.inr ⟨_, _, _, rfl, rfl, rfl, rfl⟩) rfl rfl ?_
    refine AtL.nei (.inr ⟨_, _, _, rfl, rfl, rfl, rfl⟩) rfl rfl rfl ?_
    refine AtL.pickF (.inl rfl) rfl rfl rfl ?_
    refine AtL.move (.inl rfl) rfl rfl ?_
    refine AtL.move (.inr ⟨_, _, _, rfl, rfl, rfl, rfl⟩) rfl rfl ?_
    refine AtL.call tf_body13 (.inr ⟨_, _, _, rfl, rfl, rfl, rfl⟩) rfl rfl finfo_nil ?_
    rintro _ _ ⟨rfl, rfl⟩
    refine AtL.build (cs := [.int .i64 0, .int .i64 0, .int .i64 0, .int .i64 0, .int .i64 0, .int .i64 0, .int .i64 0, .int .i64 0, .bool false]) tf_lay59 (.inr ⟨_, _, _, rfl, rfl, rfl, rfl⟩) rfl rfl rfl ?_
    refine AtL.ofIs (Do.bin (v := .bool false) rfl rfl (fun w => by kernel_rfl)) (.inr ⟨_, _, _, rfl, rfl, rfl, rfl⟩) rfl ?_
    refine AtL.pickF (.inl rfl) rfl rfl rfl ?_
    refine AtL.move (.inl rfl) rfl rfl ?_
    refine AtL.move (.inr ⟨_, _, _, rfl, rfl, rfl, rfl⟩) rfl rfl ?_
    refine AtL.call tf_body14 (.inr ⟨_, _, _, rfl, rfl, rfl, rfl⟩) rfl rfl fcounts_nil ?_
    rintro _ _ ⟨rfl, rfl⟩
    refine AtL.build (cs := [.int .i64 0, .int .i64 0, .int .i64 0, .int .i64 0, .int .i64 0, .int .i64 0]) tf_lay44 (.inr ⟨_, _, _, rfl, rfl, rfl, rfl⟩) rfl rfl rfl ?_
    refine AtL.ofIs (Do.bin (v := .bool false) rfl rfl (fun w => by kernel_rfl)) (.inr ⟨_, _, _, rfl, rfl, rfl, rfl⟩) rfl ?_
    refine AtL.pickF (.inl rfl) rfl rfl rfl ?_
    refine AtL.move (.inl rfl) rfl rfl ?_
    refine AtL.move (.inr ⟨_, _, _, rfl, rfl, rfl, rfl⟩) rfl rfl ?_
    refine AtL.pickF (.inl rfl) rfl rfl rfl ?_
    refine AtL.done ?_
    refine At.condF rfl ?_
    refine At.skip ?_
    refine At.inBlock ?_
    refine At.region ?_
    refine AtL.move (.inl rfl) rfl rfl ?_
    refine AtL.add (z := 1) (.inl rfl) rfl rfl rfl (by decide) ?_
    refine AtL.assign (.inl rfl) rfl rfl ?_
    refine AtL.done ?_
    refine At.again ?_
    refine At.seq ?_
    refine At.seq ?_
    refine At.region ?_
    refine AtL.move (.inl rfl) rfl rfl ?_
    refine AtL.lss (.inl rfl) rfl rfl rfl ?_
    refine AtL.done ?_
    refine At.condT rfl ?_
    refine At.skip ?_
    refine At.seq ?_
    refine At.block ?_
    refine At.seq ?_
    refine At.region ?_
    refine AtL.move (.inl rfl) rfl rfl ?_
    refine AtL.move (.inl rfl) rfl rfl ?_
    refine AtL.indexB 1 Tryz.underlying49 tf_sz28 (.inl rfl) rfl rfl rfl rfl rfl rfl ?_
    refine AtL.load tf_flat28 (.inl rfl) rfl rfl (Cell.own 1 0 rfl rfl rfl) ?_
    refine AtL.assign (.inl rfl) rfl rfl ?_
    refine AtL.done ?_
    refine At.seq ?_
    refine At.region ?_
    refine AtL.move (.inl rfl) rfl rfl ?_
    refine AtL.move (.inl rfl) rfl rfl ?_
    refine AtL.pick (H' := [(b6, .cells #[.slice none 0 0, .int .i64 0, .int .i64 0, .int .i64 0, .int .i64 0, .int .i64 0, .int .i64 0, .int .i64 0, .int .i64 0, .int .i64 0, .int .i64 0, .int .i64 0, .int .i64 0, .int .i64 0, .int .i64 0, .int .i64 0, .int .i64 0, .int .i64 0, .int .i64 0, .int .i64 0, .int .i64 0, .bool false, .pointer none, .pointer none, .pointer none, .pointer none, .pointer none, .map none, .map none, .map none, .int .i64 0, .slice none 0 0, .slice none 0 0, .int .i64 0, .int .i64 0, .int .i64 0, .int .i64 0, .int .i64 0, .int .i64 0, .nilFunc, .nilFunc, .nilFunc, .nilFunc, .nilFunc, .nilFunc, .nilFunc, .nilFunc, .nilFunc, .nilFunc, .nilFunc] 48 (0, 0))] :: [(b8, .cells #[.int .i64 0, .bool false, .int .i64 0, .int .i64 0, .int .i64 0, .bool false] 51 (0, 0))] :: [(b7, .cells #[.pointer none, .pointer (some ⟨b6, 0, none⟩)] 28 (0, 0))] :: s3 :: [(b1, .cells #[.int .i64 x.1, .int .i64 x.2.1, .int .i64 x.2.2.1, .int .i64 x.2.2.2.1, .int .i64 x.2.2.2.2.1, .int .i64 x.2.2.2.2.2.1, .slice x.2.2.2.2.2.2.A x.2.2.2.2.2.2.l.length x.2.2.2.2.2.2.C] 24 (0, 0))] :: H) [2, 0, 1, 3, 4] 5 rfl rfl ?_
    refine AtL.call tf_body9 (.inl rfl) rfl rfl fconn_zero ?_
    rintro _ _ ⟨rfl, rfl⟩
    refine AtL.move (.inl rfl) rfl rfl ?_
    refine AtL.extract (.inl rfl) rfl rfl rfl ?_
    refine AtL.extract (.inl rfl) rfl rfl rfl ?_
    refine AtL.alloc tf_zero51 (cs := #[.int .i64 0, .bool false, .int .i64 0, .int .i64 0, .int .i64 0, .bool false]) rfl (.inl rfl) rfl ?_
    intro b9
    refine AtL.store (H' := [(b9, .cells #[.int .i64 0, .bool false, .int .i64 0, .int .i64 0, .int .i64 0, .bool false] 51 (0, 0))] :: [(b6, .cells #[.slice none 0 0, .int .i64 0, .int .i64 0, .int .i64 0, .int .i64 0, .int .i64 0, .int .i64 0, .int .i64 0, .int .i64 0, .int .i64 0, .int .i64 0, .int .i64 0, .int .i64 0, .int .i64 0, .int .i64 0, .int .i64 0, .int .i64 0, .int .i64 0, .int .i64 0, .int .i64 0, .int .i64 0, .bool false, .pointer none, .pointer none, .pointer none, .pointer none, .pointer none, .map none, .map none, .map none, .int .i64 0, .slice none 0 0, .slice none 0 0, .int .i64 0, .int .i64 0, .int .i64 0, .int .i64 0, .int .i64 0, .int .i64 0, .nilFunc, .nilFunc, .nilFunc, .nilFunc, .nilFunc, .nilFunc, .nilFunc, .nilFunc, .nilFunc, .nilFunc, .nilFunc] 48 (0, 0))] :: [(b8, .cells #[.int .i64 0, .bool false, .int .i64 0, .int .i64 0, .int .i64 0, .bool false] 51 (0, 0))] :: [(b7, .cells #[.pointer none, .pointer (some ⟨b6, 0, none⟩)] 28 (0, 0))] :: s3 :: [(b1, .cells #[.int .i64 x.1, .int .i64 x.2.1, .int .i64 x.2.2.1, .int .i64 x.2.2.2.1, .int .i64 x.2.2.2.2.1, .int .i64 x.2.2.2.2.2.1, .slice x.2.2.2.2.2.2.A x.2.2.2.2.2.2.l.length x.2.2.2.2.2.2.C] 24 (0, 0))] :: H) 0 0 tf_sz51 (.inl rfl) rfl rfl rfl rfl rfl rfl rfl rfl rfl ?_
    refine AtL.assign (.inl rfl) rfl rfl ?_
    refine AtL.done ?_
    refine At.seq ?_
    refine At.region ?_
    refine AtL.move (.inl rfl) rfl rfl ?_
    refine AtL.loadN (cs := [.int .i64 x.1, .int .i64 x.2.1, .int .i64 x.2.2.1, .int .i64 x.2.2.2.1, .int .i64 x.2.2.2.2.1, .int .i64 x.2.2.2.2.2.1, .slice x.2.2.2.2.2.2.A x.2.2.2.2.2.2.l.length x.2.2.2.2.2.2.C]) tf_agg24 (.inl rfl) rfl rfl rfl (cellsOwn 5 0 0 rfl rfl rfl) ?_
    refine AtL.pick (H' := [(b6, .cells #[.slice none 0 0, .int .i64 0, .int .i64 0, .int .i64 0, .int .i64 0, .int .i64 0, .int .i64 0, .int .i64 0, .int .i64 0, .int .i64 0, .int .i64 0, .int .i64 0, .int .i64 0, .int .i64 0, .int .i64 0, .int .i64 0, .int .i64 0, .int .i64 0, .int .i64 0, .int .i64 0, .int .i64 0, .bool false, .pointer none, .pointer none, .pointer none, .pointer none, .pointer none, .map none, .map none, .map none, .int .i64 0, .slice none 0 0, .slice none 0 0, .int .i64 0, .int .i64 0, .int .i64 0, .int .i64 0, .int .i64 0, .int .i64 0, .nilFunc, .nilFunc, .nilFunc, .nilFunc, .nilFunc, .nilFunc, .nilFunc, .nilFunc, .nilFunc, .nilFunc, .nilFunc] 48 (0, 0))] :: [(b9, .cells #[.int .i64 0, .bool false, .int .i64 0, .int .i64 0, .int .i64 0, .bool false] 51 (0, 0))] :: [(b8, .cells #[.int .i64 0, .bool false, .int .i64 0, .int .i64 0, .int .i64 0, .bool false] 51 (0, 0))] :: [(b7, .cells #[.pointer none, .pointer (some ⟨b6, 0, none⟩)] 28 (0, 0))] :: s3 :: [(b1, .cells #[.int .i64 x.1, .int .i64 x.2.1, .int .i64 x.2.2.1, .int .i64 x.2.2.2.1, .int .i64 x.2.2.2.2.1, .int .i64 x.2.2.2.2.2.1, .slice x.2.2.2.2.2.2.A x.2.2.2.2.2.2.l.length x.2.2.2.2.2.2.C] 24 (0, 0))] :: H) [1, 0, 2, 3, 4, 5] 6 rfl rfl ?_
    refine AtL.call tf_body10 (.inl rfl) rfl rfl (fdo_zero (l := x.2.2.2.2.2.2.l)) ?_
    rintro _ _ ⟨rfl, rfl⟩
    refine AtL.nei (.inl rfl) rfl rfl rfl ?_
    refine AtL.move (.inl rfl) rfl rfl ?_
    refine AtL.move (.inr ⟨_, _, _, rfl, rfl, rfl, rfl⟩) rfl rfl ?_
    refine AtL.call tf_body11 (.inr ⟨_, _, _, rfl, rfl, rfl, rfl⟩) rfl rfl fout_zero ?_
    rintro _ _ ⟨rfl, rfl⟩
    refine AtL.lenL Tryz.underlying41 (.inr ⟨_, _, _, rfl, rfl, rfl, rfl⟩) rfl rfl ?_
    refine AtL.nei (.inr ⟨_, _, _, rfl, rfl, rfl, rfl⟩) rfl rfl rfl ?_
    refine AtL.pickF (.inl rfl) rfl rfl rfl ?_
    refine AtL.move (.inl rfl) rfl rfl ?_
    refine AtL.move (.inr ⟨_, _, _, rfl, rfl, rfl, rfl⟩) rfl rfl ?_
    refine AtL.call tf_body12 (.inr ⟨_, _, _, rfl, rfl, rfl, rfl⟩) rfl rfl fpassed_zero ?_
    rintro _ _ ⟨rfl, rfl⟩
    refine AtL.lenL Tryz.underlying42 (.inr ⟨_, _, _, rfl, rfl, rfl, rfl⟩) rfl rfl ?_
    refine AtL.nei (.inr ⟨_, _, _, rfl, rfl, rfl, rfl⟩) rfl rfl rfl ?_
    refine AtL.pickF (.inl rfl) rfl rfl rfl ?_
    refine AtL.move (.inl rfl) rfl rfl ?_
    refine AtL.move (.inr ⟨_, _, _, rfl, rfl, rfl, rfl⟩) rfl rfl ?_
    refine AtL.call tf_body13 (.inr ⟨_, _, _, rfl, rfl, rfl, rfl⟩) rfl rfl finfo_zero ?_
    rintro _ _ ⟨rfl, rfl⟩
    refine AtL.build (cs := [.int .i64 0, .int .i64 0, .int .i64 0, .int .i64 0, .int .i64 0, .int .i64 0, .int .i64 0, .int .i64 0, .bool false]) tf_lay59 (.inr ⟨_, _, _, rfl, rfl, rfl, rfl⟩) rfl rfl rfl ?_
    refine AtL.ofIs (Do.bin (v := .bool false) rfl rfl (fun w => by kernel_rfl)) (.inr ⟨_, _, _, rfl, rfl, rfl, rfl⟩) rfl ?_
    refine AtL.pickF (.inl rfl) rfl rfl rfl ?_
    refine AtL.move (.inl rfl) rfl rfl ?_
    refine AtL.move (.inr ⟨_, _, _, rfl, rfl, rfl, rfl⟩) rfl rfl ?_
    refine AtL.call tf_body14 (.inr ⟨_, _, _, rfl, rfl, rfl, rfl⟩) rfl rfl fcounts_zero ?_
    rintro _ _ ⟨rfl, rfl⟩
    refine AtL.build (cs := [.int .i64 0, .int .i64 0, .int .i64 0, .int .i64 0, .int .i64 0, .int .i64 0]) tf_lay44 (.inr ⟨_, _, _, rfl, rfl, rfl, rfl⟩) rfl rfl rfl ?_
    refine AtL.ofIs (Do.bin (v := .bool false) rfl rfl (fun w => by kernel_rfl)) (.inr ⟨_, _, _, rfl, rfl, rfl, rfl⟩) rfl ?_
    refine AtL.pickF (.inl rfl) rfl rfl rfl ?_
    refine AtL.move (.inl rfl) rfl rfl ?_
    refine AtL.move (.inr ⟨_, _, _, rfl, rfl, rfl, rfl⟩) rfl rfl ?_
    refine AtL.pickF (.inl rfl) rfl rfl rfl ?_
    refine AtL.done ?_
    refine At.condF rfl ?_
    refine At.skip ?_
    refine At.inBlock ?_
    refine At.region ?_
    refine AtL.move (.inl rfl) rfl rfl ?_
    refine AtL.add (z := 2) (.inl rfl) rfl rfl rfl (by decide) ?_
    refine AtL.assign (.inl rfl) rfl rfl ?_
    refine AtL.done ?_
    refine At.again ?_
    refine At.seq ?_
    refine At.seq ?_
    refine At.region ?_
    refine AtL.move (.inl rfl) rfl rfl ?_
    refine AtL.lss (.inl rfl) rfl rfl rfl ?_
    refine AtL.done ?_
    refine At.condF rfl ?_
    refine At.exit rfl ?_
    refine At.seq ?_
    refine At.region ?_
    refine AtL.call tf_body8 (.inl rfl) rfl rfl awake_any ?_
    rintro _ _ ⟨rfl, rfl⟩
    refine AtL.assign (.inl rfl) rfl rfl ?_
    refine AtL.done ?_
    refine At.pick (H' := H) [] 6 rfl rfl ?_
    exact At.ret Tryz.func3 rfl rfl (⟨rfl, rfl⟩)
end Go.Proofs.YtdncjmehhahidaaGreatDoor
