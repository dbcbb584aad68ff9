/- The parts of the proof that this law needs, in the order of their texts: the logic of walks, the plain laws, the walks. -/
import Derived.Test.YtbfabhdfmoiabaaGreatDoorQDC
namespace Go.Proofs.YtbfabhdfmoiabaaGreatDoor
set_option linter.unusedVariables false
set_option linter.unusedSimpArgs false
set_option maxRecDepth 100000
structure It where
  st : Int
  m : List UInt8
  t : List UInt8
  minor : Int
  f : Sl tyField 173
  z : Sl tyB 5
  keep : Bool
def It.v (x : It) : (Int × List UInt8 × List UInt8 × Int × Vs (List UInt8 × List UInt8) × Vs UInt8 × Bool) := (x.st, x.m, x.t, x.minor, x.f.v, x.z.v, x.keep)
inductive Rph where
  | over
  | head
  | rest (m t : List UInt8) (minor : Int) (f : Sl tyField 173) (keep : Bool) (long body : Nat)
def Rph.s : Rph → Seg
  | .rest _ _ _ f _ _ _ => f.s
  | _ => []
def headFn (r : Nat) : Value := .func (.func 48) #[.pointer (some ⟨r, 0, none⟩)] #[]
def restFn (r : Nat) : Value := .func (.func 59) #[.pointer (some ⟨r, 0, none⟩)] #[]
def rdC (r : Nat) (ph : Rph) (x : Sl tyB 5) (o : Value) (g : Nat → Value) : Seg :=
  match ph with
  | .over => [(r, .cells #[.bool true, .slice none 0 0, .nilFunc, g 0, g 1, g 2, g 3, g 4, g 5, g 6, g 7, g 8, o] 133 (0, 0))]
  | .head => [(r, .cells #[.bool true, .slice x.A x.l.length x.C, headFn r, g 0, g 1, g 2, g 3, g 4, g 5, g 6, g 7, g 8, o] 133 (0, 0))]
  | .rest m t minor f keep long body => [(r, .cells #[.bool true, .slice x.A x.l.length x.C, restFn r, int 200, str m, str t, int minor, .slice f.A f.l.length f.C, .slice none 0 0, .bool keep, int (long : Int), int (body : Int), o] 133 (0, 0))]
end Go.Proofs.YtbfabhdfmoiabaaGreatDoor
namespace Go.Proofs.YtbfabhdfmoiabaaGreatDoor
open Go.RowKit (Below)
set_option linter.unusedVariables false
set_option linter.unusedSimpArgs false
def AllM : List Nat → (Nat → Prop) → Prop
  | [], _ => True
  | e :: es, p => p e ∧ AllM es p
theorem AllM.get {p : Nat → Prop} : ∀ {fs : List Nat}, AllM fs p → ∀ e ∈ fs, p e
  | _ :: _, h, e, he => by
    rcases List.mem_cons.1 he with rfl | he
    · exact h.1
    · exact AllM.get h.2 e he
section
variable {X : Pt} {k : List Item} {E0 : Env} {ds : List Deferred} {ops : Array Oper}
end
section
variable {X : Pt} {k : List Item} {E : Env} {ds : List Deferred} {H : List Seg} {id : Nat} {rops : Array Oper}
end
end Go.Proofs.YtbfabhdfmoiabaaGreatDoor
namespace Go.Proofs.YtbfabhdfmoiabaaGreatDoor
set_option linter.unusedVariables false
set_option linter.unusedSimpArgs false
set_option maxRecDepth 100000
set_option maxHeartbeats 400000 in
theorem rdnew_ok {w0 : World} {base : Nat} {H : List Seg}  :
    SCalls Tryz.prog 43 [] w0 base (H) (fun v H' => ∃ (r : Nat) (g : Nat → Value), v = .pointer (some ⟨r, 0, none⟩) ∧ H' = rdC r .head Sl.nil (.slice none 0 0) g :: H) := by
  refine SCalls.of_walk (n := 10) Tryz.func43 rfl rfl rfl fun cs => ?_
  refine At.seq ?_
  refine At.region ?_
  refine AtL.assign (.inl rfl) rfl rfl ?_
  refine AtL.done ?_
  refine At.seq ?_
  refine At.region ?_
  refine AtL.build (cs := [.bool true, .slice none 0 0, .nilFunc, .int .i64 0, str [], str [], .int .i64 0, .slice none 0 0, .slice none 0 0, .bool false, .int .i64 0, .int .i64 0, .slice none 0 0]) tf_lay133 (.inl rfl) rfl rfl rfl ?_
  refine AtL.box (cs := #[.bool true, .slice none 0 0, .nilFunc, .int .i64 0, str [], str [], .int .i64 0, .slice none 0 0, .slice none 0 0, .bool false, .int .i64 0, .int .i64 0, .slice none 0 0]) rfl (.inl rfl) rfl rfl ?_
  intro b1
  refine AtL.assign (.inl rfl) rfl rfl ?_
  refine AtL.done ?_
  refine At.seq ?_
  refine At.region ?_
  refine AtL.move (.inl rfl) rfl rfl ?_
  refine AtL.move (.inl rfl) rfl rfl ?_
  refine AtL.makeFunc (.inl rfl) rfl rfl rfl ?_
  refine AtL.nilCheck (.inl rfl) rfl rfl ?_
  refine AtL.fieldAddrB tf_fo133_2 (.inl rfl) rfl rfl rfl ?_
  refine AtL.store (H' := [(b1, .cells #[.bool true, .slice none 0 0, .func (.func 48) #[.pointer (some ⟨b1, 0, none⟩)] #[], .int .i64 0, str [], str [], .int .i64 0, .slice none 0 0, .slice none 0 0, .bool false, .int .i64 0, .int .i64 0, .slice none 0 0] 133 (0, 0))] :: H) 0 0 tf_sz24 (.inl rfl) rfl rfl rfl rfl rfl rfl rfl rfl rfl ?_
  refine AtL.done ?_
  refine At.seq ?_
  refine At.region ?_
  refine AtL.move (.inl rfl) rfl rfl ?_
  refine AtL.assign (.inl rfl) rfl rfl ?_
  refine AtL.done ?_
  exact At.ret Tryz.func43 rfl rfl (⟨b1, fun | 0 => .int .i64 0 | 1 => str [] | 2 => str [] | 3 => .int .i64 0 | 4 => .slice none 0 0 | 5 => .slice none 0 0 | 6 => .bool false | 7 => .int .i64 0 | _ => .int .i64 0, rfl, rfl⟩)
def Rph.isOver : Rph → Bool
  | .over => true
  | _ => false
end Go.Proofs.YtbfabhdfmoiabaaGreatDoor
namespace Go.Proofs.YtbfabhdfmoiabaaGreatDoor
set_option linter.unusedVariables false
set_option linter.unusedSimpArgs false
set_option maxRecDepth 100000
def okPh : Rph → List UInt8 → Prop
  | .over, _ => True
  | .head, b => headF14 b = .wait
  | .rest m t minor f keep long body, b => headF14 b = .ready ⟨m, t, minor, f.l⟩ long body keep ∧ b.length < long + body
theorem flat_merge3 (a b c : Seg) (H : List Seg) : (a :: b :: c :: H).flatten.Perm ((a ++ (b ++ c)) :: H).flatten := by simp
end Go.Proofs.YtbfabhdfmoiabaaGreatDoor
namespace Go.Proofs.YtbfabhdfmoiabaaGreatDoor
set_option linter.unusedVariables false
set_option linter.unusedSimpArgs false
set_option maxRecDepth 100000
theorem rdnew2 {w0 : World} {base : Nat} {H : List Seg} : SCalls Tryz.prog 43 [] w0 base H (fun v H' => ∃ (r : Nat) (ph : Rph) (x : Sl tyB 5) (g : Nat → Value), ph = .head ∧ x = Sl.nil ∧ v = .pointer (some ⟨r, 0, none⟩) ∧ H' = ph.s :: x.s :: rdC r ph x (.slice none 0 0) g :: H) := by
  refine rdnew_ok.flatR ?_
  rintro v H1 ⟨r, g, rfl, rfl⟩
  exact ⟨_, by show (rdC r .head Sl.nil (.slice none 0 0) g :: H).flatten.Perm ([] :: [] :: rdC r .head Sl.nil (.slice none 0 0) g :: H).flatten; simp, r, .head, Sl.nil, g, rfl, rfl, rfl, rfl⟩
structure RdOk (ph : Rph) (x : Sl tyB 5) (b : List UInt8) (o : Bool) : Prop where
  ok : okPh ph x.l
  over : ph.isOver = o
  kept : o = false → x.l = b
theorem RdOk.new {ph : Rph} {x : Sl tyB 5} (h1 : ph = .head) (h2 : x = Sl.nil) : RdOk ph x [] false := by
  subst h1; subst h2
  exact ⟨by show headF14 [] = .wait; rw [headF14]; rfl, rfl, fun _ => rfl⟩
end Go.Proofs.YtbfabhdfmoiabaaGreatDoor
namespace Go.Proofs.YtbfabhdfmoiabaaGreatDoor
set_option linter.unusedVariables false
set_option linter.unusedSimpArgs false
set_option maxRecDepth 100000
set_option maxHeartbeats 400000 in
theorem cnew_ok {w0 : World} {base : Nat} {H : List Seg} {most idle buffer : Int} (h1 : 1 ≤ most ∧ most ≤ 256) (h2 : 1 ≤ idle ∧ idle ≤ 1073741824) (h3 : 512 ≤ buffer ∧ buffer ≤ 1048576) :
    SCalls Tryz.prog 9 [.int .i64 most, .int .i64 idle, .int .i64 buffer] w0 base (H) (fun v H' => ∃ c mb : Nat, v = .tuple #[.pointer (some ⟨c, 0, none⟩), int 0] ∧ H' = [(c, .cells #[.int .i64 most, .int .i64 idle, .int .i64 buffer, .int .i64 0, .map (some mb)] 64 (0, 0))] :: [(mb, mapG kyI Lk.v [] 0)] :: H) := by
  refine SCalls.of_walk (n := 36) Tryz.func9 rfl rfl rfl fun cs => ?_
  refine At.seq ?_
  refine At.region ?_
  refine AtL.assign (.inl rfl) rfl rfl ?_
  refine AtL.assign (.inl rfl) rfl rfl ?_
  refine AtL.done ?_
  refine At.seq ?_
  refine At.seq ?_
  refine At.region ?_
  refine AtL.move (.inl rfl) rfl rfl ?_
  refine AtL.lss (.inl rfl) rfl rfl rfl ?_
  refine AtL.move (.inl rfl) rfl rfl ?_
  refine AtL.join 3 (E' := [(13, .bool (decide (((most : Int) < 1) ∨ (256 < (most : Int))))), (0, .int .i64 most), (1, .int .i64 idle), (2, .int .i64 buffer)]) (H' := H) (fun J => ?_) ?_
  · refine AtL.split (t := 10) rfl ?_ ?_
    · intro hs10
      have hs10 : (most : Int) < 1 := of_decide_eq_true hs10
      refine AtL.skipped rfl rfl rfl rfl rfl rfl ?_
      refine AtL.skipped rfl rfl rfl rfl rfl rfl ?_
      refine AtL.pickT (.inl rfl) rfl rfl rfl ?_
      exact J _ (by exact ⟨(boolIs (by clear J; first | (simp [hs10]; done) | (simp_all; done) | grind)), rfl, rfl, rfl, trivial⟩)
    · intro hs10
      have hs10 : ¬ ((most : Int) < 1) := of_decide_eq_false hs10
      refine AtL.move (.inr ⟨_, _, _, rfl, rfl, rfl, rfl⟩) rfl rfl ?_
      refine AtL.gtr (.inr ⟨_, _, _, rfl, rfl, rfl, rfl⟩) rfl rfl rfl ?_
      refine AtL.pickF (.inl rfl) rfl rfl rfl ?_
      exact J _ (by exact ⟨(boolIs (by clear J; first | (simp [hs10]; done) | (simp_all; done) | grind)), rfl, rfl, rfl, trivial⟩)
  · skip
    refine AtL.move (.inl rfl) rfl rfl ?_
    refine AtL.join 3 (E' := [(17, .bool (decide ((((most : Int) < 1) ∨ (256 < (most : Int))) ∨ ((idle : Int) < 1)))), (0, .int .i64 most), (1, .int .i64 idle), (2, .int .i64 buffer)]) (H' := H) (fun J => ?_) ?_
    · refine AtL.split (t := 14) rfl ?_ ?_
      · intro hs14
        have hs14 : ((most : Int) < 1) ∨ (256 < (most : Int)) := of_decide_eq_true hs14
        refine AtL.skipped rfl rfl rfl rfl rfl rfl ?_
        refine AtL.skipped rfl rfl rfl rfl rfl rfl ?_
        refine AtL.pickT (.inl rfl) rfl rfl rfl ?_
        exact J _ (by exact ⟨(boolIs (by clear J; first | (simp [hs14]; done) | (simp_all; done) | grind)), rfl, rfl, rfl, trivial⟩)
      · intro hs14
        have hs14 : ¬ (((most : Int) < 1) ∨ (256 < (most : Int))) := of_decide_eq_false hs14
        refine AtL.move (.inr ⟨_, _, _, rfl, rfl, rfl, rfl⟩) rfl rfl ?_
        refine AtL.lss (.inr ⟨_, _, _, rfl, rfl, rfl, rfl⟩) rfl rfl rfl ?_
        refine AtL.pickF (.inl rfl) rfl rfl rfl ?_
        exact J _ (by exact ⟨(boolIs (by clear J; first | (simp [hs14]; done) | (simp_all; done) | grind)), rfl, rfl, rfl, trivial⟩)
    · skip
      refine AtL.move (.inl rfl) rfl rfl ?_
      refine AtL.join 3 (E' := [(21, .bool (decide (((((most : Int) < 1) ∨ (256 < (most : Int))) ∨ ((idle : Int) < 1)) ∨ (1073741824 < (idle : Int))))), (0, .int .i64 most), (1, .int .i64 idle), (2, .int .i64 buffer)]) (H' := H) (fun J => ?_) ?_
      · refine AtL.split (t := 18) rfl ?_ ?_
        · intro hs18
          have hs18 : (((most : Int) < 1) ∨ (256 < (most : Int))) ∨ ((idle : Int) < 1) := of_decide_eq_true hs18
          refine AtL.skipped rfl rfl rfl rfl rfl rfl ?_
          refine AtL.skipped rfl rfl rfl rfl rfl rfl ?_
          refine AtL.pickT (.inl rfl) rfl rfl rfl ?_
          exact J _ (by exact ⟨(boolIs (by clear J; first | (simp [hs18]; done) | (simp_all; done) | grind)), rfl, rfl, rfl, trivial⟩)
        · intro hs18
          have hs18 : ¬ ((((most : Int) < 1) ∨ (256 < (most : Int))) ∨ ((idle : Int) < 1)) := of_decide_eq_false hs18
          refine AtL.move (.inr ⟨_, _, _, rfl, rfl, rfl, rfl⟩) rfl rfl ?_
          refine AtL.gtr (.inr ⟨_, _, _, rfl, rfl, rfl, rfl⟩) rfl rfl rfl ?_
          refine AtL.pickF (.inl rfl) rfl rfl rfl ?_
          exact J _ (by exact ⟨(boolIs (by clear J; first | (simp [hs18]; done) | (simp_all; done) | grind)), rfl, rfl, rfl, trivial⟩)
      · skip
        refine AtL.move (.inl rfl) rfl rfl ?_
        refine AtL.join 3 (E' := [(25, .bool (decide ((((((most : Int) < 1) ∨ (256 < (most : Int))) ∨ ((idle : Int) < 1)) ∨ (1073741824 < (idle : Int))) ∨ ((buffer : Int) < 512)))), (0, .int .i64 most), (1, .int .i64 idle), (2, .int .i64 buffer)]) (H' := H) (fun J => ?_) ?_
        · refine AtL.split (t := 22) rfl ?_ ?_
          · intro hs22
            have hs22 : ((((most : Int) < 1) ∨ (256 < (most : Int))) ∨ ((idle : Int) < 1)) ∨ (1073741824 < (idle : Int)) := of_decide_eq_true hs22
            refine AtL.skipped rfl rfl rfl rfl rfl rfl ?_
            refine AtL.skipped rfl rfl rfl rfl rfl rfl ?_
            refine AtL.pickT (.inl rfl) rfl rfl rfl ?_
            exact J _ (by exact ⟨(boolIs (by clear J; first | (simp [hs22]; done) | (simp_all; done) | grind)), rfl, rfl, rfl, trivial⟩)
          · intro hs22
            have hs22 : ¬ (((((most : Int) < 1) ∨ (256 < (most : Int))) ∨ ((idle : Int) < 1)) ∨ (1073741824 < (idle : Int))) := of_decide_eq_false hs22
            refine AtL.move (.inr ⟨_, _, _, rfl, rfl, rfl, rfl⟩) rfl rfl ?_
            refine AtL.lss (.inr ⟨_, _, _, rfl, rfl, rfl, rfl⟩) rfl rfl rfl ?_
            refine AtL.pickF (.inl rfl) rfl rfl rfl ?_
            exact J _ (by exact ⟨(boolIs (by clear J; first | (simp [hs22]; done) | (simp_all; done) | grind)), rfl, rfl, rfl, trivial⟩)
        · skip
          refine AtL.move (.inl rfl) rfl rfl ?_
          refine AtL.join 3 (E' := [(29, .bool (decide (((((((most : Int) < 1) ∨ (256 < (most : Int))) ∨ ((idle : Int) < 1)) ∨ (1073741824 < (idle : Int))) ∨ ((buffer : Int) < 512)) ∨ (1048576 < (buffer : Int))))), (0, .int .i64 most), (1, .int .i64 idle), (2, .int .i64 buffer)]) (H' := H) (fun J => ?_) ?_
          · refine AtL.split (t := 26) rfl ?_ ?_
            · intro hs26
              have hs26 : (((((most : Int) < 1) ∨ (256 < (most : Int))) ∨ ((idle : Int) < 1)) ∨ (1073741824 < (idle : Int))) ∨ ((buffer : Int) < 512) := of_decide_eq_true hs26
              refine AtL.skipped rfl rfl rfl rfl rfl rfl ?_
              refine AtL.skipped rfl rfl rfl rfl rfl rfl ?_
              refine AtL.pickT (.inl rfl) rfl rfl rfl ?_
              exact J _ (by exact ⟨(boolIs (by clear J; first | (simp [hs26]; done) | (simp_all; done) | grind)), rfl, rfl, rfl, trivial⟩)
            · intro hs26
              have hs26 : ¬ ((((((most : Int) < 1) ∨ (256 < (most : Int))) ∨ ((idle : Int) < 1)) ∨ (1073741824 < (idle : Int))) ∨ ((buffer : Int) < 512)) := of_decide_eq_false hs26
              refine AtL.move (.inr ⟨_, _, _, rfl, rfl, rfl, rfl⟩) rfl rfl ?_
              refine AtL.gtr (.inr ⟨_, _, _, rfl, rfl, rfl, rfl⟩) rfl rfl rfl ?_
              refine AtL.pickF (.inl rfl) rfl rfl rfl ?_
              exact J _ (by exact ⟨(boolIs (by clear J; first | (simp [hs26]; done) | (simp_all; done) | grind)), rfl, rfl, rfl, trivial⟩)
          · skip
            refine AtL.done ?_
            refine At.cond rfl ?_ ?_
            · intro hc1
              have hc1 : ((((((most : Int) < 1) ∨ (256 < (most : Int))) ∨ ((idle : Int) < 1)) ∨ (1073741824 < (idle : Int))) ∨ ((buffer : Int) < 512)) ∨ (1048576 < (buffer : Int)) := of_decide_eq_true hc1
              exfalso; omega
            · intro hc1
              have hc1 : ¬ (((((((most : Int) < 1) ∨ (256 < (most : Int))) ∨ ((idle : Int) < 1)) ∨ (1073741824 < (idle : Int))) ∨ ((buffer : Int) < 512)) ∨ (1048576 < (buffer : Int))) := of_decide_eq_false hc1
              refine At.skip ?_
              refine At.seq ?_
              refine At.region ?_
              refine AtL.move (.inl rfl) rfl rfl ?_
              refine AtL.move (.inl rfl) rfl rfl ?_
              refine AtL.move (.inl rfl) rfl rfl ?_
              refine AtL.makeMapG kyI Lk.v (.inl rfl) rfl ?_
              intro b1
              refine AtL.build (cs := [.int .i64 most, .int .i64 idle, .int .i64 buffer, .int .i64 0, .map (some b1)]) tf_lay64 (.inl rfl) rfl rfl rfl ?_
              refine AtL.box (cs := #[.int .i64 most, .int .i64 idle, .int .i64 buffer, .int .i64 0, .map (some b1)]) rfl (.inl rfl) rfl rfl ?_
              intro b2
              refine AtL.assign (.inl rfl) rfl rfl ?_
              refine AtL.assign (.inl rfl) rfl rfl ?_
              refine AtL.done ?_
              exact At.ret Tryz.func9 rfl rfl (⟨_, _, rfl, rfl⟩)
set_option maxHeartbeats 400000 in
theorem onew_ok {w0 : World} {base : Nat} {H : List Seg}  :
    SCalls Tryz.prog 42 [.int .i64 16] w0 base (H) (fun v H' => ∃ wb mb : Nat, v = .tuple #[.pointer (some ⟨wb, 0, none⟩), int 0] ∧ H' = [(wb, .cells #[int 16, int 1, int 1, .map (some mb)] 128 (0, 0))] :: [(mb, mapG kyI tvB ([] : List (Int × Sl tyB 5 × Nat)) 0)] :: H) := by
  refine SCalls.of_walk (n := 14) Tryz.func42 rfl rfl rfl fun cs => ?_
  refine At.seq ?_
  refine At.region ?_
  refine AtL.assign (.inl rfl) rfl rfl ?_
  refine AtL.assign (.inl rfl) rfl rfl ?_
  refine AtL.done ?_
  refine At.seq ?_
  refine At.seq ?_
  refine At.region ?_
  refine AtL.move (.inl rfl) rfl rfl ?_
  refine AtL.lss (.inl rfl) rfl rfl rfl ?_
  refine AtL.move (.inl rfl) rfl rfl ?_
  refine AtL.move (.inr ⟨_, _, _, rfl, rfl, rfl, rfl⟩) rfl rfl ?_
  refine AtL.gtr (.inr ⟨_, _, _, rfl, rfl, rfl, rfl⟩) rfl rfl rfl ?_
  refine AtL.pickF (.inl rfl) rfl rfl rfl ?_
  refine AtL.done ?_
  refine At.condF rfl ?_
  refine At.skip ?_
  refine At.seq ?_
  refine At.region ?_
  refine AtL.move (.inl rfl) rfl rfl ?_
  refine AtL.makeMapG kyI tvB (.inl rfl) rfl ?_
  intro b1
  refine AtL.build (cs := [.int .i64 16, .int .i64 1, .int .i64 1, .map (some b1)]) tf_lay128 (.inl rfl) rfl rfl rfl ?_
  refine AtL.box (cs := #[.int .i64 16, .int .i64 1, .int .i64 1, .map (some b1)]) rfl (.inl rfl) rfl rfl ?_
  intro b2
  refine AtL.assign (.inl rfl) rfl rfl ?_
  refine AtL.assign (.inl rfl) rfl rfl ?_
  refine AtL.done ?_
  exact At.ret Tryz.func42 rfl rfl (⟨_, _, rfl, rfl⟩)
set_option maxHeartbeats 400000 in
theorem open_str {w0 : World} {base : Nat} {H : List Seg} {client wh bf : Int} {sd : Bool} :
    SCalls Tryz.prog 33 [.int .i64 1, .agg #[.nilIface, .bool sd, .int .i64 client, .int .i64 wh, .int .i64 bf, .slice none 0 0, .bool false, .bool false]] w0 base (H) (fun v H' => ∃ x : Str, x.p = ⟨⟨sd, [], false, false, false, false, false⟩, sd, client, wh, bf, [], false, [], false⟩ ∧ x.ok ∧ x.y.l = [] ∧ v = .iface 106 (.pointer (some ⟨x.b, 0, none⟩)) ∧ H' = [(x.b, .cells #[x.ch.v, .bool x.sd, .int .i64 x.client, .int .i64 x.wh, .int .i64 x.buffer, .slice x.wait.A x.wait.l.length x.wait.C, .bool x.closing, .bool false, .pointer (some ⟨x.r, 0, none⟩)] 108 (0, 0))] :: [(x.r, .cells #[.int .i64 65535, .bool x.br, .slice x.y.A x.y.l.length x.y.C, .int .i64 (x.off : Int), .int .i8 x.lr, .int .i64 x.e] 125 (0, 0))] :: x.ch.s :: x.wait.s :: x.y.s :: H) := by
  refine SCalls.of_walk (n := 36) Tryz.func33 rfl rfl rfl fun cs => ?_
  refine At.seq ?_
  refine At.region ?_
  refine AtL.box (cs := #[.nilIface, .bool sd, .int .i64 client, .int .i64 wh, .int .i64 bf, .slice none 0 0, .bool false, .bool false]) rfl (.inl rfl) rfl rfl ?_
  intro b1
  refine AtL.assign (.inl rfl) rfl rfl ?_
  refine AtL.done ?_
  refine At.seq ?_
  refine At.region ?_
  refine AtL.call tf_body11 (.inl rfl) rfl rfl plain_made ?_
  rintro _ _ ⟨ch2, hch3, rfl, rfl⟩
  refine AtL.fieldAddrB tf_fo80_0 (.inl rfl) rfl rfl rfl ?_
  refine AtL.store (H' := ch2.s :: [(b1, .cells #[ch2.v, .bool sd, .int .i64 client, .int .i64 wh, .int .i64 bf, .slice none 0 0, .bool false, .bool false] 80 (0, 0))] :: H) 1 0 tf_sz32 (.inl rfl) rfl rfl rfl rfl rfl rfl rfl rfl rfl ?_
  refine AtL.done ?_
  refine At.seq ?_
  refine At.seq ?_
  refine At.region ?_
  refine AtL.fieldAddrB tf_fo80_1 (.inl rfl) rfl rfl rfl ?_
  refine AtL.load tf_flat4 (.inl rfl) rfl rfl (Cell.own 1 0 rfl rfl rfl) ?_
  refine AtL.done ?_
  refine At.cond rfl ?_ ?_
  · intro hc1
    have hc1 : sd = true := hc1
    refine At.region ?_
    refine AtL.call tf_body12 (.inl rfl) rfl rfl sealed_made ?_
    rintro _ _ ⟨ch4, hch5, rfl, rfl⟩
    refine AtL.fieldAddrB tf_fo80_0 (.inl rfl) rfl rfl rfl ?_
    refine AtL.store (H' := ch4.s :: ch2.s :: [(b1, .cells #[ch4.v, .bool sd, .int .i64 client, .int .i64 wh, .int .i64 bf, .slice none 0 0, .bool false, .bool false] 80 (0, 0))] :: H) 2 0 tf_sz32 (.inl rfl) rfl rfl rfl rfl rfl rfl rfl rfl rfl ?_
    refine AtL.done ?_
    refine At.seq ?_
    refine At.seq ?_
    refine At.region ?_
    refine AtL.move (.inl rfl) rfl rfl ?_
    refine AtL.eqi (.inl rfl) rfl rfl rfl ?_
    refine AtL.done ?_
    refine At.condT rfl ?_
    refine At.seq ?_
    refine At.region ?_
    refine AtL.call tf_body41 (.inl rfl) rfl rfl (new_ok 65535 (by omega)) ?_
    rintro _ _ ⟨b6, rfl, rfl⟩
    refine AtL.move (.inl rfl) rfl rfl ?_
    refine AtL.extract (.inl rfl) rfl rfl rfl ?_
    refine AtL.extract (.inl rfl) rfl rfl rfl ?_
    refine AtL.assign (.inl rfl) rfl rfl ?_
    refine AtL.assign (.inl rfl) rfl rfl ?_
    refine AtL.done ?_
    refine At.seq ?_
    refine At.region ?_
    refine AtL.loadN (cs := [ch4.v, .bool sd, .int .i64 client, .int .i64 wh, .int .i64 bf, .slice none 0 0, .bool false, .bool false]) tf_agg80 (.inl rfl) rfl rfl rfl (cellsOwn 3 0 0 rfl rfl rfl) ?_
    refine AtL.move (.inl rfl) rfl rfl ?_
    refine AtL.build (cs := [ch4.v, .bool sd, .int .i64 client, .int .i64 wh, .int .i64 bf, .slice none 0 0, .bool false, .bool false, .pointer (some ⟨b6, 0, none⟩)]) tf_lay108 (.inl rfl) rfl rfl rfl ?_
    refine AtL.box (cs := #[ch4.v, .bool sd, .int .i64 client, .int .i64 wh, .int .i64 bf, .slice none 0 0, .bool false, .bool false, .pointer (some ⟨b6, 0, none⟩)]) rfl (.inl rfl) rfl rfl ?_
    intro b7
    refine AtL.makeIface Tryz.underlying106 rfl (.inl rfl) rfl rfl ?_
    refine AtL.assign (.inl rfl) rfl rfl ?_
    refine AtL.done ?_
    refine At.nil ?_
    refine At.nil ?_
    refine At.pick (H' := [(b7, .cells #[ch4.v, .bool sd, .int .i64 client, .int .i64 wh, .int .i64 bf, .slice none 0 0, .bool false, .bool false, .pointer (some ⟨b6, 0, none⟩)] 108 (0, 0))] :: [(b6, .cells #[.int .i64 65535, .bool false, .slice none 0 0, .int .i64 0, .int .i8 0, .int .i64 0] 125 (0, 0))] :: ch4.s :: [] :: [] :: H) [2, 3, 4, 0, 1] 7 rfl rfl ?_
    exact At.ret Tryz.func33 rfl rfl (⟨(⟨b7, ch4, sd, client, wh, bf, Sl.nil, false, b6, Sl.nil, 0, 0, 0, false⟩ : Str), by rw [(show sd = true from hc1)]; simp only [Str.p, hch5]; rfl, ⟨Nat.le_refl _, fun _ => rfl⟩, rfl, rfl, rfl⟩)
  · intro hc1
    have hc1 : sd = false := hc1
    refine At.skip ?_
    refine At.seq ?_
    refine At.seq ?_
    refine At.region ?_
    refine AtL.move (.inl rfl) rfl rfl ?_
    refine AtL.eqi (.inl rfl) rfl rfl rfl ?_
    refine AtL.done ?_
    refine At.condT rfl ?_
    refine At.seq ?_
    refine At.region ?_
    refine AtL.call tf_body41 (.inl rfl) rfl rfl (new_ok 65535 (by omega)) ?_
    rintro _ _ ⟨b8, rfl, rfl⟩
    refine AtL.move (.inl rfl) rfl rfl ?_
    refine AtL.extract (.inl rfl) rfl rfl rfl ?_
    refine AtL.extract (.inl rfl) rfl rfl rfl ?_
    refine AtL.assign (.inl rfl) rfl rfl ?_
    refine AtL.assign (.inl rfl) rfl rfl ?_
    refine AtL.done ?_
    refine At.seq ?_
    refine At.region ?_
    refine AtL.loadN (cs := [ch2.v, .bool sd, .int .i64 client, .int .i64 wh, .int .i64 bf, .slice none 0 0, .bool false, .bool false]) tf_agg80 (.inl rfl) rfl rfl rfl (cellsOwn 2 0 0 rfl rfl rfl) ?_
    refine AtL.move (.inl rfl) rfl rfl ?_
    refine AtL.build (cs := [ch2.v, .bool sd, .int .i64 client, .int .i64 wh, .int .i64 bf, .slice none 0 0, .bool false, .bool false, .pointer (some ⟨b8, 0, none⟩)]) tf_lay108 (.inl rfl) rfl rfl rfl ?_
    refine AtL.box (cs := #[ch2.v, .bool sd, .int .i64 client, .int .i64 wh, .int .i64 bf, .slice none 0 0, .bool false, .bool false, .pointer (some ⟨b8, 0, none⟩)]) rfl (.inl rfl) rfl rfl ?_
    intro b9
    refine AtL.makeIface Tryz.underlying106 rfl (.inl rfl) rfl rfl ?_
    refine AtL.assign (.inl rfl) rfl rfl ?_
    refine AtL.done ?_
    refine At.nil ?_
    refine At.nil ?_
    refine At.pick (H' := [(b9, .cells #[ch2.v, .bool sd, .int .i64 client, .int .i64 wh, .int .i64 bf, .slice none 0 0, .bool false, .bool false, .pointer (some ⟨b8, 0, none⟩)] 108 (0, 0))] :: [(b8, .cells #[.int .i64 65535, .bool false, .slice none 0 0, .int .i64 0, .int .i8 0, .int .i64 0] 125 (0, 0))] :: ch2.s :: [] :: [] :: H) [2, 3, 4, 0, 1] 6 rfl rfl ?_
    exact At.ret Tryz.func33 rfl rfl (⟨(⟨b9, ch2, sd, client, wh, bf, Sl.nil, false, b8, Sl.nil, 0, 0, 0, false⟩ : Str), by rw [(show sd = false from (by simpa using hc1))]; simp only [Str.p, hch3]; rfl, ⟨Nat.le_refl _, fun _ => rfl⟩, rfl, rfl, rfl⟩)
set_option maxHeartbeats 400000 in
theorem open_req {w0 : World} {base : Nat} {H : List Seg} {client wh bf : Int} {sd : Bool} :
    SCalls Tryz.prog 33 [.int .i64 2, .agg #[.nilIface, .bool sd, .int .i64 client, .int .i64 wh, .int .i64 bf, .slice none 0 0, .bool false, .bool false]] w0 base (H) (fun v H' => ∃ (x : Req) (ph : Rph) (y : Sl tyB 5) (g : Nat → Value), x.hs = (ph.s ++ (y.s ++ rdC x.hr ph y (.slice none 0 0) g)) ∧ RdOk ph y [] false ∧ x.ch.p = ⟨sd, [], false, false, false, false, false⟩ ∧ x.sd = sd ∧ x.client = client ∧ x.wh = wh ∧ x.buffer = bf ∧ (x.wait = Sl.nil ∧ x.closing = false ∧ x.first = 1 ∧ x.next = 1 ∧ x.dn = [] ∧ x.last = 0 ∧ x.behind = 0) ∧ v = .iface 112 (.pointer (some ⟨x.b, 0, none⟩)) ∧ H' = [(x.b, .cells #[x.ch.v, .bool x.sd, .int .i64 x.client, .int .i64 x.wh, .int .i64 x.buffer, .slice x.wait.A x.wait.l.length x.wait.C, .bool x.closing, .bool false, .pointer (some ⟨x.hr, 0, none⟩), .pointer (some ⟨x.wb, 0, none⟩), .int .i64 x.last, .int .i64 x.behind] 116 (0, 0))] :: [(x.wb, .cells #[.int .i64 16, .int .i64 x.first, .int .i64 x.next, .map (some x.mb)] 128 (0, 0))] :: [(x.mb, mapG kyI tvB x.dn x.n)] :: x.ch.s :: x.wait.s :: x.hs :: x.dn.flatMap (fun e => e.2.1.s) :: H) := by
  refine SCalls.of_walk (n := 36) Tryz.func33 rfl rfl rfl fun cs => ?_
  refine At.seq ?_
  refine At.region ?_
  refine AtL.box (cs := #[.nilIface, .bool sd, .int .i64 client, .int .i64 wh, .int .i64 bf, .slice none 0 0, .bool false, .bool false]) rfl (.inl rfl) rfl rfl ?_
  intro b1
  refine AtL.assign (.inl rfl) rfl rfl ?_
  refine AtL.done ?_
  refine At.seq ?_
  refine At.region ?_
  refine AtL.call tf_body11 (.inl rfl) rfl rfl plain_made ?_
  rintro _ _ ⟨ch2, hch3, rfl, rfl⟩
  refine AtL.fieldAddrB tf_fo80_0 (.inl rfl) rfl rfl rfl ?_
  refine AtL.store (H' := ch2.s :: [(b1, .cells #[ch2.v, .bool sd, .int .i64 client, .int .i64 wh, .int .i64 bf, .slice none 0 0, .bool false, .bool false] 80 (0, 0))] :: H) 1 0 tf_sz32 (.inl rfl) rfl rfl rfl rfl rfl rfl rfl rfl rfl ?_
  refine AtL.done ?_
  refine At.seq ?_
  refine At.seq ?_
  refine At.region ?_
  refine AtL.fieldAddrB tf_fo80_1 (.inl rfl) rfl rfl rfl ?_
  refine AtL.load tf_flat4 (.inl rfl) rfl rfl (Cell.own 1 0 rfl rfl rfl) ?_
  refine AtL.done ?_
  refine At.cond rfl ?_ ?_
  · intro hc1
    have hc1 : sd = true := hc1
    refine At.region ?_
    refine AtL.call tf_body12 (.inl rfl) rfl rfl sealed_made ?_
    rintro _ _ ⟨ch4, hch5, rfl, rfl⟩
    refine AtL.fieldAddrB tf_fo80_0 (.inl rfl) rfl rfl rfl ?_
    refine AtL.store (H' := ch4.s :: ch2.s :: [(b1, .cells #[ch4.v, .bool sd, .int .i64 client, .int .i64 wh, .int .i64 bf, .slice none 0 0, .bool false, .bool false] 80 (0, 0))] :: H) 2 0 tf_sz32 (.inl rfl) rfl rfl rfl rfl rfl rfl rfl rfl rfl ?_
    refine AtL.done ?_
    refine At.seq ?_
    refine At.seq ?_
    refine At.region ?_
    refine AtL.move (.inl rfl) rfl rfl ?_
    refine AtL.eqi (.inl rfl) rfl rfl rfl ?_
    refine AtL.done ?_
    refine At.condF rfl ?_
    refine At.skip ?_
    refine At.seq ?_
    refine At.region ?_
    refine AtL.call tf_body42 (.inl rfl) rfl rfl onew_ok ?_
    rintro _ _ ⟨wb6, mb7, rfl, rfl⟩
    refine AtL.move (.inl rfl) rfl rfl ?_
    refine AtL.extract (.inl rfl) rfl rfl rfl ?_
    refine AtL.extract (.inl rfl) rfl rfl rfl ?_
    refine AtL.assign (.inl rfl) rfl rfl ?_
    refine AtL.assign (.inl rfl) rfl rfl ?_
    refine AtL.done ?_
    refine At.seq ?_
    refine At.draw (es := [1, 4]) (pv := [(0, .agg #[ch4.v, .bool sd, .int .i64 client, .int .i64 wh, .int .i64 bf, .slice none 0 0, .bool false, .bool false]), (2, .pointer (some ⟨wb6, 0, none⟩))]) tf_mixed (by kernel_rfl) (by kernel_rfl) (by kernel_rfl) ?_
    refine ⟨⟨.inr ⟨_, rfl, rfl, .inl ⟨rfl, Do.loadN (cs := [ch4.v, .bool sd, .int .i64 client, .int .i64 wh, .int .i64 bf, .slice none 0 0, .bool false, .bool false]) tf_agg80 rfl rfl (cellsOwn 4 0 0 rfl rfl rfl)⟩⟩, .inr ⟨_, rfl, rfl, .inl ⟨rfl, Do.move rfl⟩⟩, trivial⟩, rfl, rfl, by kernel_rfl, _, rfl, rfl, rfl, _, Do.call tf_body43 rfl rdnew2, ?_⟩
    rintro _ _ ⟨r8, ph9, x10, g11, h12, h13, rfl, rfl⟩
    have hr14 := RdOk.new h12 h13
    refine ⟨[(3, .agg #[ch4.v, .bool sd, .int .i64 client, .int .i64 wh, .int .i64 bf, .slice none 0 0, .bool false, .bool false, .pointer (some ⟨r8, 0, none⟩), .pointer (some ⟨wb6, 0, none⟩), .int .i64 0, .int .i64 0])], rfl, ?_⟩
    refine ⟨⟨.inr ⟨_, rfl, rfl, .inl ⟨rfl, Do.build (cs := [ch4.v, .bool sd, .int .i64 client, .int .i64 wh, .int .i64 bf, .slice none 0 0, .bool false, .bool false, .pointer (some ⟨r8, 0, none⟩), .pointer (some ⟨wb6, 0, none⟩), .int .i64 0, .int .i64 0]) tf_lay116 rfl rfl⟩⟩, .inr ⟨_, rfl, rfl, .inl ⟨rfl, Do.loadN (cs := [ch4.v, .bool sd, .int .i64 client, .int .i64 wh, .int .i64 bf, .slice none 0 0, .bool false, .bool false]) tf_agg80 rfl rfl (cellsOwn 7 0 0 rfl rfl rfl)⟩⟩, .inr ⟨_, rfl, rfl, .inl ⟨rfl, Do.move rfl⟩⟩, trivial⟩, rfl, rfl, by kernel_rfl, _, rfl, rfl, rfl, _, Do.box (cs := #[ch4.v, .bool sd, .int .i64 client, .int .i64 wh, .int .i64 bf, .slice none 0 0, .bool false, .bool false, .pointer (some ⟨r8, 0, none⟩), .pointer (some ⟨wb6, 0, none⟩), .int .i64 0, .int .i64 0]) rfl rfl, ?_⟩
    rintro _ _ ⟨b15, rfl, rfl⟩
    refine ⟨[(5, .iface 112 (.pointer (some ⟨b15, 0, none⟩))), (6, .iface 112 (.pointer (some ⟨b15, 0, none⟩)))], rfl, ?_⟩
    refine ⟨⟨.inr ⟨_, rfl, rfl, .inl ⟨rfl, Do.makeIface Tryz.underlying112 rfl rfl⟩⟩, .inr ⟨_, rfl, rfl, .inl ⟨rfl, Do.assign rfl⟩⟩, .inl (by kernel_rfl), .inl (by kernel_rfl), .inl (by kernel_rfl), trivial⟩, by kernel_rfl, ?_⟩
    refine At.mono (E' := [(4, .iface 112 (.pointer (some ⟨b15, 0, none⟩)))]) ⟨rfl, trivial⟩ ?_
    refine At.nil ?_
    refine At.nil ?_
    refine At.pick (H' := ph9.s :: x10.s :: rdC r8 ph9 x10 (.slice none 0 0) g11 :: [(b15, .cells #[ch4.v, .bool sd, .int .i64 client, .int .i64 wh, .int .i64 bf, .slice none 0 0, .bool false, .bool false, .pointer (some ⟨r8, 0, none⟩), .pointer (some ⟨wb6, 0, none⟩), .int .i64 0, .int .i64 0] 116 (0, 0))] :: [(wb6, .cells #[.int .i64 16, .int .i64 1, .int .i64 1, .map (some mb7)] 128 (0, 0))] :: [(mb7, mapG kyI tvB ([] : List (Int × Sl tyB 5 × Nat)) 0)] :: ch4.s :: [] :: [] :: H) [3, 4, 5, 2, 6, 7, 8, 0, 1] 11 rfl rfl ?_
    refine At.flat (flat_merge3 _ _ _ _) ?_
    refine At.pick (H' := [(b15, .cells #[ch4.v, .bool sd, .int .i64 client, .int .i64 wh, .int .i64 bf, .slice none 0 0, .bool false, .bool false, .pointer (some ⟨r8, 0, none⟩), .pointer (some ⟨wb6, 0, none⟩), .int .i64 0, .int .i64 0] 116 (0, 0))] :: [(wb6, .cells #[.int .i64 16, .int .i64 1, .int .i64 1, .map (some mb7)] 128 (0, 0))] :: [(mb7, mapG kyI tvB ([] : List (Int × Sl tyB 5 × Nat)) 0)] :: ch4.s :: [] :: (ph9.s ++ (x10.s ++ rdC r8 ph9 x10 (.slice none 0 0) g11)) :: [] :: H) [1, 2, 3, 4, 5, 0, 6] 7 rfl rfl ?_
    exact At.ret Tryz.func33 rfl rfl (⟨(⟨b15, ch4, sd, client, wh, bf, Sl.nil, false, r8, (ph9.s ++ (x10.s ++ rdC r8 ph9 x10 (.slice none 0 0) g11)), wb6, mb7, 1, 1, [], 0, 0, 0⟩ : Req), ph9, x10, g11, rfl, hr14, by rw [(show sd = true from hc1)]; exact hch5, rfl, rfl, rfl, rfl, ⟨rfl, rfl, rfl, rfl, rfl, rfl, rfl⟩, rfl, rfl⟩)
  · intro hc1
    have hc1 : sd = false := hc1
    refine At.skip ?_
    refine At.seq ?_
    refine At.seq ?_
    refine At.region ?_
    refine AtL.move (.inl rfl) rfl rfl ?_
    refine AtL.eqi (.inl rfl) rfl rfl rfl ?_
    refine AtL.done ?_
    refine At.condF rfl ?_
    refine At.skip ?_
    refine At.seq ?_
    refine At.region ?_
    refine AtL.call tf_body42 (.inl rfl) rfl rfl onew_ok ?_
    rintro _ _ ⟨wb24, mb25, rfl, rfl⟩
    refine AtL.move (.inl rfl) rfl rfl ?_
    refine AtL.extract (.inl rfl) rfl rfl rfl ?_
    refine AtL.extract (.inl rfl) rfl rfl rfl ?_
    refine AtL.assign (.inl rfl) rfl rfl ?_
    refine AtL.assign (.inl rfl) rfl rfl ?_
    refine AtL.done ?_
    refine At.seq ?_
    refine At.draw (es := [1, 4]) (pv := [(0, .agg #[ch2.v, .bool sd, .int .i64 client, .int .i64 wh, .int .i64 bf, .slice none 0 0, .bool false, .bool false]), (2, .pointer (some ⟨wb24, 0, none⟩))]) tf_mixed (by kernel_rfl) (by kernel_rfl) (by kernel_rfl) ?_
    refine ⟨⟨.inr ⟨_, rfl, rfl, .inl ⟨rfl, Do.loadN (cs := [ch2.v, .bool sd, .int .i64 client, .int .i64 wh, .int .i64 bf, .slice none 0 0, .bool false, .bool false]) tf_agg80 rfl rfl (cellsOwn 3 0 0 rfl rfl rfl)⟩⟩, .inr ⟨_, rfl, rfl, .inl ⟨rfl, Do.move rfl⟩⟩, trivial⟩, rfl, rfl, by kernel_rfl, _, rfl, rfl, rfl, _, Do.call tf_body43 rfl rdnew2, ?_⟩
    rintro _ _ ⟨r26, ph27, x28, g29, h30, h31, rfl, rfl⟩
    have hr32 := RdOk.new h30 h31
    refine ⟨[(3, .agg #[ch2.v, .bool sd, .int .i64 client, .int .i64 wh, .int .i64 bf, .slice none 0 0, .bool false, .bool false, .pointer (some ⟨r26, 0, none⟩), .pointer (some ⟨wb24, 0, none⟩), .int .i64 0, .int .i64 0])], rfl, ?_⟩
    refine ⟨⟨.inr ⟨_, rfl, rfl, .inl ⟨rfl, Do.build (cs := [ch2.v, .bool sd, .int .i64 client, .int .i64 wh, .int .i64 bf, .slice none 0 0, .bool false, .bool false, .pointer (some ⟨r26, 0, none⟩), .pointer (some ⟨wb24, 0, none⟩), .int .i64 0, .int .i64 0]) tf_lay116 rfl rfl⟩⟩, .inr ⟨_, rfl, rfl, .inl ⟨rfl, Do.loadN (cs := [ch2.v, .bool sd, .int .i64 client, .int .i64 wh, .int .i64 bf, .slice none 0 0, .bool false, .bool false]) tf_agg80 rfl rfl (cellsOwn 6 0 0 rfl rfl rfl)⟩⟩, .inr ⟨_, rfl, rfl, .inl ⟨rfl, Do.move rfl⟩⟩, trivial⟩, rfl, rfl, by kernel_rfl, _, rfl, rfl, rfl, _, Do.box (cs := #[ch2.v, .bool sd, .int .i64 client, .int .i64 wh, .int .i64 bf, .slice none 0 0, .bool false, .bool false, .pointer (some ⟨r26, 0, none⟩), .pointer (some ⟨wb24, 0, none⟩), .int .i64 0, .int .i64 0]) rfl rfl, ?_⟩
    rintro _ _ ⟨b33, rfl, rfl⟩
    refine ⟨[(5, .iface 112 (.pointer (some ⟨b33, 0, none⟩))), (6, .iface 112 (.pointer (some ⟨b33, 0, none⟩)))], rfl, ?_⟩
    refine ⟨⟨.inr ⟨_, rfl, rfl, .inl ⟨rfl, Do.makeIface Tryz.underlying112 rfl rfl⟩⟩, .inr ⟨_, rfl, rfl, .inl ⟨rfl, Do.assign rfl⟩⟩, .inl (by kernel_rfl), .inl (by kernel_rfl), .inl (by kernel_rfl), trivial⟩, by kernel_rfl, ?_⟩
    refine At.mono (E' := [(4, .iface 112 (.pointer (some ⟨b33, 0, none⟩)))]) ⟨rfl, trivial⟩ ?_
    refine At.nil ?_
    refine At.nil ?_
    refine At.pick (H' := ph27.s :: x28.s :: rdC r26 ph27 x28 (.slice none 0 0) g29 :: [(b33, .cells #[ch2.v, .bool sd, .int .i64 client, .int .i64 wh, .int .i64 bf, .slice none 0 0, .bool false, .bool false, .pointer (some ⟨r26, 0, none⟩), .pointer (some ⟨wb24, 0, none⟩), .int .i64 0, .int .i64 0] 116 (0, 0))] :: [(wb24, .cells #[.int .i64 16, .int .i64 1, .int .i64 1, .map (some mb25)] 128 (0, 0))] :: [(mb25, mapG kyI tvB ([] : List (Int × Sl tyB 5 × Nat)) 0)] :: ch2.s :: [] :: [] :: H) [3, 4, 5, 2, 6, 7, 8, 0, 1] 10 rfl rfl ?_
    refine At.flat (flat_merge3 _ _ _ _) ?_
    refine At.pick (H' := [(b33, .cells #[ch2.v, .bool sd, .int .i64 client, .int .i64 wh, .int .i64 bf, .slice none 0 0, .bool false, .bool false, .pointer (some ⟨r26, 0, none⟩), .pointer (some ⟨wb24, 0, none⟩), .int .i64 0, .int .i64 0] 116 (0, 0))] :: [(wb24, .cells #[.int .i64 16, .int .i64 1, .int .i64 1, .map (some mb25)] 128 (0, 0))] :: [(mb25, mapG kyI tvB ([] : List (Int × Sl tyB 5 × Nat)) 0)] :: ch2.s :: [] :: (ph27.s ++ (x28.s ++ rdC r26 ph27 x28 (.slice none 0 0) g29)) :: [] :: H) [1, 2, 3, 4, 5, 0, 6] 7 rfl rfl ?_
    exact At.ret Tryz.func33 rfl rfl (⟨(⟨b33, ch2, sd, client, wh, bf, Sl.nil, false, r26, (ph27.s ++ (x28.s ++ rdC r26 ph27 x28 (.slice none 0 0) g29)), wb24, mb25, 1, 1, [], 0, 0, 0⟩ : Req), ph27, x28, g29, rfl, hr32, by rw [(show sd = false from (by simpa using hc1))]; exact hch3, rfl, rfl, rfl, rfl, ⟨rfl, rfl, rfl, rfl, rfl, rfl, rfl⟩, rfl, rfl⟩)
end Go.Proofs.YtbfabhdfmoiabaaGreatDoor
namespace Go.Proofs.YtbfabhdfmoiabaaGreatDoor
set_option linter.unusedVariables false
set_option linter.unusedSimpArgs false
set_option maxRecDepth 100000
structure KvOk (kvs : List (Int × Lk × Nat)) (mn : Nat) (last : Int) : Prop where
  lt : ∀ e ∈ kvs, e.2.2 < mn
  nd : (kvs.map fun e => e.2.2).Nodup
  sorted : (kvs.map fun e => e.1).Pairwise (· < ·)
  le : ∀ e ∈ kvs, 1 ≤ e.1 ∧ e.1 ≤ last
  wh : ∀ e ∈ kvs, inT e.2.1.wh
  few : kvs.length ≤ 256
  last : 0 ≤ last
theorem atG_none {l : List (Int × Lk × Nat)} {a : Int} (h : ∀ e ∈ l, e.1 ≠ a) : atG a l = none := by
  induction l with
  | nil => rfl
  | cons p r ih => rw [atG, if_neg (fun q => h p (List.mem_cons_self ..) q.symm)]; exact ih fun e he => h e (List.mem_cons_of_mem _ he)
theorem KvOk.next {kvs : List (Int × Lk × Nat)} {mn : Nat} {last : Int} (h : KvOk kvs mn last) : atG (last + 1) kvs = none := atG_none fun e he q => by have := (h.le e he).2; omega
set_option maxHeartbeats 1000000 in
theorem copen_str {w0 : World} {base : Nat} {H : List Seg} {c mb : Nat} {most idle buffer last : Int} {kvs : List (Int × Lk × Nat)} {mn : Nat} {client now : Int} {sd : Bool} (hm : ¬ most = 0) (hok : KvOk kvs mn last) (hf : (kvs.length : Int) < most) (hT : inT now) (hl : last ≤ 1099511627776) :
    SCalls Tryz.prog 10 [.pointer (some ⟨c, 0, none⟩), .int .i64 1, .bool sd, .int .i64 client, .int .i64 now] w0 base ([(c, .cells #[.int .i64 most, .int .i64 idle, .int .i64 buffer, .int .i64 last, .map (some mb)] 64 (0, 0))] :: [(mb, mapG kyI Lk.v kvs mn)] :: H) (fun v H' => ∃ x : Str, x.p = ⟨⟨sd, [], false, false, false, false, false⟩, sd, client, now, buffer, [], false, [], false⟩ ∧ x.ok ∧ x.y.l = [] ∧ v = .tuple #[int (last + 1), int 0] ∧ H' = [(c, .cells #[.int .i64 most, .int .i64 idle, .int .i64 buffer, .int .i64 (last + 1), .map (some mb)] 64 (0, 0))] :: [(mb, mapG kyI Lk.v (kvs ++ [(last + 1, (Lk.str x), mn)]) (mn + 1))] :: [(x.b, .cells #[x.ch.v, .bool x.sd, .int .i64 x.client, .int .i64 x.wh, .int .i64 x.buffer, .slice x.wait.A x.wait.l.length x.wait.C, .bool x.closing, .bool false, .pointer (some ⟨x.r, 0, none⟩)] 108 (0, 0))] :: [(x.r, .cells #[.int .i64 65535, .bool x.br, .slice x.y.A x.y.l.length x.y.C, .int .i64 (x.off : Int), .int .i8 x.lr, .int .i64 x.e] 125 (0, 0))] :: x.ch.s :: x.wait.s :: x.y.s :: H) := by
  have hl0 := hok.last
  refine SCalls.of_walk (n := 67) Tryz.func10 rfl rfl rfl fun cs => ?_
  refine At.seq ?_
  refine At.region ?_
  refine AtL.assign (.inl rfl) rfl rfl ?_
  refine AtL.assign (.inl rfl) rfl rfl ?_
  refine AtL.done ?_
  refine At.seq ?_
  refine At.block ?_
  refine At.seq ?_
  refine At.region ?_
  refine AtL.move (.inl rfl) rfl rfl ?_
  refine AtL.call tf_body31 (.inl rfl) rfl rfl (cnone_ok hm) ?_
  rintro _ _ ⟨rfl, rfl⟩
  refine AtL.assign (.inl rfl) rfl rfl ?_
  refine AtL.done ?_
  refine At.condF rfl ?_
  refine At.seq ?_
  refine At.region ?_
  refine AtL.move (.inl rfl) rfl rfl ?_
  refine AtL.nei (.inl rfl) rfl rfl rfl ?_
  refine AtL.move (.inl rfl) rfl rfl ?_
  refine AtL.skipped rfl rfl rfl rfl rfl rfl ?_
  refine AtL.skipped rfl rfl rfl rfl rfl rfl ?_
  refine AtL.pickF (.inl rfl) rfl rfl rfl ?_
  refine AtL.move (.inl rfl) rfl rfl ?_
  refine AtL.move (.inr ⟨_, _, _, rfl, rfl, rfl, rfl⟩) rfl rfl ?_
  refine AtL.call tf_body32 (.inr ⟨_, _, _, rfl, rfl, rfl, rfl⟩) rfl rfl (within_yes hT) ?_
  rintro _ _ ⟨rfl, rfl⟩
  refine AtL.not (.inr ⟨_, _, _, rfl, rfl, rfl, rfl⟩) rfl rfl ?_
  refine AtL.pickF (.inl rfl) rfl rfl rfl ?_
  refine AtL.assign (.inl rfl) rfl rfl ?_
  refine AtL.done ?_
  refine At.condF rfl ?_
  refine At.seq ?_
  refine At.draw (es := []) (pv := [(0, .pointer (some ⟨c, 0, none⟩)), (1, .pointer (some ⟨c, 0, none⟩)), (2, .pointer (some ⟨c, 4, none⟩)), (3, .map (some mb)), (4, .int .i64 (kvs.length : Int)), (5, .pointer (some ⟨c, 0, none⟩)), (6, .pointer (some ⟨c, 0, none⟩)), (7, .pointer (some ⟨c, 0, none⟩)), (8, .int .i64 most), (9, .bool (decide (most ≤ (kvs.length : Int)))), (10, .bool (decide (most ≤ (kvs.length : Int))))]) tf_mixed (by kernel_rfl) (by kernel_rfl) (by kernel_rfl) ?_
  refine ⟨⟨.inr ⟨_, rfl, rfl, .inl ⟨rfl, Do.move rfl⟩⟩, .inr ⟨_, rfl, rfl, .inl ⟨rfl, Do.nilCheck rfl⟩⟩, .inr ⟨_, rfl, rfl, .inl ⟨rfl, Do.fieldAddrB tf_fo64_4 rfl rfl⟩⟩, .inr ⟨_, rfl, rfl, .inl ⟨rfl, Do.load tf_flat62 rfl (Cell.own 0 0 rfl rfl rfl)⟩⟩, .inr ⟨_, rfl, rfl, .inl ⟨rfl, Do.lenM (Q := kyI) (tv := Lk.v) (l := kvs) 1 0 Tryz.underlying62 rfl rfl rfl⟩⟩, .inr ⟨_, rfl, rfl, .inl ⟨rfl, Do.move rfl⟩⟩, .inr ⟨_, rfl, rfl, .inl ⟨rfl, Do.nilCheck rfl⟩⟩, .inr ⟨_, rfl, rfl, .inl ⟨rfl, Do.fieldAddrB tf_fo64_0 rfl rfl⟩⟩, .inr ⟨_, rfl, rfl, .inl ⟨rfl, Do.load tf_flat3 rfl (Cell.own 0 0 rfl rfl rfl)⟩⟩, .inr ⟨_, rfl, rfl, .inl ⟨rfl, Do.geq rfl rfl⟩⟩, .inr ⟨_, rfl, rfl, .inl ⟨rfl, Do.assign rfl⟩⟩, trivial⟩, by kernel_rfl, ?_⟩
  refine At.mono (E' := [(0, .pointer (some ⟨c, 0, none⟩)), (1, .int .i64 1), (2, .bool sd), (3, .int .i64 client), (4, .int .i64 now), (27, .bool (decide (most ≤ (kvs.length : Int))))]) ⟨rfl, rfl, rfl, rfl, rfl, rfl, trivial⟩ ?_
  refine At.condIs false rfl (decide_eq_false (by omega)) ?_
  refine At.skip ?_
  refine At.inBlock ?_
  refine At.seq ?_
  refine At.region ?_
  refine AtL.move (.inl rfl) rfl rfl ?_
  refine AtL.nilCheck (.inl rfl) rfl rfl ?_
  refine AtL.fieldAddrB tf_fo64_3 (.inl rfl) rfl rfl rfl ?_
  refine AtL.load tf_flat3 (.inl rfl) rfl rfl (Cell.own 0 0 rfl rfl rfl) ?_
  refine AtL.add (z := last + 1) (.inl rfl) rfl rfl rfl (w64 (by omega) (by omega)) ?_
  refine AtL.nilCheck (.inl rfl) rfl rfl ?_
  refine AtL.fieldAddrB tf_fo64_3 (.inl rfl) rfl rfl rfl ?_
  refine AtL.store (H' := [(c, .cells #[.int .i64 most, .int .i64 idle, .int .i64 buffer, .int .i64 (last + 1), .map (some mb)] 64 (0, 0))] :: [(mb, mapG kyI Lk.v kvs mn)] :: H) 0 0 tf_sz3 (.inl rfl) rfl rfl rfl rfl rfl rfl rfl rfl rfl ?_
  refine AtL.done ?_
  refine At.seq ?_
  refine At.draw (es := [17, 18]) (pv := [(0, .pointer (some ⟨c, 0, none⟩)), (1, .pointer (some ⟨c, 0, none⟩)), (2, .pointer (some ⟨c, 4, none⟩)), (3, .map (some mb)), (4, .pointer (some ⟨c, 0, none⟩)), (5, .pointer (some ⟨c, 0, none⟩)), (6, .pointer (some ⟨c, 3, none⟩)), (7, .int .i64 (last + 1)), (8, .int .i64 1), (9, .bool sd), (10, .int .i64 client), (11, .int .i64 now), (12, .pointer (some ⟨c, 0, none⟩)), (13, .pointer (some ⟨c, 0, none⟩)), (14, .pointer (some ⟨c, 2, none⟩)), (15, .int .i64 buffer), (16, .agg #[.nilIface, .bool sd, .int .i64 client, .int .i64 now, .int .i64 buffer, .slice none 0 0, .bool false, .bool false])]) tf_mixed (by kernel_rfl) (by kernel_rfl) (by kernel_rfl) ?_
  refine ⟨⟨.inr ⟨_, rfl, rfl, .inl ⟨rfl, Do.move rfl⟩⟩, .inr ⟨_, rfl, rfl, .inl ⟨rfl, Do.nilCheck rfl⟩⟩, .inr ⟨_, rfl, rfl, .inl ⟨rfl, Do.fieldAddrB tf_fo64_4 rfl rfl⟩⟩, .inr ⟨_, rfl, rfl, .inl ⟨rfl, Do.load tf_flat62 rfl (Cell.own 0 0 rfl rfl rfl)⟩⟩, .inr ⟨_, rfl, rfl, .inl ⟨rfl, Do.move rfl⟩⟩, .inr ⟨_, rfl, rfl, .inl ⟨rfl, Do.nilCheck rfl⟩⟩, .inr ⟨_, rfl, rfl, .inl ⟨rfl, Do.fieldAddrB tf_fo64_3 rfl rfl⟩⟩, .inr ⟨_, rfl, rfl, .inl ⟨rfl, Do.load tf_flat3 rfl (Cell.own 0 0 rfl rfl rfl)⟩⟩, .inr ⟨_, rfl, rfl, .inl ⟨rfl, Do.move rfl⟩⟩, .inr ⟨_, rfl, rfl, .inl ⟨rfl, Do.move rfl⟩⟩, .inr ⟨_, rfl, rfl, .inl ⟨rfl, Do.move rfl⟩⟩, .inr ⟨_, rfl, rfl, .inl ⟨rfl, Do.move rfl⟩⟩, .inr ⟨_, rfl, rfl, .inl ⟨rfl, Do.move rfl⟩⟩, .inr ⟨_, rfl, rfl, .inl ⟨rfl, Do.nilCheck rfl⟩⟩, .inr ⟨_, rfl, rfl, .inl ⟨rfl, Do.fieldAddrB tf_fo64_2 rfl rfl⟩⟩, .inr ⟨_, rfl, rfl, .inl ⟨rfl, Do.load tf_flat3 rfl (Cell.own 0 0 rfl rfl rfl)⟩⟩, .inr ⟨_, rfl, rfl, .inl ⟨rfl, Do.build (cs := [.nilIface, .bool sd, .int .i64 client, .int .i64 now, .int .i64 buffer, .slice none 0 0, .bool false, .bool false]) tf_lay80 rfl rfl⟩⟩, trivial⟩, rfl, rfl, by kernel_rfl, _, rfl, rfl, rfl, _, Do.call tf_body33 rfl open_str, ?_⟩
  rintro _ _ ⟨x1, hp2, hk3, hy4, rfl, rfl⟩
  refine ⟨[], rfl, ?_⟩
  refine ⟨⟨.inr ⟨_, rfl, rfl, .inl ⟨rfl, Do.move rfl⟩⟩, .inr ⟨_, rfl, rfl, .inl ⟨rfl, Do.nilCheck rfl⟩⟩, .inr ⟨_, rfl, rfl, .inl ⟨rfl, Do.fieldAddrB tf_fo64_4 rfl rfl⟩⟩, .inr ⟨_, rfl, rfl, .inl ⟨rfl, Do.load tf_flat62 rfl (Cell.own 5 0 rfl rfl rfl)⟩⟩, .inr ⟨_, rfl, rfl, .inl ⟨rfl, Do.move rfl⟩⟩, .inr ⟨_, rfl, rfl, .inl ⟨rfl, Do.nilCheck rfl⟩⟩, .inr ⟨_, rfl, rfl, .inl ⟨rfl, Do.fieldAddrB tf_fo64_3 rfl rfl⟩⟩, .inr ⟨_, rfl, rfl, .inl ⟨rfl, Do.load tf_flat3 rfl (Cell.own 5 0 rfl rfl rfl)⟩⟩, .inl (by kernel_rfl), .inl (by kernel_rfl), .inl (by kernel_rfl), .inl (by kernel_rfl), .inl (by kernel_rfl), .inl (by kernel_rfl), .inl (by kernel_rfl), .inl (by kernel_rfl), .inl (by kernel_rfl), trivial⟩, rfl, rfl, by kernel_rfl, _, rfl, rfl, rfl, _, Do.putG (Q := kyI) (tv := Lk.v) (a := last + 1) (v := (Lk.str x1)) (H' := [(x1.b, .cells #[x1.ch.v, .bool x1.sd, .int .i64 x1.client, .int .i64 x1.wh, .int .i64 x1.buffer, .slice x1.wait.A x1.wait.l.length x1.wait.C, .bool x1.closing, .bool false, .pointer (some ⟨x1.r, 0, none⟩)] 108 (0, 0))] :: [(x1.r, .cells #[.int .i64 65535, .bool x1.br, .slice x1.y.A x1.y.l.length x1.y.C, .int .i64 (x1.off : Int), .int .i8 x1.lr, .int .i64 x1.e] 125 (0, 0))] :: x1.ch.s :: x1.wait.s :: x1.y.s :: [(c, .cells #[.int .i64 most, .int .i64 idle, .int .i64 buffer, .int .i64 (last + 1), .map (some mb)] 64 (0, 0))] :: [(mb, mapG kyI Lk.v (kvs ++ [(last + 1, (Lk.str x1), mn)]) (mn + 1))] :: H) 6 0 Tryz.underlying62 Tryz.underlying3 rfl bitsI rfl rfl rfl rfl rfl (by rw [putG_new hok.next, putN_new hok.next]; rfl), ?_⟩
  rintro _ _ ⟨rfl, rfl⟩
  refine ⟨[], rfl, ?_⟩
  refine ⟨⟨.inl (by kernel_rfl), .inl (by kernel_rfl), .inl (by kernel_rfl), .inl (by kernel_rfl), .inl (by kernel_rfl), .inl (by kernel_rfl), .inl (by kernel_rfl), .inl (by kernel_rfl), .inl (by kernel_rfl), .inl (by kernel_rfl), .inl (by kernel_rfl), .inl (by kernel_rfl), .inl (by kernel_rfl), .inl (by kernel_rfl), .inl (by kernel_rfl), .inl (by kernel_rfl), .inl (by kernel_rfl), trivial⟩, by kernel_rfl, ?_⟩
  refine At.mono (E' := [(0, .pointer (some ⟨c, 0, none⟩))]) ⟨rfl, trivial⟩ ?_
  refine At.seq ?_
  refine At.region ?_
  refine AtL.move (.inl rfl) rfl rfl ?_
  refine AtL.nilCheck (.inl rfl) rfl rfl ?_
  refine AtL.fieldAddrB tf_fo64_3 (.inl rfl) rfl rfl rfl ?_
  refine AtL.load tf_flat3 (.inl rfl) rfl rfl (Cell.own 5 0 rfl rfl rfl) ?_
  refine AtL.assign (.inl rfl) rfl rfl ?_
  refine AtL.assign (.inl rfl) rfl rfl ?_
  refine AtL.done ?_
  refine At.pick (H' := [(c, .cells #[.int .i64 most, .int .i64 idle, .int .i64 buffer, .int .i64 (last + 1), .map (some mb)] 64 (0, 0))] :: [(mb, mapG kyI Lk.v (kvs ++ [(last + 1, (Lk.str x1), mn)]) (mn + 1))] :: [(x1.b, .cells #[x1.ch.v, .bool x1.sd, .int .i64 x1.client, .int .i64 x1.wh, .int .i64 x1.buffer, .slice x1.wait.A x1.wait.l.length x1.wait.C, .bool x1.closing, .bool false, .pointer (some ⟨x1.r, 0, none⟩)] 108 (0, 0))] :: [(x1.r, .cells #[.int .i64 65535, .bool x1.br, .slice x1.y.A x1.y.l.length x1.y.C, .int .i64 (x1.off : Int), .int .i8 x1.lr, .int .i64 x1.e] 125 (0, 0))] :: x1.ch.s :: x1.wait.s :: x1.y.s :: H) [5, 6, 0, 1, 2, 3, 4] 7 rfl rfl ?_
  exact At.ret Tryz.func10 rfl rfl (⟨x1, hp2, hk3, hy4, rfl, rfl⟩)
set_option maxHeartbeats 1000000 in
theorem copen_req {w0 : World} {base : Nat} {H : List Seg} {c mb : Nat} {most idle buffer last : Int} {kvs : List (Int × Lk × Nat)} {mn : Nat} {client now : Int} {sd : Bool} (hm : ¬ most = 0) (hok : KvOk kvs mn last) (hf : (kvs.length : Int) < most) (hT : inT now) (hl : last ≤ 1099511627776) :
    SCalls Tryz.prog 10 [.pointer (some ⟨c, 0, none⟩), .int .i64 2, .bool sd, .int .i64 client, .int .i64 now] w0 base ([(c, .cells #[.int .i64 most, .int .i64 idle, .int .i64 buffer, .int .i64 last, .map (some mb)] 64 (0, 0))] :: [(mb, mapG kyI Lk.v kvs mn)] :: H) (fun v H' => ∃ (x : Req) (ph : Rph) (y : Sl tyB 5) (g : Nat → Value), x.hs = (ph.s ++ (y.s ++ rdC x.hr ph y (.slice none 0 0) g)) ∧ RdOk ph y [] false ∧ x.ch.p = ⟨sd, [], false, false, false, false, false⟩ ∧ x.sd = sd ∧ x.client = client ∧ x.wh = now ∧ x.buffer = buffer ∧ (x.wait = Sl.nil ∧ x.closing = false ∧ x.first = 1 ∧ x.next = 1 ∧ x.dn = [] ∧ x.last = 0 ∧ x.behind = 0) ∧ v = .tuple #[int (last + 1), int 0] ∧ H' = [(c, .cells #[.int .i64 most, .int .i64 idle, .int .i64 buffer, .int .i64 (last + 1), .map (some mb)] 64 (0, 0))] :: [(mb, mapG kyI Lk.v (kvs ++ [(last + 1, (Lk.req x), mn)]) (mn + 1))] :: [(x.b, .cells #[x.ch.v, .bool x.sd, .int .i64 x.client, .int .i64 x.wh, .int .i64 x.buffer, .slice x.wait.A x.wait.l.length x.wait.C, .bool x.closing, .bool false, .pointer (some ⟨x.hr, 0, none⟩), .pointer (some ⟨x.wb, 0, none⟩), .int .i64 x.last, .int .i64 x.behind] 116 (0, 0))] :: [(x.wb, .cells #[.int .i64 16, .int .i64 x.first, .int .i64 x.next, .map (some x.mb)] 128 (0, 0))] :: [(x.mb, mapG kyI tvB x.dn x.n)] :: x.ch.s :: x.wait.s :: x.hs :: x.dn.flatMap (fun e => e.2.1.s) :: H) := by
  have hl0 := hok.last
  refine SCalls.of_walk (n := 67) Tryz.func10 rfl rfl rfl fun cs => ?_
  refine At.seq ?_
  refine At.region ?_
  refine AtL.assign (.inl rfl) rfl rfl ?_
  refine AtL.assign (.inl rfl) rfl rfl ?_
  refine AtL.done ?_
  refine At.seq ?_
  refine At.block ?_
  refine At.seq ?_
  refine At.region ?_
  refine AtL.move (.inl rfl) rfl rfl ?_
  refine AtL.call tf_body31 (.inl rfl) rfl rfl (cnone_ok hm) ?_
  rintro _ _ ⟨rfl, rfl⟩
  refine AtL.assign (.inl rfl) rfl rfl ?_
  refine AtL.done ?_
  refine At.condF rfl ?_
  refine At.seq ?_
  refine At.region ?_
  refine AtL.move (.inl rfl) rfl rfl ?_
  refine AtL.nei (.inl rfl) rfl rfl rfl ?_
  refine AtL.move (.inl rfl) rfl rfl ?_
  refine AtL.move (.inr ⟨_, _, _, rfl, rfl, rfl, rfl⟩) rfl rfl ?_
  refine AtL.nei (.inr ⟨_, _, _, rfl, rfl, rfl, rfl⟩) rfl rfl rfl ?_
  refine AtL.pickT (.inl rfl) rfl rfl rfl ?_
  refine AtL.move (.inl rfl) rfl rfl ?_
  refine AtL.move (.inr ⟨_, _, _, rfl, rfl, rfl, rfl⟩) rfl rfl ?_
  refine AtL.call tf_body32 (.inr ⟨_, _, _, rfl, rfl, rfl, rfl⟩) rfl rfl (within_yes hT) ?_
  rintro _ _ ⟨rfl, rfl⟩
  refine AtL.not (.inr ⟨_, _, _, rfl, rfl, rfl, rfl⟩) rfl rfl ?_
  refine AtL.pickF (.inl rfl) rfl rfl rfl ?_
  refine AtL.assign (.inl rfl) rfl rfl ?_
  refine AtL.done ?_
  refine At.condF rfl ?_
  refine At.seq ?_
  refine At.draw (es := []) (pv := [(0, .pointer (some ⟨c, 0, none⟩)), (1, .pointer (some ⟨c, 0, none⟩)), (2, .pointer (some ⟨c, 4, none⟩)), (3, .map (some mb)), (4, .int .i64 (kvs.length : Int)), (5, .pointer (some ⟨c, 0, none⟩)), (6, .pointer (some ⟨c, 0, none⟩)), (7, .pointer (some ⟨c, 0, none⟩)), (8, .int .i64 most), (9, .bool (decide (most ≤ (kvs.length : Int)))), (10, .bool (decide (most ≤ (kvs.length : Int))))]) tf_mixed (by kernel_rfl) (by kernel_rfl) (by kernel_rfl) ?_
  refine ⟨⟨.inr ⟨_, rfl, rfl, .inl ⟨rfl, Do.move rfl⟩⟩, .inr ⟨_, rfl, rfl, .inl ⟨rfl, Do.nilCheck rfl⟩⟩, .inr ⟨_, rfl, rfl, .inl ⟨rfl, Do.fieldAddrB tf_fo64_4 rfl rfl⟩⟩, .inr ⟨_, rfl, rfl, .inl ⟨rfl, Do.load tf_flat62 rfl (Cell.own 0 0 rfl rfl rfl)⟩⟩, .inr ⟨_, rfl, rfl, .inl ⟨rfl, Do.lenM (Q := kyI) (tv := Lk.v) (l := kvs) 1 0 Tryz.underlying62 rfl rfl rfl⟩⟩, .inr ⟨_, rfl, rfl, .inl ⟨rfl, Do.move rfl⟩⟩, .inr ⟨_, rfl, rfl, .inl ⟨rfl, Do.nilCheck rfl⟩⟩, .inr ⟨_, rfl, rfl, .inl ⟨rfl, Do.fieldAddrB tf_fo64_0 rfl rfl⟩⟩, .inr ⟨_, rfl, rfl, .inl ⟨rfl, Do.load tf_flat3 rfl (Cell.own 0 0 rfl rfl rfl)⟩⟩, .inr ⟨_, rfl, rfl, .inl ⟨rfl, Do.geq rfl rfl⟩⟩, .inr ⟨_, rfl, rfl, .inl ⟨rfl, Do.assign rfl⟩⟩, trivial⟩, by kernel_rfl, ?_⟩
  refine At.mono (E' := [(0, .pointer (some ⟨c, 0, none⟩)), (1, .int .i64 2), (2, .bool sd), (3, .int .i64 client), (4, .int .i64 now), (27, .bool (decide (most ≤ (kvs.length : Int))))]) ⟨rfl, rfl, rfl, rfl, rfl, rfl, trivial⟩ ?_
  refine At.condIs false rfl (decide_eq_false (by omega)) ?_
  refine At.skip ?_
  refine At.inBlock ?_
  refine At.seq ?_
  refine At.region ?_
  refine AtL.move (.inl rfl) rfl rfl ?_
  refine AtL.nilCheck (.inl rfl) rfl rfl ?_
  refine AtL.fieldAddrB tf_fo64_3 (.inl rfl) rfl rfl rfl ?_
  refine AtL.load tf_flat3 (.inl rfl) rfl rfl (Cell.own 0 0 rfl rfl rfl) ?_
  refine AtL.add (z := last + 1) (.inl rfl) rfl rfl rfl (w64 (by omega) (by omega)) ?_
  refine AtL.nilCheck (.inl rfl) rfl rfl ?_
  refine AtL.fieldAddrB tf_fo64_3 (.inl rfl) rfl rfl rfl ?_
  refine AtL.store (H' := [(c, .cells #[.int .i64 most, .int .i64 idle, .int .i64 buffer, .int .i64 (last + 1), .map (some mb)] 64 (0, 0))] :: [(mb, mapG kyI Lk.v kvs mn)] :: H) 0 0 tf_sz3 (.inl rfl) rfl rfl rfl rfl rfl rfl rfl rfl rfl ?_
  refine AtL.done ?_
  refine At.seq ?_
  refine At.draw (es := [17, 18]) (pv := [(0, .pointer (some ⟨c, 0, none⟩)), (1, .pointer (some ⟨c, 0, none⟩)), (2, .pointer (some ⟨c, 4, none⟩)), (3, .map (some mb)), (4, .pointer (some ⟨c, 0, none⟩)), (5, .pointer (some ⟨c, 0, none⟩)), (6, .pointer (some ⟨c, 3, none⟩)), (7, .int .i64 (last + 1)), (8, .int .i64 2), (9, .bool sd), (10, .int .i64 client), (11, .int .i64 now), (12, .pointer (some ⟨c, 0, none⟩)), (13, .pointer (some ⟨c, 0, none⟩)), (14, .pointer (some ⟨c, 2, none⟩)), (15, .int .i64 buffer), (16, .agg #[.nilIface, .bool sd, .int .i64 client, .int .i64 now, .int .i64 buffer, .slice none 0 0, .bool false, .bool false])]) tf_mixed (by kernel_rfl) (by kernel_rfl) (by kernel_rfl) ?_
  refine ⟨⟨.inr ⟨_, rfl, rfl, .inl ⟨rfl, Do.move rfl⟩⟩, .inr ⟨_, rfl, rfl, .inl ⟨rfl, Do.nilCheck rfl⟩⟩, .inr ⟨_, rfl, rfl, .inl ⟨rfl, Do.fieldAddrB tf_fo64_4 rfl rfl⟩⟩, .inr ⟨_, rfl, rfl, .inl ⟨rfl, Do.load tf_flat62 rfl (Cell.own 0 0 rfl rfl rfl)⟩⟩, .inr ⟨_, rfl, rfl, .inl ⟨rfl, Do.move rfl⟩⟩, .inr ⟨_, rfl, rfl, .inl ⟨rfl, Do.nilCheck rfl⟩⟩, .inr ⟨_, rfl, rfl, .inl ⟨rfl, Do.fieldAddrB tf_fo64_3 rfl rfl⟩⟩, .inr ⟨_, rfl, rfl, .inl ⟨rfl, Do.load tf_flat3 rfl (Cell.own 0 0 rfl rfl rfl)⟩⟩, .inr ⟨_, rfl, rfl, .inl ⟨rfl, Do.move rfl⟩⟩, .inr ⟨_, rfl, rfl, .inl ⟨rfl, Do.move rfl⟩⟩, .inr ⟨_, rfl, rfl, .inl ⟨rfl, Do.move rfl⟩⟩, .inr ⟨_, rfl, rfl, .inl ⟨rfl, Do.move rfl⟩⟩, .inr ⟨_, rfl, rfl, .inl ⟨rfl, Do.move rfl⟩⟩, .inr ⟨_, rfl, rfl, .inl ⟨rfl, Do.nilCheck rfl⟩⟩, .inr ⟨_, rfl, rfl, .inl ⟨rfl, Do.fieldAddrB tf_fo64_2 rfl rfl⟩⟩, .inr ⟨_, rfl, rfl, .inl ⟨rfl, Do.load tf_flat3 rfl (Cell.own 0 0 rfl rfl rfl)⟩⟩, .inr ⟨_, rfl, rfl, .inl ⟨rfl, Do.build (cs := [.nilIface, .bool sd, .int .i64 client, .int .i64 now, .int .i64 buffer, .slice none 0 0, .bool false, .bool false]) tf_lay80 rfl rfl⟩⟩, trivial⟩, rfl, rfl, by kernel_rfl, _, rfl, rfl, rfl, _, Do.call tf_body33 rfl open_req, ?_⟩
  rintro _ _ ⟨x1, ph2, y3, g4, h5, h6, h7, h8, h9, h10, h11, h12, rfl, rfl⟩
  refine ⟨[], rfl, ?_⟩
  refine ⟨⟨.inr ⟨_, rfl, rfl, .inl ⟨rfl, Do.move rfl⟩⟩, .inr ⟨_, rfl, rfl, .inl ⟨rfl, Do.nilCheck rfl⟩⟩, .inr ⟨_, rfl, rfl, .inl ⟨rfl, Do.fieldAddrB tf_fo64_4 rfl rfl⟩⟩, .inr ⟨_, rfl, rfl, .inl ⟨rfl, Do.load tf_flat62 rfl (Cell.own 7 0 rfl rfl rfl)⟩⟩, .inr ⟨_, rfl, rfl, .inl ⟨rfl, Do.move rfl⟩⟩, .inr ⟨_, rfl, rfl, .inl ⟨rfl, Do.nilCheck rfl⟩⟩, .inr ⟨_, rfl, rfl, .inl ⟨rfl, Do.fieldAddrB tf_fo64_3 rfl rfl⟩⟩, .inr ⟨_, rfl, rfl, .inl ⟨rfl, Do.load tf_flat3 rfl (Cell.own 7 0 rfl rfl rfl)⟩⟩, .inl (by kernel_rfl), .inl (by kernel_rfl), .inl (by kernel_rfl), .inl (by kernel_rfl), .inl (by kernel_rfl), .inl (by kernel_rfl), .inl (by kernel_rfl), .inl (by kernel_rfl), .inl (by kernel_rfl), trivial⟩, rfl, rfl, by kernel_rfl, _, rfl, rfl, rfl, _, Do.putG (Q := kyI) (tv := Lk.v) (a := last + 1) (v := (Lk.req x1)) (H' := [(x1.b, .cells #[x1.ch.v, .bool x1.sd, .int .i64 x1.client, .int .i64 x1.wh, .int .i64 x1.buffer, .slice x1.wait.A x1.wait.l.length x1.wait.C, .bool x1.closing, .bool false, .pointer (some ⟨x1.hr, 0, none⟩), .pointer (some ⟨x1.wb, 0, none⟩), .int .i64 x1.last, .int .i64 x1.behind] 116 (0, 0))] :: [(x1.wb, .cells #[.int .i64 16, .int .i64 x1.first, .int .i64 x1.next, .map (some x1.mb)] 128 (0, 0))] :: [(x1.mb, mapG kyI tvB x1.dn x1.n)] :: x1.ch.s :: x1.wait.s :: x1.hs :: (x1.dn.flatMap fun e => e.2.1.s) :: [(c, .cells #[.int .i64 most, .int .i64 idle, .int .i64 buffer, .int .i64 (last + 1), .map (some mb)] 64 (0, 0))] :: [(mb, mapG kyI Lk.v (kvs ++ [(last + 1, (Lk.req x1), mn)]) (mn + 1))] :: H) 8 0 Tryz.underlying62 Tryz.underlying3 rfl bitsI rfl rfl rfl rfl rfl (by rw [putG_new hok.next, putN_new hok.next]; rfl), ?_⟩
  rintro _ _ ⟨rfl, rfl⟩
  refine ⟨[], rfl, ?_⟩
  refine ⟨⟨.inl (by kernel_rfl), .inl (by kernel_rfl), .inl (by kernel_rfl), .inl (by kernel_rfl), .inl (by kernel_rfl), .inl (by kernel_rfl), .inl (by kernel_rfl), .inl (by kernel_rfl), .inl (by kernel_rfl), .inl (by kernel_rfl), .inl (by kernel_rfl), .inl (by kernel_rfl), .inl (by kernel_rfl), .inl (by kernel_rfl), .inl (by kernel_rfl), .inl (by kernel_rfl), .inl (by kernel_rfl), trivial⟩, by kernel_rfl, ?_⟩
  refine At.mono (E' := [(0, .pointer (some ⟨c, 0, none⟩))]) ⟨rfl, trivial⟩ ?_
  refine At.seq ?_
  refine At.region ?_
  refine AtL.move (.inl rfl) rfl rfl ?_
  refine AtL.nilCheck (.inl rfl) rfl rfl ?_
  refine AtL.fieldAddrB tf_fo64_3 (.inl rfl) rfl rfl rfl ?_
  refine AtL.load tf_flat3 (.inl rfl) rfl rfl (Cell.own 7 0 rfl rfl rfl) ?_
  refine AtL.assign (.inl rfl) rfl rfl ?_
  refine AtL.assign (.inl rfl) rfl rfl ?_
  refine AtL.done ?_
  refine At.pick (H' := [(c, .cells #[.int .i64 most, .int .i64 idle, .int .i64 buffer, .int .i64 (last + 1), .map (some mb)] 64 (0, 0))] :: [(mb, mapG kyI Lk.v (kvs ++ [(last + 1, (Lk.req x1), mn)]) (mn + 1))] :: [(x1.b, .cells #[x1.ch.v, .bool x1.sd, .int .i64 x1.client, .int .i64 x1.wh, .int .i64 x1.buffer, .slice x1.wait.A x1.wait.l.length x1.wait.C, .bool x1.closing, .bool false, .pointer (some ⟨x1.hr, 0, none⟩), .pointer (some ⟨x1.wb, 0, none⟩), .int .i64 x1.last, .int .i64 x1.behind] 116 (0, 0))] :: [(x1.wb, .cells #[.int .i64 16, .int .i64 x1.first, .int .i64 x1.next, .map (some x1.mb)] 128 (0, 0))] :: [(x1.mb, mapG kyI tvB x1.dn x1.n)] :: x1.ch.s :: x1.wait.s :: x1.hs :: (x1.dn.flatMap fun e => e.2.1.s) :: H) [7, 8, 0, 1, 2, 3, 4, 5, 6] 9 rfl rfl ?_
  exact At.ret Tryz.func10 rfl rfl (⟨x1, ph2, y3, g4, h5, h6, h7, h8, h9, h10, h11, h12, rfl, rfl⟩)
set_option maxHeartbeats 400000 in
theorem copen_full {w0 : World} {base : Nat} {H : List Seg} {c mb : Nat} {most idle buffer last : Int} {kvs : List (Int × Lk × Nat)} {mn : Nat} {client now k : Int} {sd : Bool} (hk : k = 1 ∨ k = 2) (hm : ¬ most = 0) (hf : most ≤ (kvs.length : Int)) (hT : inT now) :
    SCalls Tryz.prog 10 [.pointer (some ⟨c, 0, none⟩), .int .i64 k, .bool sd, .int .i64 client, .int .i64 now] w0 base ([(c, .cells #[.int .i64 most, .int .i64 idle, .int .i64 buffer, .int .i64 last, .map (some mb)] 64 (0, 0))] :: [(mb, mapG kyI Lk.v kvs mn)] :: H) (fun v H' => v = .tuple #[int 0, int 8] ∧ H' = [(c, .cells #[.int .i64 most, .int .i64 idle, .int .i64 buffer, .int .i64 last, .map (some mb)] 64 (0, 0))] :: [(mb, mapG kyI Lk.v kvs mn)] :: H) := by
  refine SCalls.of_walk (n := 67) Tryz.func10 rfl rfl rfl fun cs => ?_
  refine At.seq ?_
  refine At.region ?_
  refine AtL.assign (.inl rfl) rfl rfl ?_
  refine AtL.assign (.inl rfl) rfl rfl ?_
  refine AtL.done ?_
  refine At.seq ?_
  refine At.block ?_
  refine At.seq ?_
  refine At.region ?_
  refine AtL.move (.inl rfl) rfl rfl ?_
  refine AtL.call tf_body31 (.inl rfl) rfl rfl (cnone_ok hm) ?_
  rintro _ _ ⟨rfl, rfl⟩
  refine AtL.assign (.inl rfl) rfl rfl ?_
  refine AtL.done ?_
  refine At.condF rfl ?_
  refine At.seq ?_
  refine At.region ?_
  refine AtL.move (.inl rfl) rfl rfl ?_
  refine AtL.nei (.inl rfl) rfl rfl rfl ?_
  refine AtL.move (.inl rfl) rfl rfl ?_
  refine AtL.join 3 (E' := [(21, .bool (decide ((¬ ((k : Int) = 1)) ∧ (¬ ((k : Int) = 2))))), (0, .pointer (some ⟨c, 0, none⟩)), (1, .int .i64 k), (2, .bool sd), (3, .int .i64 client), (4, .int .i64 now)]) (H' := [(c, .cells #[.int .i64 most, .int .i64 idle, .int .i64 buffer, .int .i64 last, .map (some mb)] 64 (0, 0))] :: [(mb, mapG kyI Lk.v kvs mn)] :: H) (fun J => ?_) ?_
  · refine AtL.split (t := 18) rfl ?_ ?_
    · intro hs18
      have hs18 : ¬ ((k : Int) = 1) := of_decide_eq_false (bnot_true hs18)
      refine AtL.move (.inr ⟨_, _, _, rfl, rfl, rfl, rfl⟩) rfl rfl ?_
      refine AtL.nei (.inr ⟨_, _, _, rfl, rfl, rfl, rfl⟩) rfl rfl rfl ?_
      refine AtL.pickT (.inl rfl) rfl rfl rfl ?_
      exact J _ (by exact ⟨(boolIs (by clear J; first | (simp [hs18]; done) | (simp_all; done) | grind)), rfl, rfl, rfl, rfl, rfl, trivial⟩)
    · intro hs18
      have hs18 : (k : Int) = 1 := of_decide_eq_true (bnot_false hs18)
      refine AtL.skipped rfl rfl rfl rfl rfl rfl ?_
      refine AtL.skipped rfl rfl rfl rfl rfl rfl ?_
      refine AtL.pickF (.inl rfl) rfl rfl rfl ?_
      exact J _ (by exact ⟨(boolIs (by clear J; first | (simp [hs18]; done) | (simp_all; done) | grind)), rfl, rfl, rfl, rfl, rfl, trivial⟩)
  · skip
    refine AtL.move (.inl rfl) rfl rfl ?_
    refine AtL.join 4 (E' := [(26, .bool (decide ((¬ ((k : Int) = 1)) ∧ (¬ ((k : Int) = 2))))), (0, .pointer (some ⟨c, 0, none⟩)), (1, .int .i64 k), (2, .bool sd), (3, .int .i64 client), (4, .int .i64 now)]) (H' := [(c, .cells #[.int .i64 most, .int .i64 idle, .int .i64 buffer, .int .i64 last, .map (some mb)] 64 (0, 0))] :: [(mb, mapG kyI Lk.v kvs mn)] :: H) (fun J => ?_) ?_
    · refine AtL.split (t := 22) rfl ?_ ?_
      · intro hs22
        have hs22 : (¬ ((k : Int) = 1)) ∧ (¬ ((k : Int) = 2)) := of_decide_eq_true hs22
        refine AtL.skipped rfl rfl rfl rfl rfl rfl ?_
        refine AtL.skipped rfl rfl rfl rfl rfl rfl ?_
        refine AtL.skipped rfl rfl rfl rfl rfl rfl ?_
        refine AtL.pickT (.inl rfl) rfl rfl rfl ?_
        exact J _ (by exact ⟨(boolIs (by clear J; first | (simp [hs22]; done) | (simp_all; done) | grind)), rfl, rfl, rfl, rfl, rfl, trivial⟩)
      · intro hs22
        have hs22 : ¬ ((¬ ((k : Int) = 1)) ∧ (¬ ((k : Int) = 2))) := of_decide_eq_false hs22
        refine AtL.move (.inr ⟨_, _, _, rfl, rfl, rfl, rfl⟩) rfl rfl ?_
        refine AtL.call tf_body32 (.inr ⟨_, _, _, rfl, rfl, rfl, rfl⟩) rfl rfl (within_yes hT) ?_
        rintro _ _ ⟨rfl, rfl⟩
        refine AtL.not (.inr ⟨_, _, _, rfl, rfl, rfl, rfl⟩) rfl rfl ?_
        refine AtL.pickF (.inl rfl) rfl rfl rfl ?_
        exact J _ (by exact ⟨(boolIs (by clear J; first | (simp [hs22]; done) | (simp_all; done) | grind)), rfl, rfl, rfl, rfl, rfl, trivial⟩)
    · skip
      refine AtL.assign (.inl rfl) rfl rfl ?_
      refine AtL.done ?_
      refine At.condIs false rfl (decide_eq_false (by omega)) ?_
      refine At.seq ?_
      refine At.draw (es := []) (pv := [(0, .pointer (some ⟨c, 0, none⟩)), (1, .pointer (some ⟨c, 0, none⟩)), (2, .pointer (some ⟨c, 4, none⟩)), (3, .map (some mb)), (4, .int .i64 (kvs.length : Int)), (5, .pointer (some ⟨c, 0, none⟩)), (6, .pointer (some ⟨c, 0, none⟩)), (7, .pointer (some ⟨c, 0, none⟩)), (8, .int .i64 most), (9, .bool (decide (most ≤ (kvs.length : Int)))), (10, .bool (decide (most ≤ (kvs.length : Int))))]) tf_mixed (by kernel_rfl) (by kernel_rfl) (by kernel_rfl) ?_
      refine ⟨⟨.inr ⟨_, rfl, rfl, .inl ⟨rfl, Do.move rfl⟩⟩, .inr ⟨_, rfl, rfl, .inl ⟨rfl, Do.nilCheck rfl⟩⟩, .inr ⟨_, rfl, rfl, .inl ⟨rfl, Do.fieldAddrB tf_fo64_4 rfl rfl⟩⟩, .inr ⟨_, rfl, rfl, .inl ⟨rfl, Do.load tf_flat62 rfl (Cell.own 0 0 rfl rfl rfl)⟩⟩, .inr ⟨_, rfl, rfl, .inl ⟨rfl, Do.lenM (Q := kyI) (tv := Lk.v) (l := kvs) 1 0 Tryz.underlying62 rfl rfl rfl⟩⟩, .inr ⟨_, rfl, rfl, .inl ⟨rfl, Do.move rfl⟩⟩, .inr ⟨_, rfl, rfl, .inl ⟨rfl, Do.nilCheck rfl⟩⟩, .inr ⟨_, rfl, rfl, .inl ⟨rfl, Do.fieldAddrB tf_fo64_0 rfl rfl⟩⟩, .inr ⟨_, rfl, rfl, .inl ⟨rfl, Do.load tf_flat3 rfl (Cell.own 0 0 rfl rfl rfl)⟩⟩, .inr ⟨_, rfl, rfl, .inl ⟨rfl, Do.geq rfl rfl⟩⟩, .inr ⟨_, rfl, rfl, .inl ⟨rfl, Do.assign rfl⟩⟩, trivial⟩, by kernel_rfl, ?_⟩
      refine At.mono (E' := [(0, .pointer (some ⟨c, 0, none⟩)), (1, .int .i64 k), (2, .bool sd), (3, .int .i64 client), (4, .int .i64 now), (27, .bool (decide (most ≤ (kvs.length : Int))))]) ⟨rfl, rfl, rfl, rfl, rfl, rfl, trivial⟩ ?_
      refine At.condIs true rfl (decide_eq_true (by omega)) ?_
      refine At.seq ?_
      refine At.region ?_
      refine AtL.assign (.inl rfl) rfl rfl ?_
      refine AtL.assign (.inl rfl) rfl rfl ?_
      refine AtL.done ?_
      exact At.ret Tryz.func10 rfl rfl (⟨rfl, rfl⟩)
end Go.Proofs.YtbfabhdfmoiabaaGreatDoor
namespace Go.Proofs.YtbfabhdfmoiabaaGreatDoor
set_option linter.unusedVariables false
set_option linter.unusedSimpArgs false
set_option maxRecDepth 100000
def linksS (kvs : List (Int × Lk × Nat)) : Seg := kvs.flatMap fun e => e.2.1.s
end Go.Proofs.YtbfabhdfmoiabaaGreatDoor
namespace Go.Proofs.YtbfabhdfmoiabaaGreatDoor
set_option linter.unusedVariables false
set_option linter.unusedSimpArgs false
set_option maxRecDepth 100000
structure ReqV where
  ch : ChV
  sd : Bool
  client : Int
  wh : Int
  buffer : Int
  wait : List UInt8
  closing : Bool
  kb : List UInt8
  over : Bool
  first : Int
  next : Int
  dn : List (Int × List UInt8)
  last : Int
  behind : Int
inductive LkV
  | str (x : StrV) (sz : Nat)
  | req (x : ReqV)
def LkV.wh : LkV → Int
  | .str x _ => x.wh
  | .req x => x.wh
inductive Good : Lk → LkV → Prop
  | str {x : Str} {v : StrV} {sz : Nat} (hp : x.p = v) (hk : x.ok) (hs : x.ch.y.l.length + x.y.l.length ≤ sz) : Good (.str x) (.str v sz)
  | req {x : Req} {v : ReqV} {ph : Rph} {y : Sl tyB 5} {g : Nat → Value} (hs : x.hs = (ph.s ++ (y.s ++ rdC x.hr ph y (.slice none 0 0) g))) (hr : RdOk ph y v.kb v.over) (hd : x.dn.map (fun e => (e.1, e.2.1.l)) = v.dn) (hlt : ∀ e ∈ x.dn, e.2.2 < x.n) (hnd : (x.dn.map fun e => e.2.2).Nodup)
      (hv : v = ⟨x.ch.p, x.sd, x.client, x.wh, x.buffer, x.wait.l, x.closing, v.kb, v.over, x.first, x.next, v.dn, x.last, x.behind⟩) : Good (.req x) (.req v)
theorem Good.wh {x : Lk} {v : LkV} (h : Good x v) : x.wh = v.wh := by
  cases h with
  | str hp hk hs => subst hp; rfl
  | req hs hr hd hlt hnd hv => rename_i x v ph y g; exact (show v.wh = x.wh by rw [hv]).symm
inductive All2 {α β : Type} (R : α → β → Prop) : List α → List β → Prop
  | nil : All2 R [] []
  | cons {a : α} {b : β} {l : List α} {m : List β} (h : R a b) (t : All2 R l m) : All2 R (a :: l) (b :: m)
def atP (i : Int) : List (Int × LkV) → Option LkV
  | [] => none
  | p :: r => if i = p.1 then some p.2 else atP i r
def setP (i : Int) (v : LkV) : List (Int × LkV) → List (Int × LkV)
  | [] => []
  | p :: r => if i = p.1 then (i, v) :: r else p :: setP i v r
def delP (i : Int) : List (Int × LkV) → List (Int × LkV)
  | [] => []
  | p :: r => if i = p.1 then r else p :: delP i r
def GoodP (e : Int × Lk × Nat) (p : Int × LkV) : Prop := e.1 = p.1 ∧ Good e.2.1 p.2
structure Cs (kvs : List (Int × Lk × Nat)) (mn : Nat) (last : Int) (P : List (Int × LkV)) : Prop where
  ok : KvOk kvs mn last
  all : All2 GoodP kvs P
theorem all_len {kvs : List (Int × Lk × Nat)} {P : List (Int × LkV)} (h : All2 GoodP kvs P) : kvs.length = P.length := by
  induction h with
  | nil => rfl
  | cons _ _ ih => rw [List.length_cons, List.length_cons, ih]
theorem all_at {kvs : List (Int × Lk × Nat)} {P : List (Int × LkV)} (h : All2 GoodP kvs P) {i : Int} {v : LkV} (hat : atP i P = some v) : ∃ lk, atG i kvs = some lk ∧ Good lk v := by
  induction h with
  | nil => cases hat
  | cons h _ ih =>
    rename_i a b l m _
    rw [atP] at hat
    rw [atG, h.1]
    split at hat
    · rename_i q; cases hat; exact ⟨_, by rw [if_pos q], h.2⟩
    · rename_i q; obtain ⟨lk, h1, h2⟩ := ih hat; exact ⟨lk, by rw [if_neg q]; exact h1, h2⟩
theorem all_del {kvs : List (Int × Lk × Nat)} {P : List (Int × LkV)} (h : All2 GoodP kvs P) (i : Int) : All2 GoodP (delG i kvs) (delP i P) := by
  induction h with
  | nil => exact .nil
  | cons h t ih =>
    rw [delG, delP, h.1]
    split
    · exact t
    · exact .cons h ih
theorem all_set {kvs : List (Int × Lk × Nat)} {P : List (Int × LkV)} (h : All2 GoodP kvs P) (i : Int) {lk : Lk} {v : LkV} (hg : Good lk v) : All2 GoodP (setG i lk kvs) (setP i v P) := by
  induction h with
  | nil => exact .nil
  | cons h t ih =>
    rw [setG, setP, h.1]
    split
    · exact .cons ⟨rfl, hg⟩ t
    · exact .cons h ih
theorem all_snoc {kvs : List (Int × Lk × Nat)} {P : List (Int × LkV)} (h : All2 GoodP kvs P) {e : Int × Lk × Nat} {p : Int × LkV} (hg : GoodP e p) : All2 GoodP (kvs ++ [e]) (P ++ [p]) := by
  induction h with
  | nil => exact .cons hg .nil
  | cons h t ih => exact .cons h ih
theorem del_sub (i : Int) (kvs : List (Int × Lk × Nat)) : (delG i kvs).Sublist kvs := by
  induction kvs with
  | nil => exact .slnil
  | cons p r ih =>
    rw [delG]
    split
    · exact List.sublist_cons_self p r
    · exact ih.cons_cons p
theorem KvOk.sub {kvs K : List (Int × Lk × Nat)} {mn : Nat} {last : Int} (h : KvOk kvs mn last) (hs : K.Sublist kvs) : KvOk K mn last :=
  ⟨fun e he => h.lt e (hs.subset he), List.Sublist.nodup (hs.map _) h.nd, List.Pairwise.sublist (hs.map _) h.sorted, fun e he => h.le e (hs.subset he), fun e he => h.wh e (hs.subset he), Nat.le_trans hs.length_le h.few, h.last⟩
theorem set_keys (i : Int) (lk : Lk) (kvs : List (Int × Lk × Nat)) : ((setG i lk kvs).map fun e => e.1) = (kvs.map fun e => e.1) ∧ ((setG i lk kvs).map fun e => e.2.2) = (kvs.map fun e => e.2.2) := by
  induction kvs with
  | nil => exact ⟨rfl, rfl⟩
  | cons p r ih =>
    rw [setG]
    split
    · rename_i q; subst q; exact ⟨rfl, rfl⟩
    · rw [List.map_cons, List.map_cons, List.map_cons, List.map_cons, ih.1, ih.2]; exact ⟨rfl, rfl⟩
theorem mem_set {i : Int} {lk : Lk} {kvs : List (Int × Lk × Nat)} {e : Int × Lk × Nat} (h : e ∈ setG i lk kvs) : e ∈ kvs ∨ e.2.1 = lk := by
  induction kvs with
  | nil => cases h
  | cons p r ih =>
    rw [setG] at h
    split at h
    · rcases List.mem_cons.1 h with rfl | h
      · exact .inr rfl
      · exact .inl (List.mem_cons_of_mem _ h)
    · rcases List.mem_cons.1 h with rfl | h
      · exact .inl (List.mem_cons_self ..)
      · rcases ih h with h | h
        · exact .inl (List.mem_cons_of_mem _ h)
        · exact .inr h
theorem KvOk.set {kvs : List (Int × Lk × Nat)} {mn : Nat} {last : Int} (h : KvOk kvs mn last) (i : Int) {lk : Lk} (hw : inT lk.wh) : KvOk (setG i lk kvs) mn last := by
  obtain ⟨h1, h2⟩ := set_keys i lk kvs
  refine ⟨fun e he => ?_, by rw [h2]; exact h.nd, by rw [h1]; exact h.sorted, fun e he => ?_, fun e he => ?_, ?_, h.last⟩
  · have : e.2.2 ∈ (setG i lk kvs).map fun e => e.2.2 := List.mem_map.2 ⟨e, he, rfl⟩
    rw [h2] at this
    obtain ⟨e', he', q⟩ := List.mem_map.1 this
    rw [← q]; exact h.lt e' he'
  · have : e.1 ∈ (setG i lk kvs).map fun e => e.1 := List.mem_map.2 ⟨e, he, rfl⟩
    rw [h1] at this
    obtain ⟨e', he', q⟩ := List.mem_map.1 this
    rw [← q]; exact h.le e' he'
  · rcases mem_set he with h9 | h9
    · exact h.wh e h9
    · rw [h9]; exact hw
  · have := congrArg List.length h1
    rw [List.length_map, List.length_map] at this
    rw [this]; exact h.few
theorem links_del {kvs : List (Int × Lk × Nat)} {i : Int} {lk : Lk} (h : atG i kvs = some lk) : (linksS kvs).Perm (lk.s ++ linksS (delG i kvs)) := by
  induction kvs with
  | nil => cases h
  | cons p r ih =>
    rw [atG] at h
    rw [delG, linksS, List.flatMap_cons]
    split at h
    · rename_i q; cases h; rw [if_pos q]; exact List.Perm.refl _
    · rename_i q
      rw [if_neg q]
      refine ((ih h).append_left _).trans ?_
      rw [linksS, linksS, List.flatMap_cons, ← List.append_assoc, ← List.append_assoc]
      exact List.perm_append_comm.append_right _
theorem links_set {kvs : List (Int × Lk × Nat)} {i : Int} {lk lk' : Lk} (h : atG i kvs = some lk) : (linksS (setG i lk' kvs)).Perm (lk'.s ++ linksS (delG i kvs)) := by
  induction kvs with
  | nil => cases h
  | cons p r ih =>
    rw [atG] at h
    rw [delG, setG]
    split at h
    · rename_i q; rw [if_pos q, if_pos q, linksS, List.flatMap_cons]; exact List.Perm.refl _
    · rename_i q
      rw [if_neg q, if_neg q, linksS, List.flatMap_cons]
      refine ((ih h).append_left _).trans ?_
      rw [linksS, linksS, List.flatMap_cons, ← List.append_assoc, ← List.append_assoc]
      exact List.perm_append_comm.append_right _
theorem mapG_set {kvs : List (Int × Lk × Nat)} {i : Int} {lk lk' : Lk} (h : atG i kvs = some lk) (hv : lk'.v = lk.v) (n : Nat) : mapG kyI Lk.v (setG i lk' kvs) n = mapG kyI Lk.v kvs n := by
  have : ∀ kvs : List (Int × Lk × Nat), atG i kvs = some lk → mapGE kyI Lk.v (setG i lk' kvs) = mapGE kyI Lk.v kvs := by
    intro kvs
    induction kvs with
    | nil => intro _; rfl
    | cons p r ih =>
      intro h
      rw [atG] at h
      rw [setG]
      split at h
      · rename_i q; cases h; rw [if_pos q]; subst q; simp only [mapGE, List.map_cons, hv]
      · rename_i q; rw [if_neg q]; have := ih h; simp only [mapGE, List.map_cons] at this ⊢; rw [this]
  rw [mapG, mapG, this kvs h]
theorem SCalls.sepR {P : Program} {f : FuncId} {args : List Value} {w0 : World} {base : Nat} {H : List Seg} {R R' : Value → List Seg → Prop} (h : SCalls P f args w0 base H R) (hr : ∀ v H1, R v H1 → ∃ H2, (∀ w, Sep w0 base w H1 → Sep w0 base w H2) ∧ R' v H2) : SCalls P f args w0 base H R' :=
  fun w S cs => let ⟨e, w', fr, ⟨v, H1, hv, hR, S'⟩, r⟩ := h w S cs; let ⟨H2, hp, hR'⟩ := hr v H1 hR; ⟨e, w', fr, ⟨v, H2, hv, hR', hp w' S'⟩, r⟩
theorem flat_mid {a b s : Seg} (G : List Seg) {H : List Seg} (h : s.Perm G.flatten) : (a :: b :: s :: H).flatten.Perm (a :: b :: (G ++ H)).flatten := by
  simp only [List.flatten_cons, List.flatten_append]
  exact List.Perm.append_left _ (List.Perm.append_left _ (h.append_right _))
theorem sep_mid {w0 : World} {base : Nat} {pre : List Seg} {a b c1 c2 c3 c4 c5 : Seg} {G : List Seg} {w : World} (S : Sep w0 base w (pre ++ (a :: b :: c1 :: c2 :: c3 :: c4 :: c5 :: G))) : Sep w0 base w (pre ++ (a :: b :: G)) := by
  have S1 := S.flat (H' := (pre.flatten ++ a ++ b) :: c1 :: c2 :: c3 :: c4 :: c5 :: G) (by simp [List.append_assoc])
  have S2 := S1.pick [0] 6 rfl
  exact S2.flat (by show ((pre.flatten ++ a ++ b) :: G).flatten.Perm _; simp [List.append_assoc])
theorem str_parts (x : Str) (L : Seg) : ((Lk.str x).s ++ L).Perm ([[(x.b, .cells #[x.ch.v, .bool x.sd, .int .i64 x.client, .int .i64 x.wh, .int .i64 x.buffer, .slice x.wait.A x.wait.l.length x.wait.C, .bool x.closing, .bool false, .pointer (some ⟨x.r, 0, none⟩)] 108 (0, 0))], [(x.r, .cells #[.int .i64 65535, .bool x.br, .slice x.y.A x.y.l.length x.y.C, .int .i64 (x.off : Int), .int .i8 x.lr, .int .i64 x.e] 125 (0, 0))], x.ch.s, x.wait.s, x.y.s, L] : List Seg).flatten := by
  show ((Str.H x false).flatten ++ L).Perm _
  simp only [Str.H, List.flatten_cons, List.flatten_nil, List.append_assoc, List.append_nil, List.nil_append]
  exact List.Perm.refl _
theorem back_str {w0 : World} {base : Nat} {H : List Seg} {c mb : Nat} {most idle buffer last : Int} {kvs : List (Int × Lk × Nat)} {mn : Nat} {P : List (Int × LkV)} {i : Int} {X x' : Str} {cl : Bool} {v' : StrV} {sz' : Nat} (hc : Cs kvs mn last P) (hat : atG i kvs = some (.str X)) (hb : x'.b = X.b) (hp : x'.p = v') (hk : x'.ok) (hs : x'.ch.y.l.length + x'.y.l.length ≤ sz') (hwh : inT v'.wh) (pre : List Seg) :
    ∃ K, Cs K mn last (if cl = true then delP i P else setP i (.str v' sz') P) ∧ ∀ w, Sep w0 base w (pre ++ ([(c, .cells #[.int .i64 most, .int .i64 idle, .int .i64 buffer, .int .i64 last, .map (some mb)] 64 (0, 0))] :: [(mb, mapG kyI Lk.v (if cl = true then delG i kvs else kvs) mn)] :: [(x'.b, .cells #[x'.ch.v, .bool x'.sd, .int .i64 x'.client, .int .i64 x'.wh, .int .i64 x'.buffer, .slice x'.wait.A x'.wait.l.length x'.wait.C, .bool x'.closing, .bool cl, .pointer (some ⟨x'.r, 0, none⟩)] 108 (0, 0))] :: [(x'.r, .cells #[.int .i64 65535, .bool x'.br, .slice x'.y.A x'.y.l.length x'.y.C, .int .i64 (x'.off : Int), .int .i8 x'.lr, .int .i64 x'.e] 125 (0, 0))] :: x'.ch.s :: x'.wait.s :: x'.y.s :: linksS (delG i kvs) :: H)) → Sep w0 base w (pre ++ ([(c, .cells #[.int .i64 most, .int .i64 idle, .int .i64 buffer, .int .i64 last, .map (some mb)] 64 (0, 0))] :: [(mb, mapG kyI Lk.v K mn)] :: linksS K :: H)) := by
  cases cl with
  | true =>
    refine ⟨delG i kvs, ⟨hc.ok.sub (del_sub _ _), all_del hc.all i⟩, fun w S => ?_⟩
    exact sep_mid S
  | false =>
    refine ⟨setG i (.str x') kvs, ⟨hc.ok.set i (by show inT x'.wh; rw [← hp] at hwh; exact hwh), all_set hc.all i (.str hp hk hs)⟩, fun w S => ?_⟩
    refine S.flat ?_
    rw [mapG_set hat (by show Value.iface _ x'.ptr = Value.iface _ X.ptr; rw [Str.ptr, Str.ptr, hb])]
    rw [List.flatten_append, List.flatten_append]
    refine List.Perm.append_left _ ?_
    exact (flat_mid _ ((links_set hat).trans (str_parts x' _))).symm
theorem Cs.wh_at {kvs : List (Int × Lk × Nat)} {mn : Nat} {last : Int} {P : List (Int × LkV)} (hc : Cs kvs mn last P) {i : Int} {lk : Lk} (h : atG i kvs = some lk) : inT lk.wh := by
  have h1 := hc.ok.wh
  clear hc
  induction kvs with
  | nil => cases h
  | cons p r ih =>
    rw [atG] at h
    split at h
    · cases h; exact h1 p (List.mem_cons_self ..)
    · exact ih h fun e he => h1 e (List.mem_cons_of_mem _ he)
theorem send_k (x : ChV) (l : List UInt8) : (x.send l).2.k = x.k := by
  obtain ⟨sl, k, a, b, c, d, e⟩ := x
  cases sl <;> rfl
theorem answer_k (x : StrV) (slot : Int) (l : List UInt8) : (x.answer slot l).2.2.ch.k = x.ch.k := by
  rw [StrV.answer]; split
  · exact send_k _ _
  · rfl
theorem answer_wh (x : StrV) (slot : Int) (l : List UInt8) : (x.answer slot l).2.2.wh = x.wh := by
  rw [StrV.answer]; split <;> rfl
theorem bpush_str {w0 : World} {base : Nat} {H : List Seg} {c mb : Nat} {most idle buffer last : Int} {kvs : List (Int × Lk × Nat)} {mn : Nat} {P : List (Int × LkV)} {i now : Int} {x : StrV} {sz : Nat} {A : Option Addr} {C : Nat} {l : List UInt8} (hm : ¬ most = 0) (hc : Cs kvs mn last P) (hat : atP i P = some (.str x sz)) (h : Rd tyB w0 base H A C l) (hT : inT now) (hl7 : l.length ≤ 70000) (hcl : x.closing = false) (hsz : sz + l.length ≤ 200000000) :
    SCalls Tryz.prog 14 [(.pointer (some ⟨c, 0, none⟩)), int i, .slice A l.length C, int now] w0 base ([(c, .cells #[.int .i64 most, .int .i64 idle, .int .i64 buffer, .int .i64 last, .map (some mb)] 64 (0, 0))] :: [(mb, mapG kyI Lk.v kvs mn)] :: linksS kvs :: H) (fun v H' => ∃ (o : Sl tyGot 44) (ys : List (Sl tyB 5)) (K : List (Int × Lk × Nat)), o.l = ys.map (fun q => gotV q.v) ∧ ys.map (·.l) = (x.push l now).1 ∧ Cs K mn last (if (x.push l now).2.2.1 = true then delP i P else setP i (.str (x.push l now).2.2.2 (sz + l.length)) P) ∧ v = .tuple #[.slice o.A o.l.length o.C, int (x.push l now).2.1] ∧ H' = o.s :: segsOf ys :: [(c, .cells #[.int .i64 most, .int .i64 idle, .int .i64 buffer, .int .i64 last, .map (some mb)] 64 (0, 0))] :: [(mb, mapG kyI Lk.v K mn)] :: linksS K :: H) := by
  obtain ⟨lk, hG, hg⟩ := all_at hc.all hat
  cases hg with
  | str hp hk hs =>
    rename_i X
    subst hp
    have hcl : X.closing = false := hcl
    have hw : inT X.wh := hc.wh_at hG
    refine SCalls.sepR (SCalls.flat (flat_mid [[(X.b, .cells #[X.ch.v, .bool X.sd, .int .i64 X.client, .int .i64 X.wh, .int .i64 X.buffer, .slice X.wait.A X.wait.l.length X.wait.C, .bool X.closing, .bool false, .pointer (some ⟨X.r, 0, none⟩)] 108 (0, 0))], [(X.r, .cells #[.int .i64 65535, .bool X.br, .slice X.y.A X.y.l.length X.y.C, .int .i64 (X.off : Int), .int .i8 X.lr, .int .i64 X.e] 125 (0, 0))], X.ch.s, X.wait.s, X.y.s, linksS (delG i kvs)] ((links_del hG).trans (str_parts X _))) (by rw [hcl]; exact push_str (H := linksS (delG i kvs) :: H) hm hG hk (h.up _) hT hl7 hcl (by omega))) ?_
    rintro v H1 ⟨o, ys, x', cl, h1, h2, h3, h4, h5, h6, h7, rfl, rfl⟩
    obtain ⟨K, hK, hS⟩ := back_str (w0 := w0) (base := base) (H := H) (cl := cl) (most := most) (idle := idle) (buffer := buffer) (c := c) (mb := mb) hc hG h6 h3 h5 (sz' := sz + l.length) (by omega) (by show inT (max X.wh now); have h8 : 0 ≤ X.wh ∧ X.wh ≤ 1099511627776 := hw; have h9 : 0 ≤ now ∧ now ≤ 1099511627776 := hT; show 0 ≤ max X.wh now ∧ max X.wh now ≤ 1099511627776; omega) [o.s, segsOf ys]
    exact ⟨_, hS, o, ys, K, h1, h2, by rw [← h4]; exact hK, rfl, rfl⟩
theorem btake_str {w0 : World} {base : Nat} {H : List Seg} {c mb : Nat} {most idle buffer last : Int} {kvs : List (Int × Lk × Nat)} {mn : Nat} {P : List (Int × LkV)} {i now : Int} {x : StrV} {sz m : Nat} (hm : ¬ most = 0) (hc : Cs kvs mn last P) (hat : atP i P = some (.str x sz)) (hT : inT now) (hw : x.wait.length ≤ 1073741824) :
    SCalls Tryz.prog 16 [(.pointer (some ⟨c, 0, none⟩)), int i, int (m : Int), int now] w0 base ([(c, .cells #[.int .i64 most, .int .i64 idle, .int .i64 buffer, .int .i64 last, .map (some mb)] 64 (0, 0))] :: [(mb, mapG kyI Lk.v kvs mn)] :: linksS kvs :: H) (fun v H' => ∃ (o : Sl tyB 5) (K : List (Int × Lk × Nat)), o.l = (x.take m now).1 ∧ Cs K mn last (if (x.take m now).2.1 = true then delP i P else setP i (.str (x.take m now).2.2 sz) P) ∧ v = .tuple #[.slice o.A o.l.length o.C, int 0] ∧ H' = o.s :: [(c, .cells #[.int .i64 most, .int .i64 idle, .int .i64 buffer, .int .i64 last, .map (some mb)] 64 (0, 0))] :: [(mb, mapG kyI Lk.v K mn)] :: linksS K :: H) := by
  obtain ⟨lk, hG, hg⟩ := all_at hc.all hat
  cases hg with
  | str hp hk hs =>
    rename_i X
    subst hp
    have hwh : inT X.wh := hc.wh_at hG
    refine SCalls.sepR (SCalls.flat (flat_mid [[(X.b, .cells #[X.ch.v, .bool X.sd, .int .i64 X.client, .int .i64 X.wh, .int .i64 X.buffer, .slice X.wait.A X.wait.l.length X.wait.C, .bool X.closing, .bool false, .pointer (some ⟨X.r, 0, none⟩)] 108 (0, 0))], [(X.r, .cells #[.int .i64 65535, .bool X.br, .slice X.y.A X.y.l.length X.y.C, .int .i64 (X.off : Int), .int .i8 X.lr, .int .i64 X.e] 125 (0, 0))], X.ch.s, X.wait.s, X.y.s, linksS (delG i kvs)] ((links_del hG).trans (str_parts X _))) (take_str (H := linksS (delG i kvs) :: H) hm hG hk m hT hw)) ?_
    rintro v H1 ⟨o, x', cl, h1, h2, h3, h4, ⟨h5, h6⟩, rfl, rfl⟩
    have hsz' : x'.ch.y.l.length + x'.y.l.length ≤ sz := by rw [h6, show x'.ch.y.l = x'.p.ch.k from rfl, h3]; exact hs
    obtain ⟨K, hK, hS⟩ := back_str (w0 := w0) (base := base) (H := H) (cl := cl) (most := most) (idle := idle) (buffer := buffer) (c := c) (mb := mb) hc hG h5 h3 h2 (sz' := sz) hsz' (by show inT (if 0 < min m X.p.wait.length then max X.wh now else X.wh); split; (have h8 : 0 ≤ X.wh ∧ X.wh ≤ 1099511627776 := hwh; have h9 : 0 ≤ now ∧ now ≤ 1099511627776 := hT; show 0 ≤ max X.wh now ∧ max X.wh now ≤ 1099511627776; omega); exact hwh) [o.s]
    exact ⟨_, hS, o, K, h1, by rw [← h4]; exact hK, rfl, rfl⟩
theorem banswer_str {w0 : World} {base : Nat} {H : List Seg} {c mb : Nat} {most idle buffer last : Int} {kvs : List (Int × Lk × Nat)} {mn : Nat} {P : List (Int × LkV)} {i slot : Int} {x : StrV} {sz : Nat} {A : Option Addr} {C : Nat} {l : List UInt8} (hm : ¬ most = 0) (hc : Cs kvs mn last P) (hat : atP i P = some (.str x sz)) (h : Rd tyB w0 base H A C l) (hl : l.length ≤ 1000000) (hw : x.wait.length ≤ 1073741824) :
    SCalls Tryz.prog 15 [(.pointer (some ⟨c, 0, none⟩)), int i, int slot, .slice A l.length C] w0 base ([(c, .cells #[.int .i64 most, .int .i64 idle, .int .i64 buffer, .int .i64 last, .map (some mb)] 64 (0, 0))] :: [(mb, mapG kyI Lk.v kvs mn)] :: linksS kvs :: H) (fun v H' => ∃ K : List (Int × Lk × Nat), Cs K mn last (if (x.answer slot l).2.1 = true then delP i P else setP i (.str (x.answer slot l).2.2 sz) P) ∧ v = int (x.answer slot l).1 ∧ H' = [(c, .cells #[.int .i64 most, .int .i64 idle, .int .i64 buffer, .int .i64 last, .map (some mb)] 64 (0, 0))] :: [(mb, mapG kyI Lk.v K mn)] :: linksS K :: H) := by
  obtain ⟨lk, hG, hg⟩ := all_at hc.all hat
  cases hg with
  | str hp hk hs =>
    rename_i X
    subst hp
    have hwh : inT X.wh := hc.wh_at hG
    refine SCalls.sepR (SCalls.flat (flat_mid [[(X.b, .cells #[X.ch.v, .bool X.sd, .int .i64 X.client, .int .i64 X.wh, .int .i64 X.buffer, .slice X.wait.A X.wait.l.length X.wait.C, .bool X.closing, .bool false, .pointer (some ⟨X.r, 0, none⟩)] 108 (0, 0))], [(X.r, .cells #[.int .i64 65535, .bool X.br, .slice X.y.A X.y.l.length X.y.C, .int .i64 (X.off : Int), .int .i8 X.lr, .int .i64 X.e] 125 (0, 0))], X.ch.s, X.wait.s, X.y.s, linksS (delG i kvs)] ((links_del hG).trans (str_parts X _))) (answer_str (H := linksS (delG i kvs) :: H) hm hG hk slot (h.up _) hl hw)) ?_
    rintro v H1 ⟨x', cl, h1, h2, h3, ⟨h4, h6⟩, rfl, rfl⟩
    have hsz' : x'.ch.y.l.length + x'.y.l.length ≤ sz := by rw [h6, show x'.ch.y.l = x'.p.ch.k from rfl, h2, answer_k]; exact hs
    obtain ⟨K, hK, hS⟩ := back_str (w0 := w0) (base := base) (H := H) (cl := cl) (most := most) (idle := idle) (buffer := buffer) (c := c) (mb := mb) hc hG h4 h2 h1 (sz' := sz) hsz' (by rw [answer_wh]; exact hwh) []
    exact ⟨_, hS, K, by rw [← h3]; exact hK, rfl, rfl⟩
end Go.Proofs.YtbfabhdfmoiabaaGreatDoor
namespace Go.Proofs.YtbfabhdfmoiabaaGreatDoor
set_option linter.unusedVariables false
set_option linter.unusedSimpArgs false
set_option maxRecDepth 100000
theorem KvOk.snoc {kvs : List (Int × Lk × Nat)} {mn : Nat} {last : Int} (h : KvOk kvs mn last) {lk : Lk} (hw : inT lk.wh) (hf : kvs.length < 256) : KvOk (kvs ++ [(last + 1, lk, mn)]) (mn + 1) (last + 1) := by
  have hl := h.last
  refine ⟨fun e he => ?_, ?_, ?_, fun e he => ?_, fun e he => ?_, ?_, by omega⟩
  · rcases List.mem_append.1 he with he | he
    · have := h.lt e he; omega
    · rw [List.mem_singleton.1 he]; exact Nat.lt_succ_self _
  · rw [List.map_append, List.nodup_append]
    refine ⟨h.nd, by simp, fun a ha b hb q => ?_⟩
    simp only [List.map_cons, List.map_nil, List.mem_singleton] at hb
    obtain ⟨e, he, rfl⟩ := List.mem_map.1 ha
    have := h.lt e he
    omega
  · rw [List.map_append, List.pairwise_append]
    refine ⟨h.sorted, List.pairwise_singleton .., fun a ha b hb => ?_⟩
    simp only [List.map_cons, List.map_nil, List.mem_singleton] at hb
    obtain ⟨e, he, rfl⟩ := List.mem_map.1 ha
    have := (h.le e he).2
    omega
  · rcases List.mem_append.1 he with he | he
    · have := h.le e he; omega
    · rw [List.mem_singleton.1 he]; dsimp only; omega
  · rcases List.mem_append.1 he with he | he
    · exact h.wh e he
    · rw [List.mem_singleton.1 he]; exact hw
  · rw [List.length_append]; simp only [List.length_cons, List.length_nil]; omega
theorem req_parts (x : Req) (L : Seg) : ((Lk.req x).s ++ L).Perm ([[(x.b, .cells #[x.ch.v, .bool x.sd, .int .i64 x.client, .int .i64 x.wh, .int .i64 x.buffer, .slice x.wait.A x.wait.l.length x.wait.C, .bool x.closing, .bool false, .pointer (some ⟨x.hr, 0, none⟩), .pointer (some ⟨x.wb, 0, none⟩), .int .i64 x.last, .int .i64 x.behind] 116 (0, 0))], [(x.wb, .cells #[.int .i64 16, .int .i64 x.first, .int .i64 x.next, .map (some x.mb)] 128 (0, 0))], [(x.mb, mapG kyI tvB x.dn x.n)], x.ch.s, x.wait.s, x.hs, (x.dn.flatMap fun e => e.2.1.s), L] : List Seg).flatten := by
  show ((Req.H x false).flatten ++ L).Perm _
  simp only [Req.H, List.flatten_cons, List.flatten_nil, List.append_assoc, List.append_nil, List.nil_append]
  exact List.Perm.refl _
theorem links_snoc (kvs : List (Int × Lk × Nat)) (e : Int × Lk × Nat) : (linksS (kvs ++ [e])).Perm (e.2.1.s ++ linksS kvs) := by
  rw [linksS, List.flatMap_append, List.flatMap_cons, List.flatMap_nil, List.append_nil]
  exact List.perm_append_comm
theorem flat_mid2 {a b s : Seg} (G : List Seg) {H : List Seg} (h : s.Perm G.flatten) : (a :: b :: (G ++ H)).flatten.Perm (a :: b :: s :: H).flatten := (flat_mid G h).symm
theorem bopen_str {w0 : World} {base : Nat} {H : List Seg} {c mb : Nat} {most idle buffer last : Int} {kvs : List (Int × Lk × Nat)} {mn : Nat} {P : List (Int × LkV)} {client now : Int} {sd : Bool} (hm : ¬ most = 0) (hc : Cs kvs mn last P) (hf : (P.length : Int) < most) (h256 : most ≤ 256) (hT : inT now) (hl : last ≤ 1099511627776) :
    SCalls Tryz.prog 10 [(.pointer (some ⟨c, 0, none⟩)), int 1, .bool sd, int client, int now] w0 base ([(c, .cells #[.int .i64 most, .int .i64 idle, .int .i64 buffer, .int .i64 last, .map (some mb)] 64 (0, 0))] :: [(mb, mapG kyI Lk.v kvs mn)] :: linksS kvs :: H) (fun v H' => ∃ K : List (Int × Lk × Nat), Cs K (mn + 1) (last + 1) (P ++ [(last + 1, (.str ⟨⟨sd, [], false, false, false, false, false⟩, sd, client, now, buffer, [], false, [], false⟩ 0))]) ∧ v = .tuple #[int (last + 1), int 0] ∧ H' = [(c, .cells #[.int .i64 most, .int .i64 idle, .int .i64 buffer, .int .i64 (last + 1), .map (some mb)] 64 (0, 0))] :: [(mb, mapG kyI Lk.v K (mn + 1))] :: linksS K :: H) := by
  have hlen := all_len hc.all
  refine (copen_str (H := linksS kvs :: H) hm hc.ok (by rw [hlen]; exact hf) hT hl).flatR ?_
  rintro v H1 ⟨x, hp, hk, hy, rfl, rfl⟩
  have hw : inT x.wh := by have := congrArg StrV.wh hp; rw [show x.wh = x.p.wh from rfl, this]; exact hT
  refine ⟨_, flat_mid2 (s := linksS (kvs ++ [(last + 1, Lk.str x, mn)])) [[(x.b, .cells #[x.ch.v, .bool x.sd, .int .i64 x.client, .int .i64 x.wh, .int .i64 x.buffer, .slice x.wait.A x.wait.l.length x.wait.C, .bool x.closing, .bool false, .pointer (some ⟨x.r, 0, none⟩)] 108 (0, 0))], [(x.r, .cells #[.int .i64 65535, .bool x.br, .slice x.y.A x.y.l.length x.y.C, .int .i64 (x.off : Int), .int .i8 x.lr, .int .i64 x.e] 125 (0, 0))], x.ch.s, x.wait.s, x.y.s, linksS kvs] ((links_snoc _ _).trans (str_parts x _)), _, ⟨hc.ok.snoc (lk := .str x) hw (by omega), all_snoc hc.all ⟨rfl, .str hp hk ?_⟩⟩, rfl, rfl⟩
  have h8 := congrArg (fun v => v.ch.k) hp
  rw [hy, show x.ch.y.l = x.p.ch.k from rfl, h8]; exact Nat.le_refl _
theorem bopen_req {w0 : World} {base : Nat} {H : List Seg} {c mb : Nat} {most idle buffer last : Int} {kvs : List (Int × Lk × Nat)} {mn : Nat} {P : List (Int × LkV)} {client now : Int} {sd : Bool} (hm : ¬ most = 0) (hc : Cs kvs mn last P) (hf : (P.length : Int) < most) (h256 : most ≤ 256) (hT : inT now) (hl : last ≤ 1099511627776) :
    SCalls Tryz.prog 10 [(.pointer (some ⟨c, 0, none⟩)), int 2, .bool sd, int client, int now] w0 base ([(c, .cells #[.int .i64 most, .int .i64 idle, .int .i64 buffer, .int .i64 last, .map (some mb)] 64 (0, 0))] :: [(mb, mapG kyI Lk.v kvs mn)] :: linksS kvs :: H) (fun v H' => ∃ K : List (Int × Lk × Nat), Cs K (mn + 1) (last + 1) (P ++ [(last + 1, (.req ⟨⟨sd, [], false, false, false, false, false⟩, sd, client, now, buffer, [], false, [], false, 1, 1, [], 0, 0⟩))]) ∧ v = .tuple #[int (last + 1), int 0] ∧ H' = [(c, .cells #[.int .i64 most, .int .i64 idle, .int .i64 buffer, .int .i64 (last + 1), .map (some mb)] 64 (0, 0))] :: [(mb, mapG kyI Lk.v K (mn + 1))] :: linksS K :: H) := by
  have hlen := all_len hc.all
  refine (copen_req (H := linksS kvs :: H) hm hc.ok (by rw [hlen]; exact hf) hT hl).flatR ?_
  rintro v H1 ⟨x, ph, y, g, hs, hr, h1, h2, h3, h4, h5, ⟨h6, h7, h8, h9, h10, h11, h12⟩, rfl, rfl⟩
  have hw : inT x.wh := by rw [h4]; exact hT
  refine ⟨_, flat_mid2 (s := linksS (kvs ++ [(last + 1, Lk.req x, mn)])) [[(x.b, .cells #[x.ch.v, .bool x.sd, .int .i64 x.client, .int .i64 x.wh, .int .i64 x.buffer, .slice x.wait.A x.wait.l.length x.wait.C, .bool x.closing, .bool false, .pointer (some ⟨x.hr, 0, none⟩), .pointer (some ⟨x.wb, 0, none⟩), .int .i64 x.last, .int .i64 x.behind] 116 (0, 0))], [(x.wb, .cells #[.int .i64 16, .int .i64 x.first, .int .i64 x.next, .map (some x.mb)] 128 (0, 0))], [(x.mb, mapG kyI tvB x.dn x.n)], x.ch.s, x.wait.s, x.hs, (x.dn.flatMap fun e => e.2.1.s), linksS kvs] ((links_snoc _ _).trans (req_parts x _)), _, ⟨hc.ok.snoc (lk := .req x) hw (by omega), all_snoc hc.all ⟨rfl, .req hs hr ?_ ?_ ?_ ?_⟩⟩, rfl, rfl⟩
  · rw [h10]; rfl
  · rw [h10]; intro e he; cases he
  · rw [h10]; exact List.nodup_nil
  · rw [h1, h2, h3, h4, h5, h6, h7, h8, h9, h11, h12]; rfl
theorem bopen_full {w0 : World} {base : Nat} {H : List Seg} {c mb : Nat} {most idle buffer last : Int} {kvs : List (Int × Lk × Nat)} {mn : Nat} {P : List (Int × LkV)} {client now k : Int} {sd : Bool} (hk : k = 1 ∨ k = 2) (hm : ¬ most = 0) (hc : Cs kvs mn last P) (hf : most ≤ (P.length : Int)) (hT : inT now) :
    SCalls Tryz.prog 10 [(.pointer (some ⟨c, 0, none⟩)), int k, .bool sd, int client, int now] w0 base ([(c, .cells #[.int .i64 most, .int .i64 idle, .int .i64 buffer, .int .i64 last, .map (some mb)] 64 (0, 0))] :: [(mb, mapG kyI Lk.v kvs mn)] :: linksS kvs :: H) (fun v H' => v = .tuple #[int 0, int 8] ∧ H' = [(c, .cells #[.int .i64 most, .int .i64 idle, .int .i64 buffer, .int .i64 last, .map (some mb)] 64 (0, 0))] :: [(mb, mapG kyI Lk.v kvs mn)] :: linksS kvs :: H) :=
  copen_full (H := linksS kvs :: H) hk hm (by rw [all_len hc.all]; exact hf) hT
end Go.Proofs.YtbfabhdfmoiabaaGreatDoor
namespace Go.Proofs.YtbfabhdfmoiabaaGreatDoor
set_option linter.unusedVariables false
set_option linter.unusedSimpArgs false
set_option maxRecDepth 100000
theorem bnew {w0 : World} {base : Nat} {H : List Seg} {most idle buffer : Int} (h1 : 1 ≤ most ∧ most ≤ 256) (h2 : 1 ≤ idle ∧ idle ≤ 1073741824) (h3 : 512 ≤ buffer ∧ buffer ≤ 1048576) :
    SCalls Tryz.prog 9 [int most, int idle, int buffer] w0 base H (fun v H' => ∃ (c mb : Nat) (K : List (Int × Lk × Nat)), Cs K 0 0 [] ∧ v = .tuple #[(.pointer (some ⟨c, 0, none⟩)), int 0] ∧ H' = [(c, .cells #[.int .i64 most, .int .i64 idle, .int .i64 buffer, .int .i64 0, .map (some mb)] 64 (0, 0))] :: [(mb, mapG kyI Lk.v K 0)] :: linksS K :: H) := by
  refine (cnew_ok h1 h2 h3).flatR ?_
  rintro v H1 ⟨c, mb, rfl, rfl⟩
  exact ⟨_, List.Perm.of_eq (by show _ = ([(c, .cells #[.int .i64 most, .int .i64 idle, .int .i64 buffer, .int .i64 0, .map (some mb)] 64 (0, 0))] :: [(mb, mapG kyI Lk.v ([] : List (Int × Lk × Nat)) 0)] :: linksS [] :: H).flatten; rfl), c, mb, [], ⟨⟨(fun e h => by cases h), List.nodup_nil, List.Pairwise.nil, (fun e h => by cases h), (fun e h => by cases h), Nat.zero_le _, Int.le_refl _⟩, .nil⟩, rfl, rfl⟩
theorem bopen_str2 {w0 : World} {base : Nat} {H : List Seg} {c mb : Nat} {most idle buffer last : Int} {kvs : List (Int × Lk × Nat)} {mn : Nat} {P P2 : List (Int × LkV)} {client now n : Int} {sd : Bool} (hm : ¬ most = 0) (hc : Cs kvs mn last P) (hf : (P.length : Int) < most) (h256 : most ≤ 256) (hT : inT now) (hl : last ≤ 1099511627776) (hn : last + 1 = n) (hP : P ++ [(n, (.str ⟨⟨sd, [], false, false, false, false, false⟩, sd, client, now, buffer, [], false, [], false⟩ 0))] = P2) :
    SCalls Tryz.prog 10 [(.pointer (some ⟨c, 0, none⟩)), int 1, .bool sd, int client, int now] w0 base ([(c, .cells #[.int .i64 most, .int .i64 idle, .int .i64 buffer, .int .i64 last, .map (some mb)] 64 (0, 0))] :: [(mb, mapG kyI Lk.v kvs mn)] :: linksS kvs :: H) (fun v H' => ∃ K : List (Int × Lk × Nat), Cs K (mn + 1) n P2 ∧ v = .tuple #[int n, int 0] ∧ H' = [(c, .cells #[.int .i64 most, .int .i64 idle, .int .i64 buffer, .int .i64 n, .map (some mb)] 64 (0, 0))] :: [(mb, mapG kyI Lk.v K (mn + 1))] :: linksS K :: H) := by
  subst hn; subst hP; exact bopen_str hm hc hf h256 hT hl
theorem bopen_req2 {w0 : World} {base : Nat} {H : List Seg} {c mb : Nat} {most idle buffer last : Int} {kvs : List (Int × Lk × Nat)} {mn : Nat} {P P2 : List (Int × LkV)} {client now n : Int} {sd : Bool} (hm : ¬ most = 0) (hc : Cs kvs mn last P) (hf : (P.length : Int) < most) (h256 : most ≤ 256) (hT : inT now) (hl : last ≤ 1099511627776) (hn : last + 1 = n) (hP : P ++ [(n, (.req ⟨⟨sd, [], false, false, false, false, false⟩, sd, client, now, buffer, [], false, [], false, 1, 1, [], 0, 0⟩))] = P2) :
    SCalls Tryz.prog 10 [(.pointer (some ⟨c, 0, none⟩)), int 2, .bool sd, int client, int now] w0 base ([(c, .cells #[.int .i64 most, .int .i64 idle, .int .i64 buffer, .int .i64 last, .map (some mb)] 64 (0, 0))] :: [(mb, mapG kyI Lk.v kvs mn)] :: linksS kvs :: H) (fun v H' => ∃ K : List (Int × Lk × Nat), Cs K (mn + 1) n P2 ∧ v = .tuple #[int n, int 0] ∧ H' = [(c, .cells #[.int .i64 most, .int .i64 idle, .int .i64 buffer, .int .i64 n, .map (some mb)] 64 (0, 0))] :: [(mb, mapG kyI Lk.v K (mn + 1))] :: linksS K :: H) := by
  subst hn; subst hP; exact bopen_req hm hc hf h256 hT hl
theorem bpush1 {w0 : World} {base : Nat} {H : List Seg} {c mb : Nat} {most idle buffer last : Int} {kvs : List (Int × Lk × Nat)} {mn : Nat} {P P2 : List (Int × LkV)} {i now e : Int} {x x' : StrV} {sz : Nat} {cl : Bool} {A : Option Addr} {C : Nat} {l m : List UInt8} (hm : ¬ most = 0) (hc : Cs kvs mn last P) (hat : atP i P = some (.str x sz)) (h : Rd tyB w0 base H A C l) (hT : inT now) (hl7 : l.length ≤ 70000) (hcl : x.closing = false) (hsz : sz + l.length ≤ 200000000) (hr : x.push l now = ([m], e, cl, x')) (hP : (if cl = true then delP i P else setP i (.str x' (sz + l.length)) P) = P2) :
    SCalls Tryz.prog 14 [(.pointer (some ⟨c, 0, none⟩)), int i, .slice A l.length C, int now] w0 base ([(c, .cells #[.int .i64 most, .int .i64 idle, .int .i64 buffer, .int .i64 last, .map (some mb)] 64 (0, 0))] :: [(mb, mapG kyI Lk.v kvs mn)] :: linksS kvs :: H) (fun v H' => ∃ (o : Sl tyGot 44) (y : Sl tyB 5) (K : List (Int × Lk × Nat)), o.l = [gotV y.v] ∧ y.l = m ∧ Cs K mn last P2 ∧ v = .tuple #[.slice o.A o.l.length o.C, int e] ∧ H' = o.s :: y.s :: [(c, .cells #[.int .i64 most, .int .i64 idle, .int .i64 buffer, .int .i64 last, .map (some mb)] 64 (0, 0))] :: [(mb, mapG kyI Lk.v K mn)] :: linksS K :: H) := by
  refine (bpush_str hm hc hat h hT hl7 hcl hsz).flatR ?_
  rintro v H1 ⟨o, ys, K, h1, h2, h3, rfl, rfl⟩
  rw [hr] at h2 h3
  match ys, h1, h2 with
  | [y], h1, h2 =>
    have h2 : y.l = m := by simpa using h2
    exact ⟨_, (by show List.Perm _ (o.s :: y.s :: [(c, .cells #[.int .i64 most, .int .i64 idle, .int .i64 buffer, .int .i64 last, .map (some mb)] 64 (0, 0))] :: [(mb, mapG kyI Lk.v K mn)] :: linksS K :: H).flatten; exact List.Perm.of_eq (by simp [segsOf])), o, y, K, h1, h2, hP ▸ h3, by rw [hr], rfl⟩
theorem btake2 {w0 : World} {base : Nat} {H : List Seg} {c mb : Nat} {most idle buffer last : Int} {kvs : List (Int × Lk × Nat)} {mn : Nat} {P P2 : List (Int × LkV)} {i now : Int} {x x' : StrV} {sz m : Nat} {cl : Bool} {r : List UInt8} (hm : ¬ most = 0) (hc : Cs kvs mn last P) (hat : atP i P = some (.str x sz)) (hT : inT now) (hw : x.wait.length ≤ 1073741824) (hr : x.take m now = (r, cl, x')) (hP : (if cl = true then delP i P else setP i (.str x' sz) P) = P2) :
    SCalls Tryz.prog 16 [(.pointer (some ⟨c, 0, none⟩)), int i, int (m : Int), int now] w0 base ([(c, .cells #[.int .i64 most, .int .i64 idle, .int .i64 buffer, .int .i64 last, .map (some mb)] 64 (0, 0))] :: [(mb, mapG kyI Lk.v kvs mn)] :: linksS kvs :: H) (fun v H' => ∃ (o : Sl tyB 5) (K : List (Int × Lk × Nat)), o.l = r ∧ Cs K mn last P2 ∧ v = .tuple #[.slice o.A o.l.length o.C, int 0] ∧ H' = o.s :: [(c, .cells #[.int .i64 most, .int .i64 idle, .int .i64 buffer, .int .i64 last, .map (some mb)] 64 (0, 0))] :: [(mb, mapG kyI Lk.v K mn)] :: linksS K :: H) := by
  have h := btake_str (w0 := w0) (base := base) (H := H) (idle := idle) (buffer := buffer) (c := c) (mb := mb) (m := m) hm hc hat hT hw
  rw [hr] at h
  dsimp only at h
  rwa [hP] at h
theorem banswer2 {w0 : World} {base : Nat} {H : List Seg} {c mb : Nat} {most idle buffer last : Int} {kvs : List (Int × Lk × Nat)} {mn : Nat} {P P2 : List (Int × LkV)} {i slot e : Int} {x x' : StrV} {sz : Nat} {cl : Bool} {A : Option Addr} {C : Nat} {l : List UInt8} (hm : ¬ most = 0) (hc : Cs kvs mn last P) (hat : atP i P = some (.str x sz)) (h : Rd tyB w0 base H A C l) (hl : l.length ≤ 1000000) (hw : x.wait.length ≤ 1073741824) (hr : x.answer slot l = (e, cl, x')) (hP : (if cl = true then delP i P else setP i (.str x' sz) P) = P2) :
    SCalls Tryz.prog 15 [(.pointer (some ⟨c, 0, none⟩)), int i, int slot, .slice A l.length C] w0 base ([(c, .cells #[.int .i64 most, .int .i64 idle, .int .i64 buffer, .int .i64 last, .map (some mb)] 64 (0, 0))] :: [(mb, mapG kyI Lk.v kvs mn)] :: linksS kvs :: H) (fun v H' => ∃ K : List (Int × Lk × Nat), Cs K mn last P2 ∧ v = int e ∧ H' = [(c, .cells #[.int .i64 most, .int .i64 idle, .int .i64 buffer, .int .i64 last, .map (some mb)] 64 (0, 0))] :: [(mb, mapG kyI Lk.v K mn)] :: linksS K :: H) := by
  have h := banswer_str (w0 := w0) (base := base) (H := H) (idle := idle) (buffer := buffer) (c := c) (mb := mb) (slot := slot) hm hc hat h hl hw
  rw [hr] at h
  dsimp only at h
  rwa [hP] at h
end Go.Proofs.YtbfabhdfmoiabaaGreatDoor
namespace Go.Proofs.YtbfabhdfmoiabaaGreatDoor
set_option linter.unusedVariables false
set_option linter.unusedSimpArgs false
set_option maxRecDepth 100000
def mg28 : List UInt8 := [1, 2, 3, 4, 5, 6, 7, 8, 9, 10, 11, 12]
def fm28 : List UInt8 := [0, 12] ++ mg28
theorem fr_aw : frF 65535 (fm28 ++ [0]) = ⟨[mg28], 0, [0]⟩ := by
  have h0 : frF 65535 [0] = ⟨[], 0, [0]⟩ := frF_none (by decide +kernel) (by decide +kernel)
  have h1 : frS 65535 (fm28 ++ [0]) = ⟨0, 12⟩ := by kernel_rfl
  have h2 : (fm28 ++ [0]).drop 14 = [0] := by decide +kernel
  have h3 : subl (fm28 ++ [0]) 2 14 = mg28 := by decide +kernel
  rw [frF_more (by rw [h1]; decide), h1]
  show (⟨subl (fm28 ++ [0]) 2 14 :: (frF 65535 ((fm28 ++ [0]).drop 14)).out, (frF 65535 ((fm28 ++ [0]).drop 14)).e, (frF 65535 ((fm28 ++ [0]).drop 14)).rest⟩ : FrR) = _
  rw [h2, h3, h0]
set_option maxHeartbeats 400000 in
theorem message28_ok {w0 : World} {base : Nat} {H : List Seg}  :
    SCalls Tryz.prog 30 [] w0 base (H) (fun v H' => ∃ x : Sl tyB 5, x.l = mg28 ∧ v = .slice x.A x.l.length x.C ∧ H' = x.s :: H) := by
  have hmg : mg28.length = 12 := rfl
  have hfm : fm28.length = 14 := rfl
  refine SCalls.of_walk (n := 2) Tryz.func30 rfl rfl rfl fun cs => ?_
  refine At.seq ?_
  refine At.region ?_
  refine AtL.assign (.inl rfl) rfl rfl ?_
  refine AtL.done ?_
  refine At.seq ?_
  refine At.region ?_
  refine AtL.buildSlice (cs := [.int .u8 1, .int .u8 2, .int .u8 3, .int .u8 4, .int .u8 5, .int .u8 6, .int .u8 7, .int .u8 8, .int .u8 9, .int .u8 10, .int .u8 11, .int .u8 12]) Tryz.underlying34 tf_zero5 tf_sz5 rfl rfl (.inl rfl) rfl rfl rfl ?_
  intro b1
  refine AtL.own1 tyB (l := ([1, 2, 3, 4, 5, 6, 7, 8, 9, 10, 11, 12] : List UInt8)) rfl rfl (by first | decide | simp) ?_
  intro s2 o3
  refine AtL.assign (.inl rfl) rfl rfl ?_
  refine AtL.done ?_
  exact At.ret Tryz.func30 rfl rfl (⟨⟨(some ⟨b1, 0, none⟩), 12, [1, 2, 3, 4, 5, 6, 7, 8, 9, 10, 11, 12], s2, o3⟩, rfl, rfl, rfl⟩)
set_option maxHeartbeats 400000 in
theorem framed28_ok {w0 : World} {base : Nat} {H : List Seg}  :
    SCalls Tryz.prog 29 [] w0 base (H) (fun v H' => ∃ x : Sl tyB 5, x.l = fm28 ∧ v = .slice x.A x.l.length x.C ∧ H' = x.s :: H) := by
  have hmg : mg28.length = 12 := rfl
  have hfm : fm28.length = 14 := rfl
  refine SCalls.of_walk (n := 4) Tryz.func29 rfl rfl rfl fun cs => ?_
  refine At.seq ?_
  refine At.region ?_
  refine AtL.assign (.inl rfl) rfl rfl ?_
  refine AtL.done ?_
  refine At.seq ?_
  refine At.region ?_
  refine AtL.buildSlice (cs := [.int .u8 0, .int .u8 12]) Tryz.underlying34 tf_zero5 tf_sz5 rfl rfl (.inl rfl) rfl rfl rfl ?_
  intro b1
  refine AtL.own1 tyB (l := ([0, 12] : List UInt8)) rfl rfl (by first | decide | simp) ?_
  intro s2 o3
  refine AtL.call tf_body30 (.inl rfl) rfl rfl message28_ok ?_
  rintro _ _ ⟨⟨A4, C5, l6, s7, o8⟩, hx9, rfl, rfl⟩
  obtain rfl : mg28 = l6 := hx9.symm
  refine AtL.append (l := [0, 12]) (news := mg28) 1 tf_el34 rfl o3 (o8.rd (i := 0) rfl) (by first | omega | (simp only [List.length_append, List.length_cons, List.length_nil]; omega) | (simp; done) | (simp; omega)) (.inl rfl) rfl rfl rfl ?_
  intro A10 C11 s12 o13
  refine AtL.assign (.inl rfl) rfl rfl ?_
  refine AtL.done ?_
  refine At.pick (H' := s12 :: H) [1] 2 rfl rfl ?_
  exact At.ret Tryz.func29 rfl rfl (⟨⟨A10, C11, [0, 12] ++ mg28, s12, o13⟩, rfl, rfl, rfl⟩)
set_option maxHeartbeats 400000 in
theorem two_ok {w0 : World} {base : Nat} {H : List Seg}  :
    SCalls Tryz.prog 22 [] w0 base (H) (fun v H' => ∃ (c mb : Nat) (K : List (Int × Lk × Nat)), Cs K (0 + 1 + 1) 2 ([(1, (.str (⟨⟨false, [], false, false, false, false, false⟩, false, 7, 0, 600, [], false, [], false⟩ : StrV) 0)), (2, (.req ⟨⟨true, [], false, false, false, false, false⟩, true, 8, 0, 600, [], false, [], false, 1, 1, [], 0, 0⟩))] : List (Int × LkV)) ∧ v = .pointer (some ⟨c, 0, none⟩) ∧ H' = [(c, .cells #[.int .i64 2, .int .i64 10, .int .i64 600, .int .i64 2, .map (some mb)] 64 (0, 0))] :: [(mb, mapG kyI Lk.v K (0 + 1 + 1))] :: linksS K :: H) := by
  refine SCalls.of_walk (n := 42) Tryz.func22 rfl rfl rfl fun cs => ?_
  refine At.seq ?_
  refine At.region ?_
  refine AtL.assign (.inl rfl) rfl rfl ?_
  refine AtL.done ?_
  refine At.seq ?_
  refine At.region ?_
  refine AtL.call tf_body9 (.inl rfl) rfl rfl (bnew (most := 2) (idle := 10) (buffer := 600) (by omega) (by omega) (by omega)) ?_
  rintro _ _ ⟨c, mb, K1, hcs2, rfl, rfl⟩
  refine AtL.move (.inl rfl) rfl rfl ?_
  refine AtL.extract (.inl rfl) rfl rfl rfl ?_
  refine AtL.extract (.inl rfl) rfl rfl rfl ?_
  refine AtL.assign (.inl rfl) rfl rfl ?_
  refine AtL.assign (.inl rfl) rfl rfl ?_
  refine AtL.done ?_
  refine At.seq ?_
  refine At.seq ?_
  refine At.region ?_
  refine AtL.move (.inl rfl) rfl rfl ?_
  refine AtL.nei (.inl rfl) rfl rfl rfl ?_
  refine AtL.move (.inl rfl) rfl rfl ?_
  refine AtL.move (.inr ⟨_, _, _, rfl, rfl, rfl, rfl⟩) rfl rfl ?_
  refine AtL.eqPtrNil Tryz.underlying25 (.inr ⟨_, _, _, rfl, rfl, rfl, rfl⟩) rfl rfl rfl ?_
  refine AtL.pickF (.inl rfl) rfl rfl rfl ?_
  refine AtL.done ?_
  refine At.condF rfl ?_
  refine At.skip ?_
  refine At.seq ?_
  refine At.region ?_
  refine AtL.move (.inl rfl) rfl rfl ?_
  refine AtL.call tf_body10 (.inl rfl) rfl rfl (bopen_str2 (n := 1) (P2 := ([(1, (.str (⟨⟨false, [], false, false, false, false, false⟩, false, 7, 0, 600, [], false, [], false⟩ : StrV) 0))] : List (Int × LkV))) (P := ([] : List (Int × LkV))) (by omega) hcs2 (by simp) (by omega) (show inT 0 from (by unfold inT; omega)) (by omega) (by omega) rfl) ?_
  rintro _ _ ⟨K3, hcs4, rfl, rfl⟩
  refine AtL.move (.inl rfl) rfl rfl ?_
  refine AtL.extract (.inl rfl) rfl rfl rfl ?_
  refine AtL.extract (.inl rfl) rfl rfl rfl ?_
  refine AtL.assign (.inl rfl) rfl rfl ?_
  refine AtL.assign (.inl rfl) rfl rfl ?_
  refine AtL.done ?_
  refine At.seq ?_
  refine At.region ?_
  refine AtL.move (.inl rfl) rfl rfl ?_
  refine AtL.call tf_body10 (.inl rfl) rfl rfl (bopen_req2 (n := 2) (P2 := ([(1, (.str (⟨⟨false, [], false, false, false, false, false⟩, false, 7, 0, 600, [], false, [], false⟩ : StrV) 0)), (2, (.req ⟨⟨true, [], false, false, false, false, false⟩, true, 8, 0, 600, [], false, [], false, 1, 1, [], 0, 0⟩))] : List (Int × LkV))) (P := ([(1, (.str (⟨⟨false, [], false, false, false, false, false⟩, false, 7, 0, 600, [], false, [], false⟩ : StrV) 0))] : List (Int × LkV))) (by omega) hcs4 (by simp) (by omega) (show inT 0 from (by unfold inT; omega)) (by omega) (by omega) rfl) ?_
  rintro _ _ ⟨K5, hcs6, rfl, rfl⟩
  refine AtL.move (.inl rfl) rfl rfl ?_
  refine AtL.extract (.inl rfl) rfl rfl rfl ?_
  refine AtL.extract (.inl rfl) rfl rfl rfl ?_
  refine AtL.assign (.inl rfl) rfl rfl ?_
  refine AtL.assign (.inl rfl) rfl rfl ?_
  refine AtL.done ?_
  refine At.seq ?_
  refine At.seq ?_
  refine At.region ?_
  refine AtL.move (.inl rfl) rfl rfl ?_
  refine AtL.nei (.inl rfl) rfl rfl rfl ?_
  refine AtL.move (.inl rfl) rfl rfl ?_
  refine AtL.move (.inr ⟨_, _, _, rfl, rfl, rfl, rfl⟩) rfl rfl ?_
  refine AtL.nei (.inr ⟨_, _, _, rfl, rfl, rfl, rfl⟩) rfl rfl rfl ?_
  refine AtL.pickF (.inl rfl) rfl rfl rfl ?_
  refine AtL.move (.inl rfl) rfl rfl ?_
  refine AtL.move (.inr ⟨_, _, _, rfl, rfl, rfl, rfl⟩) rfl rfl ?_
  refine AtL.nei (.inr ⟨_, _, _, rfl, rfl, rfl, rfl⟩) rfl rfl rfl ?_
  refine AtL.pickF (.inl rfl) rfl rfl rfl ?_
  refine AtL.move (.inl rfl) rfl rfl ?_
  refine AtL.move (.inr ⟨_, _, _, rfl, rfl, rfl, rfl⟩) rfl rfl ?_
  refine AtL.nei (.inr ⟨_, _, _, rfl, rfl, rfl, rfl⟩) rfl rfl rfl ?_
  refine AtL.pickF (.inl rfl) rfl rfl rfl ?_
  refine AtL.done ?_
  refine At.condF rfl ?_
  refine At.skip ?_
  refine At.seq ?_
  refine At.region ?_
  refine AtL.move (.inl rfl) rfl rfl ?_
  refine AtL.assign (.inl rfl) rfl rfl ?_
  refine AtL.done ?_
  exact At.ret Tryz.func22 rfl rfl (⟨c, mb, K5, hcs6, rfl, rfl⟩)
theorem aw_push : (⟨⟨false, [], false, false, false, false, false⟩, false, 7, 0, 600, [], false, [], false⟩ : StrV).push (fm28 ++ [0]) 5 = ([mg28], 0, false, (⟨⟨false, [], false, false, false, false, false⟩, false, 7, 5, 600, [], false, [0], false⟩ : StrV)) := by
  have h : frF 65535 ([] ++ (fm28 ++ [0])) = ⟨[mg28], 0, [0]⟩ := fr_aw
  simp only [StrV.push, ChV.push, frP, frB, h, Bool.false_eq_true, if_false]
  rfl
set_option maxHeartbeats 400000 in
theorem awake28_ok {w0 : World} {base : Nat} {H : List Seg}  :
    SCalls Tryz.prog 8 [] w0 base (H) (fun v H' => v = .bool true ∧ H' = H) := by
  have hmg : mg28.length = 12 := rfl
  have hfm : fm28.length = 14 := rfl
  refine SCalls.of_walk (n := 79) Tryz.func8 rfl rfl rfl fun cs => ?_
  refine At.seq ?_
  refine At.region ?_
  refine AtL.assign (.inl rfl) rfl rfl ?_
  refine AtL.done ?_
  refine At.seq ?_
  refine At.region ?_
  refine AtL.call tf_body22 (.inl rfl) rfl rfl two_ok ?_
  rintro _ _ ⟨c, mb, K1, hcs2, rfl, rfl⟩
  refine AtL.assign (.inl rfl) rfl rfl ?_
  refine AtL.done ?_
  refine At.seq ?_
  refine At.seq ?_
  refine At.region ?_
  refine AtL.move (.inl rfl) rfl rfl ?_
  refine AtL.eqPtrNil Tryz.underlying25 (.inl rfl) rfl rfl rfl ?_
  refine AtL.done ?_
  refine At.condF rfl ?_
  refine At.skip ?_
  refine At.seq ?_
  refine At.region ?_
  refine AtL.move (.inl rfl) rfl rfl ?_
  refine AtL.call tf_body10 (.inl rfl) rfl rfl (bopen_full (by decide) (P := ([(1, (.str (⟨⟨false, [], false, false, false, false, false⟩, false, 7, 0, 600, [], false, [], false⟩ : StrV) 0)), (2, (.req ⟨⟨true, [], false, false, false, false, false⟩, true, 8, 0, 600, [], false, [], false, 1, 1, [], 0, 0⟩))] : List (Int × LkV))) (by omega) hcs2 (by simp) (show inT 0 from (by unfold inT; omega))) ?_
  rintro _ _ ⟨rfl, rfl⟩
  refine AtL.move (.inl rfl) rfl rfl ?_
  refine AtL.extract (.inl rfl) rfl rfl rfl ?_
  refine AtL.extract (.inl rfl) rfl rfl rfl ?_
  refine AtL.assign (.inl rfl) rfl rfl ?_
  refine AtL.assign (.inl rfl) rfl rfl ?_
  refine AtL.done ?_
  refine At.seq ?_
  refine At.region ?_
  refine AtL.move (.inl rfl) rfl rfl ?_
  refine AtL.call tf_body29 (.inl rfl) rfl rfl framed28_ok ?_
  rintro _ _ ⟨⟨A3, C4, l5, s6, o7⟩, hx8, rfl, rfl⟩
  obtain rfl : fm28 = l5 := hx8.symm
  refine AtL.buildSlice (cs := [.int .u8 0]) Tryz.underlying34 tf_zero5 tf_sz5 rfl rfl (.inl rfl) rfl rfl rfl ?_
  intro b9
  refine AtL.own1 tyB (l := ([0] : List UInt8)) rfl rfl (by first | decide | simp) ?_
  intro s10 o11
  refine AtL.append (l := fm28) (news := [0]) 1 tf_el34 rfl o7 (o11.rd (i := 0) rfl) (by first | omega | (simp only [List.length_append, List.length_cons, List.length_nil]; omega) | (simp; done) | (simp; omega)) (.inl rfl) rfl rfl rfl ?_
  intro A12 C13 s14 o15
  refine AtL.pick (H' := [(c, .cells #[.int .i64 2, .int .i64 10, .int .i64 600, .int .i64 2, .map (some mb)] 64 (0, 0))] :: [(mb, mapG kyI Lk.v K1 (0 + 1 + 1))] :: linksS K1 :: s10 :: s14 :: H) [2, 3, 4, 0, 1] 5 rfl rfl ?_
  refine AtL.call tf_body14 (.inl rfl) rfl rfl (bpush1 (m := mg28) (e := 0) (cl := false) (x := (⟨⟨false, [], false, false, false, false, false⟩, false, 7, 0, 600, [], false, [], false⟩ : StrV)) (x' := (⟨⟨false, [], false, false, false, false, false⟩, false, 7, 5, 600, [], false, [0], false⟩ : StrV)) (P2 := ([(1, (.str (⟨⟨false, [], false, false, false, false, false⟩, false, 7, 5, 600, [], false, [0], false⟩ : StrV) (0 + (fm28 ++ [0]).length))), (2, (.req ⟨⟨true, [], false, false, false, false, false⟩, true, 8, 0, 600, [], false, [], false, 1, 1, [], 0, 0⟩))] : List (Int × LkV))) (l := fm28 ++ [0]) (P := ([(1, (.str (⟨⟨false, [], false, false, false, false, false⟩, false, 7, 0, 600, [], false, [], false⟩ : StrV) 0)), (2, (.req ⟨⟨true, [], false, false, false, false, false⟩, true, 8, 0, 600, [], false, [], false, 1, 1, [], 0, 0⟩))] : List (Int × LkV))) (by omega) hcs2 rfl (o15.rd (i := 1) rfl) (show inT 5 from (by unfold inT; omega)) (by first | decide | (simp; done) | omega) rfl (by first | decide | (simp; done) | omega) (show _ = _ from aw_push) rfl) ?_
  rintro _ _ ⟨⟨A20, C21, l22, s23, o24⟩, y25, K16, ho19, hy26, hcs17, rfl, rfl⟩
  obtain rfl : [gotV y25.v] = l22 := ho19.symm
  have hel27 : ∀ q ∈ [gotV y25.v], Rd tyField w0 base (y25.s :: H) q.2.2.2.2.2.1.A q.2.2.2.2.2.1.C q.2.2.2.2.2.1.l ∧ Rd tyB w0 base (y25.s :: H) q.2.2.2.2.2.2.A q.2.2.2.2.2.2.C q.2.2.2.2.2.2.l := by intro q hq; rw [List.mem_singleton.1 hq]; exact ⟨Rd.nil_, y25.own.rd (i := 0) rfl⟩
  refine AtL.move (.inl rfl) rfl rfl ?_
  refine AtL.extract (.inl rfl) rfl rfl rfl ?_
  refine AtL.extract (.inl rfl) rfl rfl rfl ?_
  refine AtL.assign (.inl rfl) rfl rfl ?_
  refine AtL.assign (.inl rfl) rfl rfl ?_
  refine AtL.done ?_
  refine At.seq ?_
  refine At.region ?_
  refine AtL.move (.inl rfl) rfl rfl ?_
  refine AtL.call tf_body30 (.inl rfl) rfl rfl message28_ok ?_
  rintro _ _ ⟨⟨A28, C29, l30, s31, o32⟩, hx33, rfl, rfl⟩
  obtain rfl : mg28 = l30 := hx33.symm
  refine AtL.pick (H' := [(c, .cells #[.int .i64 2, .int .i64 10, .int .i64 600, .int .i64 2, .map (some mb)] 64 (0, 0))] :: [(mb, mapG kyI Lk.v K16 (0 + 1 + 1))] :: linksS K16 :: s31 :: s23 :: y25.s :: s10 :: s14 :: H) [3, 4, 5, 0, 1, 2, 6, 7] 8 rfl rfl ?_
  refine AtL.call tf_body15 (.inl rfl) rfl rfl (banswer2 (slot := 0) (e := 0) (l := mg28) (cl := false) (x := (⟨⟨false, [], false, false, false, false, false⟩, false, 7, 5, 600, [], false, [0], false⟩ : StrV)) (x' := (⟨⟨false, [], false, false, false, false, false⟩, false, 7, 5, 600, fm28, false, [0], false⟩ : StrV)) (P2 := ([(1, (.str (⟨⟨false, [], false, false, false, false, false⟩, false, 7, 5, 600, fm28, false, [0], false⟩ : StrV) (0 + (fm28 ++ [0]).length))), (2, (.req ⟨⟨true, [], false, false, false, false, false⟩, true, 8, 0, 600, [], false, [], false, 1, 1, [], 0, 0⟩))] : List (Int × LkV))) (P := ([(1, (.str (⟨⟨false, [], false, false, false, false, false⟩, false, 7, 5, 600, [], false, [0], false⟩ : StrV) (0 + (fm28 ++ [0]).length))), (2, (.req ⟨⟨true, [], false, false, false, false, false⟩, true, 8, 0, 600, [], false, [], false, 1, 1, [], 0, 0⟩))] : List (Int × LkV))) (by omega) hcs17 rfl (o32.rd (i := 0) rfl) (by first | decide | (simp; done) | omega) (by first | decide | (simp; done) | omega) (by kernel_rfl) rfl) ?_
  rintro _ _ ⟨K34, hcs35, rfl, rfl⟩
  refine AtL.assign (.inl rfl) rfl rfl ?_
  refine AtL.done ?_
  refine At.seq ?_
  refine At.region ?_
  refine AtL.move (.inl rfl) rfl rfl ?_
  refine AtL.call tf_body16 (.inl rfl) rfl rfl (btake2 (m := 100) (r := fm28) (cl := false) (x := (⟨⟨false, [], false, false, false, false, false⟩, false, 7, 5, 600, fm28, false, [0], false⟩ : StrV)) (x' := (⟨⟨false, [], false, false, false, false, false⟩, false, 7, 6, 600, [], false, [0], false⟩ : StrV)) (P2 := ([(1, (.str (⟨⟨false, [], false, false, false, false, false⟩, false, 7, 6, 600, [], false, [0], false⟩ : StrV) (0 + (fm28 ++ [0]).length))), (2, (.req ⟨⟨true, [], false, false, false, false, false⟩, true, 8, 0, 600, [], false, [], false, 1, 1, [], 0, 0⟩))] : List (Int × LkV))) (P := ([(1, (.str (⟨⟨false, [], false, false, false, false, false⟩, false, 7, 5, 600, fm28, false, [0], false⟩ : StrV) (0 + (fm28 ++ [0]).length))), (2, (.req ⟨⟨true, [], false, false, false, false, false⟩, true, 8, 0, 600, [], false, [], false, 1, 1, [], 0, 0⟩))] : List (Int × LkV))) (by omega) hcs35 rfl (show inT 6 from (by unfold inT; omega)) (by first | decide | (simp; done) | omega) (by kernel_rfl) rfl) ?_
  rintro _ _ ⟨⟨A39, C40, l41, s42, o43⟩, K36, ho38, hcs37, rfl, rfl⟩
  obtain rfl : fm28 = l41 := ho38.symm
  refine AtL.move (.inl rfl) rfl rfl ?_
  refine AtL.extract (.inl rfl) rfl rfl rfl ?_
  refine AtL.extract (.inl rfl) rfl rfl rfl ?_
  refine AtL.assign (.inl rfl) rfl rfl ?_
  refine AtL.assign (.inl rfl) rfl rfl ?_
  refine AtL.done ?_
  refine At.seq ?_
  refine At.draw (es := [26, 43]) (pv := [(0, .int .i64 8), (1, .bool true), (2, .bool true), (3, .slice A20 [gotV y25.v].length C21), (4, .int .i64 ([gotV y25.v].length : Int)), (5, .bool true), (6, .bool true), (7, .bool true), (8, .slice A20 [gotV y25.v].length C21), (9, .pointer (some (eaddr A20 (0 * tyGot.sz)))), (10, .pointer (some ((eaddr A20 (0 * tyGot.sz)).add 0))), (11, .int .i64 (([gotV y25.v].getD 0 ((0, 0, [], [], 0, ⟨none, 0, []⟩, ⟨none, 0, []⟩) : Int × Int × List UInt8 × List UInt8 × Int × Vs (List UInt8 × List UInt8) × Vs UInt8)).1)), (12, .bool true), (13, .bool true), (14, .bool true), (15, .slice A20 [gotV y25.v].length C21), (16, .pointer (some (eaddr A20 (0 * tyGot.sz)))), (17, .pointer (some ((eaddr A20 (0 * tyGot.sz)).add 1))), (18, .int .i64 (([gotV y25.v].getD 0 ((0, 0, [], [], 0, ⟨none, 0, []⟩, ⟨none, 0, []⟩) : Int × Int × List UInt8 × List UInt8 × Int × Vs (List UInt8 × List UInt8) × Vs UInt8)).2.1)), (19, .bool true), (20, .bool true), (21, .bool true), (22, .slice A20 [gotV y25.v].length C21), (23, .pointer (some (eaddr A20 (0 * tyGot.sz)))), (24, .pointer (some ((eaddr A20 (0 * tyGot.sz)).add 6))), (25, .slice (([gotV y25.v].getD 0 ((0, 0, [], [], 0, ⟨none, 0, []⟩, ⟨none, 0, []⟩) : Int × Int × List UInt8 × List UInt8 × Int × Vs (List UInt8 × List UInt8) × Vs UInt8)).2.2.2.2.2.2.A) (([gotV y25.v].getD 0 ((0, 0, [], [], 0, ⟨none, 0, []⟩, ⟨none, 0, []⟩) : Int × Int × List UInt8 × List UInt8 × Int × Vs (List UInt8 × List UInt8) × Vs UInt8)).2.2.2.2.2.2.l).length (([gotV y25.v].getD 0 ((0, 0, [], [], 0, ⟨none, 0, []⟩, ⟨none, 0, []⟩) : Int × Int × List UInt8 × List UInt8 × Int × Vs (List UInt8 × List UInt8) × Vs UInt8)).2.2.2.2.2.2.C))]) tf_mixed (by kernel_rfl) (by kernel_rfl) (by kernel_rfl) ?_
  refine ⟨⟨.inr ⟨_, rfl, rfl, .inl ⟨rfl, Do.move rfl⟩⟩, .inr ⟨_, rfl, rfl, .inl ⟨rfl, Do.asBool (Do.eqi rfl rfl) (by decide)⟩⟩, .inr ⟨_, rfl, rfl, .inl ⟨rfl, Do.move rfl⟩⟩, .inr ⟨_, rfl, rfl, .inl ⟨⟨_, _, _, rfl, rfl, rfl, rfl⟩, Do.move rfl⟩⟩, .inr ⟨_, rfl, rfl, .inl ⟨⟨_, _, _, rfl, rfl, rfl, rfl⟩, Do.lenL Tryz.underlying37 rfl⟩⟩, .inr ⟨_, rfl, rfl, .inl ⟨⟨_, _, _, rfl, rfl, rfl, rfl⟩, Do.asBool (Do.eqi rfl rfl) (decide_eq_true rfl)⟩⟩, .inr ⟨_, rfl, rfl, .inl ⟨rfl, Do.pickT rfl rfl⟩⟩, .inr ⟨_, rfl, rfl, .inl ⟨rfl, Do.move rfl⟩⟩, .inr ⟨_, rfl, rfl, .inl ⟨⟨_, _, _, rfl, rfl, rfl, rfl⟩, Do.move rfl⟩⟩, .inr ⟨_, rfl, rfl, .inl ⟨⟨_, _, _, rfl, rfl, rfl, rfl⟩, Do.indexL 0 (o24.rd (i := 5) rfl) Tryz.underlying37 tf_sz44 rfl rfl rfl (Nat.lt_succ_self 0)⟩⟩, .inr ⟨_, rfl, rfl, .inl ⟨⟨_, _, _, rfl, rfl, rfl, rfl⟩, Do.fieldAddr tf_fo44_0 rfl⟩⟩, .inr ⟨_, rfl, rfl, .inl ⟨⟨_, _, _, rfl, rfl, rfl, rfl⟩, Do.load (v := .int .i64 (([gotV y25.v].getD 0 ((0, 0, [], [], 0, ⟨none, 0, []⟩, ⟨none, 0, []⟩) : Int × Int × List UInt8 × List UInt8 × Int × Vs (List UInt8 × List UInt8) × Vs UInt8)).1)) tf_flat3 rfl (Rd.cell_at (o24.rd (i := 5) rfl) (j := 0) (getD_some ((0, 0, [], [], 0, ⟨none, 0, []⟩, ⟨none, 0, []⟩) : Int × Int × List UInt8 × List UInt8 × Int × Vs (List UInt8 × List UInt8) × Vs UInt8) (Nat.lt_succ_self 0)) rfl)⟩⟩, .inr ⟨_, rfl, rfl, .inl ⟨⟨_, _, _, rfl, rfl, rfl, rfl⟩, Do.asBool (Do.eqi rfl rfl) (decide_eq_true rfl)⟩⟩, .inr ⟨_, rfl, rfl, .inl ⟨rfl, Do.pickT rfl rfl⟩⟩, .inr ⟨_, rfl, rfl, .inl ⟨rfl, Do.move rfl⟩⟩, .inr ⟨_, rfl, rfl, .inl ⟨⟨_, _, _, rfl, rfl, rfl, rfl⟩, Do.move rfl⟩⟩, .inr ⟨_, rfl, rfl, .inl ⟨⟨_, _, _, rfl, rfl, rfl, rfl⟩, Do.indexL 0 (o24.rd (i := 5) rfl) Tryz.underlying37 tf_sz44 rfl rfl rfl (Nat.lt_succ_self 0)⟩⟩, .inr ⟨_, rfl, rfl, .inl ⟨⟨_, _, _, rfl, rfl, rfl, rfl⟩, Do.fieldAddr tf_fo44_1 rfl⟩⟩, .inr ⟨_, rfl, rfl, .inl ⟨⟨_, _, _, rfl, rfl, rfl, rfl⟩, Do.load (v := .int .i64 (([gotV y25.v].getD 0 ((0, 0, [], [], 0, ⟨none, 0, []⟩, ⟨none, 0, []⟩) : Int × Int × List UInt8 × List UInt8 × Int × Vs (List UInt8 × List UInt8) × Vs UInt8)).2.1)) tf_flat3 rfl (Rd.cell_at (o24.rd (i := 5) rfl) (j := 1) (getD_some ((0, 0, [], [], 0, ⟨none, 0, []⟩, ⟨none, 0, []⟩) : Int × Int × List UInt8 × List UInt8 × Int × Vs (List UInt8 × List UInt8) × Vs UInt8) (Nat.lt_succ_self 0)) rfl)⟩⟩, .inr ⟨_, rfl, rfl, .inl ⟨⟨_, _, _, rfl, rfl, rfl, rfl⟩, Do.asBool (Do.eqi rfl rfl) (decide_eq_true rfl)⟩⟩, .inr ⟨_, rfl, rfl, .inl ⟨rfl, Do.pickT rfl rfl⟩⟩, .inr ⟨_, rfl, rfl, .inl ⟨rfl, Do.move rfl⟩⟩, .inr ⟨_, rfl, rfl, .inl ⟨⟨_, _, _, rfl, rfl, rfl, rfl⟩, Do.move rfl⟩⟩, .inr ⟨_, rfl, rfl, .inl ⟨⟨_, _, _, rfl, rfl, rfl, rfl⟩, Do.indexL 0 (o24.rd (i := 5) rfl) Tryz.underlying37 tf_sz44 rfl rfl rfl (Nat.lt_succ_self 0)⟩⟩, .inr ⟨_, rfl, rfl, .inl ⟨⟨_, _, _, rfl, rfl, rfl, rfl⟩, Do.fieldAddr tf_fo44_3 rfl⟩⟩, .inr ⟨_, rfl, rfl, .inl ⟨⟨_, _, _, rfl, rfl, rfl, rfl⟩, Do.load (v := .slice (([gotV y25.v].getD 0 ((0, 0, [], [], 0, ⟨none, 0, []⟩, ⟨none, 0, []⟩) : Int × Int × List UInt8 × List UInt8 × Int × Vs (List UInt8 × List UInt8) × Vs UInt8)).2.2.2.2.2.2.A) (([gotV y25.v].getD 0 ((0, 0, [], [], 0, ⟨none, 0, []⟩, ⟨none, 0, []⟩) : Int × Int × List UInt8 × List UInt8 × Int × Vs (List UInt8 × List UInt8) × Vs UInt8)).2.2.2.2.2.2.l).length (([gotV y25.v].getD 0 ((0, 0, [], [], 0, ⟨none, 0, []⟩, ⟨none, 0, []⟩) : Int × Int × List UInt8 × List UInt8 × Int × Vs (List UInt8 × List UInt8) × Vs UInt8)).2.2.2.2.2.2.C)) tf_flat34 rfl (Rd.cell_at (o24.rd (i := 5) rfl) (j := 6) (getD_some ((0, 0, [], [], 0, ⟨none, 0, []⟩, ⟨none, 0, []⟩) : Int × Int × List UInt8 × List UInt8 × Int × Vs (List UInt8 × List UInt8) × Vs UInt8) (Nat.lt_succ_self 0)) rfl)⟩⟩, trivial⟩, rfl, rfl, by kernel_rfl, _, rfl, rfl, ⟨_, _, _, rfl, rfl, rfl, rfl⟩, _, Do.call tf_body30 rfl message28_ok, ?_⟩
  rintro _ _ ⟨⟨A44, C45, l46, s47, o48⟩, hx49, rfl, rfl⟩
  obtain rfl : mg28 = l46 := hx49.symm
  refine ⟨[(27, .bool true), (28, .bool true), (29, .bool true), (30, .int .i64 0), (31, .bool true), (32, .bool true), (33, .bool true), (34, .int .i64 0), (35, .bool true), (36, .bool true), (37, .bool true), (38, .int .i64 0), (39, .bool true), (40, .bool true), (41, .bool true), (42, .slice A39 fm28.length C40)], rfl, ?_⟩
  refine ⟨⟨.inr ⟨_, rfl, rfl, .inl ⟨⟨_, _, _, rfl, rfl, rfl, rfl⟩, Do.asBool (Do.call tf_body18 rfl (same_ok (l := ([gotV y25.v].getD 0 ((0, 0, [], [], 0, ⟨none, 0, []⟩, ⟨none, 0, []⟩) : Int × Int × List UInt8 × List UInt8 × Int × Vs (List UInt8 × List UInt8) × Vs UInt8)).2.2.2.2.2.2.l) (l2 := mg28) (Rd.pick [7] 10 rfl rfl (hel27 _ (getD_mem (l := [gotV y25.v]) (i := 0) (d := ((0, 0, [], [], 0, ⟨none, 0, []⟩, ⟨none, 0, []⟩) : Int × Int × List UInt8 × List UInt8 × Int × Vs (List UInt8 × List UInt8) × Vs UInt8)) (Nat.lt_succ_self 0))).2) (o48.rd (i := 0) rfl))) (decide_eq_true hy26)⟩⟩, .inr ⟨_, rfl, rfl, .inl ⟨rfl, Do.pickT rfl rfl⟩⟩, .inr ⟨_, rfl, rfl, .inl ⟨rfl, Do.move rfl⟩⟩, .inr ⟨_, rfl, rfl, .inl ⟨⟨_, _, _, rfl, rfl, rfl, rfl⟩, Do.move rfl⟩⟩, .inr ⟨_, rfl, rfl, .inl ⟨⟨_, _, _, rfl, rfl, rfl, rfl⟩, Do.asBool (Do.eqi rfl rfl) (by decide)⟩⟩, .inr ⟨_, rfl, rfl, .inl ⟨rfl, Do.pickT rfl rfl⟩⟩, .inr ⟨_, rfl, rfl, .inl ⟨rfl, Do.move rfl⟩⟩, .inr ⟨_, rfl, rfl, .inl ⟨⟨_, _, _, rfl, rfl, rfl, rfl⟩, Do.move rfl⟩⟩, .inr ⟨_, rfl, rfl, .inl ⟨⟨_, _, _, rfl, rfl, rfl, rfl⟩, Do.asBool (Do.eqi rfl rfl) (by decide)⟩⟩, .inr ⟨_, rfl, rfl, .inl ⟨rfl, Do.pickT rfl rfl⟩⟩, .inr ⟨_, rfl, rfl, .inl ⟨rfl, Do.move rfl⟩⟩, .inr ⟨_, rfl, rfl, .inl ⟨⟨_, _, _, rfl, rfl, rfl, rfl⟩, Do.move rfl⟩⟩, .inr ⟨_, rfl, rfl, .inl ⟨⟨_, _, _, rfl, rfl, rfl, rfl⟩, Do.asBool (Do.eqi rfl rfl) (by decide)⟩⟩, .inr ⟨_, rfl, rfl, .inl ⟨rfl, Do.pickT rfl rfl⟩⟩, .inr ⟨_, rfl, rfl, .inl ⟨rfl, Do.move rfl⟩⟩, .inr ⟨_, rfl, rfl, .inl ⟨⟨_, _, _, rfl, rfl, rfl, rfl⟩, Do.move rfl⟩⟩, .inl (by kernel_rfl), .inl (by kernel_rfl), .inl (by kernel_rfl), .inl (by kernel_rfl), .inl (by kernel_rfl), .inl (by kernel_rfl), .inl (by kernel_rfl), .inl (by kernel_rfl), .inl (by kernel_rfl), .inl (by kernel_rfl), .inl (by kernel_rfl), .inl (by kernel_rfl), .inl (by kernel_rfl), .inl (by kernel_rfl), .inl (by kernel_rfl), .inl (by kernel_rfl), .inl (by kernel_rfl), .inl (by kernel_rfl), .inl (by kernel_rfl), .inl (by kernel_rfl), .inl (by kernel_rfl), .inl (by kernel_rfl), .inr ⟨_, rfl, rfl, .inl ⟨⟨_, _, _, rfl, rfl, rfl, rfl⟩, Do.move rfl⟩⟩, .inr ⟨_, rfl, rfl, .inl ⟨⟨_, _, _, rfl, rfl, rfl, rfl⟩, Do.indexL 0 (o24.rd (i := 6) rfl) Tryz.underlying37 tf_sz44 rfl rfl rfl (Nat.lt_succ_self 0)⟩⟩, .inr ⟨_, rfl, rfl, .inl ⟨⟨_, _, _, rfl, rfl, rfl, rfl⟩, Do.fieldAddr tf_fo44_3 rfl⟩⟩, .inr ⟨_, rfl, rfl, .inl ⟨⟨_, _, _, rfl, rfl, rfl, rfl⟩, Do.load (v := .slice (([gotV y25.v].getD 0 ((0, 0, [], [], 0, ⟨none, 0, []⟩, ⟨none, 0, []⟩) : Int × Int × List UInt8 × List UInt8 × Int × Vs (List UInt8 × List UInt8) × Vs UInt8)).2.2.2.2.2.2.A) (([gotV y25.v].getD 0 ((0, 0, [], [], 0, ⟨none, 0, []⟩, ⟨none, 0, []⟩) : Int × Int × List UInt8 × List UInt8 × Int × Vs (List UInt8 × List UInt8) × Vs UInt8)).2.2.2.2.2.2.l).length (([gotV y25.v].getD 0 ((0, 0, [], [], 0, ⟨none, 0, []⟩, ⟨none, 0, []⟩) : Int × Int × List UInt8 × List UInt8 × Int × Vs (List UInt8 × List UInt8) × Vs UInt8)).2.2.2.2.2.2.C)) tf_flat34 rfl (Rd.cell_at (o24.rd (i := 6) rfl) (j := 6) (getD_some ((0, 0, [], [], 0, ⟨none, 0, []⟩, ⟨none, 0, []⟩) : Int × Int × List UInt8 × List UInt8 × Int × Vs (List UInt8 × List UInt8) × Vs UInt8) (Nat.lt_succ_self 0)) rfl)⟩⟩, trivial⟩, rfl, rfl, by kernel_rfl, _, rfl, rfl, ⟨_, _, _, rfl, rfl, rfl, rfl⟩, _, Do.call tf_body29 rfl framed28_ok, ?_⟩
  rintro _ _ ⟨⟨A50, C51, l52, s53, o54⟩, hx55, rfl, rfl⟩
  obtain rfl : fm28 = l52 := hx55.symm
  refine ⟨[(44, .bool true), (45, .bool true), (46, .bool true)], rfl, ?_⟩
  refine ⟨⟨.inr ⟨_, rfl, rfl, .inl ⟨⟨_, _, _, rfl, rfl, rfl, rfl⟩, Do.asBool (Do.call tf_body18 rfl (same_ok (l := fm28) (l2 := fm28) (o43.rd (i := 2) rfl) (o54.rd (i := 0) rfl))) (decide_eq_true rfl)⟩⟩, .inr ⟨_, rfl, rfl, .inl ⟨rfl, Do.pickT rfl rfl⟩⟩, .inr ⟨_, rfl, rfl, .inl ⟨rfl, Do.assign rfl⟩⟩, .inl (by kernel_rfl), .inl (by kernel_rfl), .inl (by kernel_rfl), .inl (by kernel_rfl), .inl (by kernel_rfl), .inl (by kernel_rfl), .inl (by kernel_rfl), .inl (by kernel_rfl), .inl (by kernel_rfl), .inl (by kernel_rfl), .inl (by kernel_rfl), .inl (by kernel_rfl), .inl (by kernel_rfl), .inl (by kernel_rfl), .inl (by kernel_rfl), .inr ⟨_, rfl, rfl, .inl ⟨⟨_, _, _, rfl, rfl, rfl, rfl⟩, Do.move rfl⟩⟩, .inl (by kernel_rfl), .inl (by kernel_rfl), .inl (by kernel_rfl), .inl (by kernel_rfl), .inl (by kernel_rfl), .inl (by kernel_rfl), .inl (by kernel_rfl), .inl (by kernel_rfl), .inl (by kernel_rfl), .inl (by kernel_rfl), .inl (by kernel_rfl), .inl (by kernel_rfl), .inl (by kernel_rfl), .inl (by kernel_rfl), .inl (by kernel_rfl), .inl (by kernel_rfl), .inl (by kernel_rfl), .inl (by kernel_rfl), .inl (by kernel_rfl), .inl (by kernel_rfl), .inl (by kernel_rfl), .inl (by kernel_rfl), .inl (by kernel_rfl), .inl (by kernel_rfl), .inl (by kernel_rfl), .inl (by kernel_rfl), trivial⟩, by kernel_rfl, ?_⟩
  refine At.mono (E' := [(0, .bool true)]) ⟨rfl, trivial⟩ ?_
  refine At.pick (H' := H) [] 11 rfl rfl ?_
  exact At.ret Tryz.func8 rfl rfl (⟨rfl, rfl⟩)
end Go.Proofs.YtbfabhdfmoiabaaGreatDoor
namespace Go.Proofs.YtbfabhdfmoiabaaGreatDoor
set_option linter.unusedVariables false
set_option linter.unusedSimpArgs false
set_option maxRecDepth 100000
theorem oneF_off {h : Bool} {l : List UInt8} (he : (oneF h l).n = 0) : (oneF h l).off = false := by
  revert he
  unfold oneF
  repeat' split
  all_goals simp
theorem oneF_app {h : Bool} {a b : List UInt8} (ha : (oneF h a).n ≠ 0 ∨ (oneF h a).e ≠ 0) : oneF h (a ++ b) = oneF h a := by
  by_cases h0 : a.length = 0
  · exfalso; revert ha; rw [oneF, if_pos h0]; simp
  have g0 : (a ++ b).getD 0 0 = a.getD 0 0 := getD_left (by omega)
  have l0 : ¬ (a ++ b).length = 0 := by rw [List.length_append]; omega
  by_cases c1 : (a.getD 0 0).toNat < 1 ∨ 3 < (a.getD 0 0).toNat ∨ decide (((a.getD 0 0).toNat : Int) = 1) = h
  · rw [oneF, if_neg l0, g0, if_pos c1, oneF, if_neg h0, if_pos c1]
  by_cases h3 : a.length < 3
  · exfalso; revert ha; rw [oneF, if_neg h0, if_neg c1, if_pos h3]; simp
  have g1 : (a ++ b).getD 1 0 = a.getD 1 0 := getD_left (by omega)
  have g2 : (a ++ b).getD 2 0 = a.getD 2 0 := getD_left (by omega)
  have hlen : (a ++ b).length = a.length + b.length := List.length_append
  have l3 : ¬ (a ++ b).length < 3 := by omega
  rw [oneF, if_neg l0, g0, g1, g2, if_neg c1, if_neg l3]
  rw [oneF, if_neg h0, if_neg c1, if_neg h3]
  split
  · rfl
  split
  · rfl
  rename_i c2 c4
  by_cases h5 : a.length < 3 + (256 * (a.getD 1 0).toNat + (a.getD 2 0).toNat)
  · exfalso; revert ha; rw [oneF, if_neg h0, if_neg c1, if_neg h3, if_neg c2, if_neg c4, if_pos h5]; simp
  rw [if_neg (show ¬ (a ++ b).length < _ by omega), if_neg h5]
  have g3 : (a.getD 0 0).toNat = 1 → (a ++ b).getD 3 0 = a.getD 3 0 := fun h1 => getD_left (by omega)
  rw [subl_left (by omega)]
  split
  · rename_i h1; rw [g3 h1]
  · rfl
theorem oneF_short {h : Bool} {l : List UInt8} (h1 : (oneF h l).n = 0) (h2 : (oneF h l).e = 0) : l.length ≤ 1026 := by
  revert h1 h2
  unfold oneF
  repeat' split
  all_goals simp
  all_goals omega
theorem push_rest (h : Bool) (l : List UInt8) : (pushF h l).rest.length ≤ 1026 ∧ (pushF h l).rest.length ≤ l.length ∧ (pushF h l).out.length ≤ l.length := by
  induction l using (measure List.length).wf.induction generalizing h with
  | _ l ih =>
    have hn := oneF_n h l
    rw [pushF]
    split
    · simp
    · split
      · simp; omega
      · split
        · rename_i h1 h2 h3
          have := oneF_short h3 (by omega)
          simp; exact this
        · have := ih (l.drop (oneF h l).n) (show (List.drop _ _).length < _ by simp; omega) (oneF h l).h
          simp at this ⊢
          omega
theorem push_none {h : Bool} {l : List UInt8} (he : (oneF h l).e = 0) (ho : (oneF h l).off = false) (hn : (oneF h l).n = 0) : pushF h l = ⟨[], 0, l, (oneF h l).h, false⟩ := told_nil h l ▸ told_none he ho hn
theorem push_off {h : Bool} {l : List UInt8} (he : (oneF h l).e = 0) (ho : (oneF h l).off = true) : pushF h l = ⟨(oneF h l).x, 0, [], (oneF h l).h, true⟩ := told_nil h l ▸ told_off he ho
theorem push_err {h : Bool} {l : List UInt8} (he : (oneF h l).e ≠ 0) : pushF h l = ⟨[], (oneF h l).e, [], h, false⟩ := told_nil h l ▸ told_err he
theorem push_more {h : Bool} {l : List UInt8} (he : (oneF h l).e = 0) (ho : (oneF h l).off = false) (hn : (oneF h l).n ≠ 0) :
    pushF h l = { pushF (oneF h l).h (l.drop (oneF h l).n) with out := (oneF h l).x ++ (pushF (oneF h l).h (l.drop (oneF h l).n)).out } := told_nil h l ▸ told_more he ho hn
theorem oneF_n0 {h : Bool} {l : List UInt8} (ho : (oneF h l).off = true) : (oneF h l).n ≠ 0 := fun hn => by rw [oneF_off hn] at ho; cases ho
theorem oneF_hn {h : Bool} {l : List UInt8} (he : (oneF h l).n = 0) : (oneF h l).h = h := by
  revert he
  unfold oneF
  repeat' split
  all_goals simp
theorem push_app (h : Bool) (a b : List UInt8) : pushF h (a ++ b) =
    if (pushF h a).e ≠ 0 ∨ (pushF h a).off = true then pushF h a
    else { pushF (pushF h a).h ((pushF h a).rest ++ b) with out := (pushF h a).out ++ (pushF (pushF h a).h ((pushF h a).rest ++ b)).out } := by
  induction a using (measure List.length).wf.induction generalizing h with
  | _ a ih =>
    have hn := oneF_n h a
    by_cases he : (oneF h a).e = 0
    · cases ho : (oneF h a).off with
      | true =>
        have hA := oneF_app (b := b) (.inl (oneF_n0 ho))
        rw [push_off he ho, push_off (by rw [hA]; exact he) (by rw [hA]; exact ho), hA, if_pos (.inr rfl)]
      | false =>
        by_cases h0 : (oneF h a).n = 0
        · rw [push_none he ho h0, if_neg (by simp)]
          simp [oneF_hn h0]
        · have hA := oneF_app (b := b) (.inl h0)
          have hd : (a ++ b).drop (oneF h a).n = a.drop (oneF h a).n ++ b := List.drop_append_of_le_length hn.1
          rw [push_more (l := a ++ b) (by rw [hA]; exact he) (by rw [hA]; exact ho) (by rw [hA]; exact h0), hA, hd, ih _ (show (List.drop _ _).length < _ by simp; omega), push_more he ho h0]
          dsimp only
          split
          · rfl
          · simp
    · have hA := oneF_app (b := b) (.inr he)
      rw [push_err he, push_err (by rw [hA]; exact he), hA, if_pos (.inl he)]
theorem oneF_data {l b : List UInt8} (h1 : 0 < l.length) (h2 : l.length ≤ 1024) : oneF true (recB 2 l ++ b) = ⟨0, 3 + l.length, l, true, false⟩ := by
  have e0 : (recB 2 l ++ b).getD 0 0 = 2 := by simp [recB]; decide
  have e1 : ((recB 2 l ++ b).getD 1 0).toNat = l.length / 256 := by
    show (UInt8.ofInt ((l.length : Int) / 256)).toNat = _
    rw [ofInt_toNat]; omega
  have e2 : ((recB 2 l ++ b).getD 2 0).toNat = l.length % 256 := by
    show (UInt8.ofInt (l.length : Int)).toNat = _
    rw [ofInt_toNat]; omega
  have hl : (recB 2 l ++ b).length = 3 + l.length + b.length := by rw [List.length_append, recB_len]
  have hx : subl (recB 2 l ++ b) 3 (3 + l.length) = l := by
    simp [subl, recB]
  have e3 : 256 * (l.length / 256) + l.length % 256 = l.length := by omega
  rw [oneF, if_neg (by omega), e0, e1, e2, e3, hl]
  rw [if_neg (by decide), if_neg (by omega), if_neg (by rintro (⟨h, _⟩ | ⟨h, _⟩) <;> exact absurd h (by decide)), if_neg (by omega), if_neg (by omega), if_neg (by decide), if_neg (by decide), hx]
theorem push_recs (l b : List UInt8) : pushF true (recs l ++ b) = { pushF true b with out := l ++ (pushF true b).out } := by
  induction l using (measure List.length).wf.induction with
  | _ l ih =>
    by_cases h0 : 0 < l.length
    · have hd := oneF_data (l := l.take 1024) (b := recs (l.drop 1024) ++ b) (by simp; omega) (by simp; omega)
      rw [recs_more h0, List.append_assoc, push_more (by rw [hd]) (by rw [hd]) (by rw [hd]; simp), hd]
      dsimp only
      rw [show (recB 2 (l.take 1024) ++ (recs (l.drop 1024) ++ b)).drop (3 + (l.take 1024).length) = recs (l.drop 1024) ++ b from by rw [← recB_len 2]; exact List.drop_left, ih _ (show (List.drop _ _).length < _ by simp; omega)]
      simp [← List.append_assoc]
    · have : l = [] := List.eq_nil_of_length_eq_zero (by omega)
      subst this
      rw [recs_nil]
      simp
theorem push_hello (b : List UInt8) : pushF false ([1, 0, 1, 1] ++ b) = pushF true b := by
  have h1 : oneF false ([1, 0, 1, 1] ++ b) = ⟨0, 4, [], true, false⟩ := by
    have hl : ([1, 0, 1, 1] ++ b).length = 4 + b.length := by rw [List.length_append]; rfl
    have h0 : ([1, 0, 1, 1] ++ b).getD 0 0 = 1 := rfl
    have h1 : ([1, 0, 1, 1] ++ b).getD 1 0 = 0 := rfl
    have h2 : ([1, 0, 1, 1] ++ b).getD 2 0 = 1 := rfl
    have h3 : ([1, 0, 1, 1] ++ b).getD 3 0 = 1 := rfl
    rw [oneF, h0, h1, h2, h3, hl]
    rw [if_neg (by omega), if_neg (by decide), if_neg (by omega), if_neg (by decide), if_neg (by decide), if_neg (by show ¬ _ < 3 + (256 * 0 + 1); omega), if_pos (by decide), if_pos (by decide)]
  rw [push_more (by rw [h1]) (by rw [h1]) (by rw [h1]; simp), h1]
  simp
theorem ppush_nil (h : Bool) : pushF h [] = ⟨[], 0, [], h, false⟩ := by
  have h1 : oneF h [] = ⟨0, 0, [], h, false⟩ := by simp [oneF]
  rw [push_none (by rw [h1]) (by rw [h1]) (by rw [h1]), h1]
def Fwd (b w : List UInt8) (g : Bool) : Prop := ∀ t, pushF false (b ++ t) = { pushF g t with out := w ++ (pushF g t).out }
theorem Fwd.start : Fwd [] [] false := fun t => rfl
theorem push_greet (g : Bool) (t : List UInt8) : pushF g (greetF g ++ t) = pushF true t := by
  cases g with
  | true => rfl
  | false => exact push_hello t
theorem Fwd.step {b w : List UInt8} {g : Bool} (h : Fwd b w g) (l : List UInt8) : Fwd (b ++ sendF g false l) (w ++ l) (sentF true g false l) := fun t => by
  rw [List.append_assoc, h]
  by_cases h0 : l.length = 0
  · have : l = [] := List.eq_nil_of_length_eq_zero h0
    subst this
    rw [sendF, if_pos (.inr rfl), sentF, if_neg (by simp)]
    simp
  · rw [sendF, if_neg (by simp; exact fun h => h0 (by simp [h])), sentF, if_pos ⟨rfl, rfl, by omega⟩, List.append_assoc, push_greet, push_recs]
    simp
def DP (sd : Bool) (p : List UInt8) : List UInt8 := match sd with | true => (pushF false p).out | false => p
def chP (sd : Bool) (p : List UInt8) : ChV := match sd with | true => ⟨true, (pushF false p).rest, (pushF false p).h, false, false, false, false⟩ | false => ⟨false, [], false, false, false, false, false⟩
def strP (sd : Bool) (wh : Int) (p : List UInt8) : StrV := ⟨chP sd p, sd, 5, wh, 1048576, [], false, (frF 65535 (DP sd p)).rest, false⟩
structure OkP (sd : Bool) (p : List UInt8) : Prop where
  e : sd = true → (pushF false p).e = 0
  off : sd = true → (pushF false p).off = false
  fe : (frF 65535 (DP sd p)).e = 0
theorem push_split {p q : List UInt8} (he : (pushF false (p ++ q)).e = 0) (ho : (pushF false (p ++ q)).off = false) :
    (pushF false p).e = 0 ∧ (pushF false p).off = false ∧ pushF false (p ++ q) = { pushF (pushF false p).h ((pushF false p).rest ++ q) with out := (pushF false p).out ++ (pushF (pushF false p).h ((pushF false p).rest ++ q)).out } := by
  have h := push_app false p q
  by_cases hc : (pushF false p).e ≠ 0 ∨ (pushF false p).off = true
  · rw [if_pos hc] at h
    rw [h] at he ho
    rcases hc with hc | hc
    · exact absurd he hc
    · rw [hc] at ho; cases ho
  · rw [if_neg hc] at h
    refine ⟨by omega, ?_, h⟩
    cases hq : (pushF false p).off with
    | false => rfl
    | true => exact absurd (.inr hq) hc
theorem fr_split {a b : List UInt8} (he : (frF 65535 (a ++ b)).e = 0) : (frF 65535 a).e = 0 ∧ frF 65535 (a ++ b) = ⟨(frF 65535 a).out ++ (frF 65535 ((frF 65535 a).rest ++ b)).out, (frF 65535 ((frF 65535 a).rest ++ b)).e, (frF 65535 ((frF 65535 a).rest ++ b)).rest⟩ := by
  have h := frF_app 65535 a b
  by_cases hc : (frF 65535 a).e ≠ 0
  · rw [if_pos hc] at h; rw [h] at he; exact absurd he hc
  · rw [if_neg hc] at h; exact ⟨by omega, h⟩
theorem DP_split {sd : Bool} {p q : List UInt8} (h : OkP sd (p ++ q)) : ∃ d, DP sd (p ++ q) = DP sd p ++ d ∧ ((chP sd p).push q) = (d, 0, chP sd (p ++ q)) ∧ (sd = true → (pushF false p).e = 0 ∧ (pushF false p).off = false) := by
  cases sd with
  | false => exact ⟨q, rfl, rfl, fun h => by cases h⟩
  | true =>
    obtain ⟨h1, h2, h3⟩ := push_split (h.e rfl) (h.off rfl)
    have he := h.e rfl
    have ho := h.off rfl
    refine ⟨(pushF (pushF false p).h ((pushF false p).rest ++ q)).out, by show (pushF false (p ++ q)).out = _; rw [h3]; rfl, ?_, fun _ => ⟨h1, h2⟩⟩
    have e1 : pushS (pushF false p).h false false (pushF false p).rest q = pushF (pushF false p).h ((pushF false p).rest ++ q) := by rw [pushS, if_neg (by simp)]
    have e2 : brokeS (pushF false p).h false false (pushF false p).rest q = false := by
      rw [brokeS, if_neg (by simp)]
      rw [h3] at he
      exact decide_eq_false (fun h9 => h9 he)
    have e3 : (pushF (pushF false p).h ((pushF false p).rest ++ q)).off = false := by rw [h3] at ho; exact ho
    have e4 : (pushF (pushF false p).h ((pushF false p).rest ++ q)).e = 0 := by rw [h3] at he; exact he
    show ((pushS (pushF false p).h false false (pushF false p).rest q).out, (pushS (pushF false p).h false false (pushF false p).rest q).e, (⟨true, (pushS (pushF false p).h false false (pushF false p).rest q).rest, (pushS (pushF false p).h false false (pushF false p).rest q).h, (pushS (pushF false p).h false false (pushF false p).rest q).off, brokeS (pushF false p).h false false (pushF false p).rest q, false, false⟩ : ChV)) = (_, 0, (⟨true, (pushF false (p ++ q)).rest, (pushF false (p ++ q)).h, false, false, false, false⟩ : ChV))
    rw [e1, e2, e3, e4, h3]
theorem OkP.left {sd : Bool} {p q : List UInt8} (h : OkP sd (p ++ q)) : OkP sd p := by
  obtain ⟨d, h1, h2, h3⟩ := DP_split h
  have hf := h.fe
  rw [h1] at hf
  exact ⟨fun hs => (h3 hs).1, fun hs => (h3 hs).2, (fr_split hf).1⟩
theorem push_at {sd : Bool} {wh now : Int} {p q : List UInt8} (h : OkP sd (p ++ q)) : ∃ outs, (strP sd wh p).push q now = (outs, 0, false, strP sd (max wh now) (p ++ q)) ∧ (frF 65535 (DP sd (p ++ q))).out = (frF 65535 (DP sd p)).out ++ outs := by
  obtain ⟨d, h1, h2, h3⟩ := DP_split h
  have hf := h.fe
  rw [h1] at hf
  obtain ⟨h4, h5⟩ := fr_split hf
  refine ⟨(frF 65535 ((frF 65535 (DP sd p)).rest ++ d)).out, ?_, by rw [h1, h5]⟩
  rw [h5] at hf
  have hE : (chP sd (p ++ q)).ended = false := by cases sd <;> rfl
  have e1 : frP false 65535 (frF 65535 (DP sd p)).rest d = frF 65535 ((frF 65535 (DP sd p)).rest ++ d) := by rw [frP, if_neg (by simp)]
  have e2 : frB false 65535 (frF 65535 (DP sd p)).rest d = false := by rw [frB, if_neg (by simp)]; exact decide_eq_false (fun h9 => h9 hf)
  have hf2 : (frF 65535 ((frF 65535 (DP sd p)).rest ++ d)).e = 0 := hf
  show ((frP false 65535 (frF 65535 (DP sd p)).rest ((chP sd p).push q).1).out, spushE (frP false 65535 (frF 65535 (DP sd p)).rest ((chP sd p).push q).1).e ((chP sd p).push q).2.1, spushC (frP false 65535 (frF 65535 (DP sd p)).rest ((chP sd p).push q).1).e ((chP sd p).push q).2.1 ((chP sd p).push q).2.2.ended, (⟨((chP sd p).push q).2.2, sd, 5, max wh now, 1048576, [], false, (frP false 65535 (frF 65535 (DP sd p)).rest ((chP sd p).push q).1).rest, frB false 65535 (frF 65535 (DP sd p)).rest ((chP sd p).push q).1⟩ : StrV)) = _
  rw [h2]
  dsimp only
  rw [e1, e2, hE, hf2]
  show (_, (0 : Int), false, _) = _
  rw [strP, h1, h5]
def swantF (l : List (List UInt8)) : List UInt8 := (l.map frmL).flatten
theorem frm_ok {m : List UInt8} (h : 12 ≤ m.length ∧ m.length ≤ 200) : frmE m = 0 ∧ frmL m = [0, UInt8.ofInt (m.length : Int)] ++ m := by
  have h1 : frmE m = 0 := by rw [frmE, if_neg (by omega), if_neg (by omega)]
  refine ⟨h1, ?_⟩
  rw [frmL, if_pos h1, show (m.length : Int) / 256 = 0 by omega]
  rfl
theorem want_fr (l : List (List UInt8)) (h : ∀ m ∈ l, 12 ≤ m.length ∧ m.length ≤ 200) : frF 65535 (swantF l) = ⟨l, 0, []⟩ := by
  induction l with
  | nil => exact fr_nil _
  | cons m l ih =>
    have hm := h m (List.mem_cons_self ..)
    rw [swantF, List.map_cons, List.flatten_cons, frm_ahead (frm_ok hm).1, if_neg (by omega)]
    have := ih fun x hx => h x (List.mem_cons_of_mem _ hx)
    rw [swantF] at this
    rw [this]
theorem want_snoc (l : List (List UInt8)) (m : List UInt8) : swantF (l ++ [m]) = swantF l ++ frmL m := by simp [swantF]
theorem want_len (l : List (List UInt8)) (h : ∀ m ∈ l, m.length ≤ 200) : (swantF l).length ≤ 202 * l.length := by
  induction l with
  | nil => exact Nat.le_refl _
  | cons m l ih =>
    have := ih fun x hx => h x (List.mem_cons_of_mem _ hx)
    have h1 := frmL_len m
    have h2 := h m (List.mem_cons_self ..)
    rw [swantF, List.map_cons, List.flatten_cons, List.length_append, List.length_cons]
    rw [swantF] at this
    omega
def Car (sd : Bool) (b w : List UInt8) (g : Bool) : Prop := match sd with | true => Fwd b w g | false => b = w
theorem Car.start (sd : Bool) : Car sd [] [] false := by cases sd; exact rfl; exact Fwd.start
theorem Car.step {sd : Bool} {b w : List UInt8} {g : Bool} (h : Car sd b w g) (l : List UInt8) (x : ChV) (hx : x.sl = sd ∧ x.gr = g ∧ x.sh = false) : ∃ g', Car sd (b ++ (x.send l).1) (w ++ l) g' ∧ (x.send l).2 = { x with gr := if sd then g' else x.gr } ∧ (sd = false → g' = g) := by
  obtain ⟨sl, k, a, c, d, gr, sh⟩ := x
  obtain ⟨rfl, rfl, rfl⟩ := hx
  cases sl with
  | true => exact ⟨_, Fwd.step h l, rfl, fun h => by cases h⟩
  | false =>
    refine ⟨gr, ?_, rfl, fun _ => rfl⟩
    show b ++ psendF false l = w ++ l
    rw [show b = w from h, psendF]
    split
    · rename_i h9
      rcases h9 with h9 | h9
      · cases h9
      · rw [List.eq_nil_of_length_eq_zero h9]
    · rfl
theorem Car.tell {b w : List UInt8} {g : Bool} (h : Car true b w g) : pushF false b = ⟨w, 0, [], g, false⟩ := by
  have h1 := (show Fwd b w g from h) []
  rw [List.append_nil, ppush_nil] at h1
  rw [h1, List.append_nil]
theorem Car.ok {sd : Bool} {b : List UInt8} {l : List (List UInt8)} {g : Bool} (h : Car sd b (swantF l) g) (hl : ∀ m ∈ l, 12 ≤ m.length ∧ m.length ≤ 200) : OkP sd b ∧ DP sd b = swantF l := by
  cases sd with
  | false =>
    have h : b = swantF l := h
    subst h
    exact ⟨⟨(fun h => by cases h), (fun h => by cases h), by show (frF 65535 (swantF l)).e = 0; rw [want_fr l hl]⟩, rfl⟩
  | true =>
    have h1 := Car.tell h
    exact ⟨⟨fun _ => by rw [h1], fun _ => by rw [h1], by show (frF 65535 (pushF false b).out).e = 0; rw [h1, want_fr l hl]⟩, by show (pushF false b).out = _; rw [h1]⟩
theorem Car.told {sd : Bool} {b w : List UInt8} {g : Bool} (h : Car sd b w g) (gr : Bool) : ((⟨sd, [], false, false, false, gr, false⟩ : ChV).push b).1 = w ∧ ((⟨sd, [], false, false, false, gr, false⟩ : ChV).push b).2.1 = 0 := by
  cases sd with
  | false => exact ⟨h, rfl⟩
  | true =>
    have h1 := Car.tell h
    have e : pushS false false false [] b = pushF false b := by rw [pushS, if_neg (by simp), List.nil_append]
    show (pushS false false false [] b).out = w ∧ (pushS false false false [] b).e = 0
    rw [e, h1]
    exact ⟨rfl, rfl⟩
end Go.Proofs.YtbfabhdfmoiabaaGreatDoor
namespace Go.Proofs.YtbfabhdfmoiabaaGreatDoor
set_option linter.unusedVariables false
set_option linter.unusedSimpArgs false
set_option maxRecDepth 100000
theorem pick_bd28 (x n : Int) (h : 1 ≤ n) : 0 ≤ pick x n ∧ pick x n < n := by
  rw [pick, if_neg (by omega)]
  exact ⟨Int.emod_nonneg _ (by omega), Int.emod_lt_of_pos _ (by omega)⟩
end Go.Proofs.YtbfabhdfmoiabaaGreatDoor
