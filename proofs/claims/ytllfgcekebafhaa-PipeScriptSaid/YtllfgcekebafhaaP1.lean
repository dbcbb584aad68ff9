/- The contracts of pipe.Record and of the answer beside it; what a channel tells, as functions of lists. -/
import Derived.Test.YtllfgcekebafhaaO2
namespace Go.Proofs.Ytllfgcekebafhaa
set_option linter.unusedVariables false
set_option linter.unusedSimpArgs false
set_option maxRecDepth 100000

/-- P27.1: the bytes of a record, and whether it may be. -/
def recB (k : Int) (l : List UInt8) : List UInt8 := [UInt8.ofInt k] ++ [UInt8.ofInt ((l.length : Int) / 256), UInt8.ofInt (l.length : Int)] ++ l
def recE (k : Int) (l : List UInt8) : Int := if k < 1 ∨ 3 < k ∨ (k = 1 ∧ l ≠ [1]) ∨ (k = 3 ∧ 0 < l.length) then 4 else if 1024 < l.length then 3 else 0
def recL (k : Int) (l : List UInt8) : List UInt8 := if recE k l = 0 then recB k l else []
theorem recL_data (l : List UInt8) (h : l.length ≤ 1024) : recL 2 l = recB 2 l := by
  rw [recL, if_pos]
  rw [recE, if_neg (by omega), if_neg (by omega)]
theorem recL_hello : recL 1 [1] = [1, 0, 1, 1] := by decide
theorem recL_close : recL 3 [] = [3, 0, 0] := by decide
/-- What the first record says: error, how many bytes it has (0: it is not whole), what it carries, whether a hello has come, whether it ends. -/
structure OneR where
  e : Int
  n : Nat
  x : List UInt8
  h : Bool
  off : Bool
def oneF (h : Bool) (l : List UInt8) : OneR :=
  if l.length = 0 then ⟨0, 0, [], h, false⟩ else
  if (l.getD 0 0).toNat < 1 ∨ 3 < (l.getD 0 0).toNat ∨ decide (((l.getD 0 0).toNat : Int) = 1) = h then ⟨4, 0, [], h, false⟩ else
  if l.length < 3 then ⟨0, 0, [], h, false⟩ else
  if ((l.getD 0 0).toNat = 1 ∧ 256 * (l.getD 1 0).toNat + (l.getD 2 0).toNat ≠ 1) ∨ ((l.getD 0 0).toNat = 3 ∧ 256 * (l.getD 1 0).toNat + (l.getD 2 0).toNat ≠ 0) then ⟨4, 0, [], h, false⟩ else
  if 1024 < 256 * (l.getD 1 0).toNat + (l.getD 2 0).toNat then ⟨3, 0, [], h, false⟩ else
  if l.length < 3 + (256 * (l.getD 1 0).toNat + (l.getD 2 0).toNat) then ⟨0, 0, [], h, false⟩ else
  if (l.getD 0 0).toNat = 1 then (if (l.getD 3 0).toNat = 1 then ⟨0, 4, [], true, false⟩ else ⟨4, 0, [], h, false⟩) else
  if (l.getD 0 0).toNat = 3 then ⟨0, 3, [], h, true⟩ else
  ⟨0, 3 + (256 * (l.getD 1 0).toNat + (l.getD 2 0).toNat), subl l 3 (3 + (256 * (l.getD 1 0).toNat + (l.getD 2 0).toNat)), h, false⟩
theorem oneF_n (h : Bool) (l : List UInt8) : (oneF h l).n ≤ l.length ∧ ((oneF h l).n ≠ 0 → 0 < l.length) ∧ ((oneF h l).n = 0 → (oneF h l).x = []) ∧ (oneF h l).x.length ≤ (oneF h l).n := by
  unfold oneF
  repeat' split
  all_goals simp [subl]
  all_goals grind
theorem subl_drop (l : List UInt8) (n : Nat) : subl l n l.length = l.drop n := by
  unfold subl
  rw [List.take_of_length_le (by simp)]
/-- What is told of what has come, the error, what is kept, whether a hello came, whether it ended. -/
structure PushR where
  out : List UInt8
  e : Int
  rest : List UInt8
  h : Bool
  off : Bool
def pushF (h : Bool) (l : List UInt8) : PushR :=
  if (oneF h l).e ≠ 0 then ⟨[], (oneF h l).e, [], h, false⟩
  else if (oneF h l).off then ⟨(oneF h l).x, 0, [], (oneF h l).h, true⟩
  else if hn : (oneF h l).n = 0 then ⟨[], 0, l, (oneF h l).h, false⟩
  else ⟨(oneF h l).x ++ (pushF (oneF h l).h (l.drop (oneF h l).n)).out, (pushF (oneF h l).h (l.drop (oneF h l).n)).e, (pushF (oneF h l).h (l.drop (oneF h l).n)).rest, (pushF (oneF h l).h (l.drop (oneF h l).n)).h, (pushF (oneF h l).h (l.drop (oneF h l).n)).off⟩
termination_by l.length
decreasing_by all_goals (have := oneF_n h l; simp; omega)
/-- What a loop has told so far and will tell. -/
def told (out : List UInt8) (h : Bool) (l : List UInt8) : PushR := { pushF h l with out := out ++ (pushF h l).out }
theorem told_nil (h : Bool) (l : List UInt8) : told [] h l = pushF h l := rfl
theorem told_err {out : List UInt8} {h : Bool} {l : List UInt8} (he : (oneF h l).e ≠ 0) : told out h l = ⟨out, (oneF h l).e, [], h, false⟩ := by
  rw [told, pushF, if_pos he]
  simp
theorem told_off {out : List UInt8} {h : Bool} {l : List UInt8} (he : (oneF h l).e = 0) (ho : (oneF h l).off = true) : told out h l = ⟨out ++ (oneF h l).x, 0, [], (oneF h l).h, true⟩ := by
  rw [told, pushF, if_neg (by omega), if_pos ho]
theorem told_none {out : List UInt8} {h : Bool} {l : List UInt8} (he : (oneF h l).e = 0) (ho : (oneF h l).off = false) (hn : (oneF h l).n = 0) : told out h l = ⟨out, 0, l, (oneF h l).h, false⟩ := by
  rw [told, pushF, if_neg (by omega), if_neg (by simp [ho]), dif_pos hn]
  simp
theorem told_more {out : List UInt8} {h : Bool} {l : List UInt8} (he : (oneF h l).e = 0) (ho : (oneF h l).off = false) (hn : (oneF h l).n ≠ 0) : told out h l = told (out ++ (oneF h l).x) (oneF h l).h (l.drop (oneF h l).n) := by
  rw [told, pushF, if_neg (by omega), if_neg (by simp [ho]), dif_neg hn]
  simp [told]
/-- The records of bytes. -/
def recs (l : List UInt8) : List UInt8 := if l = [] then [] else recB 2 (l.take 1024) ++ recs (l.drop 1024)
termination_by l.length
decreasing_by (simp; have := List.length_pos_iff.2 ‹¬ l = []›; omega)
def greetF (g : Bool) : List UInt8 := if g then [] else [1, 0, 1, 1]
def sendF (g shut : Bool) (l : List UInt8) : List UInt8 := if shut ∨ l.length = 0 then [] else greetF g ++ recs l
def closedF (se gr sh : Bool) : Bool := bif se then (if sh then gr else true) else gr
def closeF (g shut : Bool) : List UInt8 := if shut then [] else greetF g ++ [3, 0, 0]

set_option maxHeartbeats 400000 in
theorem rec_ok {w0 : World} {base : Nat} {H : List Seg} {A : Option Addr} {C : Nat} {l : List UInt8} (h : Rd tyB w0 base H A C l) (hl : l.length ≤ 140737488355000) (k : Int) :
    SCalls Try.prog 11 [.int .i64 k, .slice A l.length C] w0 base (H) (fun v H' => ∃ A' C' s' l', Own tyB 5 A' C' l' s' ∧ l' = recL k l ∧ v = .tuple #[.slice A' l'.length C', int (recE k l)] ∧ H' = s' :: H) := by
  refine SCalls.of_walk (n := 46) Try.func11 rfl rfl rfl fun cs => ?_
  refine At.seq ?_
  refine At.region ?_
  refine AtL.assign (.inl rfl) rfl rfl ?_
  refine AtL.assign (.inl rfl) rfl rfl ?_
  refine AtL.done ?_
  refine At.seq ?_
  refine At.block ?_
  refine At.seq ?_
  refine At.seq ?_
  refine At.region ?_
  refine AtL.move (.inl rfl) rfl rfl ?_
  refine AtL.lss (.inl rfl) rfl rfl rfl ?_
  refine AtL.move (.inl rfl) rfl rfl ?_
  refine AtL.join 3 (E' := [(14, .bool (decide (((k : Int) < 1) ∨ (3 < (k : Int))))), (0, .int .i64 k), (1, .slice A l.length C)]) (H' := H) (fun J => ?_) ?_
  · refine AtL.split (t := 11) rfl ?_ ?_
    · intro hs11
      have hs11 : (k : Int) < 1 := of_decide_eq_true hs11
      refine AtL.skipped rfl rfl rfl rfl rfl rfl ?_
      refine AtL.skipped rfl rfl rfl rfl rfl rfl ?_
      refine AtL.pickT (.inl rfl) rfl rfl rfl ?_
      exact J _ (by exact ⟨(boolIs (by clear J; first | (simp [hs11]; done) | (simp_all; done) | grind)), rfl, rfl, trivial⟩)
    · intro hs11
      have hs11 : ¬ ((k : Int) < 1) := of_decide_eq_false hs11
      refine AtL.move (.inr ⟨_, _, _, rfl, rfl, rfl, rfl⟩) rfl rfl ?_
      refine AtL.gtr (.inr ⟨_, _, _, rfl, rfl, rfl, rfl⟩) rfl rfl rfl ?_
      refine AtL.pickF (.inl rfl) rfl rfl rfl ?_
      exact J _ (by exact ⟨(boolIs (by clear J; first | (simp [hs11]; done) | (simp_all; done) | grind)), rfl, rfl, trivial⟩)
  · skip
    refine AtL.assign (.inl rfl) rfl rfl ?_
    refine AtL.done ?_
    refine At.cond rfl ?_ ?_
    · intro hc1
      have hc1 : ((k : Int) < 1) ∨ (3 < (k : Int)) := of_decide_eq_true hc1
      refine At.skip ?_
      refine At.cond rfl ?_ ?_
      · intro hc3
        have hc3 : ((k : Int) < 1) ∨ (3 < (k : Int)) := of_decide_eq_true hc3
        refine At.seq ?_
        refine At.region ?_
        refine AtL.assign (.inl rfl) rfl rfl ?_
        refine AtL.assign (.inl rfl) rfl rfl ?_
        refine AtL.done ?_
        refine At.nil ?_
        exact At.ret Try.func11 rfl rfl (⟨_, _, _, _, (Own.nil tyB 5), by simp only [recL, recE, recB]; grind [ofInt_mod], by simp only [oneOf, recE]; grind, rfl⟩)
      · intro hc3
        have hc3 : ¬ (((k : Int) < 1) ∨ (3 < (k : Int))) := of_decide_eq_false hc3
        refine At.seq ?_
        refine At.region ?_
        refine AtL.move (.inl rfl) rfl rfl ?_
        refine AtL.lenL Try.underlying22 (.inl rfl) rfl rfl ?_
        refine AtL.gtr (.inl rfl) rfl rfl rfl ?_
        refine AtL.assign (.inl rfl) rfl rfl ?_
        refine AtL.done ?_
        refine At.cond rfl ?_ ?_
        · intro hc4
          have hc4 : 1024 < (l.length : Int) := of_decide_eq_true hc4
          refine At.seq ?_
          refine At.region ?_
          refine AtL.assign (.inl rfl) rfl rfl ?_
          refine AtL.assign (.inl rfl) rfl rfl ?_
          refine AtL.done ?_
          refine At.nil ?_
          exact At.ret Try.func11 rfl rfl (⟨_, _, _, _, (Own.nil tyB 5), by simp only [recL, recE, recB]; grind [ofInt_mod], by simp only [oneOf, recE]; grind, rfl⟩)
        · intro hc4
          have hc4 : ¬ (1024 < (l.length : Int)) := of_decide_eq_false hc4
          refine At.skip ?_
          refine At.inBlock ?_
          refine At.seq ?_
          refine At.region ?_
          refine AtL.move (.inl rfl) rfl rfl ?_
          refine AtL.lenL Try.underlying22 (.inl rfl) rfl rfl ?_
          refine AtL.call tf_body27 (.inl rfl) rfl rfl (put16_ok (l.length : Int) (by omega) (by omega)) ?_
          rintro _ _ ⟨A1, C2, s3, o4, rfl, rfl⟩
          refine AtL.move (.inl rfl) rfl rfl ?_
          refine AtL.extract (.inl rfl) rfl rfl rfl ?_
          refine AtL.extract (.inl rfl) rfl rfl rfl ?_
          refine AtL.assign (.inl rfl) rfl rfl ?_
          refine AtL.assign (.inl rfl) rfl rfl ?_
          refine AtL.done ?_
          refine At.seq ?_
          refine At.region ?_
          refine AtL.move (.inl rfl) rfl rfl ?_
          refine AtL.convInt (z := ((UInt8.ofInt k).toNat : Int)) Try.underlying3 Try.underlying5 (.inl rfl) rfl rfl (u8_conv _) ?_
          refine AtL.buildSlice (cs := [.int .u8 ((UInt8.ofInt k).toNat : Int)]) Try.underlying22 tf_zero5 tf_sz5 rfl rfl (.inl rfl) rfl rfl rfl ?_
          intro b5
          refine AtL.own1 tyB (l := ([(UInt8.ofInt k)] : List UInt8)) rfl rfl (by first | decide | simp) ?_
          intro s6 o7
          refine AtL.move (.inl rfl) rfl rfl ?_
          refine AtL.move (.inl rfl) rfl rfl ?_
          refine AtL.buildSlice (cs := [.slice (some ⟨b5, 0, none⟩) [(UInt8.ofInt k)].length 1, .slice A1 [UInt8.ofInt ((l.length : Int) / 256), UInt8.ofInt ((l.length : Int))].length C2, .slice A l.length C]) Try.underlying34 tf_zero22 tf_sz22 rfl rfl (.inl rfl) rfl rfl rfl ?_
          intro b8
          refine AtL.call tf_body28 (.inl rfl) rfl rfl (concat3 (o7.rd (i := 0) rfl) (o4.rd (i := 1) rfl) (Rd.skip 2 h) (by first | omega | (simp only [List.length_append, List.length_cons, List.length_nil]; omega) | (simp; done) | (simp; omega))) ?_
          rintro _ _ ⟨A9, C10, s11, o12, rfl, rfl⟩
          refine AtL.assign (.inl rfl) rfl rfl ?_
          refine AtL.assign (.inl rfl) rfl rfl ?_
          refine AtL.done ?_
          refine At.pick (H' := s11 :: H) [0] 4 rfl rfl ?_
          exact At.ret Try.func11 rfl rfl (⟨_, _, _, _, o12, by simp only [recL, recE, recB]; grind [ofInt_mod], by simp only [oneOf, recE]; grind, rfl⟩)
    · intro hc1
      have hc1 : ¬ (((k : Int) < 1) ∨ (3 < (k : Int))) := of_decide_eq_false hc1
      refine At.seq ?_
      refine At.region ?_
      refine AtL.move (.inl rfl) rfl rfl ?_
      refine AtL.eqi (.inl rfl) rfl rfl rfl ?_
      refine AtL.move (.inl rfl) rfl rfl ?_
      refine AtL.join 4 (E' := [(21, .bool (decide (((k : Int) = 1) ∧ (¬ (l = [1]))))), (0, .int .i64 k), (1, .slice A l.length C)]) (H' := H) (fun J => ?_) ?_
      · refine AtL.split (t := 17) rfl ?_ ?_
        · intro hs17
          have hs17 : (k : Int) = 1 := of_decide_eq_true hs17
          refine AtL.move (.inr ⟨_, _, _, rfl, rfl, rfl, rfl⟩) rfl rfl ?_
          refine AtL.strOf h Try.underlying22 Try.underlying5 Try.underlying9 (.inr ⟨_, _, _, rfl, rfl, rfl, rfl⟩) rfl rfl ?_
          refine AtL.nes (a := l) (b := [1]) (.inr ⟨_, _, _, rfl, rfl, rfl, rfl⟩) rfl rfl rfl ?_
          refine AtL.pickT (.inl rfl) rfl rfl rfl ?_
          exact J _ (by exact ⟨(boolIs (by clear J; first | (simp [hs17]; done) | (simp_all; done) | grind)), rfl, rfl, trivial⟩)
        · intro hs17
          have hs17 : ¬ ((k : Int) = 1) := of_decide_eq_false hs17
          refine AtL.skipped rfl rfl rfl rfl rfl rfl ?_
          refine AtL.skipped rfl rfl rfl rfl rfl rfl ?_
          refine AtL.skipped rfl rfl rfl rfl rfl rfl ?_
          refine AtL.pickF (.inl rfl) rfl rfl rfl ?_
          exact J _ (by exact ⟨(boolIs (by clear J; first | (simp [hs17]; done) | (simp_all; done) | grind)), rfl, rfl, trivial⟩)
      · skip
        refine AtL.assign (.inl rfl) rfl rfl ?_
        refine AtL.done ?_
        refine At.cond rfl ?_ ?_
        · intro hc2
          have hc2 : ((k : Int) = 1) ∧ (¬ (l = [1])) := of_decide_eq_true hc2
          refine At.skip ?_
          refine At.cond rfl ?_ ?_
          · intro hc3
            have hc3 : ((k : Int) = 1) ∧ (¬ (l = [1])) := of_decide_eq_true hc3
            refine At.seq ?_
            refine At.region ?_
            refine AtL.assign (.inl rfl) rfl rfl ?_
            refine AtL.assign (.inl rfl) rfl rfl ?_
            refine AtL.done ?_
            refine At.nil ?_
            exact At.ret Try.func11 rfl rfl (⟨_, _, _, _, (Own.nil tyB 5), by simp only [recL, recE, recB]; grind [ofInt_mod], by simp only [oneOf, recE]; grind, rfl⟩)
          · intro hc3
            have hc3 : ¬ (((k : Int) = 1) ∧ (¬ (l = [1]))) := of_decide_eq_false hc3
            refine At.seq ?_
            refine At.region ?_
            refine AtL.move (.inl rfl) rfl rfl ?_
            refine AtL.lenL Try.underlying22 (.inl rfl) rfl rfl ?_
            refine AtL.gtr (.inl rfl) rfl rfl rfl ?_
            refine AtL.assign (.inl rfl) rfl rfl ?_
            refine AtL.done ?_
            refine At.cond rfl ?_ ?_
            · intro hc4
              have hc4 : 1024 < (l.length : Int) := of_decide_eq_true hc4
              refine At.seq ?_
              refine At.region ?_
              refine AtL.assign (.inl rfl) rfl rfl ?_
              refine AtL.assign (.inl rfl) rfl rfl ?_
              refine AtL.done ?_
              refine At.nil ?_
              exact At.ret Try.func11 rfl rfl (⟨_, _, _, _, (Own.nil tyB 5), by simp only [recL, recE, recB]; grind [ofInt_mod], by simp only [oneOf, recE]; grind, rfl⟩)
            · intro hc4
              have hc4 : ¬ (1024 < (l.length : Int)) := of_decide_eq_false hc4
              refine At.skip ?_
              refine At.inBlock ?_
              refine At.seq ?_
              refine At.region ?_
              refine AtL.move (.inl rfl) rfl rfl ?_
              refine AtL.lenL Try.underlying22 (.inl rfl) rfl rfl ?_
              refine AtL.call tf_body27 (.inl rfl) rfl rfl (put16_ok (l.length : Int) (by omega) (by omega)) ?_
              rintro _ _ ⟨A13, C14, s15, o16, rfl, rfl⟩
              refine AtL.move (.inl rfl) rfl rfl ?_
              refine AtL.extract (.inl rfl) rfl rfl rfl ?_
              refine AtL.extract (.inl rfl) rfl rfl rfl ?_
              refine AtL.assign (.inl rfl) rfl rfl ?_
              refine AtL.assign (.inl rfl) rfl rfl ?_
              refine AtL.done ?_
              refine At.seq ?_
              refine At.region ?_
              refine AtL.move (.inl rfl) rfl rfl ?_
              refine AtL.convInt (z := ((UInt8.ofInt k).toNat : Int)) Try.underlying3 Try.underlying5 (.inl rfl) rfl rfl (u8_conv _) ?_
              refine AtL.buildSlice (cs := [.int .u8 ((UInt8.ofInt k).toNat : Int)]) Try.underlying22 tf_zero5 tf_sz5 rfl rfl (.inl rfl) rfl rfl rfl ?_
              intro b17
              refine AtL.own1 tyB (l := ([(UInt8.ofInt k)] : List UInt8)) rfl rfl (by first | decide | simp) ?_
              intro s18 o19
              refine AtL.move (.inl rfl) rfl rfl ?_
              refine AtL.move (.inl rfl) rfl rfl ?_
              refine AtL.buildSlice (cs := [.slice (some ⟨b17, 0, none⟩) [(UInt8.ofInt k)].length 1, .slice A13 [UInt8.ofInt ((l.length : Int) / 256), UInt8.ofInt ((l.length : Int))].length C14, .slice A l.length C]) Try.underlying34 tf_zero22 tf_sz22 rfl rfl (.inl rfl) rfl rfl rfl ?_
              intro b20
              refine AtL.call tf_body28 (.inl rfl) rfl rfl (concat3 (o19.rd (i := 0) rfl) (o16.rd (i := 1) rfl) (Rd.skip 2 h) (by first | omega | (simp only [List.length_append, List.length_cons, List.length_nil]; omega) | (simp; done) | (simp; omega))) ?_
              rintro _ _ ⟨A21, C22, s23, o24, rfl, rfl⟩
              refine AtL.assign (.inl rfl) rfl rfl ?_
              refine AtL.assign (.inl rfl) rfl rfl ?_
              refine AtL.done ?_
              refine At.pick (H' := s23 :: H) [0] 4 rfl rfl ?_
              exact At.ret Try.func11 rfl rfl (⟨_, _, _, _, o24, by simp only [recL, recE, recB]; grind [ofInt_mod], by simp only [oneOf, recE]; grind, rfl⟩)
        · intro hc2
          have hc2 : ¬ (((k : Int) = 1) ∧ (¬ (l = [1]))) := of_decide_eq_false hc2
          refine At.region ?_
          refine AtL.move (.inl rfl) rfl rfl ?_
          refine AtL.eqi (.inl rfl) rfl rfl rfl ?_
          refine AtL.move (.inl rfl) rfl rfl ?_
          refine AtL.join 4 (E' := [(28, .bool (decide (((k : Int) = 3) ∧ (0 < (l.length : Int))))), (0, .int .i64 k), (1, .slice A l.length C)]) (H' := H) (fun J => ?_) ?_
          · refine AtL.split (t := 24) rfl ?_ ?_
            · intro hs24
              have hs24 : (k : Int) = 3 := of_decide_eq_true hs24
              refine AtL.move (.inr ⟨_, _, _, rfl, rfl, rfl, rfl⟩) rfl rfl ?_
              refine AtL.lenL Try.underlying22 (.inr ⟨_, _, _, rfl, rfl, rfl, rfl⟩) rfl rfl ?_
              refine AtL.gtr (.inr ⟨_, _, _, rfl, rfl, rfl, rfl⟩) rfl rfl rfl ?_
              refine AtL.pickT (.inl rfl) rfl rfl rfl ?_
              exact J _ (by exact ⟨(boolIs (by clear J; first | (simp [hs24]; done) | (simp_all; done) | grind)), rfl, rfl, trivial⟩)
            · intro hs24
              have hs24 : ¬ ((k : Int) = 3) := of_decide_eq_false hs24
              refine AtL.skipped rfl rfl rfl rfl rfl rfl ?_
              refine AtL.skipped rfl rfl rfl rfl rfl rfl ?_
              refine AtL.skipped rfl rfl rfl rfl rfl rfl ?_
              refine AtL.pickF (.inl rfl) rfl rfl rfl ?_
              exact J _ (by exact ⟨(boolIs (by clear J; first | (simp [hs24]; done) | (simp_all; done) | grind)), rfl, rfl, trivial⟩)
          · skip
            refine AtL.assign (.inl rfl) rfl rfl ?_
            refine AtL.done ?_
            refine At.cond rfl ?_ ?_
            · intro hc3
              have hc3 : ((k : Int) = 3) ∧ (0 < (l.length : Int)) := of_decide_eq_true hc3
              refine At.seq ?_
              refine At.region ?_
              refine AtL.assign (.inl rfl) rfl rfl ?_
              refine AtL.assign (.inl rfl) rfl rfl ?_
              refine AtL.done ?_
              refine At.nil ?_
              exact At.ret Try.func11 rfl rfl (⟨_, _, _, _, (Own.nil tyB 5), by simp only [recL, recE, recB]; grind [ofInt_mod], by simp only [oneOf, recE]; grind, rfl⟩)
            · intro hc3
              have hc3 : ¬ (((k : Int) = 3) ∧ (0 < (l.length : Int))) := of_decide_eq_false hc3
              refine At.seq ?_
              refine At.region ?_
              refine AtL.move (.inl rfl) rfl rfl ?_
              refine AtL.lenL Try.underlying22 (.inl rfl) rfl rfl ?_
              refine AtL.gtr (.inl rfl) rfl rfl rfl ?_
              refine AtL.assign (.inl rfl) rfl rfl ?_
              refine AtL.done ?_
              refine At.cond rfl ?_ ?_
              · intro hc4
                have hc4 : 1024 < (l.length : Int) := of_decide_eq_true hc4
                refine At.seq ?_
                refine At.region ?_
                refine AtL.assign (.inl rfl) rfl rfl ?_
                refine AtL.assign (.inl rfl) rfl rfl ?_
                refine AtL.done ?_
                refine At.nil ?_
                exact At.ret Try.func11 rfl rfl (⟨_, _, _, _, (Own.nil tyB 5), by simp only [recL, recE, recB]; grind [ofInt_mod], by simp only [oneOf, recE]; grind, rfl⟩)
              · intro hc4
                have hc4 : ¬ (1024 < (l.length : Int)) := of_decide_eq_false hc4
                refine At.skip ?_
                refine At.inBlock ?_
                refine At.seq ?_
                refine At.region ?_
                refine AtL.move (.inl rfl) rfl rfl ?_
                refine AtL.lenL Try.underlying22 (.inl rfl) rfl rfl ?_
                refine AtL.call tf_body27 (.inl rfl) rfl rfl (put16_ok (l.length : Int) (by omega) (by omega)) ?_
                rintro _ _ ⟨A25, C26, s27, o28, rfl, rfl⟩
                refine AtL.move (.inl rfl) rfl rfl ?_
                refine AtL.extract (.inl rfl) rfl rfl rfl ?_
                refine AtL.extract (.inl rfl) rfl rfl rfl ?_
                refine AtL.assign (.inl rfl) rfl rfl ?_
                refine AtL.assign (.inl rfl) rfl rfl ?_
                refine AtL.done ?_
                refine At.seq ?_
                refine At.region ?_
                refine AtL.move (.inl rfl) rfl rfl ?_
                refine AtL.convInt (z := ((UInt8.ofInt k).toNat : Int)) Try.underlying3 Try.underlying5 (.inl rfl) rfl rfl (u8_conv _) ?_
                refine AtL.buildSlice (cs := [.int .u8 ((UInt8.ofInt k).toNat : Int)]) Try.underlying22 tf_zero5 tf_sz5 rfl rfl (.inl rfl) rfl rfl rfl ?_
                intro b29
                refine AtL.own1 tyB (l := ([(UInt8.ofInt k)] : List UInt8)) rfl rfl (by first | decide | simp) ?_
                intro s30 o31
                refine AtL.move (.inl rfl) rfl rfl ?_
                refine AtL.move (.inl rfl) rfl rfl ?_
                refine AtL.buildSlice (cs := [.slice (some ⟨b29, 0, none⟩) [(UInt8.ofInt k)].length 1, .slice A25 [UInt8.ofInt ((l.length : Int) / 256), UInt8.ofInt ((l.length : Int))].length C26, .slice A l.length C]) Try.underlying34 tf_zero22 tf_sz22 rfl rfl (.inl rfl) rfl rfl rfl ?_
                intro b32
                refine AtL.call tf_body28 (.inl rfl) rfl rfl (concat3 (o31.rd (i := 0) rfl) (o28.rd (i := 1) rfl) (Rd.skip 2 h) (by first | omega | (simp only [List.length_append, List.length_cons, List.length_nil]; omega) | (simp; done) | (simp; omega))) ?_
                rintro _ _ ⟨A33, C34, s35, o36, rfl, rfl⟩
                refine AtL.assign (.inl rfl) rfl rfl ?_
                refine AtL.assign (.inl rfl) rfl rfl ?_
                refine AtL.done ?_
                refine At.pick (H' := s35 :: H) [0] 4 rfl rfl ?_
                exact At.ret Try.func11 rfl rfl (⟨_, _, _, _, o36, by simp only [recL, recE, recB]; grind [ofInt_mod], by simp only [oneOf, recE]; grind, rfl⟩)

set_option maxHeartbeats 400000 in
theorem rrec_ok {w0 : World} {base : Nat} {H : List Seg} {A : Option Addr} {C : Nat} {l : List UInt8} (h : Rd tyB w0 base H A C l) (hl : l.length ≤ 140737488355000) (k : Int) :
    SCalls Try.prog 12 [.int .i64 k, .slice A l.length C] w0 base (H) (fun v H' => ∃ A' C' s' l', Own tyB 5 A' C' l' s' ∧ l' = recL k l ∧ v = .tuple #[.slice A' l'.length C', int (recE k l)] ∧ H' = s' :: H) := by
  refine SCalls.of_walk (n := 46) Try.func12 rfl rfl rfl fun cs => ?_
  refine At.seq ?_
  refine At.region ?_
  refine AtL.assign (.inl rfl) rfl rfl ?_
  refine AtL.assign (.inl rfl) rfl rfl ?_
  refine AtL.done ?_
  refine At.seq ?_
  refine At.seq ?_
  refine At.region ?_
  refine AtL.move (.inl rfl) rfl rfl ?_
  refine AtL.lss (.inl rfl) rfl rfl rfl ?_
  refine AtL.move (.inl rfl) rfl rfl ?_
  refine AtL.join 3 (E' := [(11, .bool (decide (((k : Int) < 1) ∨ (3 < (k : Int))))), (0, .int .i64 k), (1, .slice A l.length C)]) (H' := H) (fun J => ?_) ?_
  · refine AtL.split (t := 8) rfl ?_ ?_
    · intro hs8
      have hs8 : (k : Int) < 1 := of_decide_eq_true hs8
      refine AtL.skipped rfl rfl rfl rfl rfl rfl ?_
      refine AtL.skipped rfl rfl rfl rfl rfl rfl ?_
      refine AtL.pickT (.inl rfl) rfl rfl rfl ?_
      exact J _ (by exact ⟨(boolIs (by clear J; first | (simp [hs8]; done) | (simp_all; done) | grind)), rfl, rfl, trivial⟩)
    · intro hs8
      have hs8 : ¬ ((k : Int) < 1) := of_decide_eq_false hs8
      refine AtL.move (.inr ⟨_, _, _, rfl, rfl, rfl, rfl⟩) rfl rfl ?_
      refine AtL.gtr (.inr ⟨_, _, _, rfl, rfl, rfl, rfl⟩) rfl rfl rfl ?_
      refine AtL.pickF (.inl rfl) rfl rfl rfl ?_
      exact J _ (by exact ⟨(boolIs (by clear J; first | (simp [hs8]; done) | (simp_all; done) | grind)), rfl, rfl, trivial⟩)
  · skip
    refine AtL.move (.inl rfl) rfl rfl ?_
    refine AtL.join 8 (E' := [(20, .bool (decide ((((k : Int) < 1) ∨ (3 < (k : Int))) ∨ (((k : Int) = 1) ∧ (¬ (l = [1])))))), (0, .int .i64 k), (1, .slice A l.length C)]) (H' := H) (fun J => ?_) ?_
    · refine AtL.split (t := 12) rfl ?_ ?_
      · intro hs12
        have hs12 : ((k : Int) < 1) ∨ (3 < (k : Int)) := of_decide_eq_true hs12
        refine AtL.skipped rfl rfl rfl rfl rfl rfl ?_
        refine AtL.skipped rfl rfl rfl rfl rfl rfl ?_
        refine AtL.skipped rfl rfl rfl rfl rfl rfl ?_
        refine AtL.skippedU rfl rfl rfl rfl rfl ?_
        refine AtL.skippedU rfl rfl rfl rfl rfl ?_
        refine AtL.skippedU rfl rfl rfl rfl rfl ?_
        refine AtL.skipped rfl rfl rfl rfl rfl rfl ?_
        refine AtL.pickT (.inl rfl) rfl rfl rfl ?_
        exact J _ (by exact ⟨(boolIs (by clear J; first | (simp [hs12]; done) | (simp_all; done) | grind)), rfl, rfl, trivial⟩)
      · intro hs12
        have hs12 : ¬ (((k : Int) < 1) ∨ (3 < (k : Int))) := of_decide_eq_false hs12
        refine AtL.move (.inr ⟨_, _, _, rfl, rfl, rfl, rfl⟩) rfl rfl ?_
        refine AtL.eqi (.inr ⟨_, _, _, rfl, rfl, rfl, rfl⟩) rfl rfl rfl ?_
        refine AtL.move (.inr ⟨_, _, _, rfl, rfl, rfl, rfl⟩) rfl rfl ?_
        refine AtL.join 4 (E' := [(19, .bool (decide (((k : Int) = 1) ∧ (¬ (l = [1]))))), (0, .int .i64 k), (1, .slice A l.length C), (12, .bool false)]) (H' := H) (fun J => ?_) ?_
        · refine AtL.split (t := 15) rfl ?_ ?_
          · intro hs15
            have hs15 : (k : Int) = 1 := of_decide_eq_true hs15
            refine AtL.move (.inr ⟨_, _, _, rfl, rfl, rfl, rfl⟩) rfl rfl ?_
            refine AtL.strOf h Try.underlying22 Try.underlying5 Try.underlying9 (.inr ⟨_, _, _, rfl, rfl, rfl, rfl⟩) rfl rfl ?_
            refine AtL.nes (a := l) (b := [1]) (.inr ⟨_, _, _, rfl, rfl, rfl, rfl⟩) rfl rfl rfl ?_
            refine AtL.pickT (.inr ⟨_, _, _, rfl, rfl, rfl, rfl⟩) rfl rfl rfl ?_
            exact J _ (by exact ⟨(boolIs (by clear J; first | (simp [hs15]; done) | (simp_all; done) | grind)), rfl, rfl, rfl, trivial⟩)
          · intro hs15
            have hs15 : ¬ ((k : Int) = 1) := of_decide_eq_false hs15
            refine AtL.skipped rfl rfl rfl rfl rfl rfl ?_
            refine AtL.skipped rfl rfl rfl rfl rfl rfl ?_
            refine AtL.skipped rfl rfl rfl rfl rfl rfl ?_
            refine AtL.pickF (.inr ⟨_, _, _, rfl, rfl, rfl, rfl⟩) rfl rfl rfl ?_
            exact J _ (by exact ⟨(boolIs (by clear J; first | (simp [hs15]; done) | (simp_all; done) | grind)), rfl, rfl, rfl, trivial⟩)
        · skip
          refine AtL.pickF (.inl rfl) rfl rfl rfl ?_
          exact J _ (by exact ⟨(boolIs (by clear J; first | (simp [hs12]; done) | (simp_all; done) | grind)), rfl, rfl, trivial⟩)
    · skip
      refine AtL.move (.inl rfl) rfl rfl ?_
      refine AtL.join 8 (E' := [(29, .bool (decide (((((k : Int) < 1) ∨ (3 < (k : Int))) ∨ (((k : Int) = 1) ∧ (¬ (l = [1])))) ∨ (((k : Int) = 3) ∧ (0 < (l.length : Int)))))), (0, .int .i64 k), (1, .slice A l.length C)]) (H' := H) (fun J => ?_) ?_
      · refine AtL.split (t := 21) rfl ?_ ?_
        · intro hs21
          have hs21 : (((k : Int) < 1) ∨ (3 < (k : Int))) ∨ (((k : Int) = 1) ∧ (¬ (l = [1]))) := of_decide_eq_true hs21
          refine AtL.skipped rfl rfl rfl rfl rfl rfl ?_
          refine AtL.skipped rfl rfl rfl rfl rfl rfl ?_
          refine AtL.skipped rfl rfl rfl rfl rfl rfl ?_
          refine AtL.skippedU rfl rfl rfl rfl rfl ?_
          refine AtL.skippedU rfl rfl rfl rfl rfl ?_
          refine AtL.skippedU rfl rfl rfl rfl rfl ?_
          refine AtL.skipped rfl rfl rfl rfl rfl rfl ?_
          refine AtL.pickT (.inl rfl) rfl rfl rfl ?_
          exact J _ (by exact ⟨(boolIs (by clear J; first | (simp [hs21]; done) | (simp_all; done) | grind)), rfl, rfl, trivial⟩)
        · intro hs21
          have hs21 : ¬ ((((k : Int) < 1) ∨ (3 < (k : Int))) ∨ (((k : Int) = 1) ∧ (¬ (l = [1])))) := of_decide_eq_false hs21
          refine AtL.move (.inr ⟨_, _, _, rfl, rfl, rfl, rfl⟩) rfl rfl ?_
          refine AtL.eqi (.inr ⟨_, _, _, rfl, rfl, rfl, rfl⟩) rfl rfl rfl ?_
          refine AtL.move (.inr ⟨_, _, _, rfl, rfl, rfl, rfl⟩) rfl rfl ?_
          refine AtL.join 4 (E' := [(28, .bool (decide (((k : Int) = 3) ∧ (0 < (l.length : Int))))), (0, .int .i64 k), (1, .slice A l.length C), (21, .bool false)]) (H' := H) (fun J => ?_) ?_
          · refine AtL.split (t := 24) rfl ?_ ?_
            · intro hs24
              have hs24 : (k : Int) = 3 := of_decide_eq_true hs24
              refine AtL.move (.inr ⟨_, _, _, rfl, rfl, rfl, rfl⟩) rfl rfl ?_
              refine AtL.lenL Try.underlying22 (.inr ⟨_, _, _, rfl, rfl, rfl, rfl⟩) rfl rfl ?_
              refine AtL.gtr (.inr ⟨_, _, _, rfl, rfl, rfl, rfl⟩) rfl rfl rfl ?_
              refine AtL.pickT (.inr ⟨_, _, _, rfl, rfl, rfl, rfl⟩) rfl rfl rfl ?_
              exact J _ (by exact ⟨(boolIs (by clear J; first | (simp [hs24]; done) | (simp_all; done) | grind)), rfl, rfl, rfl, trivial⟩)
            · intro hs24
              have hs24 : ¬ ((k : Int) = 3) := of_decide_eq_false hs24
              refine AtL.skipped rfl rfl rfl rfl rfl rfl ?_
              refine AtL.skipped rfl rfl rfl rfl rfl rfl ?_
              refine AtL.skipped rfl rfl rfl rfl rfl rfl ?_
              refine AtL.pickF (.inr ⟨_, _, _, rfl, rfl, rfl, rfl⟩) rfl rfl rfl ?_
              exact J _ (by exact ⟨(boolIs (by clear J; first | (simp [hs24]; done) | (simp_all; done) | grind)), rfl, rfl, rfl, trivial⟩)
          · skip
            refine AtL.pickF (.inl rfl) rfl rfl rfl ?_
            exact J _ (by exact ⟨(boolIs (by clear J; first | (simp [hs21]; done) | (simp_all; done) | grind)), rfl, rfl, trivial⟩)
      · skip
        refine AtL.done ?_
        refine At.cond rfl ?_ ?_
        · intro hc1
          have hc1 : ((((k : Int) < 1) ∨ (3 < (k : Int))) ∨ (((k : Int) = 1) ∧ (¬ (l = [1])))) ∨ (((k : Int) = 3) ∧ (0 < (l.length : Int))) := of_decide_eq_true hc1
          refine At.seq ?_
          refine At.region ?_
          refine AtL.assign (.inl rfl) rfl rfl ?_
          refine AtL.assign (.inl rfl) rfl rfl ?_
          refine AtL.done ?_
          refine At.nil ?_
          exact At.ret Try.func12 rfl rfl (⟨_, _, _, _, (Own.nil tyB 5), by simp only [recL, recE, recB]; grind [ofInt_mod], by simp only [oneOf, recE]; grind, rfl⟩)
        · intro hc1
          have hc1 : ¬ (((((k : Int) < 1) ∨ (3 < (k : Int))) ∨ (((k : Int) = 1) ∧ (¬ (l = [1])))) ∨ (((k : Int) = 3) ∧ (0 < (l.length : Int)))) := of_decide_eq_false hc1
          refine At.skip ?_
          refine At.seq ?_
          refine At.seq ?_
          refine At.region ?_
          refine AtL.move (.inl rfl) rfl rfl ?_
          refine AtL.lenL Try.underlying22 (.inl rfl) rfl rfl ?_
          refine AtL.gtr (.inl rfl) rfl rfl rfl ?_
          refine AtL.done ?_
          refine At.cond rfl ?_ ?_
          · intro hc2
            have hc2 : 1024 < (l.length : Int) := of_decide_eq_true hc2
            refine At.seq ?_
            refine At.region ?_
            refine AtL.assign (.inl rfl) rfl rfl ?_
            refine AtL.assign (.inl rfl) rfl rfl ?_
            refine AtL.done ?_
            refine At.nil ?_
            exact At.ret Try.func12 rfl rfl (⟨_, _, _, _, (Own.nil tyB 5), by simp only [recL, recE, recB]; grind [ofInt_mod], by simp only [oneOf, recE]; grind, rfl⟩)
          · intro hc2
            have hc2 : ¬ (1024 < (l.length : Int)) := of_decide_eq_false hc2
            refine At.skip ?_
            refine At.seq ?_
            refine At.region ?_
            refine AtL.move (.inl rfl) rfl rfl ?_
            refine AtL.convInt (z := ((UInt8.ofInt k).toNat : Int)) Try.underlying3 Try.underlying5 (.inl rfl) rfl rfl (u8_conv _) ?_
            refine AtL.move (.inl rfl) rfl rfl ?_
            refine AtL.lenL Try.underlying22 (.inl rfl) rfl rfl ?_
            refine AtL.quo (z := (l.length : Int) / 256) (.inl rfl) rfl rfl rfl (by omega) (quo_eq (by omega) (by omega) (by omega)) ?_
            refine AtL.convInt (z := ((UInt8.ofInt ((l.length : Int) / 256)).toNat : Int)) Try.underlying3 Try.underlying5 (.inl rfl) rfl rfl (u8_conv _) ?_
            refine AtL.move (.inl rfl) rfl rfl ?_
            refine AtL.lenL Try.underlying22 (.inl rfl) rfl rfl ?_
            refine AtL.rem (z := (l.length : Int) % 256) (.inl rfl) rfl rfl rfl (by omega) (rem_eq (by omega)) ?_
            refine AtL.convInt (z := ((UInt8.ofInt ((l.length : Int) % 256)).toNat : Int)) Try.underlying3 Try.underlying5 (.inl rfl) rfl rfl (u8_conv _) ?_
            refine AtL.buildSlice (cs := [.int .u8 ((UInt8.ofInt k).toNat : Int), .int .u8 ((UInt8.ofInt ((l.length : Int) / 256)).toNat : Int), .int .u8 ((UInt8.ofInt ((l.length : Int) % 256)).toNat : Int)]) Try.underlying22 tf_zero5 tf_sz5 rfl rfl (.inl rfl) rfl rfl rfl ?_
            intro b1
            refine AtL.own1 tyB (l := ([(UInt8.ofInt k), (UInt8.ofInt ((l.length : Int) / 256)), (UInt8.ofInt ((l.length : Int) % 256))] : List UInt8)) rfl rfl (by first | decide | simp) ?_
            intro s2 o3
            refine AtL.move (.inl rfl) rfl rfl ?_
            refine AtL.append (l := [(UInt8.ofInt k), (UInt8.ofInt ((l.length : Int) / 256)), (UInt8.ofInt ((l.length : Int) % 256))]) (news := l) 0 tf_el22 rfl o3 (Rd.skip 1 h) (by first | omega | (simp only [List.length_append, List.length_cons, List.length_nil]; omega) | (simp; done) | (simp; omega)) (.inl rfl) rfl rfl rfl ?_
            intro A4 C5 s6 o7
            refine AtL.assign (.inl rfl) rfl rfl ?_
            refine AtL.assign (.inl rfl) rfl rfl ?_
            refine AtL.done ?_
            exact At.ret Try.func12 rfl rfl (⟨_, _, _, _, o7, by simp only [recL, recE, recB]; grind [ofInt_mod], by simp only [oneOf, recE]; grind, rfl⟩)

end Go.Proofs.Ytllfgcekebafhaa
