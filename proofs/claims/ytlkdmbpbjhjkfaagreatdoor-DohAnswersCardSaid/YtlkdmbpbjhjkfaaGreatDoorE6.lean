/- Requests: Ask. -/
import Derived.Test.YtlkdmbpbjhjkfaaGreatDoorE5
import Derived.Test.YtlkdmbpbjhjkfaaGreatDoorLgM
namespace Go.Proofs.YtlkdmbpbjhjkfaaGreatDoor
set_option linter.unusedVariables false
set_option linter.unusedSimpArgs false
set_option maxRecDepth 100000

set_option maxHeartbeats 400000 in
theorem dget_ok {w0 : World} {base : Nat} {H : List Seg} {m t : List UInt8} {minor : Int} {A : Option Addr} {C : Nat} {fs : List (List UInt8 × List UInt8)} (h : Rd tyField w0 base H A C fs) {Ab : Option Addr} {Cb : Nat} {body : List UInt8} (hbody : Rd tyB w0 base H Ab Cb body) (ht : t.length ≤ 4294967280) (T : Tabs w0 base) :
    SCalls Tryz.prog 54 [.agg #[str m, str t, .int .i64 minor, .slice A fs.length C], .slice Ab body.length Cb] w0 base (H) (fun v H' => ∃ x : Sl tyB 5, x.l = (getF t).1 ∧ v = .tuple #[.slice x.A x.l.length x.C, int (getF t).2] ∧ H' = x.s :: H) := by
  have hle0 := h.le
  have hcap0 := h.cap
  have hleb := hbody.le
  have hcapb := hbody.cap
  refine SCalls.of_walk (n := 42) Tryz.func54 rfl rfl rfl fun cs => ?_
  refine At.seq ?_
  refine At.region ?_
  refine AtL.box (cs := #[str m, str t, .int .i64 minor, .slice A fs.length C]) rfl (.inl rfl) rfl rfl ?_
  intro b1
  refine AtL.assign (.inl rfl) rfl rfl ?_
  refine AtL.assign (.inl rfl) rfl rfl ?_
  refine AtL.done ?_
  refine At.seq ?_
  refine At.region ?_
  refine AtL.fieldAddrB tf_fo47_1 (.inl rfl) rfl rfl rfl ?_
  refine AtL.load tf_flat9 (.inl rfl) rfl rfl (Cell.own 0 0 rfl rfl rfl) ?_
  refine AtL.call tf_body35 (.inl rfl) rfl rfl (path_ok (t := t) (by omega) T) ?_
  rintro _ _ ⟨rfl, rfl⟩
  refine AtL.move (.inl rfl) rfl rfl ?_
  refine AtL.extract (.inl rfl) rfl rfl rfl ?_
  refine AtL.extract (.inl rfl) rfl rfl rfl ?_
  refine AtL.assign (.inl rfl) rfl rfl ?_
  refine AtL.assign (.inl rfl) rfl rfl ?_
  refine AtL.done ?_
  refine At.seq ?_
  refine At.seq ?_
  refine At.region ?_
  refine AtL.assign (.inl rfl) rfl rfl ?_
  refine AtL.done ?_
  refine At.block ?_
  refine At.loop2 (fun (q : List UInt8) (mr : Bool) => [(7, str q), (8, .bool mr)]) (fun (q : List UInt8) (mr : Bool) => [(b1, .cells #[str m, str t, .int .i64 minor, .slice A fs.length C] 47 (0, 0))] :: H) (fun (q : List UInt8) (mr : Bool) => (mr = true → partF (Lib.cut t [63]).2.1 = partF q) ∧ (mr = false → partF (Lib.cut t [63]).2.1 = none) ∧ q.length ≤ t.length) (fun (q : List UInt8) (mr : Bool) => q.length + (if mr = true then 1 else 0)) ((Lib.cut t [63]).2.1) true (⟨(fun _ => rfl), (fun h => by cases h), (cutW_le [63] t).2⟩) ⟨rfl, rfl, trivial⟩ rfl ?_
  rintro q mr ⟨hq1, hq2, hql⟩ ihL1
  refine At.seq ?_
  refine At.seq ?_
  refine At.region ?_
  refine AtL.move (.inl rfl) rfl rfl ?_
  refine AtL.done ?_
  refine At.cond rfl ?_ ?_
  · intro hc1
    have hc1 : mr = true := hc1
    have hcl := cutW_le [38] q
    refine At.skip ?_
    refine At.block ?_
    refine At.seq ?_
    refine At.region ?_
    refine AtL.assign (.inl rfl) rfl rfl ?_
    refine AtL.done ?_
    refine At.seq ?_
    refine At.region ?_
    refine AtL.move (.inl rfl) rfl rfl ?_
    refine AtL.call tf_body53 (.inl rfl) rfl rfl (cutW_ok (x := q) [38] (by omega) T) ?_
    rintro _ _ ⟨rfl, rfl⟩
    refine AtL.move (.inl rfl) rfl rfl ?_
    refine AtL.extract (.inl rfl) rfl rfl rfl ?_
    refine AtL.extract (.inl rfl) rfl rfl rfl ?_
    refine AtL.extract (.inl rfl) rfl rfl rfl ?_
    refine AtL.assign (.inl rfl) rfl rfl ?_
    refine AtL.assign (.inl rfl) rfl rfl ?_
    refine AtL.assign (.inl rfl) rfl rfl ?_
    refine AtL.done ?_
    refine At.seq ?_
    refine At.region ?_
    refine AtL.move (.inl rfl) rfl rfl ?_
    refine AtL.call tf_body89 (.inl rfl) rfl rfl (cutp_ok ((Lib.cut q [38]).1) [100, 110, 115, 61]) ?_
    rintro _ _ ⟨rfl, rfl⟩
    refine AtL.move (.inl rfl) rfl rfl ?_
    refine AtL.extract (.inl rfl) rfl rfl rfl ?_
    refine AtL.extract (.inl rfl) rfl rfl rfl ?_
    refine AtL.assign (.inl rfl) rfl rfl ?_
    refine AtL.assign (.inl rfl) rfl rfl ?_
    refine AtL.done ?_
    refine At.seq ?_
    refine At.region ?_
    refine AtL.move (.inl rfl) rfl rfl ?_
    refine AtL.done ?_
    refine At.cond rfl ?_ ?_
    · intro hc2
      have hc2 : [100, 110, 115, 61] <+: ((Lib.cut q [38]).1) := of_decide_eq_true hc2
      have hpd : (List.drop 4 (Lib.cut q [38]).1).length ≤ q.length := by rw [List.length_drop]; omega
      rw [if_pos hc2]
      refine At.seq ?_
      refine At.region ?_
      refine AtL.move (.inl rfl) rfl rfl ?_
      refine AtL.call tf_body90 (.inl rfl) rfl rfl (b64dec_ok (s := (Lib.cut q [38]).1.drop 4) (by omega)) ?_
      rintro _ _ ⟨⟨A2, C3, l4, s5, o6⟩, at8, hx7, rfl, rfl⟩
      obtain rfl : (decB ((Lib.cut q [38]).1.drop 4)).getD [] = l4 := hx7.symm
      refine AtL.move (.inl rfl) rfl rfl ?_
      refine AtL.extract (.inl rfl) rfl rfl rfl ?_
      refine AtL.extract (.inl rfl) rfl rfl rfl ?_
      refine AtL.alloc tf_zero133 (cs := #[.int .i64 0, .int .i64 0]) rfl (.inl rfl) rfl ?_
      intro b9
      refine AtL.assign (.inl rfl) rfl rfl ?_
      refine AtL.store (H' := [(b9, .cells #[.int .i64 (if (decB ((Lib.cut q [38]).1.drop 4)).isSome = true then 0 else 4), .int .i64 at8] 133 (0, 0))] :: s5 :: [(b1, .cells #[str m, str t, .int .i64 minor, .slice A fs.length C] 47 (0, 0))] :: H) 0 0 tf_sz133 (.inl rfl) rfl rfl rfl rfl rfl rfl rfl rfl rfl ?_
      refine AtL.done ?_
      refine At.seq ?_
      refine At.seq ?_
      refine At.region ?_
      refine AtL.fieldAddrB tf_fo133_0 (.inl rfl) rfl rfl rfl ?_
      refine AtL.load tf_flat25 (.inl rfl) rfl rfl (Cell.own 0 0 rfl rfl rfl) ?_
      refine AtL.nei (.inl rfl) rfl rfl rfl ?_
      refine AtL.done ?_
      refine At.cond rfl ?_ ?_
      · intro hc3
        have hc3 : ¬ (((if (decB ((Lib.cut q [38]).1.drop 4)).isSome = true then 0 else 4) : Int) = 0) := of_decide_eq_false (bnot_true hc3)
        refine At.seq ?_
        refine At.region ?_
        refine AtL.assign (.inl rfl) rfl rfl ?_
        refine AtL.assign (.inl rfl) rfl rfl ?_
        refine AtL.done ?_
        have hp1 : partF (Lib.cut t [63]).2.1 = some ((Lib.cut q [38]).1.drop 4) := by rw [hq1 hc1, part_yes hc2]
        have hr : getF t = ([], 400) := by cases hd : decB ((Lib.cut q [38]).1.drop 4) with | none => (rw [getF, hp1]; dsimp only; rw [hd]) | some b => (rw [hd] at hc3; exact absurd rfl hc3)
        refine At.nil ?_
        refine At.pick (H' := [] :: H) [0] 4 rfl rfl ?_
        exact At.ret Tryz.func54 rfl rfl (⟨Sl.nil, by rw [hr]; rfl, by rw [hr]; rfl, rfl⟩)
      · intro hc3
        have hc3 : ((if (decB ((Lib.cut q [38]).1.drop 4)).isSome = true then 0 else 4) : Int) = 0 := of_decide_eq_true (bnot_false hc3)
        refine At.skip ?_
        refine At.seq ?_
        refine At.region ?_
        refine AtL.move (.inl rfl) rfl rfl ?_
        refine AtL.assign (.inl rfl) rfl rfl ?_
        refine AtL.assign (.inl rfl) rfl rfl ?_
        refine AtL.done ?_
        have hp1 : partF (Lib.cut t [63]).2.1 = some ((Lib.cut q [38]).1.drop 4) := by rw [hq1 hc1, part_yes hc2]
        have hr : getF t = ((decB ((Lib.cut q [38]).1.drop 4)).getD [], 200) := by cases hd : decB ((Lib.cut q [38]).1.drop 4) with | none => (rw [hd] at hc3; exact absurd hc3 (by decide)) | some b => (rw [getF, hp1]; dsimp only; rw [hd]; rfl)
        refine At.pick (H' := s5 :: H) [1] 3 rfl rfl ?_
        exact At.ret Tryz.func54 rfl rfl (⟨⟨A2, C3, ((decB ((Lib.cut q [38]).1.drop 4)).getD []), s5, o6⟩, by rw [hr], by rw [hr]; rfl, rfl⟩)
    · intro hc2
      have hc2 : ¬ ([100, 110, 115, 61] <+: ((Lib.cut q [38]).1)) := of_decide_eq_false hc2
      refine At.skip ?_
      refine At.inBlock ?_
      refine ihL1 ((Lib.cut q [38]).2.1) ((Lib.cut q [38]).2.2) (⟨fun hm => by rw [hq1 hc1, part_more hc2 hm], fun hm => by rw [hq1 hc1, part_none hc2 hm], by omega⟩) (by rw [if_pos hc1]; by_cases hm : (Lib.cut q [38]).2.2 = true; rw [if_pos hm]; have := cut_less hm; omega; rw [if_neg hm, show (Lib.cut q [38]).2.1 = [] from by unfold Lib.cut at hm ⊢; split <;> simp_all]; simp) _ ?_
      exact ⟨(by first | rfl | exact slLen (by simp []) | exact intEq (by omega) | exact intEq (by simp []) | exact slLen (by simp []; omega)), (by first | rfl | exact slLen (by simp []) | exact intEq (by omega) | exact intEq (by simp []) | exact slLen (by simp []; omega)), trivial⟩
  · intro hc1
    have hc1 : mr = false := hc1
    refine At.exit rfl ?_
    refine At.seq ?_
    refine At.region ?_
    refine AtL.assign (.inl rfl) rfl rfl ?_
    refine AtL.assign (.inl rfl) rfl rfl ?_
    refine AtL.done ?_
    have hr : getF t = ([], 400) := by rw [getF, hq2 (by simpa using hc1)]
    refine At.nil ?_
    refine At.pick (H' := [] :: H) [0] 2 rfl rfl ?_
    exact At.ret Tryz.func54 rfl rfl (⟨Sl.nil, by rw [hr]; rfl, by rw [hr]; rfl, rfl⟩)

theorem post_cond {fs : List Fld} : (¬ ((fieldF fs CTYPE).2 : Int) = 1 ∨ ¬ Go.Lib.mapD lowI (fieldF fs CTYPE).1 = MEDIA) ↔ (¬ (fieldF fs CTYPE).2 = 1 ∨ ¬ lowerF (fieldF fs CTYPE).1 = lowerF MEDIA) := by
  have e : ((fieldF fs CTYPE).2 : Int) = 1 ↔ (fieldF fs CTYPE).2 = 1 := by omega
  rw [media_low, e]
theorem field_mem {fs : List Fld} {nm : List UInt8} {n : Nat} (hb : ∀ f ∈ fs, f.2.length ≤ n) : (fieldF fs nm).1.length ≤ n := by
  unfold fieldF
  cases h : allF fs nm with
  | nil => simp
  | cons x l =>
    have : x ∈ allF fs nm := by rw [h]; simp
    obtain ⟨f, hf, rfl⟩ := List.mem_map.1 this
    exact hb f (List.mem_filter.1 hf).1

set_option maxHeartbeats 400000 in
theorem dpost_ok {w0 : World} {base : Nat} {H : List Seg} {m t : List UInt8} {minor : Int} {A : Option Addr} {C : Nat} {fs : List (List UInt8 × List UInt8)} (h : Rd tyField w0 base H A C fs) {Ab : Option Addr} {Cb : Nat} {body : List UInt8} (hbody : Rd tyB w0 base H Ab Cb body) (hfl : fs.length ≤ 1000) (hb : ∀ f ∈ fs, f.1.length ≤ 4294967280 ∧ f.2.length ≤ 4294967280) (hbl : body.length ≤ 4294967280) (T : Tabs w0 base) :
    SCalls Tryz.prog 55 [.agg #[str m, str t, .int .i64 minor, .slice A fs.length C], .slice Ab body.length Cb] w0 base (H) (fun v H' => ∃ x : Sl tyB 5, x.l = (postF fs body).1 ∧ v = .tuple #[.slice x.A x.l.length x.C, int (postF fs body).2] ∧ H' = x.s :: H) := by
  have hle0 := h.le
  have hcap0 := h.cap
  have hleb := hbody.le
  have hcapb := hbody.cap
  refine SCalls.of_walk (n := 22) Tryz.func55 rfl rfl rfl fun cs => ?_
  refine At.seq ?_
  refine At.region ?_
  refine AtL.box (cs := #[str m, str t, .int .i64 minor, .slice A fs.length C]) rfl (.inl rfl) rfl rfl ?_
  intro b1
  refine AtL.assign (.inl rfl) rfl rfl ?_
  refine AtL.assign (.inl rfl) rfl rfl ?_
  refine AtL.done ?_
  refine At.seq ?_
  refine At.seq ?_
  refine At.region ?_
  refine AtL.loadN (cs := [str m, str t, .int .i64 minor, .slice A fs.length C]) tf_agg47 (.inl rfl) rfl rfl rfl (cellsOwn 0 0 0 rfl rfl rfl) ?_
  refine AtL.call tf_body76 (.inl rfl) rfl rfl (field_ok (fs := fs) (Rd.skip 1 h) (nm := [99, 111, 110, 116, 101, 110, 116, 45, 116, 121, 112, 101]) (by decide) (by omega) (fun f hf => by have := hb f hf; omega)) ?_
  rintro _ _ ⟨rfl, rfl⟩
  refine AtL.move (.inl rfl) rfl rfl ?_
  refine AtL.extract (.inl rfl) rfl rfl rfl ?_
  refine AtL.extract (.inl rfl) rfl rfl rfl ?_
  refine AtL.assign (.inl rfl) rfl rfl ?_
  refine AtL.assign (.inl rfl) rfl rfl ?_
  refine AtL.done ?_
  refine At.seq ?_
  refine At.region ?_
  refine AtL.move (.inl rfl) rfl rfl ?_
  refine AtL.nei (.inl rfl) rfl rfl rfl ?_
  refine AtL.move (.inl rfl) rfl rfl ?_
  refine AtL.join 4 (E' := [(19, .bool (decide ((¬ (((fieldF fs [99, 111, 110, 116, 101, 110, 116, 45, 116, 121, 112, 101]).2 : Int) = 1)) ∨ (¬ (Lib.mapD lowI ((fieldF fs [99, 111, 110, 116, 101, 110, 116, 45, 116, 121, 112, 101]).1) = [97, 112, 112, 108, 105, 99, 97, 116, 105, 111, 110, 47, 100, 110, 115, 45, 109, 101, 115, 115, 97, 103, 101]))))), (1, .slice Ab body.length Cb)]) (H' := [(b1, .cells #[str m, str t, .int .i64 minor, .slice A fs.length C] 47 (0, 0))] :: H) (fun J => ?_) ?_
  · refine AtL.split (t := 15) rfl ?_ ?_
    · intro hs15
      have hs15 : ¬ (((fieldF fs [99, 111, 110, 116, 101, 110, 116, 45, 116, 121, 112, 101]).2 : Int) = 1) := of_decide_eq_false (bnot_true hs15)
      refine AtL.skipped rfl rfl rfl rfl rfl rfl ?_
      refine AtL.skipped rfl rfl rfl rfl rfl rfl ?_
      refine AtL.skipped rfl rfl rfl rfl rfl rfl ?_
      refine AtL.pickT (.inl rfl) rfl rfl rfl ?_
      exact J _ (by exact ⟨(boolIs (by clear J; first | (simp [hs15]; done) | (simp_all; done) | grind)), rfl, trivial⟩)
    · intro hs15
      have hs15 : ((fieldF fs [99, 111, 110, 116, 101, 110, 116, 45, 116, 121, 112, 101]).2 : Int) = 1 := of_decide_eq_true (bnot_false hs15)
      refine AtL.move (.inr ⟨_, _, _, rfl, rfl, rfl, rfl⟩) rfl rfl ?_
      refine AtL.call tf_body91 (.inr ⟨_, _, _, rfl, rfl, rfl, rfl⟩) rfl rfl (dlower_ok (x := (fieldF fs [99, 111, 110, 116, 101, 110, 116, 45, 116, 121, 112, 101]).1) (field_mem fun f hf => (hb f hf).2) T) ?_
      rintro _ _ ⟨rfl, rfl⟩
      refine AtL.nes (a := Lib.mapD lowI ((fieldF fs [99, 111, 110, 116, 101, 110, 116, 45, 116, 121, 112, 101]).1)) (b := [97, 112, 112, 108, 105, 99, 97, 116, 105, 111, 110, 47, 100, 110, 115, 45, 109, 101, 115, 115, 97, 103, 101]) (.inr ⟨_, _, _, rfl, rfl, rfl, rfl⟩) rfl rfl rfl ?_
      refine AtL.pickF (.inl rfl) rfl rfl rfl ?_
      exact J _ (by exact ⟨(boolIs (by clear J; first | (simp [hs15]; done) | (simp_all; done) | grind)), rfl, trivial⟩)
  · skip
    refine AtL.done ?_
    refine At.cond rfl ?_ ?_
    · intro hc1
      have hc1 : (¬ (((fieldF fs [99, 111, 110, 116, 101, 110, 116, 45, 116, 121, 112, 101]).2 : Int) = 1)) ∨ (¬ (Lib.mapD lowI ((fieldF fs [99, 111, 110, 116, 101, 110, 116, 45, 116, 121, 112, 101]).1) = [97, 112, 112, 108, 105, 99, 97, 116, 105, 111, 110, 47, 100, 110, 115, 45, 109, 101, 115, 115, 97, 103, 101])) := of_decide_eq_true hc1
      refine At.seq ?_
      refine At.region ?_
      refine AtL.assign (.inl rfl) rfl rfl ?_
      refine AtL.assign (.inl rfl) rfl rfl ?_
      refine AtL.done ?_
      have hr : postF fs body = ([], 415) := by rw [postF, if_pos (post_cond.1 hc1)]
      refine At.nil ?_
      refine At.pick (H' := [] :: H) [0] 2 rfl rfl ?_
      exact At.ret Tryz.func55 rfl rfl (⟨Sl.nil, by rw [hr]; rfl, by rw [hr]; rfl, rfl⟩)
    · intro hc1
      have hc1 : ¬ ((¬ (((fieldF fs [99, 111, 110, 116, 101, 110, 116, 45, 116, 121, 112, 101]).2 : Int) = 1)) ∨ (¬ (Lib.mapD lowI ((fieldF fs [99, 111, 110, 116, 101, 110, 116, 45, 116, 121, 112, 101]).1) = [97, 112, 112, 108, 105, 99, 97, 116, 105, 111, 110, 47, 100, 110, 115, 45, 109, 101, 115, 115, 97, 103, 101]))) := of_decide_eq_false hc1
      refine At.skip ?_
      refine At.seq ?_
      refine At.region ?_
      refine AtL.move (.inl rfl) rfl rfl ?_
      refine AtL.nil ?_
      refine AtL.append (l := []) (news := body) 0 tf_el22 rfl (Own.nil tyB 5) (Rd.skip 2 hbody) (by first | omega | (simp only [List.length_append, List.length_cons, List.length_nil]; omega) | (simp; done) | (simp; omega)) (.inl rfl) rfl rfl rfl ?_
      intro A2 C3 s4 o5
      refine AtL.assign (.inl rfl) rfl rfl ?_
      refine AtL.assign (.inl rfl) rfl rfl ?_
      refine AtL.done ?_
      have hr : postF fs body = (body, 200) := by rw [postF, if_neg (mt post_cond.2 hc1)]
      refine At.pick (H' := s4 :: H) [0] 2 rfl rfl ?_
      exact At.ret Tryz.func55 rfl rfl (⟨⟨A2, C3, body, s4, o5⟩, by rw [hr], by rw [hr]; rfl, rfl⟩)

def fnV (n : Nat) : Value := .func (.func n) #[] #[]
theorem ask_m {m : List UInt8} (h1 : ¬ m = GETM) (h2 : ¬ m = POSTM) : (if true = true then (.tuple #[((atK m [([71, 69, 84], 54), ([80, 79, 83, 84], 55)]).map fnV).getD .nilFunc, .bool (atK m [([71, 69, 84], 54), ([80, 79, 83, 84], 55)]).isSome] : Value) else ((atK m [([71, 69, 84], 54), ([80, 79, 83, 84], 55)]).map fnV).getD .nilFunc) = .tuple #[.nilFunc, .bool false] := by
  have e : atK m [([71, 69, 84], 54), ([80, 79, 83, 84], 55)] = none := by
    rw [atK, if_neg (show ¬ m = ([71, 69, 84] : List UInt8) from h1), atK, if_neg (show ¬ m = ([80, 79, 83, 84] : List UInt8) from h2), atK]
  rw [e]; rfl

set_option maxHeartbeats 400000 in
theorem ask_ok {w0 : World} {base : Nat} {H : List Seg} {m t : List UInt8} {minor : Int} {A : Option Addr} {C : Nat} {fs : List (List UInt8 × List UInt8)} (h : Rd tyField w0 base H A C fs) {Ab : Option Addr} {Cb : Nat} {body : List UInt8} (hbody : Rd tyB w0 base H Ab Cb body) (hfl : fs.length ≤ 1000) (hb : ∀ f ∈ fs, f.1.length ≤ 4294967280 ∧ f.2.length ≤ 4294967280) (hbl : body.length ≤ 4294967280) (ht : t.length ≤ 4294967280) (T : Tabs w0 base) :
    SCalls Tryz.prog 36 [.agg #[str m, str t, .int .i64 minor, .slice A fs.length C], .slice Ab body.length Cb] w0 base (H) (fun v H' => ∃ x : Sl tyB 5, x.l = (askF m t fs body).1 ∧ v = .tuple #[.slice x.A x.l.length x.C, int (askF m t fs body).2] ∧ H' = x.s :: H) := by
  have hle0 := h.le
  have hcap0 := h.cap
  have hleb := hbody.le
  have hcapb := hbody.cap
  refine SCalls.of_walk (n := 50) Tryz.func36 rfl rfl rfl fun cs => ?_
  refine At.seq ?_
  refine At.region ?_
  refine AtL.box (cs := #[str m, str t, .int .i64 minor, .slice A fs.length C]) rfl (.inl rfl) rfl rfl ?_
  intro b1
  refine AtL.assign (.inl rfl) rfl rfl ?_
  refine AtL.assign (.inl rfl) rfl rfl ?_
  refine AtL.done ?_
  refine At.seq ?_
  refine At.seq ?_
  refine At.region ?_
  refine AtL.fieldAddrB tf_fo47_1 (.inl rfl) rfl rfl rfl ?_
  refine AtL.load tf_flat9 (.inl rfl) rfl rfl (Cell.own 0 0 rfl rfl rfl) ?_
  refine AtL.call tf_body35 (.inl rfl) rfl rfl (path_ok (t := t) (by omega) T) ?_
  rintro _ _ ⟨rfl, rfl⟩
  refine AtL.move (.inl rfl) rfl rfl ?_
  refine AtL.extract (.inl rfl) rfl rfl rfl ?_
  refine AtL.extract (.inl rfl) rfl rfl rfl ?_
  refine AtL.assign (.inl rfl) rfl rfl ?_
  refine AtL.assign (.inl rfl) rfl rfl ?_
  refine AtL.done ?_
  refine At.seq ?_
  refine At.region ?_
  refine AtL.move (.inl rfl) rfl rfl ?_
  refine AtL.nes (a := (Lib.cut t [63]).1) (b := [47, 100, 110, 115, 45, 113, 117, 101, 114, 121]) (.inl rfl) rfl rfl rfl ?_
  refine AtL.done ?_
  refine At.cond rfl ?_ ?_
  · intro hc1
    have hc1 : ¬ ((Lib.cut t [63]).1 = [47, 100, 110, 115, 45, 113, 117, 101, 114, 121]) := of_decide_eq_false (bnot_true hc1)
    refine At.seq ?_
    refine At.region ?_
    refine AtL.assign (.inl rfl) rfl rfl ?_
    refine AtL.assign (.inl rfl) rfl rfl ?_
    refine AtL.done ?_
    have hr : (askF m t fs body) = ([], 404) := by rw [askF, if_pos (show ¬ (Lib.cut t [63]).1 = DNSQ from hc1)]
    refine At.nil ?_
    refine At.pick (H' := [] :: H) [0] 2 rfl rfl ?_
    exact At.ret Tryz.func36 rfl rfl (⟨Sl.nil, by rw [hr]; rfl, by rw [hr]; rfl, rfl⟩)
  · intro hc1
    have hc1 : (Lib.cut t [63]).1 = [47, 100, 110, 115, 45, 113, 117, 101, 114, 121] := of_decide_eq_true (bnot_false hc1)
    refine At.skip ?_
    refine At.seq ?_
    rcases Classical.em (m = GETM) with hm1 | hm1
    · skip
      obtain rfl : [71, 69, 84] = m := hm1.symm
      refine At.region ?_
      refine AtL.makeMap kyS fnV (.inl rfl) rfl ?_
      intro b2
      refine AtL.insert (Q := kyS) (tv := fnV) (a := [71, 69, 84]) (v := 54) (H' := [(b2, mapO kyS fnV ([([71, 69, 84], 54)]))] :: [(b1, .cells #[str [71, 69, 84], str t, .int .i64 minor, .slice A fs.length C] 47 (0, 0))] :: H) 0 0 Tryz.underlying99 Tryz.underlying9 rfl (.inl rfl) rfl rfl (by first | decide | rfl) rfl rfl rfl rfl ?_
      refine AtL.insert (Q := kyS) (tv := fnV) (a := [80, 79, 83, 84]) (v := 55) (H' := [(b2, mapO kyS fnV ([([71, 69, 84], 54), ([80, 79, 83, 84], 55)]))] :: [(b1, .cells #[str [71, 69, 84], str t, .int .i64 minor, .slice A fs.length C] 47 (0, 0))] :: H) 0 0 Tryz.underlying99 Tryz.underlying9 rfl (.inl rfl) rfl rfl (by first | decide | rfl) rfl rfl rfl rfl ?_
      refine AtL.move (.inl rfl) rfl rfl ?_
      refine AtL.fieldAddrB tf_fo47_0 (.inl rfl) rfl rfl rfl ?_
      refine AtL.load tf_flat9 (.inl rfl) rfl rfl (Cell.own 1 0 rfl rfl rfl) ?_
      refine AtL.lookup (Q := kyS) (tv := fnV) (a := [71, 69, 84]) (v := .tuple #[.func ((.func 54)) #[] #[], .bool true]) 0 0 Tryz.underlying99 Tryz.underlying9 rfl tf_zero70 (.inl rfl) rfl rfl rfl rfl rfl rfl ?_
      refine AtL.move (.inl rfl) rfl rfl ?_
      refine AtL.extract (.inl rfl) rfl rfl rfl ?_
      refine AtL.extract (.inl rfl) rfl rfl rfl ?_
      refine AtL.assign (.inl rfl) rfl rfl ?_
      refine AtL.assign (.inl rfl) rfl rfl ?_
      refine AtL.done ?_
      refine At.seq ?_
      refine At.seq ?_
      refine At.region ?_
      refine AtL.move (.inl rfl) rfl rfl ?_
      refine AtL.not (.inl rfl) rfl rfl ?_
      refine AtL.done ?_
      refine At.condF rfl ?_
      refine At.skip ?_
      refine At.seq ?_
      refine At.region ?_
      refine AtL.move (.inl rfl) rfl rfl ?_
      refine AtL.loadN (cs := [str [71, 69, 84], str t, .int .i64 minor, .slice A fs.length C]) tf_agg47 (.inl rfl) rfl rfl rfl (cellsOwn 1 0 0 rfl rfl rfl) ?_
      refine AtL.move (.inl rfl) rfl rfl ?_
      refine AtL.callV tf_body54 (.inl rfl) rfl rfl rfl rfl (dget_ok (m := [71, 69, 84]) (t := t) (minor := minor) (fs := fs) (body := body) (Rd.skip 2 h) (Rd.skip 2 hbody) (by omega) T) ?_
      rintro _ _ ⟨⟨A3, C4, l5, s6, o7⟩, hx8, rfl, rfl⟩
      obtain rfl : (getF t).1 = l5 := hx8.symm
      refine AtL.move (.inl rfl) rfl rfl ?_
      refine AtL.extract (.inl rfl) rfl rfl rfl ?_
      refine AtL.extract (.inl rfl) rfl rfl rfl ?_
      refine AtL.assign (.inl rfl) rfl rfl ?_
      refine AtL.assign (.inl rfl) rfl rfl ?_
      refine AtL.done ?_
      refine At.seq ?_
      refine At.block ?_
      refine At.seq ?_
      refine At.region ?_
      refine AtL.move (.inl rfl) rfl rfl ?_
      refine AtL.nei (.inl rfl) rfl rfl rfl ?_
      refine AtL.assign (.inl rfl) rfl rfl ?_
      refine AtL.done ?_
      refine At.cond rfl ?_ ?_
      · intro hc3
        have hc3 : ¬ (((getF t).2 : Int) = 200) := of_decide_eq_false (bnot_true hc3)
        refine At.seq ?_
        refine At.region ?_
        refine AtL.move (.inl rfl) rfl rfl ?_
        refine AtL.assign (.inl rfl) rfl rfl ?_
        refine AtL.assign (.inl rfl) rfl rfl ?_
        refine AtL.done ?_
        have hr : (askF [71, 69, 84] t fs body) = ([], (getF t).2) := by rw [askF, if_neg (show ¬ ¬ (Lib.cut t [63]).1 = DNSQ from fun h => h hc1), if_pos (show ([71, 69, 84] : List UInt8) = GETM from rfl), thenF, if_neg hc3]
        refine At.nil ?_
        refine At.pick (H' := [] :: H) [0] 4 rfl rfl ?_
        exact At.ret Tryz.func36 rfl rfl (⟨Sl.nil, by rw [hr]; rfl, by rw [hr]; rfl, rfl⟩)
      · intro hc3
        have hc3 : ((getF t).2 : Int) = 200 := of_decide_eq_true (bnot_false hc3)
        refine At.seq ?_
        refine At.region ?_
        refine AtL.move (.inl rfl) rfl rfl ?_
        refine AtL.lenL Tryz.underlying22 (.inl rfl) rfl rfl ?_
        refine AtL.lss (.inl rfl) rfl rfl rfl ?_
        refine AtL.assign (.inl rfl) rfl rfl ?_
        refine AtL.done ?_
        refine At.cond rfl ?_ ?_
        · intro hc4
          have hc4 : (((getF t).1).length : Int) < 12 := of_decide_eq_true hc4
          refine At.seq ?_
          refine At.region ?_
          refine AtL.assign (.inl rfl) rfl rfl ?_
          refine AtL.assign (.inl rfl) rfl rfl ?_
          refine AtL.done ?_
          have hr : (askF [71, 69, 84] t fs body) = ([], 400) := by rw [askF, if_neg (show ¬ ¬ (Lib.cut t [63]).1 = DNSQ from fun h => h hc1), if_pos (show ([71, 69, 84] : List UInt8) = GETM from rfl), thenF, if_pos hc3, sizesF, if_pos (by omega)]
          refine At.nil ?_
          refine At.pick (H' := [] :: H) [0] 4 rfl rfl ?_
          exact At.ret Tryz.func36 rfl rfl (⟨Sl.nil, by rw [hr]; rfl, by rw [hr]; rfl, rfl⟩)
        · intro hc4
          have hc4 : ¬ ((((getF t).1).length : Int) < 12) := of_decide_eq_false hc4
          refine At.seq ?_
          refine At.region ?_
          refine AtL.move (.inl rfl) rfl rfl ?_
          refine AtL.lenL Tryz.underlying22 (.inl rfl) rfl rfl ?_
          refine AtL.gtr (.inl rfl) rfl rfl rfl ?_
          refine AtL.assign (.inl rfl) rfl rfl ?_
          refine AtL.done ?_
          refine At.cond rfl ?_ ?_
          · intro hc5
            have hc5 : 65535 < (((getF t).1).length : Int) := of_decide_eq_true hc5
            refine At.seq ?_
            refine At.region ?_
            refine AtL.assign (.inl rfl) rfl rfl ?_
            refine AtL.assign (.inl rfl) rfl rfl ?_
            refine AtL.done ?_
            have hr : (askF [71, 69, 84] t fs body) = ([], 413) := by rw [askF, if_neg (show ¬ ¬ (Lib.cut t [63]).1 = DNSQ from fun h => h hc1), if_pos (show ([71, 69, 84] : List UInt8) = GETM from rfl), thenF, if_pos hc3, sizesF, if_neg (by omega), if_pos (by omega)]
            refine At.nil ?_
            refine At.pick (H' := [] :: H) [0] 4 rfl rfl ?_
            exact At.ret Tryz.func36 rfl rfl (⟨Sl.nil, by rw [hr]; rfl, by rw [hr]; rfl, rfl⟩)
          · intro hc5
            have hc5 : ¬ (65535 < (((getF t).1).length : Int)) := of_decide_eq_false hc5
            refine At.skip ?_
            refine At.inBlock ?_
            refine At.seq ?_
            refine At.region ?_
            refine AtL.move (.inl rfl) rfl rfl ?_
            refine AtL.assign (.inl rfl) rfl rfl ?_
            refine AtL.assign (.inl rfl) rfl rfl ?_
            refine AtL.done ?_
            have hr : (askF [71, 69, 84] t fs body) = ((getF t).1, 200) := by rw [askF, if_neg (show ¬ ¬ (Lib.cut t [63]).1 = DNSQ from fun h => h hc1), if_pos (show ([71, 69, 84] : List UInt8) = GETM from rfl), thenF, if_pos hc3, sizesF, if_neg (by omega), if_neg (by omega)]
            refine At.pick (H' := s6 :: H) [0] 3 rfl rfl ?_
            exact At.ret Tryz.func36 rfl rfl (⟨⟨A3, C4, ((getF t).1), s6, o7⟩, by rw [hr], by rw [hr]; rfl, rfl⟩)
    · skip
      rcases Classical.em (m = POSTM) with hm2 | hm2
      · skip
        obtain rfl : [80, 79, 83, 84] = m := hm2.symm
        refine At.region ?_
        refine AtL.makeMap kyS fnV (.inl rfl) rfl ?_
        intro b9
        refine AtL.insert (Q := kyS) (tv := fnV) (a := [71, 69, 84]) (v := 54) (H' := [(b9, mapO kyS fnV ([([71, 69, 84], 54)]))] :: [(b1, .cells #[str [80, 79, 83, 84], str t, .int .i64 minor, .slice A fs.length C] 47 (0, 0))] :: H) 0 0 Tryz.underlying99 Tryz.underlying9 rfl (.inl rfl) rfl rfl (by first | decide | rfl) rfl rfl rfl rfl ?_
        refine AtL.insert (Q := kyS) (tv := fnV) (a := [80, 79, 83, 84]) (v := 55) (H' := [(b9, mapO kyS fnV ([([71, 69, 84], 54), ([80, 79, 83, 84], 55)]))] :: [(b1, .cells #[str [80, 79, 83, 84], str t, .int .i64 minor, .slice A fs.length C] 47 (0, 0))] :: H) 0 0 Tryz.underlying99 Tryz.underlying9 rfl (.inl rfl) rfl rfl (by first | decide | rfl) rfl rfl rfl rfl ?_
        refine AtL.move (.inl rfl) rfl rfl ?_
        refine AtL.fieldAddrB tf_fo47_0 (.inl rfl) rfl rfl rfl ?_
        refine AtL.load tf_flat9 (.inl rfl) rfl rfl (Cell.own 1 0 rfl rfl rfl) ?_
        refine AtL.lookup (Q := kyS) (tv := fnV) (a := [80, 79, 83, 84]) (v := .tuple #[.func ((.func 55)) #[] #[], .bool true]) 0 0 Tryz.underlying99 Tryz.underlying9 rfl tf_zero70 (.inl rfl) rfl rfl rfl rfl rfl rfl ?_
        refine AtL.move (.inl rfl) rfl rfl ?_
        refine AtL.extract (.inl rfl) rfl rfl rfl ?_
        refine AtL.extract (.inl rfl) rfl rfl rfl ?_
        refine AtL.assign (.inl rfl) rfl rfl ?_
        refine AtL.assign (.inl rfl) rfl rfl ?_
        refine AtL.done ?_
        refine At.seq ?_
        refine At.seq ?_
        refine At.region ?_
        refine AtL.move (.inl rfl) rfl rfl ?_
        refine AtL.not (.inl rfl) rfl rfl ?_
        refine AtL.done ?_
        refine At.condF rfl ?_
        refine At.skip ?_
        refine At.seq ?_
        refine At.region ?_
        refine AtL.move (.inl rfl) rfl rfl ?_
        refine AtL.loadN (cs := [str [80, 79, 83, 84], str t, .int .i64 minor, .slice A fs.length C]) tf_agg47 (.inl rfl) rfl rfl rfl (cellsOwn 1 0 0 rfl rfl rfl) ?_
        refine AtL.move (.inl rfl) rfl rfl ?_
        refine AtL.callV tf_body55 (.inl rfl) rfl rfl rfl rfl (dpost_ok (m := [80, 79, 83, 84]) (t := t) (minor := minor) (fs := fs) (body := body) (Rd.skip 2 h) (Rd.skip 2 hbody) (by omega) hb (by omega) T) ?_
        rintro _ _ ⟨⟨A10, C11, l12, s13, o14⟩, hx15, rfl, rfl⟩
        obtain rfl : (postF fs body).1 = l12 := hx15.symm
        refine AtL.move (.inl rfl) rfl rfl ?_
        refine AtL.extract (.inl rfl) rfl rfl rfl ?_
        refine AtL.extract (.inl rfl) rfl rfl rfl ?_
        refine AtL.assign (.inl rfl) rfl rfl ?_
        refine AtL.assign (.inl rfl) rfl rfl ?_
        refine AtL.done ?_
        refine At.seq ?_
        refine At.block ?_
        refine At.seq ?_
        refine At.region ?_
        refine AtL.move (.inl rfl) rfl rfl ?_
        refine AtL.nei (.inl rfl) rfl rfl rfl ?_
        refine AtL.assign (.inl rfl) rfl rfl ?_
        refine AtL.done ?_
        refine At.cond rfl ?_ ?_
        · intro hc3
          have hc3 : ¬ (((postF fs body).2 : Int) = 200) := of_decide_eq_false (bnot_true hc3)
          refine At.seq ?_
          refine At.region ?_
          refine AtL.move (.inl rfl) rfl rfl ?_
          refine AtL.assign (.inl rfl) rfl rfl ?_
          refine AtL.assign (.inl rfl) rfl rfl ?_
          refine AtL.done ?_
          have hr : (askF [80, 79, 83, 84] t fs body) = ([], (postF fs body).2) := by rw [askF, if_neg (show ¬ ¬ (Lib.cut t [63]).1 = DNSQ from fun h => h hc1), if_neg (show ¬ ([80, 79, 83, 84] : List UInt8) = GETM by decide), if_pos (show ([80, 79, 83, 84] : List UInt8) = POSTM from rfl), thenF, if_neg hc3]
          refine At.nil ?_
          refine At.pick (H' := [] :: H) [0] 4 rfl rfl ?_
          exact At.ret Tryz.func36 rfl rfl (⟨Sl.nil, by rw [hr]; rfl, by rw [hr]; rfl, rfl⟩)
        · intro hc3
          have hc3 : ((postF fs body).2 : Int) = 200 := of_decide_eq_true (bnot_false hc3)
          refine At.seq ?_
          refine At.region ?_
          refine AtL.move (.inl rfl) rfl rfl ?_
          refine AtL.lenL Tryz.underlying22 (.inl rfl) rfl rfl ?_
          refine AtL.lss (.inl rfl) rfl rfl rfl ?_
          refine AtL.assign (.inl rfl) rfl rfl ?_
          refine AtL.done ?_
          refine At.cond rfl ?_ ?_
          · intro hc4
            have hc4 : (((postF fs body).1).length : Int) < 12 := of_decide_eq_true hc4
            refine At.seq ?_
            refine At.region ?_
            refine AtL.assign (.inl rfl) rfl rfl ?_
            refine AtL.assign (.inl rfl) rfl rfl ?_
            refine AtL.done ?_
            have hr : (askF [80, 79, 83, 84] t fs body) = ([], 400) := by rw [askF, if_neg (show ¬ ¬ (Lib.cut t [63]).1 = DNSQ from fun h => h hc1), if_neg (show ¬ ([80, 79, 83, 84] : List UInt8) = GETM by decide), if_pos (show ([80, 79, 83, 84] : List UInt8) = POSTM from rfl), thenF, if_pos hc3, sizesF, if_pos (by omega)]
            refine At.nil ?_
            refine At.pick (H' := [] :: H) [0] 4 rfl rfl ?_
            exact At.ret Tryz.func36 rfl rfl (⟨Sl.nil, by rw [hr]; rfl, by rw [hr]; rfl, rfl⟩)
          · intro hc4
            have hc4 : ¬ ((((postF fs body).1).length : Int) < 12) := of_decide_eq_false hc4
            refine At.seq ?_
            refine At.region ?_
            refine AtL.move (.inl rfl) rfl rfl ?_
            refine AtL.lenL Tryz.underlying22 (.inl rfl) rfl rfl ?_
            refine AtL.gtr (.inl rfl) rfl rfl rfl ?_
            refine AtL.assign (.inl rfl) rfl rfl ?_
            refine AtL.done ?_
            refine At.cond rfl ?_ ?_
            · intro hc5
              have hc5 : 65535 < (((postF fs body).1).length : Int) := of_decide_eq_true hc5
              refine At.seq ?_
              refine At.region ?_
              refine AtL.assign (.inl rfl) rfl rfl ?_
              refine AtL.assign (.inl rfl) rfl rfl ?_
              refine AtL.done ?_
              have hr : (askF [80, 79, 83, 84] t fs body) = ([], 413) := by rw [askF, if_neg (show ¬ ¬ (Lib.cut t [63]).1 = DNSQ from fun h => h hc1), if_neg (show ¬ ([80, 79, 83, 84] : List UInt8) = GETM by decide), if_pos (show ([80, 79, 83, 84] : List UInt8) = POSTM from rfl), thenF, if_pos hc3, sizesF, if_neg (by omega), if_pos (by omega)]
              refine At.nil ?_
              refine At.pick (H' := [] :: H) [0] 4 rfl rfl ?_
              exact At.ret Tryz.func36 rfl rfl (⟨Sl.nil, by rw [hr]; rfl, by rw [hr]; rfl, rfl⟩)
            · intro hc5
              have hc5 : ¬ (65535 < (((postF fs body).1).length : Int)) := of_decide_eq_false hc5
              refine At.skip ?_
              refine At.inBlock ?_
              refine At.seq ?_
              refine At.region ?_
              refine AtL.move (.inl rfl) rfl rfl ?_
              refine AtL.assign (.inl rfl) rfl rfl ?_
              refine AtL.assign (.inl rfl) rfl rfl ?_
              refine AtL.done ?_
              have hr : (askF [80, 79, 83, 84] t fs body) = ((postF fs body).1, 200) := by rw [askF, if_neg (show ¬ ¬ (Lib.cut t [63]).1 = DNSQ from fun h => h hc1), if_neg (show ¬ ([80, 79, 83, 84] : List UInt8) = GETM by decide), if_pos (show ([80, 79, 83, 84] : List UInt8) = POSTM from rfl), thenF, if_pos hc3, sizesF, if_neg (by omega), if_neg (by omega)]
              refine At.pick (H' := s13 :: H) [0] 3 rfl rfl ?_
              exact At.ret Tryz.func36 rfl rfl (⟨⟨A10, C11, ((postF fs body).1), s13, o14⟩, by rw [hr], by rw [hr]; rfl, rfl⟩)
      · skip
        refine At.region ?_
        refine AtL.makeMap kyS fnV (.inl rfl) rfl ?_
        intro b16
        refine AtL.insert (Q := kyS) (tv := fnV) (a := [71, 69, 84]) (v := 54) (H' := [(b16, mapO kyS fnV ([([71, 69, 84], 54)]))] :: [(b1, .cells #[str m, str t, .int .i64 minor, .slice A fs.length C] 47 (0, 0))] :: H) 0 0 Tryz.underlying99 Tryz.underlying9 rfl (.inl rfl) rfl rfl (by first | decide | rfl) rfl rfl rfl rfl ?_
        refine AtL.insert (Q := kyS) (tv := fnV) (a := [80, 79, 83, 84]) (v := 55) (H' := [(b16, mapO kyS fnV ([([71, 69, 84], 54), ([80, 79, 83, 84], 55)]))] :: [(b1, .cells #[str m, str t, .int .i64 minor, .slice A fs.length C] 47 (0, 0))] :: H) 0 0 Tryz.underlying99 Tryz.underlying9 rfl (.inl rfl) rfl rfl (by first | decide | rfl) rfl rfl rfl rfl ?_
        refine AtL.move (.inl rfl) rfl rfl ?_
        refine AtL.fieldAddrB tf_fo47_0 (.inl rfl) rfl rfl rfl ?_
        refine AtL.load tf_flat9 (.inl rfl) rfl rfl (Cell.own 1 0 rfl rfl rfl) ?_
        refine AtL.lookup (Q := kyS) (tv := fnV) (a := m) (v := .tuple #[.nilFunc, .bool false]) 0 0 Tryz.underlying99 Tryz.underlying9 rfl tf_zero70 (.inl rfl) rfl rfl rfl rfl rfl (ask_m hm1 hm2) ?_
        refine AtL.move (.inl rfl) rfl rfl ?_
        refine AtL.extract (.inl rfl) rfl rfl rfl ?_
        refine AtL.extract (.inl rfl) rfl rfl rfl ?_
        refine AtL.assign (.inl rfl) rfl rfl ?_
        refine AtL.assign (.inl rfl) rfl rfl ?_
        refine AtL.done ?_
        refine At.seq ?_
        refine At.seq ?_
        refine At.region ?_
        refine AtL.move (.inl rfl) rfl rfl ?_
        refine AtL.not (.inl rfl) rfl rfl ?_
        refine AtL.done ?_
        refine At.condT rfl ?_
        refine At.seq ?_
        refine At.region ?_
        refine AtL.assign (.inl rfl) rfl rfl ?_
        refine AtL.assign (.inl rfl) rfl rfl ?_
        refine AtL.done ?_
        have hr : (askF m t fs body) = ([], 405) := by rw [askF, if_neg (show ¬ ¬ (Lib.cut t [63]).1 = DNSQ from fun h => h hc1), if_neg hm1, if_neg hm2]
        refine At.nil ?_
        refine At.pick (H' := [] :: H) [0] 3 rfl rfl ?_
        exact At.ret Tryz.func36 rfl rfl (⟨Sl.nil, by rw [hr]; rfl, by rw [hr]; rfl, rfl⟩)

end Go.Proofs.YtlkdmbpbjhjkfaaGreatDoor
