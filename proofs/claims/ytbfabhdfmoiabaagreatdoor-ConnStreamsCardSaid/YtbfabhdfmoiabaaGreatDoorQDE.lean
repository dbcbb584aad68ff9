/- ConnStreams: the law holds of every input: it returns true, and each argument reads as it did. -/
import Derived.Test.YtbfabhdfmoiabaaGreatDoorQDD
namespace Go.Proofs.YtbfabhdfmoiabaaGreatDoor
set_option linter.unusedVariables false
set_option linter.unusedSimpArgs false
set_option maxRecDepth 100000
theorem bpushN {w0 : World} {base : Nat} {H : List Seg} {c mb : Nat} {most idle buffer last : Int} {kvs : List (Int × Lk × Nat)} {mn : Nat} {P P2 : List (Int × LkV)} {i now e : Int} {x x' : StrV} {sz sz2 : Nat} {cl : Bool} {outs : List (List UInt8)} {A : Option Addr} {C : Nat} {l : List UInt8} (hm : ¬ most = 0) (hc : Cs kvs mn last P) (hat : atP i P = some (.str x sz)) (h : Rd tyB w0 base H A C l) (hT : inT now) (hl7 : l.length ≤ 70000) (hcl : x.closing = false) (hsz : sz + l.length ≤ 200000000) (hr : x.push l now = (outs, e, cl, x')) (hz : sz + l.length = sz2) (hP : (if cl = true then delP i P else setP i (.str x' sz2) P) = P2) :
    SCalls Tryz.prog 14 [(.pointer (some ⟨c, 0, none⟩)), int i, .slice A l.length C, int now] w0 base ([(c, .cells #[.int .i64 most, .int .i64 idle, .int .i64 buffer, .int .i64 last, .map (some mb)] 64 (0, 0))] :: [(mb, mapG kyI Lk.v kvs mn)] :: linksS kvs :: H) (fun v H' => ∃ (o : Sl tyGot 44) (ys : List (Sl tyB 5)) (K : List (Int × Lk × Nat)), o.l = ys.map (fun q => gotV q.v) ∧ ys.map (·.l) = outs ∧ Cs K mn last P2 ∧ v = .tuple #[.slice o.A o.l.length o.C, int e] ∧ H' = o.s :: segsOf ys :: [(c, .cells #[.int .i64 most, .int .i64 idle, .int .i64 buffer, .int .i64 last, .map (some mb)] 64 (0, 0))] :: [(mb, mapG kyI Lk.v K mn)] :: linksS K :: H) := by
  subst hz
  refine (bpush_str hm hc hat h hT hl7 hcl hsz).mono ?_
  rintro v H1 ⟨o, ys, K, h1, h2, h3, rfl, rfl⟩
  rw [hr] at h2 h3
  exact ⟨o, ys, K, h1, h2, hP ▸ h3, by rw [hr], rfl⟩
theorem strP_zero (sd : Bool) : (⟨⟨sd, [], false, false, false, false, false⟩, sd, 5, 0, 1048576, [], false, [], false⟩ : StrV) = strP sd 0 [] := by
  have h : (frF 65535 []).rest = [] := by rw [fr_nil]
  cases sd with
  | false => show _ = (⟨⟨false, [], false, false, false, false, false⟩, false, 5, 0, 1048576, [], false, (frF 65535 []).rest, false⟩ : StrV); rw [h]
  | true =>
    have h2 : pushF false [] = ⟨[], 0, [], false, false⟩ := ppush_nil false
    show _ = (⟨⟨true, (pushF false []).rest, (pushF false []).h, false, false, false, false⟩, true, 5, 0, 1048576, [], false, (frF 65535 (pushF false []).out).rest, false⟩ : StrV)
    rw [h2, h]
def ansP (sd : Bool) (wh : Int) (b : List UInt8) (w : List UInt8) (g : Bool) : StrV := ⟨{ chP sd b with gr := bif sd then g else false }, sd, 5, wh, 1048576, w, false, (frF 65535 (DP sd b)).rest, false⟩
theorem ans_zero (sd : Bool) (wh : Int) (b : List UInt8) : strP sd wh b = ansP sd wh b [] false := by cases sd <;> rfl
theorem ans_step {sd : Bool} {wh : Int} {b w u : List UInt8} {g : Bool} {m : List UInt8} (h : Car sd w u g) (hm : 12 ≤ m.length ∧ m.length ≤ 200) (hw : w.length ≤ 100000) : ∃ w2 g2, (ansP sd wh b w g).answer 0 m = (0, false, ansP sd wh b w2 g2) ∧ Car sd w2 (u ++ frmL m) g2 ∧ w2.length ≤ w.length + 900 := by
  obtain ⟨h1, h2⟩ := frm_ok hm
  have hs : sgoE 0 m = 0 := by rw [sgoE, if_neg (by simp)]; exact h1
  have hfl := frmL_len m
  have hx : (ansP sd wh b w g).ch.sl = sd ∧ (ansP sd wh b w g).ch.gr = (bif sd then g else false) ∧ (ansP sd wh b w g).ch.sh = false := by cases sd <;> exact ⟨rfl, rfl, rfl⟩
  have hlen := chsend_len (ansP sd wh b w g).ch (frmL m)
  have hC : Car sd w u (bif sd then g else false) := by
    cases sd with
    | true => exact h
    | false => exact h
  obtain ⟨g', h3, h4, h5⟩ := hC.step (frmL m) _ hx
  refine ⟨w ++ ((ansP sd wh b w g).ch.send (frmL m)).1, g', ?_, h3, by rw [List.length_append]; omega⟩
  have hlt : ¬ (1048576 : Int) < ((w ++ ((ansP sd wh b w g).ch.send (frmL m)).1).length : Int) := by rw [List.length_append]; omega
  rw [StrV.answer, if_pos hs]
  show ((if (1048576 : Int) < ((w ++ ((ansP sd wh b w g).ch.send (frmL m)).1).length : Int) then (3 : Int) else 0), decide ((1048576 : Int) < ((w ++ ((ansP sd wh b w g).ch.send (frmL m)).1).length : Int)), (⟨((ansP sd wh b w g).ch.send (frmL m)).2, sd, 5, wh, 1048576, w ++ ((ansP sd wh b w g).ch.send (frmL m)).1, false, (frF 65535 (DP sd b)).rest, false⟩ : StrV)) = _
  rw [if_neg hlt, decide_eq_false hlt, h4]
  cases sd <;> rfl
theorem ans_take {sd : Bool} {wh now : Int} {b w : List UInt8} {g : Bool} (h : w.length ≤ 100000) : ∃ x', (ansP sd wh b w g).take 1048576 now = (w, false, x') := ⟨_, by
  show (w.take 1048576, false && decide ((w.drop 1048576).length = 0), _) = _
  rw [List.take_of_length_le (by omega)]; rfl⟩
theorem side_one {sd : Bool} {x x2 : Chn} {u : List UInt8} (hx : x.p = ⟨sd, [], false, false, false, false, false⟩) (h2 : x2.p = (x.p.send u).2) : ∃ g gr, Car sd (x.p.send u).1 u g ∧ x2.p = ⟨sd, [], false, false, false, gr, false⟩ := by
  obtain ⟨g, h3, h4, h5⟩ := (Car.start sd).step u x.p (by rw [hx]; exact ⟨rfl, rfl, rfl⟩)
  rw [List.nil_append, List.nil_append] at h3
  rw [h4, hx] at h2
  exact ⟨g, _, h3, h2⟩
theorem side_two {sd : Bool} {x : Chn} {b u : List UInt8} {g gr : Bool} (h : Car sd b u g) (hx : x.p = ⟨sd, [], false, false, false, gr, false⟩) : (x.p.push b).1 = u ∧ (x.p.push b).2.1 = 0 := by
  rw [hx]; exact h.told gr
theorem take_succ28 {l : List Bs} {i : Nat} (h : i < l.length) : (l.map (·.l)).take (i + 1) = (l.map (·.l)).take i ++ [(l.getD i ⟨none, 0, []⟩).l] := by
  rw [List.take_succ_eq_append_getElem (by rw [List.length_map]; exact h)]
  simp [List.getD, h]
theorem swant_snoc (l : List (List UInt8)) (m : List UInt8) : swantF (l ++ [m]) = swantF l ++ frmL m := want_snoc l m
theorem DP_len (sd : Bool) (p : List UInt8) : (DP sd p).length ≤ p.length := by
  cases sd with
  | false => exact Nat.le_refl _
  | true => exact (push_rest false p).2.2
theorem takeV28 {ys : List (Sl tyB 5)} {o : List (Int × Int × List UInt8 × List UInt8 × Int × Vs (List UInt8 × List UInt8) × Vs UInt8)} (ho : o = ys.map fun q => gotV q.v) {j : Nat} (hj : j < o.length) : (ys.take (j + 1)).map Sl.v = (ys.take j).map Sl.v ++ [(o.getD j ((0, 0, [], [], 0, ⟨none, 0, []⟩, ⟨none, 0, []⟩) : Int × Int × List UInt8 × List UInt8 × Int × Vs (List UInt8 × List UInt8) × Vs UInt8)).2.2.2.2.2.2] := by
  subst ho
  have hj : j < ys.length := by simpa using hj
  rw [List.take_succ_eq_append_getElem hj, List.map_append]
  simp [List.getD, hj, gotV, Sl.v]
theorem subl_len28 {q : List UInt8} {k : Nat} : subl q 0 k ++ q.drop (subl q 0 k).length = q := by
  rw [subl_to, List.length_take]
  rcases Nat.le_total k q.length with h | h
  · rw [Nat.min_eq_left h, List.take_append_drop]
  · rw [Nat.min_eq_right h, List.take_of_length_le h, List.drop_length, List.append_nil]
theorem subl_two28 {q : List UInt8} {k : Nat} (h : k ≤ q.length) : subl q 0 k ++ subl q k q.length = q := by
  rw [subl_to, subl_from, List.take_append_drop]
theorem sublast28 {q : List UInt8} {k : Nat} (h : q.length ≤ k) : subl q k q.length = [] := by
  rw [subl_from, List.drop_eq_nil_of_le h]
set_option maxHeartbeats 2000000 in
theorem connstreams_ok {w0 : World} {base : Nat} {H : List Seg} {sd : Bool} {A Ac : Option Addr} {C Cc : Nat} {l : List Bs} {ns : List Int} (h : Rd tyL w0 base H A C l) (he : ∀ x ∈ l, Rd tyB w0 base H x.A x.C x.l) (h2 : Rd tyI w0 base H Ac Cc ns) :
    SCalls Tryz.prog 3 [.bool sd, .slice A l.length C, .slice Ac ns.length Cc] w0 base (H) (fun v H' => v = .bool true ∧ H' = H) := by
  have hmg : mg28.length = 12 := rfl
  have hfm : fm28.length = 14 := rfl
  have hle0 := h.le
  have hcap0 := h.cap
  have hle1 := h2.le
  have hcap1 := h2.cap
  refine SCalls.of_walk (n := 194) Tryz.func3 rfl rfl rfl fun cs => ?_
  refine At.seq ?_
  refine At.region ?_
  refine AtL.assign (.inl rfl) rfl rfl ?_
  refine AtL.done ?_
  refine At.seq ?_
  refine At.region ?_
  refine AtL.call tf_body8 (.inl rfl) rfl rfl awake28_ok ?_
  rintro _ _ ⟨rfl, hHq⟩
  obtain rfl := hHq.symm
  refine AtL.assign (.inl rfl) rfl rfl ?_
  refine AtL.done ?_
  refine At.seq ?_
  refine At.region ?_
  refine AtL.call tf_body9 (.inl rfl) rfl rfl (bnew (most := 1) (idle := 1000) (buffer := 1048576) (by omega) (by omega) (by omega)) ?_
  rintro _ _ ⟨c, mb, K1, hcs2, rfl, rfl⟩
  refine AtL.move (.inl rfl) rfl rfl ?_
  refine AtL.extract (.inl rfl) rfl rfl rfl ?_
  refine AtL.extract (.inl rfl) rfl rfl rfl ?_
  refine AtL.assign (.inl rfl) rfl rfl ?_
  refine AtL.assign (.inl rfl) rfl rfl ?_
  refine AtL.done ?_
  refine At.seq ?_
  refine At.seq ?_
  refine At.region ?_
  refine AtL.move (.inl rfl) rfl rfl ?_
  refine AtL.nei (.inl rfl) rfl rfl rfl ?_
  refine AtL.move (.inl rfl) rfl rfl ?_
  refine AtL.move (.inr ⟨_, _, _, rfl, rfl, rfl, rfl⟩) rfl rfl ?_
  refine AtL.eqPtrNil Tryz.underlying25 (.inr ⟨_, _, _, rfl, rfl, rfl, rfl⟩) rfl rfl rfl ?_
  refine AtL.pickF (.inl rfl) rfl rfl rfl ?_
  refine AtL.done ?_
  refine At.condF rfl ?_
  refine At.skip ?_
  refine At.seq ?_
  refine At.seq ?_
  refine At.region ?_
  refine AtL.move (.inl rfl) rfl rfl ?_
  refine AtL.lenL Tryz.underlying22 (.inl rfl) rfl rfl ?_
  refine AtL.gtr (.inl rfl) rfl rfl rfl ?_
  refine AtL.move (.inl rfl) rfl rfl ?_
  refine AtL.join 4 (E' := [(45, .bool (decide ((12 < (l.length : Int)) ∨ (60 < (ns.length : Int))))), (0, .bool sd), (1, .slice A l.length C), (2, .slice Ac ns.length Cc), (7, .bool true), (8, .pointer (some ⟨c, 0, none⟩))]) (H' := [(c, .cells #[.int .i64 1, .int .i64 1000, .int .i64 1048576, .int .i64 0, .map (some mb)] 64 (0, 0))] :: [(mb, mapG kyI Lk.v K1 0)] :: linksS K1 :: H) (fun J => ?_) ?_
  · refine AtL.split (t := 41) rfl ?_ ?_
    · intro hs41
      have hs41 : 12 < (l.length : Int) := of_decide_eq_true hs41
      refine AtL.skipped rfl rfl rfl rfl rfl rfl ?_
      refine AtL.skipped rfl rfl rfl rfl rfl rfl ?_
      refine AtL.skipped rfl rfl rfl rfl rfl rfl ?_
      refine AtL.pickT (.inl rfl) rfl rfl rfl ?_
      exact J _ (by exact ⟨(boolIs (by clear J; first | (simp [hs41]; done) | (simp_all; done) | grind)), rfl, rfl, rfl, rfl, rfl, trivial⟩)
    · intro hs41
      have hs41 : ¬ (12 < (l.length : Int)) := of_decide_eq_false hs41
      refine AtL.move (.inr ⟨_, _, _, rfl, rfl, rfl, rfl⟩) rfl rfl ?_
      refine AtL.lenL Tryz.underlying23 (.inr ⟨_, _, _, rfl, rfl, rfl, rfl⟩) rfl rfl ?_
      refine AtL.gtr (.inr ⟨_, _, _, rfl, rfl, rfl, rfl⟩) rfl rfl rfl ?_
      refine AtL.pickF (.inl rfl) rfl rfl rfl ?_
      exact J _ (by exact ⟨(boolIs (by clear J; first | (simp [hs41]; done) | (simp_all; done) | grind)), rfl, rfl, rfl, rfl, rfl, trivial⟩)
  · skip
    refine AtL.done ?_
    refine At.cond rfl ?_ ?_
    · intro hc2
      have hc2 : (12 < (l.length : Int)) ∨ (60 < (ns.length : Int)) := of_decide_eq_true hc2
      refine At.seq ?_
      refine At.region ?_
      refine AtL.move (.inl rfl) rfl rfl ?_
      refine AtL.assign (.inl rfl) rfl rfl ?_
      refine AtL.done ?_
      refine At.pick (H' := H) [] 3 rfl rfl ?_
      exact At.ret Tryz.func3 rfl rfl (⟨rfl, rfl⟩)
    · intro hc2
      have hc2 : ¬ ((12 < (l.length : Int)) ∨ (60 < (ns.length : Int))) := of_decide_eq_false hc2
      refine At.skip ?_
      refine At.seq ?_
      refine At.region ?_
      refine AtL.move (.inl rfl) rfl rfl ?_
      refine AtL.move (.inl rfl) rfl rfl ?_
      refine AtL.call tf_body10 (.inl rfl) rfl rfl (bopen_str2 (n := 1) (P2 := ([(1, (.str (⟨⟨sd, [], false, false, false, false, false⟩, sd, 5, 0, 1048576, [], false, [], false⟩ : StrV) 0))] : List (Int × LkV))) (P := ([] : List (Int × LkV))) (by omega) hcs2 (by simp) (by omega) (show inT 0 from (by unfold inT; omega)) (by omega) (by omega) rfl) ?_
      rintro _ _ ⟨K3, hcs4, rfl, rfl⟩
      refine AtL.move (.inl rfl) rfl rfl ?_
      refine AtL.extract (.inl rfl) rfl rfl rfl ?_
      refine AtL.extract (.inl rfl) rfl rfl rfl ?_
      refine AtL.assign (.inl rfl) rfl rfl ?_
      refine AtL.assign (.inl rfl) rfl rfl ?_
      refine AtL.done ?_
      have hcs5 : Cs K3 (0 + 1) 1 ([(1, (.str (strP sd 0 []) 0))] : List (Int × LkV)) := by rw [← strP_zero]; exact hcs4
      refine At.seq ?_
      refine At.region ?_
      refine AtL.call tf_body11 (.inl rfl) rfl rfl plain_made ?_
      rintro _ _ ⟨ch6, hch7, rfl, rfl⟩
      refine AtL.assign (.inl rfl) rfl rfl ?_
      refine AtL.done ?_
      refine At.seq ?_
      refine At.seq ?_
      refine At.region ?_
      refine AtL.move (.inl rfl) rfl rfl ?_
      refine AtL.done ?_
      refine At.cond rfl ?_ ?_
      · intro hc3
        have hc3 : sd = true := hc3
        have hsd : sd = true := by simpa using hc3
        refine At.region ?_
        refine AtL.call tf_body12 (.inl rfl) rfl rfl sealed_made ?_
        rintro _ _ ⟨ch8, hch9, rfl, rfl⟩
        refine AtL.assign (.inl rfl) rfl rfl ?_
        refine AtL.done ?_
        refine At.seq ?_
        refine At.seq ?_
        refine At.region ?_
        refine AtL.move (.inl rfl) rfl rfl ?_
        refine AtL.nei (.inl rfl) rfl rfl rfl ?_
        refine AtL.move (.inl rfl) rfl rfl ?_
        refine AtL.move (.inr ⟨_, _, _, rfl, rfl, rfl, rfl⟩) rfl rfl ?_
        refine AtL.eqIfaceNil Tryz.underlying32 (.inr ⟨_, _, _, rfl, rfl, rfl, rfl⟩) rfl rfl rfl ?_
        refine AtL.pickF (.inl rfl) rfl rfl rfl ?_
        refine AtL.done ?_
        refine At.condF rfl ?_
        refine At.skip ?_
        refine At.seq ?_
        refine At.region ?_
        refine AtL.assign (.inl rfl) rfl rfl ?_
        refine AtL.assign (.inl rfl) rfl rfl ?_
        refine AtL.done ?_
        refine At.seq ?_
        refine At.seq ?_
        refine At.region ?_
        refine AtL.assign (.inl rfl) rfl rfl ?_
        refine AtL.done ?_
        refine At.block ?_
        refine At.nil ?_
        refine At.loop2 (fun (i : Nat) (y : Sl tyB 5) => [(1, .slice A l.length C), (2, .slice Ac ns.length Cc), (7, .bool true), (8, .pointer (some ⟨c, 0, none⟩)), (10, .int .i64 1), (12, ch8.v), (14, .slice y.A y.l.length y.C), (15, .int .i64 (i : Int))]) (fun (i : Nat) (y : Sl tyB 5) => y.s :: ch8.s :: ch6.s :: [(c, .cells #[.int .i64 1, .int .i64 1000, .int .i64 1048576, .int .i64 1, .map (some mb)] 64 (0, 0))] :: [(mb, mapG kyI Lk.v K3 (0 + 1))] :: linksS K3 :: H) (fun (i : Nat) (y : Sl tyB 5) => i ≤ l.length ∧ y.l = swantF ((l.map (·.l)).take i) ∧ ∀ m ∈ (l.map (·.l)).take i, 12 ≤ m.length ∧ m.length ≤ 200) (fun (i : Nat) (y : Sl tyB 5) => l.length - i) 0 Sl.nil (⟨Nat.zero_le _, rfl, fun m h => by cases h⟩) ⟨rfl, rfl, rfl, rfl, rfl, rfl, rfl, rfl, trivial⟩ rfl ?_
        rintro i y ⟨hi, hy, hms⟩ ihL1
        have hyn : y.l.length ≤ 202 * i := by rw [hy]; have h9 := want_len _ (fun m hm => (hms m hm).2); rw [List.length_take] at h9; have h8 : (min i (l.map (·.l)).length) ≤ i := Nat.min_le_left _ _; omega
        have hyc := Own.cap_le y.own
        refine At.seq ?_
        refine At.seq ?_
        refine At.region ?_
        refine AtL.move (.inl rfl) rfl rfl ?_
        refine AtL.move (.inl rfl) rfl rfl ?_
        refine AtL.lenL Tryz.underlying22 (.inl rfl) rfl rfl ?_
        refine AtL.lss (.inl rfl) rfl rfl rfl ?_
        refine AtL.done ?_
        refine At.cond rfl ?_ ?_
        · intro hc5
          have hc5 : (i : Int) < (l.length : Int) := of_decide_eq_true hc5
          refine At.skip ?_
          refine At.seq ?_
          refine At.block ?_
          refine At.seq ?_
          refine At.seq ?_
          refine At.region ?_
          refine AtL.move (.inl rfl) rfl rfl ?_
          refine AtL.move (.inl rfl) rfl rfl ?_
          refine AtL.indexL i (Rd.skip 6 h) Tryz.underlying22 tf_sz34 (.inl rfl) rfl rfl rfl rfl (by omega) ?_
          refine AtL.load (v := .slice ((l.getD i (⟨none, 0, []⟩ : Bs)).A) ((l.getD i (⟨none, 0, []⟩ : Bs)).l).length ((l.getD i (⟨none, 0, []⟩ : Bs)).C)) tf_flat34 (.inl rfl) rfl rfl (Rd.cell0 (Rd.skip 6 h) (getD_some (⟨none, 0, []⟩ : Bs) (by omega)) rfl) ?_
          refine AtL.lenL Tryz.underlying34 (.inl rfl) rfl rfl ?_
          refine AtL.lss (.inl rfl) rfl rfl rfl ?_
          refine AtL.move (.inl rfl) rfl rfl ?_
          refine AtL.join 7 (E' := [(81, .bool (decide (((((l.getD i (⟨none, 0, []⟩ : Bs)).l).length : Int) < 12) ∨ (200 < (((l.getD i (⟨none, 0, []⟩ : Bs)).l).length : Int))))), (1, .slice A l.length C), (2, .slice Ac ns.length Cc), (7, .bool true), (8, .pointer (some ⟨c, 0, none⟩)), (10, .int .i64 1), (12, ch8.v), (14, .slice y.A y.l.length y.C), (15, .int .i64 (i : Int))]) (H' := y.s :: ch8.s :: ch6.s :: [(c, .cells #[.int .i64 1, .int .i64 1000, .int .i64 1048576, .int .i64 1, .map (some mb)] 64 (0, 0))] :: [(mb, mapG kyI Lk.v K3 (0 + 1))] :: linksS K3 :: H) (fun J => ?_) ?_
          · refine AtL.split (t := 74) rfl ?_ ?_
            · intro hs74
              have hs74 : (((l.getD i (⟨none, 0, []⟩ : Bs)).l).length : Int) < 12 := of_decide_eq_true hs74
              refine AtL.skipped rfl rfl rfl rfl rfl rfl ?_
              refine AtL.skipped rfl rfl rfl rfl rfl rfl ?_
              refine AtL.skipped rfl rfl rfl rfl rfl rfl ?_
              refine AtL.skipped rfl rfl rfl rfl rfl rfl ?_
              refine AtL.skipped rfl rfl rfl rfl rfl rfl ?_
              refine AtL.skipped rfl rfl rfl rfl rfl rfl ?_
              refine AtL.pickT (.inl rfl) rfl rfl rfl ?_
              exact J _ (by exact ⟨(boolIs (by clear J; first | (simp [hs74]; done) | (simp_all; done) | grind)), rfl, rfl, rfl, rfl, rfl, rfl, rfl, rfl, trivial⟩)
            · intro hs74
              have hs74 : ¬ ((((l.getD i (⟨none, 0, []⟩ : Bs)).l).length : Int) < 12) := of_decide_eq_false hs74
              refine AtL.move (.inr ⟨_, _, _, rfl, rfl, rfl, rfl⟩) rfl rfl ?_
              refine AtL.move (.inr ⟨_, _, _, rfl, rfl, rfl, rfl⟩) rfl rfl ?_
              refine AtL.indexL i (Rd.skip 6 h) Tryz.underlying22 tf_sz34 (.inr ⟨_, _, _, rfl, rfl, rfl, rfl⟩) rfl rfl rfl rfl (by omega) ?_
              refine AtL.load (v := .slice ((l.getD i (⟨none, 0, []⟩ : Bs)).A) ((l.getD i (⟨none, 0, []⟩ : Bs)).l).length ((l.getD i (⟨none, 0, []⟩ : Bs)).C)) tf_flat34 (.inr ⟨_, _, _, rfl, rfl, rfl, rfl⟩) rfl rfl (Rd.cell0 (Rd.skip 6 h) (getD_some (⟨none, 0, []⟩ : Bs) (by omega)) rfl) ?_
              refine AtL.lenL Tryz.underlying34 (.inr ⟨_, _, _, rfl, rfl, rfl, rfl⟩) rfl rfl ?_
              refine AtL.gtr (.inr ⟨_, _, _, rfl, rfl, rfl, rfl⟩) rfl rfl rfl ?_
              refine AtL.pickF (.inl rfl) rfl rfl rfl ?_
              exact J _ (by exact ⟨(boolIs (by clear J; first | (simp [hs74]; done) | (simp_all; done) | grind)), rfl, rfl, rfl, rfl, rfl, rfl, rfl, rfl, trivial⟩)
          · skip
            refine AtL.done ?_
            refine At.cond rfl ?_ ?_
            · intro hc6
              have hc6 : ((((l.getD i (⟨none, 0, []⟩ : Bs)).l).length : Int) < 12) ∨ (200 < (((l.getD i (⟨none, 0, []⟩ : Bs)).l).length : Int)) := of_decide_eq_true hc6
              refine At.seq ?_
              refine At.region ?_
              refine AtL.move (.inl rfl) rfl rfl ?_
              refine AtL.assign (.inl rfl) rfl rfl ?_
              refine AtL.done ?_
              refine At.pick (H' := H) [] 6 rfl rfl ?_
              exact At.ret Tryz.func3 rfl rfl (⟨rfl, rfl⟩)
            · intro hc6
              have hc6 : ¬ (((((l.getD i (⟨none, 0, []⟩ : Bs)).l).length : Int) < 12) ∨ (200 < (((l.getD i (⟨none, 0, []⟩ : Bs)).l).length : Int))) := of_decide_eq_false hc6
              have hilt : i < l.length := by omega
              have hml9 : 12 ≤ (l.getD i ⟨none, 0, []⟩).l.length ∧ (l.getD i ⟨none, 0, []⟩).l.length ≤ 200 := by omega
              refine At.skip ?_
              refine At.draw (es := [7, 8, 13]) (pv := [(0, .slice y.A y.l.length y.C), (1, .slice A l.length C), (2, .int .i64 (i : Int)), (3, .pointer (some (eaddr A (i * tyL.sz)))), (4, .slice ((l.getD i (⟨none, 0, []⟩ : Bs)).A) ((l.getD i (⟨none, 0, []⟩ : Bs)).l).length ((l.getD i (⟨none, 0, []⟩ : Bs)).C)), (5, .int .i64 (((l.getD i (⟨none, 0, []⟩ : Bs)).l).length : Int)), (6, .int .u8 ((UInt8.ofInt (((l.getD i (⟨none, 0, []⟩ : Bs)).l).length : Int)).toNat : Int)), (9, .slice A l.length C), (10, .int .i64 (i : Int)), (11, .pointer (some (eaddr A (i * tyL.sz)))), (12, .slice ((l.getD i (⟨none, 0, []⟩ : Bs)).A) ((l.getD i (⟨none, 0, []⟩ : Bs)).l).length ((l.getD i (⟨none, 0, []⟩ : Bs)).C))]) tf_mixed (by kernel_rfl) (by kernel_rfl) (by kernel_rfl) ?_
              refine ⟨⟨.inr ⟨_, rfl, rfl, .inl ⟨rfl, Do.move rfl⟩⟩, .inr ⟨_, rfl, rfl, .inl ⟨rfl, Do.move rfl⟩⟩, .inr ⟨_, rfl, rfl, .inl ⟨rfl, Do.move rfl⟩⟩, .inr ⟨_, rfl, rfl, .inl ⟨rfl, Do.indexL i (Rd.skip 6 h) Tryz.underlying22 tf_sz34 rfl rfl rfl (by omega)⟩⟩, .inr ⟨_, rfl, rfl, .inl ⟨rfl, Do.load (v := .slice ((l.getD i (⟨none, 0, []⟩ : Bs)).A) ((l.getD i (⟨none, 0, []⟩ : Bs)).l).length ((l.getD i (⟨none, 0, []⟩ : Bs)).C)) tf_flat34 rfl (Rd.cell0 (Rd.skip 6 h) (getD_some (⟨none, 0, []⟩ : Bs) (by omega)) rfl)⟩⟩, .inr ⟨_, rfl, rfl, .inl ⟨rfl, Do.lenL Tryz.underlying34 rfl⟩⟩, .inr ⟨_, rfl, rfl, .inl ⟨rfl, Do.convInt (z := ((UInt8.ofInt (((l.getD i (⟨none, 0, []⟩ : Bs)).l).length : Int)).toNat : Int)) Tryz.underlying3 Tryz.underlying5 rfl (u8_conv _)⟩⟩, .inr ⟨_, rfl, rfl, .inl ⟨rfl, Do.move rfl⟩⟩, .inr ⟨_, rfl, rfl, .inl ⟨rfl, Do.move rfl⟩⟩, .inr ⟨_, rfl, rfl, .inl ⟨rfl, Do.indexL i (Rd.skip 6 h) Tryz.underlying22 tf_sz34 rfl rfl rfl (by omega)⟩⟩, .inr ⟨_, rfl, rfl, .inl ⟨rfl, Do.load (v := .slice ((l.getD i (⟨none, 0, []⟩ : Bs)).A) ((l.getD i (⟨none, 0, []⟩ : Bs)).l).length ((l.getD i (⟨none, 0, []⟩ : Bs)).C)) tf_flat34 rfl (Rd.cell0 (Rd.skip 6 h) (getD_some (⟨none, 0, []⟩ : Bs) (by omega)) rfl)⟩⟩, trivial⟩, rfl, rfl, by kernel_rfl, _, rfl, rfl, rfl, _, Do.own1 tyB (l := ([0, (UInt8.ofInt (((l.getD i (⟨none, 0, []⟩ : Bs)).l).length : Int))] : List UInt8)) (Do.buildSlice (cs := [.int .u8 0, .int .u8 ((UInt8.ofInt (((l.getD i (⟨none, 0, []⟩ : Bs)).l).length : Int)).toNat : Int)]) Tryz.underlying34 tf_zero5 tf_sz5 rfl rfl rfl rfl) rfl rfl (by first | decide | simp), ?_⟩
              rintro _ _ ⟨b10, s11, o12, rfl, rfl⟩
              refine ⟨[], rfl, ?_⟩
              refine ⟨⟨.inr ⟨_, rfl, rfl, .inl ⟨rfl, Do.move rfl⟩⟩, .inl (by kernel_rfl), .inl (by kernel_rfl), .inl (by kernel_rfl), .inl (by kernel_rfl), .inl (by kernel_rfl), .inl (by kernel_rfl), .inr ⟨_, rfl, rfl, .inl ⟨rfl, Do.move rfl⟩⟩, .inr ⟨_, rfl, rfl, .inl ⟨rfl, Do.move rfl⟩⟩, .inr ⟨_, rfl, rfl, .inl ⟨rfl, Do.indexL i (Rd.skip 7 h) Tryz.underlying22 tf_sz34 rfl rfl rfl (by omega)⟩⟩, .inr ⟨_, rfl, rfl, .inl ⟨rfl, Do.load (v := .slice ((l.getD i (⟨none, 0, []⟩ : Bs)).A) ((l.getD i (⟨none, 0, []⟩ : Bs)).l).length ((l.getD i (⟨none, 0, []⟩ : Bs)).C)) tf_flat34 rfl (Rd.cell0 (Rd.skip 7 h) (getD_some (⟨none, 0, []⟩ : Bs) (by omega)) rfl)⟩⟩, trivial⟩, rfl, rfl, by kernel_rfl, _, rfl, rfl, rfl, _, Do.append (l := y.l) (news := [0, (UInt8.ofInt (((l.getD i (⟨none, 0, []⟩ : Bs)).l).length : Int))]) 1 tf_el34 rfl y.own (o12.rd (i := 0) rfl) (by first | omega | (simp only [List.length_append, List.length_cons, List.length_nil]; omega) | (simp; done) | (simp; omega)) rfl rfl, ?_⟩
              rintro _ _ ⟨A13, C14, s15, o16, rfl, rfl⟩
              refine ⟨[], rfl, ?_⟩
              refine ⟨⟨.inl (by kernel_rfl), .inl (by kernel_rfl), .inl (by kernel_rfl), .inl (by kernel_rfl), .inl (by kernel_rfl), .inl (by kernel_rfl), .inl (by kernel_rfl), .inr ⟨_, rfl, rfl, .inl ⟨rfl, Do.move rfl⟩⟩, .inr ⟨_, rfl, rfl, .inl ⟨rfl, Do.move rfl⟩⟩, .inr ⟨_, rfl, rfl, .inl ⟨rfl, Do.indexL i (Rd.skip 7 h) Tryz.underlying22 tf_sz34 rfl rfl rfl (by omega)⟩⟩, .inr ⟨_, rfl, rfl, .inl ⟨rfl, Do.load (v := .slice ((l.getD i (⟨none, 0, []⟩ : Bs)).A) ((l.getD i (⟨none, 0, []⟩ : Bs)).l).length ((l.getD i (⟨none, 0, []⟩ : Bs)).C)) tf_flat34 rfl (Rd.cell0 (Rd.skip 7 h) (getD_some (⟨none, 0, []⟩ : Bs) (by omega)) rfl)⟩⟩, trivial⟩, rfl, rfl, by kernel_rfl, _, rfl, rfl, rfl, _, Do.append (l := y.l ++ ([0, (UInt8.ofInt (((l.getD i (⟨none, 0, []⟩ : Bs)).l).length : Int))])) (news := (l.getD i (⟨none, 0, []⟩ : Bs)).l) 1 tf_el34 rfl o16 (Rd.skip 7 (he _ (getD_mem (l := l) (i := i) (d := (⟨none, 0, []⟩ : Bs)) (by omega)))) (by first | omega | (simp only [List.length_append, List.length_cons, List.length_nil]; omega) | (simp; done) | (simp; omega)) rfl rfl, ?_⟩
              rintro _ _ ⟨A17, C18, s19, o20, rfl, rfl⟩
              refine ⟨[(14, .slice A17 ((y.l ++ ([0, (UInt8.ofInt (((l.getD i (⟨none, 0, []⟩ : Bs)).l).length : Int))])) ++ ((l.getD i (⟨none, 0, []⟩ : Bs)).l)).length C18)], rfl, ?_⟩
              refine ⟨⟨.inr ⟨_, rfl, rfl, .inl ⟨rfl, Do.assign rfl⟩⟩, .inl (by kernel_rfl), .inl (by kernel_rfl), .inl (by kernel_rfl), .inl (by kernel_rfl), .inl (by kernel_rfl), .inl (by kernel_rfl), .inl (by kernel_rfl), .inl (by kernel_rfl), .inl (by kernel_rfl), .inl (by kernel_rfl), .inl (by kernel_rfl), trivial⟩, by kernel_rfl, ?_⟩
              refine At.mono (E' := [(1, .slice A l.length C), (2, .slice Ac ns.length Cc), (7, .bool true), (8, .pointer (some ⟨c, 0, none⟩)), (10, .int .i64 1), (12, ch8.v), (14, .slice A17 ((y.l ++ ([0, (UInt8.ofInt (((l.getD i (⟨none, 0, []⟩ : Bs)).l).length : Int))])) ++ ((l.getD i (⟨none, 0, []⟩ : Bs)).l)).length C18), (15, .int .i64 (i : Int))]) ⟨rfl, rfl, rfl, rfl, rfl, rfl, rfl, rfl, trivial⟩ ?_
              refine At.inBlock ?_
              refine At.region ?_
              refine AtL.move (.inl rfl) rfl rfl ?_
              refine AtL.add (z := (i : Int) + 1) (.inl rfl) rfl rfl rfl (w64 (by omega) (by omega)) ?_
              refine AtL.assign (.inl rfl) rfl rfl ?_
              refine AtL.done ?_
              refine At.pick (H' := s19 :: ch8.s :: ch6.s :: [(c, .cells #[.int .i64 1, .int .i64 1000, .int .i64 1048576, .int .i64 1, .map (some mb)] 64 (0, 0))] :: [(mb, mapG kyI Lk.v K3 (0 + 1))] :: linksS K3 :: H) [1, 2, 3, 4, 5, 6] 7 rfl rfl ?_
              refine ihL1 (i + 1) (⟨A17, C18, (y.l ++ ([0, (UInt8.ofInt (((l.getD i (⟨none, 0, []⟩ : Bs)).l).length : Int))])) ++ ((l.getD i (⟨none, 0, []⟩ : Bs)).l), s19, o20⟩) (⟨by omega, by dsimp only; rw [take_succ28 hilt, swant_snoc, (frm_ok hml9).2, ← List.append_assoc, hy], by rw [take_succ28 hilt]; intro m hm; rcases List.mem_append.1 hm with h9 | h9; exact hms m h9; rw [List.mem_singleton.1 h9]; exact hml9⟩) (by omega) _ ?_
              exact ⟨rfl, rfl, rfl, rfl, rfl, rfl, (by first | rfl | exact slLen (by simp []) | exact intEq (by omega) | exact intEq (by simp []) | exact slLen (by simp []; omega)), (by first | rfl | exact slLen (by simp []) | exact intEq (by omega) | exact intEq (by simp []) | exact slLen (by simp []; omega)), trivial⟩
        · intro hc5
          have hc5 : ¬ ((i : Int) < (l.length : Int)) := of_decide_eq_false hc5
          refine At.exit rfl ?_
          refine At.seq ?_
          refine At.region ?_
          refine AtL.move (.inl rfl) rfl rfl ?_
          refine AtL.move (.inl rfl) rfl rfl ?_
          refine AtL.pick (H' := ch8.s :: y.s :: ch6.s :: [(c, .cells #[.int .i64 1, .int .i64 1000, .int .i64 1048576, .int .i64 1, .map (some mb)] 64 (0, 0))] :: [(mb, mapG kyI Lk.v K3 (0 + 1))] :: linksS K3 :: H) [1, 0, 2, 3, 4, 5] 6 rfl rfl ?_
          refine AtL.callI (chn_b_Send ch8) (.inl rfl) rfl rfl rfl (chn_m_Send ch8) (chn_Send ch8 (l := y.l) (y.own.rd (i := 0) rfl) (by omega)) ?_
          rintro _ _ ⟨t32, ch33, ht34, hp35, hc36, rfl, rfl⟩
          have hside : ch8.p = ⟨sd, [], false, false, false, false, false⟩ := by rw [hch9, hsd]
          obtain ⟨gS, grS, hCar, hx2⟩ := side_one hside hp35
          rw [← ht34] at hCar
          have t32n : t32.l.length ≤ 4 + 4 * y.l.length := by rw [ht34]; exact chsend_len _ _
          try rw [chn_send_v hp35 hc36]
          refine AtL.assign (.inl rfl) rfl rfl ?_
          refine AtL.done ?_
          refine At.seq ?_
          refine At.region ?_
          refine AtL.assign (.inl rfl) rfl rfl ?_
          refine AtL.done ?_
          refine At.seq ?_
          refine At.seq ?_
          refine At.region ?_
          refine AtL.assign (.inl rfl) rfl rfl ?_
          refine AtL.done ?_
          refine At.block ?_
          refine At.nil ?_
          refine At.nil ?_
          have hall : l.length ≤ i := by omega
          have hyA : y.l = swantF (l.map (·.l)) := by rw [hy, List.take_of_length_le (by rw [List.length_map]; exact hall)]
          have hmA : ∀ m ∈ (l.map (·.l)), 12 ≤ m.length ∧ m.length ≤ 200 := by rw [List.take_of_length_le (by rw [List.length_map]; exact hall)] at hms; exact hms
          rw [hyA] at hCar
          obtain ⟨hOk, hDP⟩ := hCar.ok hmA
          have htl : t32.l.length ≤ 20000 := by have h9 := t32n; omega
          refine At.pick (H' := [] :: [] :: [(c, .cells #[.int .i64 1, .int .i64 1000, .int .i64 1048576, .int .i64 1, .map (some mb)] 64 (0, 0))] :: [(mb, mapG kyI Lk.v K3 (0 + 1))] :: linksS K3 :: t32.s :: ch33.s :: y.s :: ch6.s :: H) [0, 1, 6, 7, 8, 2, 3, 4, 5] 9 rfl rfl ?_
          refine At.loop6 (fun (n : Nat) (P9 : List UInt8 × List UInt8 × Option Addr × Nat) (K : List (Int × Lk × Nat)) (wh : Int) (g : Sl tyL 34) (Y : List (Sl tyB 5)) => [(1, .slice A l.length C), (2, .slice Ac ns.length Cc), (7, .bool true), (8, .pointer (some ⟨c, 0, none⟩)), (10, .int .i64 1), (12, ch33.v), (13, .slice P9.2.2.1 P9.2.1.length P9.2.2.2), (14, .slice y.A y.l.length y.C), (16, .slice g.A g.l.length g.C), (17, .int .i64 (n : Int))]) (fun (n : Nat) (P9 : List UInt8 × List UInt8 × Option Addr × Nat) (K : List (Int × Lk × Nat)) (wh : Int) (g : Sl tyL 34) (Y : List (Sl tyB 5)) => g.s :: segsOf Y :: [(c, .cells #[.int .i64 1, .int .i64 1000, .int .i64 1048576, .int .i64 1, .map (some mb)] 64 (0, 0))] :: [(mb, mapG kyI Lk.v K (0 + 1))] :: linksS K :: t32.s :: ch33.s :: y.s :: ch6.s :: H) (fun (n : Nat) (P9 : List UInt8 × List UInt8 × Option Addr × Nat) (K : List (Int × Lk × Nat)) (wh : Int) (g : Sl tyL 34) (Y : List (Sl tyB 5)) => n ≤ ns.length + 1 ∧ P9.1 ++ P9.2.1 = t32.l ∧ Own tyB 5 P9.2.2.1 P9.2.2.2 P9.2.1 t32.s ∧ Cs K (0 + 1) 1 ([(1, (.str (strP sd wh P9.1) P9.1.length))] : List (Int × LkV)) ∧ (0 ≤ wh ∧ wh ≤ (n : Int)) ∧ Y.map (·.l) = (frF 65535 (DP sd P9.1)).out ∧ g.l = Y.map Sl.v ∧ (ns.length < n → P9.2.1 = [])) (fun (n : Nat) (P9 : List UInt8 × List UInt8 × Option Addr × Nat) (K : List (Int × Lk × Nat)) (wh : Int) (g : Sl tyL 34) (Y : List (Sl tyB 5)) => ns.length + 1 - n) 0 ([], t32.l, t32.A, t32.C) K3 0 Sl.nil [] (⟨Nat.zero_le _, rfl, t32.own, hcs5, ⟨Int.le_refl _, Int.le_refl _⟩, (by rw [show DP sd [] = [] from (by cases sd; rfl; exact congrArg PushR.out (ppush_nil false)), fr_nil]; rfl), rfl, fun h => absurd h (by omega)⟩) ⟨rfl, rfl, rfl, rfl, rfl, rfl, rfl, rfl, rfl, rfl, trivial⟩ rfl ?_
          rintro n P9 K wh g Y ⟨hn, hpq, hq, hK, hwh, hY, hg, hend⟩ ihL2
          have hqc := Own.cap_le hq
          have hpql : P9.1.length + P9.2.1.length = t32.l.length := by rw [← hpq, List.length_append]
          have hgc := Own.cap_le g.own
          have hgl : g.l.length ≤ 20000 := by have h9 := congrArg List.length hY; rw [List.length_map] at h9; rw [hg, List.length_map, h9]; have h8 := (frF_keep (m := 65535) (by decide) (DP sd P9.1)).2.2; have h7 := DP_len sd P9.1; omega
          refine At.seq ?_
          refine At.seq ?_
          refine At.region ?_
          refine AtL.move (.inl rfl) rfl rfl ?_
          refine AtL.move (.inl rfl) rfl rfl ?_
          refine AtL.lenL Tryz.underlying23 (.inl rfl) rfl rfl ?_
          refine AtL.leq (.inl rfl) rfl rfl rfl ?_
          refine AtL.done ?_
          refine At.cond rfl ?_ ?_
          · intro hc7
            have hc7 : (n : Int) ≤ (ns.length : Int) := of_decide_eq_true hc7
            refine At.skip ?_
            refine At.seq ?_
            refine At.block ?_
            refine At.seq ?_
            refine At.region ?_
            refine AtL.move (.inl rfl) rfl rfl ?_
            refine AtL.lenL Tryz.underlying34 (.inl rfl) rfl rfl ?_
            refine AtL.assign (.inl rfl) rfl rfl ?_
            refine AtL.done ?_
            refine At.seq ?_
            refine At.seq ?_
            refine At.region ?_
            refine AtL.move (.inl rfl) rfl rfl ?_
            refine AtL.move (.inl rfl) rfl rfl ?_
            refine AtL.lenL Tryz.underlying23 (.inl rfl) rfl rfl ?_
            refine AtL.lss (.inl rfl) rfl rfl rfl ?_
            refine AtL.done ?_
            refine At.cond rfl ?_ ?_
            · intro hc8
              have hc8 : (n : Int) < (ns.length : Int) := of_decide_eq_true hc8
              refine At.region ?_
              refine AtL.move (.inl rfl) rfl rfl ?_
              refine AtL.move (.inl rfl) rfl rfl ?_
              refine AtL.indexL n (Rd.skip 9 h2) Tryz.underlying23 tf_sz3 (.inl rfl) rfl rfl rfl rfl (by omega) ?_
              refine AtL.load (v := .int .i64 (ns.getD n 0)) tf_flat3 (.inl rfl) rfl rfl (Rd.cell0 (Rd.skip 9 h2) (getD_some 0 (by omega)) rfl) ?_
              refine AtL.move (.inl rfl) rfl rfl ?_
              refine AtL.lenL Tryz.underlying34 (.inl rfl) rfl rfl ?_
              refine AtL.add (z := (P9.2.1.length : Int) + 1) (.inl rfl) rfl rfl rfl (w64 (by omega) (by omega)) ?_
              refine AtL.call tf_body13 (.inl rfl) rfl rfl (pick_ok (ns.getD n 0) ((P9.2.1.length : Int) + 1) (by omega)) ?_
              rintro _ _ ⟨rfl, rfl⟩
              refine AtL.assign (.inl rfl) rfl rfl ?_
              refine AtL.done ?_
              have hpk9 := pick_bd28 (ns.getD n 0) (P9.2.1.length + 1) (by omega)
              refine At.seq ?_
              refine At.region ?_
              refine AtL.move (.inl rfl) rfl rfl ?_
              refine AtL.move (.inl rfl) rfl rfl ?_
              refine AtL.move (.inl rfl) rfl rfl ?_
              refine AtL.move (.inl rfl) rfl rfl ?_
              have hleo39 := Own.le_cap hq
              refine AtL.sliceO 0 (Int.toNat (pick (ns.getD n 0) ((P9.2.1.length : Int) + 1))) P9.2.2.2 hq rfl (evBound_some rfl (by omega)) rfl (by intro h; cases h) (by omega) (by omega) (by omega) (Nat.le_refl _) Tryz.underlying34 tf_sz5 (.inl rfl) rfl rfl ?_
              intro A37 C38 o39
              clear hleo39
              have hlo39 : (subl P9.2.1 0 (Int.toNat (pick (ns.getD n 0) ((P9.2.1.length : Int) + 1)))).length = (Int.toNat (pick (ns.getD n 0) ((P9.2.1.length : Int) + 1))) - 0 := subl_len (by omega)
              refine AtL.move (.inl rfl) rfl rfl ?_
              have hOk9 : OkP sd (P9.1 ++ (subl P9.2.1 0 (Int.toNat (pick (ns.getD n 0) ((P9.2.1.length : Int) + 1))))) := by have h9 := hOk; rw [← hpq, show P9.2.1 = (subl P9.2.1 0 (Int.toNat (pick (ns.getD n 0) ((P9.2.1.length : Int) + 1)))) ++ P9.2.1.drop ((subl P9.2.1 0 (Int.toNat (pick (ns.getD n 0) ((P9.2.1.length : Int) + 1)))).length) from (by rw [subl_len28]), ← List.append_assoc] at h9; exact h9.left
              obtain ⟨outs40, hpu41, hou42⟩ := push_at (wh := wh) (now := (n : Int)) hOk9
              refine AtL.pick (H' := [(c, .cells #[.int .i64 1, .int .i64 1000, .int .i64 1048576, .int .i64 1, .map (some mb)] 64 (0, 0))] :: [(mb, mapG kyI Lk.v K (0 + 1))] :: linksS K :: g.s :: segsOf Y :: t32.s :: ch33.s :: y.s :: ch6.s :: H) [2, 3, 4, 0, 1, 5, 6, 7, 8] 9 rfl rfl ?_
              refine AtL.call tf_body14 (.inl rfl) rfl rfl (bpushN (e := 0) (cl := false) (outs := outs40) (x := strP sd wh P9.1) (x' := strP sd (max wh (n : Int)) (P9.1 ++ (subl P9.2.1 0 (Int.toNat (pick (ns.getD n 0) ((P9.2.1.length : Int) + 1)))))) (sz := P9.1.length) (sz2 := (P9.1 ++ (subl P9.2.1 0 (Int.toNat (pick (ns.getD n 0) ((P9.2.1.length : Int) + 1))))).length) (P2 := ([(1, (.str (strP sd (max wh (n : Int)) (P9.1 ++ (subl P9.2.1 0 (Int.toNat (pick (ns.getD n 0) ((P9.2.1.length : Int) + 1)))))) (P9.1 ++ (subl P9.2.1 0 (Int.toNat (pick (ns.getD n 0) ((P9.2.1.length : Int) + 1))))).length))] : List (Int × LkV))) (P := ([(1, (.str (strP sd wh P9.1) P9.1.length))] : List (Int × LkV))) (by omega) hK rfl (o39.rd (i := 2) rfl) (show inT (n : Int) from (by unfold inT; omega)) (by omega) rfl (by omega) hpu41 (by rw [List.length_append]) rfl) ?_
              rintro _ _ ⟨o43, ys44, K45, ho46, hys47, hK48, rfl, rfl⟩
              have o43n : o43.l.length ≤ 20000 := by have h9 := congrArg List.length hou42; rw [List.length_append] at h9; have h8 := (frF_keep (m := 65535) (by decide) (DP sd (P9.1 ++ (subl P9.2.1 0 (Int.toNat (pick (ns.getD n 0) ((P9.2.1.length : Int) + 1))))))).2.2; have h7 := DP_len sd (P9.1 ++ (subl P9.2.1 0 (Int.toNat (pick (ns.getD n 0) ((P9.2.1.length : Int) + 1))))); have h6 := congrArg List.length hys47; rw [List.length_map] at h6; rw [ho46, List.length_map]; rw [List.length_append] at h7; omega
              refine AtL.move (.inl rfl) rfl rfl ?_
              refine AtL.extract (.inl rfl) rfl rfl rfl ?_
              refine AtL.extract (.inl rfl) rfl rfl rfl ?_
              refine AtL.assign (.inl rfl) rfl rfl ?_
              refine AtL.assign (.inl rfl) rfl rfl ?_
              refine AtL.done ?_
              refine At.seq ?_
              refine At.seq ?_
              refine At.region ?_
              refine AtL.move (.inl rfl) rfl rfl ?_
              refine AtL.nei (.inl rfl) rfl rfl rfl ?_
              refine AtL.done ?_
              refine At.condF rfl ?_
              refine At.skip ?_
              refine At.seq ?_
              refine At.seq ?_
              refine At.region ?_
              refine AtL.assign (.inl rfl) rfl rfl ?_
              refine AtL.done ?_
              refine At.block ?_
              refine At.loop2 (fun (j : Nat) (g2 : Sl tyL 34) => [(1, .slice A l.length C), (2, .slice Ac ns.length Cc), (7, .bool true), (8, .pointer (some ⟨c, 0, none⟩)), (10, .int .i64 1), (12, ch33.v), (13, .slice P9.2.2.1 P9.2.1.length P9.2.2.2), (14, .slice y.A y.l.length y.C), (16, .slice g2.A g2.l.length g2.C), (17, .int .i64 (n : Int)), (18, .int .i64 (pick (ns.getD n 0) ((P9.2.1.length : Int) + 1))), (19, .slice o43.A o43.l.length o43.C), (21, .int .i64 (j : Int))]) (fun (j : Nat) (g2 : Sl tyL 34) => o43.s :: segsOf ys44 :: [(c, .cells #[.int .i64 1, .int .i64 1000, .int .i64 1048576, .int .i64 1, .map (some mb)] 64 (0, 0))] :: [(mb, mapG kyI Lk.v K45 (0 + 1))] :: linksS K45 :: g2.s :: segsOf Y :: t32.s :: ch33.s :: y.s :: ch6.s :: H) (fun (j : Nat) (g2 : Sl tyL 34) => j ≤ o43.l.length ∧ g2.l = g.l ++ (ys44.take j).map Sl.v) (fun (j : Nat) (g2 : Sl tyL 34) => o43.l.length - j) 0 g (⟨Nat.zero_le _, by rw [List.take_zero, List.map_nil, List.append_nil]⟩) ⟨rfl, rfl, rfl, rfl, rfl, rfl, rfl, rfl, rfl, rfl, rfl, rfl, rfl, trivial⟩ rfl ?_
              rintro j g2 ⟨hj, hg2⟩ ihL3
              have hg2c := Own.cap_le g2.own
              have hg2l : g2.l.length ≤ 40000 := by rw [hg2, List.length_append, List.length_map, List.length_take]; have h9 := Nat.min_le_left j ys44.length; omega
              refine At.seq ?_
              refine At.seq ?_
              refine At.region ?_
              refine AtL.move (.inl rfl) rfl rfl ?_
              refine AtL.move (.inl rfl) rfl rfl ?_
              refine AtL.lenL Tryz.underlying37 (.inl rfl) rfl rfl ?_
              refine AtL.lss (.inl rfl) rfl rfl rfl ?_
              refine AtL.done ?_
              refine At.cond rfl ?_ ?_
              · intro hc10
                have hc10 : (j : Int) < (o43.l.length : Int) := of_decide_eq_true hc10
                refine At.skip ?_
                refine At.seq ?_
                refine At.block ?_
                refine At.region ?_
                refine AtL.move (.inl rfl) rfl rfl ?_
                refine AtL.move (.inl rfl) rfl rfl ?_
                refine AtL.move (.inl rfl) rfl rfl ?_
                refine AtL.indexL j (o43.own.rd (i := 0) rfl) Tryz.underlying37 tf_sz44 (.inl rfl) rfl rfl rfl rfl (by omega) ?_
                refine AtL.fieldAddr tf_fo44_3 (.inl rfl) rfl rfl ?_
                refine AtL.load (v := .slice ((o43.l.getD j ((0, 0, [], [], 0, ⟨none, 0, []⟩, ⟨none, 0, []⟩) : Int × Int × List UInt8 × List UInt8 × Int × Vs (List UInt8 × List UInt8) × Vs UInt8)).2.2.2.2.2.2.A) ((o43.l.getD j ((0, 0, [], [], 0, ⟨none, 0, []⟩, ⟨none, 0, []⟩) : Int × Int × List UInt8 × List UInt8 × Int × Vs (List UInt8 × List UInt8) × Vs UInt8)).2.2.2.2.2.2.l).length ((o43.l.getD j ((0, 0, [], [], 0, ⟨none, 0, []⟩, ⟨none, 0, []⟩) : Int × Int × List UInt8 × List UInt8 × Int × Vs (List UInt8 × List UInt8) × Vs UInt8)).2.2.2.2.2.2.C)) tf_flat34 (.inl rfl) rfl rfl (Rd.cell_at (o43.own.rd (i := 0) rfl) (j := 6) (getD_some ((0, 0, [], [], 0, ⟨none, 0, []⟩, ⟨none, 0, []⟩) : Int × Int × List UInt8 × List UInt8 × Int × Vs (List UInt8 × List UInt8) × Vs UInt8) (by omega)) rfl) ?_
                refine AtL.buildSlice (cs := [.slice ((o43.l.getD j ((0, 0, [], [], 0, ⟨none, 0, []⟩, ⟨none, 0, []⟩) : Int × Int × List UInt8 × List UInt8 × Int × Vs (List UInt8 × List UInt8) × Vs UInt8)).2.2.2.2.2.2.A) ((o43.l.getD j ((0, 0, [], [], 0, ⟨none, 0, []⟩, ⟨none, 0, []⟩) : Int × Int × List UInt8 × List UInt8 × Int × Vs (List UInt8 × List UInt8) × Vs UInt8)).2.2.2.2.2.2.l).length ((o43.l.getD j ((0, 0, [], [], 0, ⟨none, 0, []⟩, ⟨none, 0, []⟩) : Int × Int × List UInt8 × List UInt8 × Int × Vs (List UInt8 × List UInt8) × Vs UInt8)).2.2.2.2.2.2.C)]) Tryz.underlying22 tf_zero34 tf_sz34 rfl rfl (.inl rfl) rfl rfl rfl ?_
                intro b49
                refine AtL.own1 tyL (l := ([(⟨(o43.l.getD j ((0, 0, [], [], 0, ⟨none, 0, []⟩, ⟨none, 0, []⟩) : Int × Int × List UInt8 × List UInt8 × Int × Vs (List UInt8 × List UInt8) × Vs UInt8)).2.2.2.2.2.2.A, (o43.l.getD j ((0, 0, [], [], 0, ⟨none, 0, []⟩, ⟨none, 0, []⟩) : Int × Int × List UInt8 × List UInt8 × Int × Vs (List UInt8 × List UInt8) × Vs UInt8)).2.2.2.2.2.2.C, (o43.l.getD j ((0, 0, [], [], 0, ⟨none, 0, []⟩, ⟨none, 0, []⟩) : Int × Int × List UInt8 × List UInt8 × Int × Vs (List UInt8 × List UInt8) × Vs UInt8)).2.2.2.2.2.2.l⟩ : Bs)] : List Bs)) rfl rfl (by first | decide | simp) ?_
                intro s50 o51
                refine AtL.append (l := g2.l) (news := [(⟨(o43.l.getD j ((0, 0, [], [], 0, ⟨none, 0, []⟩, ⟨none, 0, []⟩) : Int × Int × List UInt8 × List UInt8 × Int × Vs (List UInt8 × List UInt8) × Vs UInt8)).2.2.2.2.2.2.A, (o43.l.getD j ((0, 0, [], [], 0, ⟨none, 0, []⟩, ⟨none, 0, []⟩) : Int × Int × List UInt8 × List UInt8 × Int × Vs (List UInt8 × List UInt8) × Vs UInt8)).2.2.2.2.2.2.C, (o43.l.getD j ((0, 0, [], [], 0, ⟨none, 0, []⟩, ⟨none, 0, []⟩) : Int × Int × List UInt8 × List UInt8 × Int × Vs (List UInt8 × List UInt8) × Vs UInt8)).2.2.2.2.2.2.l⟩ : Bs)]) 6 tf_el22 rfl g2.own (o51.rd (i := 0) rfl) (by first | omega | (simp only [List.length_append, List.length_cons, List.length_nil]; omega) | (simp; done) | (simp; omega)) (.inl rfl) rfl rfl rfl ?_
                intro A52 C53 s54 o55
                refine AtL.assign (.inl rfl) rfl rfl ?_
                refine AtL.done ?_
                refine At.inBlock ?_
                refine At.region ?_
                refine AtL.move (.inl rfl) rfl rfl ?_
                refine AtL.add (z := (j : Int) + 1) (.inl rfl) rfl rfl rfl (w64 (by omega) (by omega)) ?_
                refine AtL.assign (.inl rfl) rfl rfl ?_
                refine AtL.done ?_
                refine At.pick (H' := o43.s :: segsOf ys44 :: [(c, .cells #[.int .i64 1, .int .i64 1000, .int .i64 1048576, .int .i64 1, .map (some mb)] 64 (0, 0))] :: [(mb, mapG kyI Lk.v K45 (0 + 1))] :: linksS K45 :: s54 :: segsOf Y :: t32.s :: ch33.s :: y.s :: ch6.s :: H) [1, 2, 3, 4, 5, 6, 7, 8, 9, 10, 11] 12 rfl rfl ?_
                refine ihL3 (j + 1) (⟨A52, C53, g2.l ++ ([(⟨(o43.l.getD j ((0, 0, [], [], 0, ⟨none, 0, []⟩, ⟨none, 0, []⟩) : Int × Int × List UInt8 × List UInt8 × Int × Vs (List UInt8 × List UInt8) × Vs UInt8)).2.2.2.2.2.2.A, (o43.l.getD j ((0, 0, [], [], 0, ⟨none, 0, []⟩, ⟨none, 0, []⟩) : Int × Int × List UInt8 × List UInt8 × Int × Vs (List UInt8 × List UInt8) × Vs UInt8)).2.2.2.2.2.2.C, (o43.l.getD j ((0, 0, [], [], 0, ⟨none, 0, []⟩, ⟨none, 0, []⟩) : Int × Int × List UInt8 × List UInt8 × Int × Vs (List UInt8 × List UInt8) × Vs UInt8)).2.2.2.2.2.2.l⟩ : Bs)]), s54, o55⟩) (⟨by omega, by dsimp only; rw [hg2, takeV28 ho46 (by omega), ← List.append_assoc]⟩) (by omega) _ ?_
                exact ⟨rfl, rfl, rfl, rfl, rfl, rfl, rfl, rfl, (by first | rfl | exact slLen (by simp []) | exact intEq (by omega) | exact intEq (by simp []) | exact slLen (by simp []; omega)), rfl, rfl, rfl, (by first | rfl | exact slLen (by simp []) | exact intEq (by omega) | exact intEq (by simp []) | exact slLen (by simp []; omega)), trivial⟩
              · intro hc10
                have hc10 : ¬ ((j : Int) < (o43.l.length : Int)) := of_decide_eq_false hc10
                refine At.exit rfl ?_
                refine At.region ?_
                refine AtL.move (.inl rfl) rfl rfl ?_
                refine AtL.move (.inl rfl) rfl rfl ?_
                have hleo58 := Own.le_cap hq
                refine AtL.sliceO (Int.toNat (pick (ns.getD n 0) ((P9.2.1.length : Int) + 1))) P9.2.1.length P9.2.2.2 hq (evBound_some rfl (by omega)) rfl rfl (by intro h; cases h) (by omega) (by omega) (by omega) (Nat.le_refl _) Tryz.underlying34 tf_sz5 (.inl rfl) rfl rfl ?_
                intro A56 C57 o58
                clear hleo58
                have hlo58 : (subl P9.2.1 (Int.toNat (pick (ns.getD n 0) ((P9.2.1.length : Int) + 1))) P9.2.1.length).length = P9.2.1.length - (Int.toNat (pick (ns.getD n 0) ((P9.2.1.length : Int) + 1))) := subl_len (by omega)
                refine AtL.assign (.inl rfl) rfl rfl ?_
                refine AtL.done ?_
                refine At.inBlock ?_
                refine At.region ?_
                refine AtL.move (.inl rfl) rfl rfl ?_
                refine AtL.add (z := (n : Int) + 1) (.inl rfl) rfl rfl rfl (w64 (by omega) (by omega)) ?_
                refine AtL.assign (.inl rfl) rfl rfl ?_
                refine AtL.done ?_
                refine At.pick (H' := g2.s :: segsOf Y :: segsOf ys44 :: [(c, .cells #[.int .i64 1, .int .i64 1000, .int .i64 1048576, .int .i64 1, .map (some mb)] 64 (0, 0))] :: [(mb, mapG kyI Lk.v K45 (0 + 1))] :: linksS K45 :: t32.s :: ch33.s :: y.s :: ch6.s :: H) [5, 6, 1, 2, 3, 4, 7, 8, 9, 10] 11 rfl rfl ?_
                refine At.flat (H' := g2.s :: segsOf (Y ++ ys44) :: [(c, .cells #[.int .i64 1, .int .i64 1000, .int .i64 1048576, .int .i64 1, .map (some mb)] 64 (0, 0))] :: [(mb, mapG kyI Lk.v K45 (0 + 1))] :: linksS K45 :: t32.s :: ch33.s :: y.s :: ch6.s :: H) (List.Perm.of_eq (by simp [segs_app, List.append_assoc])) ?_
                refine ihL2 (n + 1) ((P9.1 ++ (subl P9.2.1 0 (Int.toNat (pick (ns.getD n 0) ((P9.2.1.length : Int) + 1))))), subl P9.2.1 (Int.toNat (pick (ns.getD n 0) ((P9.2.1.length : Int) + 1))) P9.2.1.length, A56, C57) K45 (max wh (n : Int)) g2 (Y ++ ys44) (⟨by omega, by dsimp only; rw [List.append_assoc, ← hpq]; congr 1; exact subl_two28 (by omega), o58, hK48, ⟨by omega, by omega⟩, by rw [List.map_append, hY, hys47]; exact hou42.symm, by rw [hg2, hg, List.take_of_length_le (by have h9 := congrArg List.length ho46; rw [List.length_map] at h9; omega), List.map_append], fun h9 => by exact sublast28 (by omega)⟩) (by omega) _ ?_
                exact ⟨rfl, rfl, rfl, rfl, rfl, rfl, (by first | rfl | exact slLen (by simp []) | exact intEq (by omega) | exact intEq (by simp []) | exact slLen (by simp []; omega)), rfl, (by first | rfl | exact slLen (by simp []) | exact intEq (by omega) | exact intEq (by simp []) | exact slLen (by simp []; omega)), (by first | rfl | exact slLen (by simp []) | exact intEq (by omega) | exact intEq (by simp []) | exact slLen (by simp []; omega)), trivial⟩
            · intro hc8
              have hc8 : ¬ ((n : Int) < (ns.length : Int)) := of_decide_eq_false hc8
              refine At.skip ?_
              refine At.seq ?_
              refine At.region ?_
              refine AtL.move (.inl rfl) rfl rfl ?_
              refine AtL.move (.inl rfl) rfl rfl ?_
              refine AtL.move (.inl rfl) rfl rfl ?_
              refine AtL.move (.inl rfl) rfl rfl ?_
              have hleo61 := Own.le_cap hq
              refine AtL.sliceO 0 P9.2.1.length P9.2.2.2 hq rfl (evBound_some rfl rfl) rfl (by intro h; cases h) (by omega) (by omega) (by omega) (Nat.le_refl _) Tryz.underlying34 tf_sz5 (.inl rfl) rfl rfl ?_
              intro A59 C60 o61
              clear hleo61
              have hlo61 : (subl P9.2.1 0 P9.2.1.length).length = P9.2.1.length - 0 := subl_len (by omega)
              refine AtL.move (.inl rfl) rfl rfl ?_
              have hOk9 : OkP sd (P9.1 ++ (subl P9.2.1 0 P9.2.1.length)) := by have h9 := hOk; rw [← hpq, show P9.2.1 = (subl P9.2.1 0 P9.2.1.length) ++ P9.2.1.drop ((subl P9.2.1 0 P9.2.1.length).length) from (by rw [subl_len28]), ← List.append_assoc] at h9; exact h9.left
              obtain ⟨outs62, hpu63, hou64⟩ := push_at (wh := wh) (now := (n : Int)) hOk9
              refine AtL.pick (H' := [(c, .cells #[.int .i64 1, .int .i64 1000, .int .i64 1048576, .int .i64 1, .map (some mb)] 64 (0, 0))] :: [(mb, mapG kyI Lk.v K (0 + 1))] :: linksS K :: g.s :: segsOf Y :: t32.s :: ch33.s :: y.s :: ch6.s :: H) [2, 3, 4, 0, 1, 5, 6, 7, 8] 9 rfl rfl ?_
              refine AtL.call tf_body14 (.inl rfl) rfl rfl (bpushN (e := 0) (cl := false) (outs := outs62) (x := strP sd wh P9.1) (x' := strP sd (max wh (n : Int)) (P9.1 ++ (subl P9.2.1 0 P9.2.1.length))) (sz := P9.1.length) (sz2 := (P9.1 ++ (subl P9.2.1 0 P9.2.1.length)).length) (P2 := ([(1, (.str (strP sd (max wh (n : Int)) (P9.1 ++ (subl P9.2.1 0 P9.2.1.length))) (P9.1 ++ (subl P9.2.1 0 P9.2.1.length)).length))] : List (Int × LkV))) (P := ([(1, (.str (strP sd wh P9.1) P9.1.length))] : List (Int × LkV))) (by omega) hK rfl (o61.rd (i := 2) rfl) (show inT (n : Int) from (by unfold inT; omega)) (by omega) rfl (by omega) hpu63 (by rw [List.length_append]) rfl) ?_
              rintro _ _ ⟨o65, ys66, K67, ho68, hys69, hK70, rfl, rfl⟩
              have o65n : o65.l.length ≤ 20000 := by have h9 := congrArg List.length hou64; rw [List.length_append] at h9; have h8 := (frF_keep (m := 65535) (by decide) (DP sd (P9.1 ++ (subl P9.2.1 0 P9.2.1.length)))).2.2; have h7 := DP_len sd (P9.1 ++ (subl P9.2.1 0 P9.2.1.length)); have h6 := congrArg List.length hys69; rw [List.length_map] at h6; rw [ho68, List.length_map]; rw [List.length_append] at h7; omega
              refine AtL.move (.inl rfl) rfl rfl ?_
              refine AtL.extract (.inl rfl) rfl rfl rfl ?_
              refine AtL.extract (.inl rfl) rfl rfl rfl ?_
              refine AtL.assign (.inl rfl) rfl rfl ?_
              refine AtL.assign (.inl rfl) rfl rfl ?_
              refine AtL.done ?_
              refine At.seq ?_
              refine At.seq ?_
              refine At.region ?_
              refine AtL.move (.inl rfl) rfl rfl ?_
              refine AtL.nei (.inl rfl) rfl rfl rfl ?_
              refine AtL.done ?_
              refine At.condF rfl ?_
              refine At.skip ?_
              refine At.seq ?_
              refine At.seq ?_
              refine At.region ?_
              refine AtL.assign (.inl rfl) rfl rfl ?_
              refine AtL.done ?_
              refine At.block ?_
              refine At.loop2 (fun (j : Nat) (g2 : Sl tyL 34) => [(1, .slice A l.length C), (2, .slice Ac ns.length Cc), (7, .bool true), (8, .pointer (some ⟨c, 0, none⟩)), (10, .int .i64 1), (12, ch33.v), (13, .slice P9.2.2.1 P9.2.1.length P9.2.2.2), (14, .slice y.A y.l.length y.C), (16, .slice g2.A g2.l.length g2.C), (17, .int .i64 (n : Int)), (18, .int .i64 (P9.2.1.length : Int)), (19, .slice o65.A o65.l.length o65.C), (21, .int .i64 (j : Int))]) (fun (j : Nat) (g2 : Sl tyL 34) => o65.s :: segsOf ys66 :: [(c, .cells #[.int .i64 1, .int .i64 1000, .int .i64 1048576, .int .i64 1, .map (some mb)] 64 (0, 0))] :: [(mb, mapG kyI Lk.v K67 (0 + 1))] :: linksS K67 :: g2.s :: segsOf Y :: t32.s :: ch33.s :: y.s :: ch6.s :: H) (fun (j : Nat) (g2 : Sl tyL 34) => j ≤ o65.l.length ∧ g2.l = g.l ++ (ys66.take j).map Sl.v) (fun (j : Nat) (g2 : Sl tyL 34) => o65.l.length - j) 0 g (⟨Nat.zero_le _, by rw [List.take_zero, List.map_nil, List.append_nil]⟩) ⟨rfl, rfl, rfl, rfl, rfl, rfl, rfl, rfl, rfl, rfl, rfl, rfl, rfl, trivial⟩ rfl ?_
              rintro j g2 ⟨hj, hg2⟩ ihL3
              have hg2c := Own.cap_le g2.own
              have hg2l : g2.l.length ≤ 40000 := by rw [hg2, List.length_append, List.length_map, List.length_take]; have h9 := Nat.min_le_left j ys66.length; omega
              refine At.seq ?_
              refine At.seq ?_
              refine At.region ?_
              refine AtL.move (.inl rfl) rfl rfl ?_
              refine AtL.move (.inl rfl) rfl rfl ?_
              refine AtL.lenL Tryz.underlying37 (.inl rfl) rfl rfl ?_
              refine AtL.lss (.inl rfl) rfl rfl rfl ?_
              refine AtL.done ?_
              refine At.cond rfl ?_ ?_
              · intro hc10
                have hc10 : (j : Int) < (o65.l.length : Int) := of_decide_eq_true hc10
                refine At.skip ?_
                refine At.seq ?_
                refine At.block ?_
                refine At.region ?_
                refine AtL.move (.inl rfl) rfl rfl ?_
                refine AtL.move (.inl rfl) rfl rfl ?_
                refine AtL.move (.inl rfl) rfl rfl ?_
                refine AtL.indexL j (o65.own.rd (i := 0) rfl) Tryz.underlying37 tf_sz44 (.inl rfl) rfl rfl rfl rfl (by omega) ?_
                refine AtL.fieldAddr tf_fo44_3 (.inl rfl) rfl rfl ?_
                refine AtL.load (v := .slice ((o65.l.getD j ((0, 0, [], [], 0, ⟨none, 0, []⟩, ⟨none, 0, []⟩) : Int × Int × List UInt8 × List UInt8 × Int × Vs (List UInt8 × List UInt8) × Vs UInt8)).2.2.2.2.2.2.A) ((o65.l.getD j ((0, 0, [], [], 0, ⟨none, 0, []⟩, ⟨none, 0, []⟩) : Int × Int × List UInt8 × List UInt8 × Int × Vs (List UInt8 × List UInt8) × Vs UInt8)).2.2.2.2.2.2.l).length ((o65.l.getD j ((0, 0, [], [], 0, ⟨none, 0, []⟩, ⟨none, 0, []⟩) : Int × Int × List UInt8 × List UInt8 × Int × Vs (List UInt8 × List UInt8) × Vs UInt8)).2.2.2.2.2.2.C)) tf_flat34 (.inl rfl) rfl rfl (Rd.cell_at (o65.own.rd (i := 0) rfl) (j := 6) (getD_some ((0, 0, [], [], 0, ⟨none, 0, []⟩, ⟨none, 0, []⟩) : Int × Int × List UInt8 × List UInt8 × Int × Vs (List UInt8 × List UInt8) × Vs UInt8) (by omega)) rfl) ?_
                refine AtL.buildSlice (cs := [.slice ((o65.l.getD j ((0, 0, [], [], 0, ⟨none, 0, []⟩, ⟨none, 0, []⟩) : Int × Int × List UInt8 × List UInt8 × Int × Vs (List UInt8 × List UInt8) × Vs UInt8)).2.2.2.2.2.2.A) ((o65.l.getD j ((0, 0, [], [], 0, ⟨none, 0, []⟩, ⟨none, 0, []⟩) : Int × Int × List UInt8 × List UInt8 × Int × Vs (List UInt8 × List UInt8) × Vs UInt8)).2.2.2.2.2.2.l).length ((o65.l.getD j ((0, 0, [], [], 0, ⟨none, 0, []⟩, ⟨none, 0, []⟩) : Int × Int × List UInt8 × List UInt8 × Int × Vs (List UInt8 × List UInt8) × Vs UInt8)).2.2.2.2.2.2.C)]) Tryz.underlying22 tf_zero34 tf_sz34 rfl rfl (.inl rfl) rfl rfl rfl ?_
                intro b71
                refine AtL.own1 tyL (l := ([(⟨(o65.l.getD j ((0, 0, [], [], 0, ⟨none, 0, []⟩, ⟨none, 0, []⟩) : Int × Int × List UInt8 × List UInt8 × Int × Vs (List UInt8 × List UInt8) × Vs UInt8)).2.2.2.2.2.2.A, (o65.l.getD j ((0, 0, [], [], 0, ⟨none, 0, []⟩, ⟨none, 0, []⟩) : Int × Int × List UInt8 × List UInt8 × Int × Vs (List UInt8 × List UInt8) × Vs UInt8)).2.2.2.2.2.2.C, (o65.l.getD j ((0, 0, [], [], 0, ⟨none, 0, []⟩, ⟨none, 0, []⟩) : Int × Int × List UInt8 × List UInt8 × Int × Vs (List UInt8 × List UInt8) × Vs UInt8)).2.2.2.2.2.2.l⟩ : Bs)] : List Bs)) rfl rfl (by first | decide | simp) ?_
                intro s72 o73
                refine AtL.append (l := g2.l) (news := [(⟨(o65.l.getD j ((0, 0, [], [], 0, ⟨none, 0, []⟩, ⟨none, 0, []⟩) : Int × Int × List UInt8 × List UInt8 × Int × Vs (List UInt8 × List UInt8) × Vs UInt8)).2.2.2.2.2.2.A, (o65.l.getD j ((0, 0, [], [], 0, ⟨none, 0, []⟩, ⟨none, 0, []⟩) : Int × Int × List UInt8 × List UInt8 × Int × Vs (List UInt8 × List UInt8) × Vs UInt8)).2.2.2.2.2.2.C, (o65.l.getD j ((0, 0, [], [], 0, ⟨none, 0, []⟩, ⟨none, 0, []⟩) : Int × Int × List UInt8 × List UInt8 × Int × Vs (List UInt8 × List UInt8) × Vs UInt8)).2.2.2.2.2.2.l⟩ : Bs)]) 6 tf_el22 rfl g2.own (o73.rd (i := 0) rfl) (by first | omega | (simp only [List.length_append, List.length_cons, List.length_nil]; omega) | (simp; done) | (simp; omega)) (.inl rfl) rfl rfl rfl ?_
                intro A74 C75 s76 o77
                refine AtL.assign (.inl rfl) rfl rfl ?_
                refine AtL.done ?_
                refine At.inBlock ?_
                refine At.region ?_
                refine AtL.move (.inl rfl) rfl rfl ?_
                refine AtL.add (z := (j : Int) + 1) (.inl rfl) rfl rfl rfl (w64 (by omega) (by omega)) ?_
                refine AtL.assign (.inl rfl) rfl rfl ?_
                refine AtL.done ?_
                refine At.pick (H' := o65.s :: segsOf ys66 :: [(c, .cells #[.int .i64 1, .int .i64 1000, .int .i64 1048576, .int .i64 1, .map (some mb)] 64 (0, 0))] :: [(mb, mapG kyI Lk.v K67 (0 + 1))] :: linksS K67 :: s76 :: segsOf Y :: t32.s :: ch33.s :: y.s :: ch6.s :: H) [1, 2, 3, 4, 5, 6, 7, 8, 9, 10, 11] 12 rfl rfl ?_
                refine ihL3 (j + 1) (⟨A74, C75, g2.l ++ ([(⟨(o65.l.getD j ((0, 0, [], [], 0, ⟨none, 0, []⟩, ⟨none, 0, []⟩) : Int × Int × List UInt8 × List UInt8 × Int × Vs (List UInt8 × List UInt8) × Vs UInt8)).2.2.2.2.2.2.A, (o65.l.getD j ((0, 0, [], [], 0, ⟨none, 0, []⟩, ⟨none, 0, []⟩) : Int × Int × List UInt8 × List UInt8 × Int × Vs (List UInt8 × List UInt8) × Vs UInt8)).2.2.2.2.2.2.C, (o65.l.getD j ((0, 0, [], [], 0, ⟨none, 0, []⟩, ⟨none, 0, []⟩) : Int × Int × List UInt8 × List UInt8 × Int × Vs (List UInt8 × List UInt8) × Vs UInt8)).2.2.2.2.2.2.l⟩ : Bs)]), s76, o77⟩) (⟨by omega, by dsimp only; rw [hg2, takeV28 ho68 (by omega), ← List.append_assoc]⟩) (by omega) _ ?_
                exact ⟨rfl, rfl, rfl, rfl, rfl, rfl, rfl, rfl, (by first | rfl | exact slLen (by simp []) | exact intEq (by omega) | exact intEq (by simp []) | exact slLen (by simp []; omega)), rfl, rfl, rfl, (by first | rfl | exact slLen (by simp []) | exact intEq (by omega) | exact intEq (by simp []) | exact slLen (by simp []; omega)), trivial⟩
              · intro hc10
                have hc10 : ¬ ((j : Int) < (o65.l.length : Int)) := of_decide_eq_false hc10
                refine At.exit rfl ?_
                refine At.region ?_
                refine AtL.move (.inl rfl) rfl rfl ?_
                refine AtL.move (.inl rfl) rfl rfl ?_
                have hleo80 := Own.le_cap hq
                refine AtL.sliceO P9.2.1.length P9.2.1.length P9.2.2.2 hq (evBound_some rfl rfl) rfl rfl (by intro h; cases h) (by omega) (by omega) (by omega) (Nat.le_refl _) Tryz.underlying34 tf_sz5 (.inl rfl) rfl rfl ?_
                intro A78 C79 o80
                clear hleo80
                have hlo80 : (subl P9.2.1 P9.2.1.length P9.2.1.length).length = P9.2.1.length - P9.2.1.length := subl_len (by omega)
                refine AtL.assign (.inl rfl) rfl rfl ?_
                refine AtL.done ?_
                refine At.inBlock ?_
                refine At.region ?_
                refine AtL.move (.inl rfl) rfl rfl ?_
                refine AtL.add (z := (n : Int) + 1) (.inl rfl) rfl rfl rfl (w64 (by omega) (by omega)) ?_
                refine AtL.assign (.inl rfl) rfl rfl ?_
                refine AtL.done ?_
                refine At.pick (H' := g2.s :: segsOf Y :: segsOf ys66 :: [(c, .cells #[.int .i64 1, .int .i64 1000, .int .i64 1048576, .int .i64 1, .map (some mb)] 64 (0, 0))] :: [(mb, mapG kyI Lk.v K67 (0 + 1))] :: linksS K67 :: t32.s :: ch33.s :: y.s :: ch6.s :: H) [5, 6, 1, 2, 3, 4, 7, 8, 9, 10] 11 rfl rfl ?_
                refine At.flat (H' := g2.s :: segsOf (Y ++ ys66) :: [(c, .cells #[.int .i64 1, .int .i64 1000, .int .i64 1048576, .int .i64 1, .map (some mb)] 64 (0, 0))] :: [(mb, mapG kyI Lk.v K67 (0 + 1))] :: linksS K67 :: t32.s :: ch33.s :: y.s :: ch6.s :: H) (List.Perm.of_eq (by simp [segs_app, List.append_assoc])) ?_
                refine ihL2 (n + 1) ((P9.1 ++ (subl P9.2.1 0 P9.2.1.length)), subl P9.2.1 P9.2.1.length P9.2.1.length, A78, C79) K67 (max wh (n : Int)) g2 (Y ++ ys66) (⟨by omega, by dsimp only; rw [List.append_assoc, ← hpq]; congr 1; exact subl_two28 (by omega), o80, hK70, ⟨by omega, by omega⟩, by rw [List.map_append, hY, hys69]; exact hou64.symm, by rw [hg2, hg, List.take_of_length_le (by have h9 := congrArg List.length ho68; rw [List.length_map] at h9; omega), List.map_append], fun h9 => by exact sublast28 (by omega)⟩) (by omega) _ ?_
                exact ⟨rfl, rfl, rfl, rfl, rfl, rfl, (by first | rfl | exact slLen (by simp []) | exact intEq (by omega) | exact intEq (by simp []) | exact slLen (by simp []; omega)), rfl, (by first | rfl | exact slLen (by simp []) | exact intEq (by omega) | exact intEq (by simp []) | exact slLen (by simp []; omega)), (by first | rfl | exact slLen (by simp []) | exact intEq (by omega) | exact intEq (by simp []) | exact slLen (by simp []; omega)), trivial⟩
          · intro hc7
            have hc7 : ¬ ((n : Int) ≤ (ns.length : Int)) := of_decide_eq_false hc7
            refine At.exit rfl ?_
            refine At.seq ?_
            refine At.seq ?_
            refine At.region ?_
            refine AtL.assign (.inl rfl) rfl rfl ?_
            refine AtL.done ?_
            refine At.block ?_
            have hq0 : P9.2.1 = [] := hend (by omega)
            have hpt : P9.1 = t32.l := by rw [← hpq, hq0, List.append_nil]
            have hYm : Y.map (·.l) = (l.map (·.l)) := by rw [hY, hpt, hDP, want_fr _ hmA]
            have hgm : g.l.map (·.l) = (l.map (·.l)) := by rw [hg, List.map_map]; exact hYm
            have hgn : g.l.length = l.length := by have h9 := congrArg List.length hgm; rwa [List.length_map, List.length_map] at h9
            have helg : ∀ x ∈ g.l, Rd tyB w0 base (segsOf Y :: H) x.A x.C x.l := Sl.rdV (i := 0) hg rfl
            refine At.loop4 (fun (i : Nat) (K4 : List (Int × Lk × Nat)) (wv : List UInt8) (ga : Bool) => [(1, .slice A l.length C), (7, .bool true), (8, .pointer (some ⟨c, 0, none⟩)), (10, .int .i64 1), (12, ch33.v), (14, .slice y.A y.l.length y.C), (16, .slice g.A g.l.length g.C), (22, .int .i64 (i : Int))]) (fun (i : Nat) (K4 : List (Int × Lk × Nat)) (wv : List UInt8) (ga : Bool) => g.s :: segsOf Y :: [(c, .cells #[.int .i64 1, .int .i64 1000, .int .i64 1048576, .int .i64 1, .map (some mb)] 64 (0, 0))] :: [(mb, mapG kyI Lk.v K4 (0 + 1))] :: linksS K4 :: t32.s :: ch33.s :: y.s :: ch6.s :: H) (fun (i : Nat) (K4 : List (Int × Lk × Nat)) (wv : List UInt8) (ga : Bool) => i ≤ g.l.length ∧ Cs K4 (0 + 1) 1 ([(1, (.str (ansP sd wh t32.l wv ga) P9.1.length))] : List (Int × LkV)) ∧ Car sd wv (swantF ((g.l.map (·.l)).take i)) ga ∧ wv.length ≤ 900 * i) (fun (i : Nat) (K4 : List (Int × Lk × Nat)) (wv : List UInt8) (ga : Bool) => g.l.length - i) 0 K [] false (⟨Nat.zero_le _, by rw [← ans_zero, ← hpt]; exact hK, Car.start sd, Nat.zero_le _⟩) ⟨rfl, rfl, rfl, rfl, rfl, rfl, rfl, rfl, trivial⟩ rfl ?_
            rintro i K4 wv ga ⟨hi4, hK4, hcar4, hwv⟩ ihL4
            refine At.seq ?_
            refine At.seq ?_
            refine At.region ?_
            refine AtL.move (.inl rfl) rfl rfl ?_
            refine AtL.move (.inl rfl) rfl rfl ?_
            refine AtL.lenL Tryz.underlying22 (.inl rfl) rfl rfl ?_
            refine AtL.lss (.inl rfl) rfl rfl rfl ?_
            refine AtL.done ?_
            refine At.cond rfl ?_ ?_
            · intro hc11
              have hc11 : (i : Int) < (g.l.length : Int) := of_decide_eq_true hc11
              refine At.skip ?_
              refine At.seq ?_
              refine At.block ?_
              refine At.seq ?_
              refine At.region ?_
              refine AtL.move (.inl rfl) rfl rfl ?_
              refine AtL.move (.inl rfl) rfl rfl ?_
              refine AtL.move (.inl rfl) rfl rfl ?_
              refine AtL.move (.inl rfl) rfl rfl ?_
              refine AtL.indexL i (g.own.rd (i := 0) rfl) Tryz.underlying22 tf_sz34 (.inl rfl) rfl rfl rfl rfl (by omega) ?_
              refine AtL.load (v := .slice ((g.l.getD i (⟨none, 0, []⟩ : Bs)).A) ((g.l.getD i (⟨none, 0, []⟩ : Bs)).l).length ((g.l.getD i (⟨none, 0, []⟩ : Bs)).C)) tf_flat34 (.inl rfl) rfl rfl (Rd.cell0 (g.own.rd (i := 0) rfl) (getD_some (⟨none, 0, []⟩ : Bs) (by omega)) rfl) ?_
              have hi5 : i < g.l.length := by omega
              have hmem9 : ((g.l.getD i (⟨none, 0, []⟩ : Bs)).l) ∈ (l.map (·.l)) := by rw [← hgm]; exact List.mem_map.2 ⟨_, getD_mem (by omega), rfl⟩
              have hml9 := hmA _ hmem9
              obtain ⟨wv81, ga82, han83, hcar84, hwl85⟩ := ans_step (wh := wh) (b := t32.l) hcar4 hml9 (by omega)
              refine AtL.pick (H' := [(c, .cells #[.int .i64 1, .int .i64 1000, .int .i64 1048576, .int .i64 1, .map (some mb)] 64 (0, 0))] :: [(mb, mapG kyI Lk.v K4 (0 + 1))] :: linksS K4 :: g.s :: segsOf Y :: t32.s :: ch33.s :: y.s :: ch6.s :: H) [2, 3, 4, 0, 1, 5, 6, 7, 8] 9 rfl rfl ?_
              refine AtL.call tf_body15 (.inl rfl) rfl rfl (banswer2 (slot := 0) (e := 0) (l := (g.l.getD i (⟨none, 0, []⟩ : Bs)).l) (cl := false) (x := ansP sd wh t32.l wv ga) (x' := ansP sd wh t32.l wv81 ga82) (sz := P9.1.length) (P2 := ([(1, (.str (ansP sd wh t32.l wv81 ga82) P9.1.length))] : List (Int × LkV))) (P := ([(1, (.str (ansP sd wh t32.l wv ga) P9.1.length))] : List (Int × LkV))) (by omega) hK4 rfl (Rd.pick [1] 6 rfl rfl (helg _ (getD_mem (l := g.l) (i := i) (d := (⟨none, 0, []⟩ : Bs)) (by omega)))) (by omega) (show wv.length ≤ 1073741824 by omega) han83 rfl) ?_
              rintro _ _ ⟨K86, hK87, rfl, rfl⟩
              refine AtL.nei (.inl rfl) rfl rfl rfl ?_
              refine AtL.done ?_
              refine At.condF rfl ?_
              refine At.skip ?_
              refine At.inBlock ?_
              refine At.region ?_
              refine AtL.move (.inl rfl) rfl rfl ?_
              refine AtL.add (z := (i : Int) + 1) (.inl rfl) rfl rfl rfl (w64 (by omega) (by omega)) ?_
              refine AtL.assign (.inl rfl) rfl rfl ?_
              refine AtL.done ?_
              refine At.pick (H' := g.s :: segsOf Y :: [(c, .cells #[.int .i64 1, .int .i64 1000, .int .i64 1048576, .int .i64 1, .map (some mb)] 64 (0, 0))] :: [(mb, mapG kyI Lk.v K86 (0 + 1))] :: linksS K86 :: t32.s :: ch33.s :: y.s :: ch6.s :: H) [3, 4, 0, 1, 2, 5, 6, 7, 8] 9 rfl rfl ?_
              refine ihL4 (i + 1) K86 wv81 ga82 (⟨by omega, hK87, by rw [take_succ28 hi5, swant_snoc]; exact hcar84, by omega⟩) (by omega) _ ?_
              exact ⟨rfl, rfl, rfl, rfl, rfl, rfl, rfl, (by first | rfl | exact slLen (by simp []) | exact intEq (by omega) | exact intEq (by simp []) | exact slLen (by simp []; omega)), trivial⟩
            · intro hc11
              have hc11 : ¬ ((i : Int) < (g.l.length : Int)) := of_decide_eq_false hc11
              refine At.exit rfl ?_
              refine At.seq ?_
              refine At.region ?_
              refine AtL.move (.inl rfl) rfl rfl ?_
              refine AtL.move (.inl rfl) rfl rfl ?_
              obtain ⟨xT88, hT89⟩ := ans_take (sd := sd) (wh := wh) (now := 100) (b := t32.l) (w := wv) (g := ga) (by omega)
              refine AtL.pick (H' := [(c, .cells #[.int .i64 1, .int .i64 1000, .int .i64 1048576, .int .i64 1, .map (some mb)] 64 (0, 0))] :: [(mb, mapG kyI Lk.v K4 (0 + 1))] :: linksS K4 :: g.s :: segsOf Y :: t32.s :: ch33.s :: y.s :: ch6.s :: H) [2, 3, 4, 0, 1, 5, 6, 7, 8] 9 rfl rfl ?_
              refine AtL.call tf_body16 (.inl rfl) rfl rfl (btake2 (m := 1048576) (r := wv) (cl := false) (x := (ansP sd wh t32.l wv ga)) (x' := (xT88 : StrV)) (P2 := ([(1, (.str (xT88 : StrV) P9.1.length))] : List (Int × LkV))) (P := ([(1, (.str (ansP sd wh t32.l wv ga) P9.1.length))] : List (Int × LkV))) (by omega) hK4 rfl (show inT 100 from (by unfold inT; omega)) (show wv.length ≤ 1073741824 by omega) hT89 rfl) ?_
              rintro _ _ ⟨⟨A93, C94, l95, s96, o97⟩, K90, ho92, hcs91, rfl, rfl⟩
              obtain rfl : wv = l95 := ho92.symm
              refine AtL.move (.inl rfl) rfl rfl ?_
              refine AtL.extract (.inl rfl) rfl rfl rfl ?_
              refine AtL.extract (.inl rfl) rfl rfl rfl ?_
              refine AtL.assign (.inl rfl) rfl rfl ?_
              refine AtL.assign (.inl rfl) rfl rfl ?_
              refine AtL.done ?_
              refine At.seq ?_
              refine At.region ?_
              refine AtL.move (.inl rfl) rfl rfl ?_
              refine AtL.move (.inl rfl) rfl rfl ?_
              have hcar5 : Car sd wv (swantF (l.map (·.l))) ga := by rw [List.take_of_length_le (by rw [List.length_map]; omega), hgm] at hcar4; exact hcar4
              obtain ⟨hs1, hs2⟩ := side_two hcar5 hx2
              have hxk : ch33.y.l.length = 0 := by rw [show ch33.y.l = ch33.p.k from rfl, hx2]; rfl
              refine AtL.pick (H' := ch33.s :: s96 :: [(c, .cells #[.int .i64 1, .int .i64 1000, .int .i64 1048576, .int .i64 1, .map (some mb)] 64 (0, 0))] :: [(mb, mapG kyI Lk.v K90 (0 + 1))] :: linksS K90 :: g.s :: segsOf Y :: t32.s :: y.s :: ch6.s :: H) [7, 0, 1, 2, 3, 4, 5, 6, 8, 9] 10 rfl rfl ?_
              refine AtL.callI (chn_b_Push ch33) (.inl rfl) rfl rfl rfl (chn_m_Push ch33) (chn_Push ch33 (l := wv) (o97.rd (i := 0) rfl) (by omega)) ?_
              rintro _ _ ⟨t98, ch99, ht100, hp101, hc102, rfl, rfl⟩
              have t98n : t98.l.length ≤ ch33.y.l.length + wv.length := by have h9 := chpush_len ch33.p wv; rw [ht100]; have h8 : ch33.p.k = ch33.y.l := rfl; rw [h8] at h9; omega
              try rw [chn_push_v hp101 hc102]
              have htx : t98.l = y.l := by rw [ht100, hs1, hyA]
              refine AtL.move (.inl rfl) rfl rfl ?_
              refine AtL.extract (.inl rfl) rfl rfl rfl ?_
              refine AtL.extract (.inl rfl) rfl rfl rfl ?_
              refine AtL.assign (.inl rfl) rfl rfl ?_
              refine AtL.assign (.inl rfl) rfl rfl ?_
              refine AtL.done ?_
              refine At.seq ?_
              refine At.region ?_
              refine AtL.move (.inl rfl) rfl rfl ?_
              refine AtL.move (.inl rfl) rfl rfl ?_
              refine AtL.move (.inr ⟨_, _, _, rfl, rfl, rfl, rfl⟩) rfl rfl ?_
              refine AtL.move (.inr ⟨_, _, _, rfl, rfl, rfl, rfl⟩) rfl rfl ?_
              refine AtL.call tf_body17 (.inr ⟨_, _, _, rfl, rfl, rfl, rfl⟩) rfl rfl (slists_ok (a := g.l) (b := l) (g.own.rd (i := 6) rfl) (fun x hx => Rd.pick [7] 11 rfl rfl (helg x hx)) (Rd.skip 11 h) (fun x hx => Rd.skip 11 (he x hx))) ?_
              rintro _ _ ⟨rfl, rfl⟩
              refine AtL.pickT (.inl rfl) rfl rfl rfl ?_
              refine AtL.move (.inl rfl) rfl rfl ?_
              refine AtL.join 3 (E' := [(184, .bool true), (14, .slice y.A y.l.length y.C), (25, .slice t98.A t98.l.length t98.C), (26, .int .i64 ((ch33.p.push wv).2.1))]) (H' := t98.s :: ch99.s :: s96 :: [(c, .cells #[.int .i64 1, .int .i64 1000, .int .i64 1048576, .int .i64 1, .map (some mb)] 64 (0, 0))] :: [(mb, mapG kyI Lk.v K90 (0 + 1))] :: linksS K90 :: g.s :: segsOf Y :: t32.s :: y.s :: ch6.s :: H) (fun J => ?_) ?_
              · refine AtL.split (t := 181) rfl ?_ ?_
                · intro hs181
                  have hs181 : g.l.map (·.l) = l.map (·.l) := of_decide_eq_true hs181
                  refine AtL.move (.inr ⟨_, _, _, rfl, rfl, rfl, rfl⟩) rfl rfl ?_
                  refine AtL.eqi (.inr ⟨_, _, _, rfl, rfl, rfl, rfl⟩) rfl rfl rfl ?_
                  refine AtL.pickT (.inl rfl) rfl rfl rfl ?_
                  exact J _ (by exact ⟨rfl, rfl, rfl, rfl, trivial⟩)
                · intro hs181
                  have hs181 : ¬ (g.l.map (·.l) = l.map (·.l)) := of_decide_eq_false hs181
                  exfalso; revert hs181; first | decide | (simp; done) | (intro h9; exact absurd hgm h9) | (intro h9; exact absurd hs2 h9) | (intro h9; exact absurd htx h9) | (intro h9; simp [*] at h9; done)
              · skip
                refine AtL.move (.inl rfl) rfl rfl ?_
                refine AtL.move (.inr ⟨_, _, _, rfl, rfl, rfl, rfl⟩) rfl rfl ?_
                refine AtL.eqi (.inr ⟨_, _, _, rfl, rfl, rfl, rfl⟩) rfl rfl rfl ?_
                refine AtL.pickT (.inl rfl) rfl rfl rfl ?_
                refine AtL.move (.inl rfl) rfl rfl ?_
                refine AtL.join 4 (E' := [(193, .bool (decide (t98.l = y.l)))]) (H' := t98.s :: ch99.s :: s96 :: [(c, .cells #[.int .i64 1, .int .i64 1000, .int .i64 1048576, .int .i64 1, .map (some mb)] 64 (0, 0))] :: [(mb, mapG kyI Lk.v K90 (0 + 1))] :: linksS K90 :: g.s :: segsOf Y :: t32.s :: y.s :: ch6.s :: H) (fun J => ?_) ?_
                · refine AtL.split (t := 189) rfl ?_ ?_
                  · intro hs189
                    have hs189 : ((ch33.p.push wv).2.1 : Int) = 0 := of_decide_eq_true hs189
                    refine AtL.move (.inr ⟨_, _, _, rfl, rfl, rfl, rfl⟩) rfl rfl ?_
                    refine AtL.move (.inr ⟨_, _, _, rfl, rfl, rfl, rfl⟩) rfl rfl ?_
                    refine AtL.call tf_body18 (.inr ⟨_, _, _, rfl, rfl, rfl, rfl⟩) rfl rfl (same_ok (l := t98.l) (l2 := y.l) (t98.own.rd (i := 0) rfl) (y.own.rd (i := 9) rfl)) ?_
                    rintro _ _ ⟨rfl, rfl⟩
                    refine AtL.pickT (.inl rfl) rfl rfl rfl ?_
                    exact J _ (by exact ⟨(boolIs (by clear J; first | (simp [hs189]; done) | (simp_all; done) | grind)), trivial⟩)
                  · intro hs189
                    have hs189 : ¬ (((ch33.p.push wv).2.1 : Int) = 0) := of_decide_eq_false hs189
                    exfalso; revert hs189; first | decide | (simp; done) | (intro h9; exact absurd hgm h9) | (intro h9; exact absurd hs2 h9) | (intro h9; exact absurd htx h9) | (intro h9; simp [*] at h9; done)
                · skip
                  refine AtL.assign (.inl rfl) rfl rfl ?_
                  refine AtL.done ?_
                  refine At.pick (H' := H) [] 11 rfl rfl ?_
                  exact At.ret Tryz.func3 rfl rfl (⟨by first | rfl | exact congrArg Value.bool (decide_eq_true htx) | (simp; done) | (simp; rfl), rfl⟩)
      · intro hc3
        have hc3 : sd = false := hc3
        have hsd : sd = false := by simpa using hc3
        refine At.skip ?_
        refine At.seq ?_
        refine At.seq ?_
        refine At.region ?_
        refine AtL.move (.inl rfl) rfl rfl ?_
        refine AtL.nei (.inl rfl) rfl rfl rfl ?_
        refine AtL.move (.inl rfl) rfl rfl ?_
        refine AtL.move (.inr ⟨_, _, _, rfl, rfl, rfl, rfl⟩) rfl rfl ?_
        refine AtL.eqIfaceNil Tryz.underlying32 (.inr ⟨_, _, _, rfl, rfl, rfl, rfl⟩) rfl rfl rfl ?_
        refine AtL.pickF (.inl rfl) rfl rfl rfl ?_
        refine AtL.done ?_
        refine At.condF rfl ?_
        refine At.skip ?_
        refine At.seq ?_
        refine At.region ?_
        refine AtL.assign (.inl rfl) rfl rfl ?_
        refine AtL.assign (.inl rfl) rfl rfl ?_
        refine AtL.done ?_
        refine At.seq ?_
        refine At.seq ?_
        refine At.region ?_
        refine AtL.assign (.inl rfl) rfl rfl ?_
        refine AtL.done ?_
        refine At.block ?_
        refine At.nil ?_
        refine At.loop2 (fun (i : Nat) (y : Sl tyB 5) => [(1, .slice A l.length C), (2, .slice Ac ns.length Cc), (7, .bool true), (8, .pointer (some ⟨c, 0, none⟩)), (10, .int .i64 1), (12, ch6.v), (14, .slice y.A y.l.length y.C), (15, .int .i64 (i : Int))]) (fun (i : Nat) (y : Sl tyB 5) => y.s :: ch6.s :: [(c, .cells #[.int .i64 1, .int .i64 1000, .int .i64 1048576, .int .i64 1, .map (some mb)] 64 (0, 0))] :: [(mb, mapG kyI Lk.v K3 (0 + 1))] :: linksS K3 :: H) (fun (i : Nat) (y : Sl tyB 5) => i ≤ l.length ∧ y.l = swantF ((l.map (·.l)).take i) ∧ ∀ m ∈ (l.map (·.l)).take i, 12 ≤ m.length ∧ m.length ≤ 200) (fun (i : Nat) (y : Sl tyB 5) => l.length - i) 0 Sl.nil (⟨Nat.zero_le _, rfl, fun m h => by cases h⟩) ⟨rfl, rfl, rfl, rfl, rfl, rfl, rfl, rfl, trivial⟩ rfl ?_
        rintro i y ⟨hi, hy, hms⟩ ihL1
        have hyn : y.l.length ≤ 202 * i := by rw [hy]; have h9 := want_len _ (fun m hm => (hms m hm).2); rw [List.length_take] at h9; have h8 : (min i (l.map (·.l)).length) ≤ i := Nat.min_le_left _ _; omega
        have hyc := Own.cap_le y.own
        refine At.seq ?_
        refine At.seq ?_
        refine At.region ?_
        refine AtL.move (.inl rfl) rfl rfl ?_
        refine AtL.move (.inl rfl) rfl rfl ?_
        refine AtL.lenL Tryz.underlying22 (.inl rfl) rfl rfl ?_
        refine AtL.lss (.inl rfl) rfl rfl rfl ?_
        refine AtL.done ?_
        refine At.cond rfl ?_ ?_
        · intro hc5
          have hc5 : (i : Int) < (l.length : Int) := of_decide_eq_true hc5
          refine At.skip ?_
          refine At.seq ?_
          refine At.block ?_
          refine At.seq ?_
          refine At.seq ?_
          refine At.region ?_
          refine AtL.move (.inl rfl) rfl rfl ?_
          refine AtL.move (.inl rfl) rfl rfl ?_
          refine AtL.indexL i (Rd.skip 5 h) Tryz.underlying22 tf_sz34 (.inl rfl) rfl rfl rfl rfl (by omega) ?_
          refine AtL.load (v := .slice ((l.getD i (⟨none, 0, []⟩ : Bs)).A) ((l.getD i (⟨none, 0, []⟩ : Bs)).l).length ((l.getD i (⟨none, 0, []⟩ : Bs)).C)) tf_flat34 (.inl rfl) rfl rfl (Rd.cell0 (Rd.skip 5 h) (getD_some (⟨none, 0, []⟩ : Bs) (by omega)) rfl) ?_
          refine AtL.lenL Tryz.underlying34 (.inl rfl) rfl rfl ?_
          refine AtL.lss (.inl rfl) rfl rfl rfl ?_
          refine AtL.move (.inl rfl) rfl rfl ?_
          refine AtL.join 7 (E' := [(81, .bool (decide (((((l.getD i (⟨none, 0, []⟩ : Bs)).l).length : Int) < 12) ∨ (200 < (((l.getD i (⟨none, 0, []⟩ : Bs)).l).length : Int))))), (1, .slice A l.length C), (2, .slice Ac ns.length Cc), (7, .bool true), (8, .pointer (some ⟨c, 0, none⟩)), (10, .int .i64 1), (12, ch6.v), (14, .slice y.A y.l.length y.C), (15, .int .i64 (i : Int))]) (H' := y.s :: ch6.s :: [(c, .cells #[.int .i64 1, .int .i64 1000, .int .i64 1048576, .int .i64 1, .map (some mb)] 64 (0, 0))] :: [(mb, mapG kyI Lk.v K3 (0 + 1))] :: linksS K3 :: H) (fun J => ?_) ?_
          · refine AtL.split (t := 74) rfl ?_ ?_
            · intro hs74
              have hs74 : (((l.getD i (⟨none, 0, []⟩ : Bs)).l).length : Int) < 12 := of_decide_eq_true hs74
              refine AtL.skipped rfl rfl rfl rfl rfl rfl ?_
              refine AtL.skipped rfl rfl rfl rfl rfl rfl ?_
              refine AtL.skipped rfl rfl rfl rfl rfl rfl ?_
              refine AtL.skipped rfl rfl rfl rfl rfl rfl ?_
              refine AtL.skipped rfl rfl rfl rfl rfl rfl ?_
              refine AtL.skipped rfl rfl rfl rfl rfl rfl ?_
              refine AtL.pickT (.inl rfl) rfl rfl rfl ?_
              exact J _ (by exact ⟨(boolIs (by clear J; first | (simp [hs74]; done) | (simp_all; done) | grind)), rfl, rfl, rfl, rfl, rfl, rfl, rfl, rfl, trivial⟩)
            · intro hs74
              have hs74 : ¬ ((((l.getD i (⟨none, 0, []⟩ : Bs)).l).length : Int) < 12) := of_decide_eq_false hs74
              refine AtL.move (.inr ⟨_, _, _, rfl, rfl, rfl, rfl⟩) rfl rfl ?_
              refine AtL.move (.inr ⟨_, _, _, rfl, rfl, rfl, rfl⟩) rfl rfl ?_
              refine AtL.indexL i (Rd.skip 5 h) Tryz.underlying22 tf_sz34 (.inr ⟨_, _, _, rfl, rfl, rfl, rfl⟩) rfl rfl rfl rfl (by omega) ?_
              refine AtL.load (v := .slice ((l.getD i (⟨none, 0, []⟩ : Bs)).A) ((l.getD i (⟨none, 0, []⟩ : Bs)).l).length ((l.getD i (⟨none, 0, []⟩ : Bs)).C)) tf_flat34 (.inr ⟨_, _, _, rfl, rfl, rfl, rfl⟩) rfl rfl (Rd.cell0 (Rd.skip 5 h) (getD_some (⟨none, 0, []⟩ : Bs) (by omega)) rfl) ?_
              refine AtL.lenL Tryz.underlying34 (.inr ⟨_, _, _, rfl, rfl, rfl, rfl⟩) rfl rfl ?_
              refine AtL.gtr (.inr ⟨_, _, _, rfl, rfl, rfl, rfl⟩) rfl rfl rfl ?_
              refine AtL.pickF (.inl rfl) rfl rfl rfl ?_
              exact J _ (by exact ⟨(boolIs (by clear J; first | (simp [hs74]; done) | (simp_all; done) | grind)), rfl, rfl, rfl, rfl, rfl, rfl, rfl, rfl, trivial⟩)
          · skip
            refine AtL.done ?_
            refine At.cond rfl ?_ ?_
            · intro hc6
              have hc6 : ((((l.getD i (⟨none, 0, []⟩ : Bs)).l).length : Int) < 12) ∨ (200 < (((l.getD i (⟨none, 0, []⟩ : Bs)).l).length : Int)) := of_decide_eq_true hc6
              refine At.seq ?_
              refine At.region ?_
              refine AtL.move (.inl rfl) rfl rfl ?_
              refine AtL.assign (.inl rfl) rfl rfl ?_
              refine AtL.done ?_
              refine At.pick (H' := H) [] 5 rfl rfl ?_
              exact At.ret Tryz.func3 rfl rfl (⟨rfl, rfl⟩)
            · intro hc6
              have hc6 : ¬ (((((l.getD i (⟨none, 0, []⟩ : Bs)).l).length : Int) < 12) ∨ (200 < (((l.getD i (⟨none, 0, []⟩ : Bs)).l).length : Int))) := of_decide_eq_false hc6
              have hilt : i < l.length := by omega
              have hml9 : 12 ≤ (l.getD i ⟨none, 0, []⟩).l.length ∧ (l.getD i ⟨none, 0, []⟩).l.length ≤ 200 := by omega
              refine At.skip ?_
              refine At.draw (es := [7, 8, 13]) (pv := [(0, .slice y.A y.l.length y.C), (1, .slice A l.length C), (2, .int .i64 (i : Int)), (3, .pointer (some (eaddr A (i * tyL.sz)))), (4, .slice ((l.getD i (⟨none, 0, []⟩ : Bs)).A) ((l.getD i (⟨none, 0, []⟩ : Bs)).l).length ((l.getD i (⟨none, 0, []⟩ : Bs)).C)), (5, .int .i64 (((l.getD i (⟨none, 0, []⟩ : Bs)).l).length : Int)), (6, .int .u8 ((UInt8.ofInt (((l.getD i (⟨none, 0, []⟩ : Bs)).l).length : Int)).toNat : Int)), (9, .slice A l.length C), (10, .int .i64 (i : Int)), (11, .pointer (some (eaddr A (i * tyL.sz)))), (12, .slice ((l.getD i (⟨none, 0, []⟩ : Bs)).A) ((l.getD i (⟨none, 0, []⟩ : Bs)).l).length ((l.getD i (⟨none, 0, []⟩ : Bs)).C))]) tf_mixed (by kernel_rfl) (by kernel_rfl) (by kernel_rfl) ?_
              refine ⟨⟨.inr ⟨_, rfl, rfl, .inl ⟨rfl, Do.move rfl⟩⟩, .inr ⟨_, rfl, rfl, .inl ⟨rfl, Do.move rfl⟩⟩, .inr ⟨_, rfl, rfl, .inl ⟨rfl, Do.move rfl⟩⟩, .inr ⟨_, rfl, rfl, .inl ⟨rfl, Do.indexL i (Rd.skip 5 h) Tryz.underlying22 tf_sz34 rfl rfl rfl (by omega)⟩⟩, .inr ⟨_, rfl, rfl, .inl ⟨rfl, Do.load (v := .slice ((l.getD i (⟨none, 0, []⟩ : Bs)).A) ((l.getD i (⟨none, 0, []⟩ : Bs)).l).length ((l.getD i (⟨none, 0, []⟩ : Bs)).C)) tf_flat34 rfl (Rd.cell0 (Rd.skip 5 h) (getD_some (⟨none, 0, []⟩ : Bs) (by omega)) rfl)⟩⟩, .inr ⟨_, rfl, rfl, .inl ⟨rfl, Do.lenL Tryz.underlying34 rfl⟩⟩, .inr ⟨_, rfl, rfl, .inl ⟨rfl, Do.convInt (z := ((UInt8.ofInt (((l.getD i (⟨none, 0, []⟩ : Bs)).l).length : Int)).toNat : Int)) Tryz.underlying3 Tryz.underlying5 rfl (u8_conv _)⟩⟩, .inr ⟨_, rfl, rfl, .inl ⟨rfl, Do.move rfl⟩⟩, .inr ⟨_, rfl, rfl, .inl ⟨rfl, Do.move rfl⟩⟩, .inr ⟨_, rfl, rfl, .inl ⟨rfl, Do.indexL i (Rd.skip 5 h) Tryz.underlying22 tf_sz34 rfl rfl rfl (by omega)⟩⟩, .inr ⟨_, rfl, rfl, .inl ⟨rfl, Do.load (v := .slice ((l.getD i (⟨none, 0, []⟩ : Bs)).A) ((l.getD i (⟨none, 0, []⟩ : Bs)).l).length ((l.getD i (⟨none, 0, []⟩ : Bs)).C)) tf_flat34 rfl (Rd.cell0 (Rd.skip 5 h) (getD_some (⟨none, 0, []⟩ : Bs) (by omega)) rfl)⟩⟩, trivial⟩, rfl, rfl, by kernel_rfl, _, rfl, rfl, rfl, _, Do.own1 tyB (l := ([0, (UInt8.ofInt (((l.getD i (⟨none, 0, []⟩ : Bs)).l).length : Int))] : List UInt8)) (Do.buildSlice (cs := [.int .u8 0, .int .u8 ((UInt8.ofInt (((l.getD i (⟨none, 0, []⟩ : Bs)).l).length : Int)).toNat : Int)]) Tryz.underlying34 tf_zero5 tf_sz5 rfl rfl rfl rfl) rfl rfl (by first | decide | simp), ?_⟩
              rintro _ _ ⟨b103, s104, o105, rfl, rfl⟩
              refine ⟨[], rfl, ?_⟩
              refine ⟨⟨.inr ⟨_, rfl, rfl, .inl ⟨rfl, Do.move rfl⟩⟩, .inl (by kernel_rfl), .inl (by kernel_rfl), .inl (by kernel_rfl), .inl (by kernel_rfl), .inl (by kernel_rfl), .inl (by kernel_rfl), .inr ⟨_, rfl, rfl, .inl ⟨rfl, Do.move rfl⟩⟩, .inr ⟨_, rfl, rfl, .inl ⟨rfl, Do.move rfl⟩⟩, .inr ⟨_, rfl, rfl, .inl ⟨rfl, Do.indexL i (Rd.skip 6 h) Tryz.underlying22 tf_sz34 rfl rfl rfl (by omega)⟩⟩, .inr ⟨_, rfl, rfl, .inl ⟨rfl, Do.load (v := .slice ((l.getD i (⟨none, 0, []⟩ : Bs)).A) ((l.getD i (⟨none, 0, []⟩ : Bs)).l).length ((l.getD i (⟨none, 0, []⟩ : Bs)).C)) tf_flat34 rfl (Rd.cell0 (Rd.skip 6 h) (getD_some (⟨none, 0, []⟩ : Bs) (by omega)) rfl)⟩⟩, trivial⟩, rfl, rfl, by kernel_rfl, _, rfl, rfl, rfl, _, Do.append (l := y.l) (news := [0, (UInt8.ofInt (((l.getD i (⟨none, 0, []⟩ : Bs)).l).length : Int))]) 1 tf_el34 rfl y.own (o105.rd (i := 0) rfl) (by first | omega | (simp only [List.length_append, List.length_cons, List.length_nil]; omega) | (simp; done) | (simp; omega)) rfl rfl, ?_⟩
              rintro _ _ ⟨A106, C107, s108, o109, rfl, rfl⟩
              refine ⟨[], rfl, ?_⟩
              refine ⟨⟨.inl (by kernel_rfl), .inl (by kernel_rfl), .inl (by kernel_rfl), .inl (by kernel_rfl), .inl (by kernel_rfl), .inl (by kernel_rfl), .inl (by kernel_rfl), .inr ⟨_, rfl, rfl, .inl ⟨rfl, Do.move rfl⟩⟩, .inr ⟨_, rfl, rfl, .inl ⟨rfl, Do.move rfl⟩⟩, .inr ⟨_, rfl, rfl, .inl ⟨rfl, Do.indexL i (Rd.skip 6 h) Tryz.underlying22 tf_sz34 rfl rfl rfl (by omega)⟩⟩, .inr ⟨_, rfl, rfl, .inl ⟨rfl, Do.load (v := .slice ((l.getD i (⟨none, 0, []⟩ : Bs)).A) ((l.getD i (⟨none, 0, []⟩ : Bs)).l).length ((l.getD i (⟨none, 0, []⟩ : Bs)).C)) tf_flat34 rfl (Rd.cell0 (Rd.skip 6 h) (getD_some (⟨none, 0, []⟩ : Bs) (by omega)) rfl)⟩⟩, trivial⟩, rfl, rfl, by kernel_rfl, _, rfl, rfl, rfl, _, Do.append (l := y.l ++ ([0, (UInt8.ofInt (((l.getD i (⟨none, 0, []⟩ : Bs)).l).length : Int))])) (news := (l.getD i (⟨none, 0, []⟩ : Bs)).l) 1 tf_el34 rfl o109 (Rd.skip 6 (he _ (getD_mem (l := l) (i := i) (d := (⟨none, 0, []⟩ : Bs)) (by omega)))) (by first | omega | (simp only [List.length_append, List.length_cons, List.length_nil]; omega) | (simp; done) | (simp; omega)) rfl rfl, ?_⟩
              rintro _ _ ⟨A110, C111, s112, o113, rfl, rfl⟩
              refine ⟨[(14, .slice A110 ((y.l ++ ([0, (UInt8.ofInt (((l.getD i (⟨none, 0, []⟩ : Bs)).l).length : Int))])) ++ ((l.getD i (⟨none, 0, []⟩ : Bs)).l)).length C111)], rfl, ?_⟩
              refine ⟨⟨.inr ⟨_, rfl, rfl, .inl ⟨rfl, Do.assign rfl⟩⟩, .inl (by kernel_rfl), .inl (by kernel_rfl), .inl (by kernel_rfl), .inl (by kernel_rfl), .inl (by kernel_rfl), .inl (by kernel_rfl), .inl (by kernel_rfl), .inl (by kernel_rfl), .inl (by kernel_rfl), .inl (by kernel_rfl), .inl (by kernel_rfl), trivial⟩, by kernel_rfl, ?_⟩
              refine At.mono (E' := [(1, .slice A l.length C), (2, .slice Ac ns.length Cc), (7, .bool true), (8, .pointer (some ⟨c, 0, none⟩)), (10, .int .i64 1), (12, ch6.v), (14, .slice A110 ((y.l ++ ([0, (UInt8.ofInt (((l.getD i (⟨none, 0, []⟩ : Bs)).l).length : Int))])) ++ ((l.getD i (⟨none, 0, []⟩ : Bs)).l)).length C111), (15, .int .i64 (i : Int))]) ⟨rfl, rfl, rfl, rfl, rfl, rfl, rfl, rfl, trivial⟩ ?_
              refine At.inBlock ?_
              refine At.region ?_
              refine AtL.move (.inl rfl) rfl rfl ?_
              refine AtL.add (z := (i : Int) + 1) (.inl rfl) rfl rfl rfl (w64 (by omega) (by omega)) ?_
              refine AtL.assign (.inl rfl) rfl rfl ?_
              refine AtL.done ?_
              refine At.pick (H' := s112 :: ch6.s :: [(c, .cells #[.int .i64 1, .int .i64 1000, .int .i64 1048576, .int .i64 1, .map (some mb)] 64 (0, 0))] :: [(mb, mapG kyI Lk.v K3 (0 + 1))] :: linksS K3 :: H) [1, 2, 3, 4, 5] 6 rfl rfl ?_
              refine ihL1 (i + 1) (⟨A110, C111, (y.l ++ ([0, (UInt8.ofInt (((l.getD i (⟨none, 0, []⟩ : Bs)).l).length : Int))])) ++ ((l.getD i (⟨none, 0, []⟩ : Bs)).l), s112, o113⟩) (⟨by omega, by dsimp only; rw [take_succ28 hilt, swant_snoc, (frm_ok hml9).2, ← List.append_assoc, hy], by rw [take_succ28 hilt]; intro m hm; rcases List.mem_append.1 hm with h9 | h9; exact hms m h9; rw [List.mem_singleton.1 h9]; exact hml9⟩) (by omega) _ ?_
              exact ⟨rfl, rfl, rfl, rfl, rfl, rfl, (by first | rfl | exact slLen (by simp []) | exact intEq (by omega) | exact intEq (by simp []) | exact slLen (by simp []; omega)), (by first | rfl | exact slLen (by simp []) | exact intEq (by omega) | exact intEq (by simp []) | exact slLen (by simp []; omega)), trivial⟩
        · intro hc5
          have hc5 : ¬ ((i : Int) < (l.length : Int)) := of_decide_eq_false hc5
          refine At.exit rfl ?_
          refine At.seq ?_
          refine At.region ?_
          refine AtL.move (.inl rfl) rfl rfl ?_
          refine AtL.move (.inl rfl) rfl rfl ?_
          refine AtL.pick (H' := ch6.s :: y.s :: [(c, .cells #[.int .i64 1, .int .i64 1000, .int .i64 1048576, .int .i64 1, .map (some mb)] 64 (0, 0))] :: [(mb, mapG kyI Lk.v K3 (0 + 1))] :: linksS K3 :: H) [1, 0, 2, 3, 4] 5 rfl rfl ?_
          refine AtL.callI (chn_b_Send ch6) (.inl rfl) rfl rfl rfl (chn_m_Send ch6) (chn_Send ch6 (l := y.l) (y.own.rd (i := 0) rfl) (by omega)) ?_
          rintro _ _ ⟨t125, ch126, ht127, hp128, hc129, rfl, rfl⟩
          have hside : ch6.p = ⟨sd, [], false, false, false, false, false⟩ := by rw [hch7, hsd]
          obtain ⟨gS, grS, hCar, hx2⟩ := side_one hside hp128
          rw [← ht127] at hCar
          have t125n : t125.l.length ≤ 4 + 4 * y.l.length := by rw [ht127]; exact chsend_len _ _
          try rw [chn_send_v hp128 hc129]
          refine AtL.assign (.inl rfl) rfl rfl ?_
          refine AtL.done ?_
          refine At.seq ?_
          refine At.region ?_
          refine AtL.assign (.inl rfl) rfl rfl ?_
          refine AtL.done ?_
          refine At.seq ?_
          refine At.seq ?_
          refine At.region ?_
          refine AtL.assign (.inl rfl) rfl rfl ?_
          refine AtL.done ?_
          refine At.block ?_
          refine At.nil ?_
          refine At.nil ?_
          have hall : l.length ≤ i := by omega
          have hyA : y.l = swantF (l.map (·.l)) := by rw [hy, List.take_of_length_le (by rw [List.length_map]; exact hall)]
          have hmA : ∀ m ∈ (l.map (·.l)), 12 ≤ m.length ∧ m.length ≤ 200 := by rw [List.take_of_length_le (by rw [List.length_map]; exact hall)] at hms; exact hms
          rw [hyA] at hCar
          obtain ⟨hOk, hDP⟩ := hCar.ok hmA
          have htl : t125.l.length ≤ 20000 := by have h9 := t125n; omega
          refine At.pick (H' := [] :: [] :: [(c, .cells #[.int .i64 1, .int .i64 1000, .int .i64 1048576, .int .i64 1, .map (some mb)] 64 (0, 0))] :: [(mb, mapG kyI Lk.v K3 (0 + 1))] :: linksS K3 :: t125.s :: ch126.s :: y.s :: H) [0, 1, 5, 6, 7, 2, 3, 4] 8 rfl rfl ?_
          refine At.loop6 (fun (n : Nat) (P9 : List UInt8 × List UInt8 × Option Addr × Nat) (K : List (Int × Lk × Nat)) (wh : Int) (g : Sl tyL 34) (Y : List (Sl tyB 5)) => [(1, .slice A l.length C), (2, .slice Ac ns.length Cc), (7, .bool true), (8, .pointer (some ⟨c, 0, none⟩)), (10, .int .i64 1), (12, ch126.v), (13, .slice P9.2.2.1 P9.2.1.length P9.2.2.2), (14, .slice y.A y.l.length y.C), (16, .slice g.A g.l.length g.C), (17, .int .i64 (n : Int))]) (fun (n : Nat) (P9 : List UInt8 × List UInt8 × Option Addr × Nat) (K : List (Int × Lk × Nat)) (wh : Int) (g : Sl tyL 34) (Y : List (Sl tyB 5)) => g.s :: segsOf Y :: [(c, .cells #[.int .i64 1, .int .i64 1000, .int .i64 1048576, .int .i64 1, .map (some mb)] 64 (0, 0))] :: [(mb, mapG kyI Lk.v K (0 + 1))] :: linksS K :: t125.s :: ch126.s :: y.s :: H) (fun (n : Nat) (P9 : List UInt8 × List UInt8 × Option Addr × Nat) (K : List (Int × Lk × Nat)) (wh : Int) (g : Sl tyL 34) (Y : List (Sl tyB 5)) => n ≤ ns.length + 1 ∧ P9.1 ++ P9.2.1 = t125.l ∧ Own tyB 5 P9.2.2.1 P9.2.2.2 P9.2.1 t125.s ∧ Cs K (0 + 1) 1 ([(1, (.str (strP sd wh P9.1) P9.1.length))] : List (Int × LkV)) ∧ (0 ≤ wh ∧ wh ≤ (n : Int)) ∧ Y.map (·.l) = (frF 65535 (DP sd P9.1)).out ∧ g.l = Y.map Sl.v ∧ (ns.length < n → P9.2.1 = [])) (fun (n : Nat) (P9 : List UInt8 × List UInt8 × Option Addr × Nat) (K : List (Int × Lk × Nat)) (wh : Int) (g : Sl tyL 34) (Y : List (Sl tyB 5)) => ns.length + 1 - n) 0 ([], t125.l, t125.A, t125.C) K3 0 Sl.nil [] (⟨Nat.zero_le _, rfl, t125.own, hcs5, ⟨Int.le_refl _, Int.le_refl _⟩, (by rw [show DP sd [] = [] from (by cases sd; rfl; exact congrArg PushR.out (ppush_nil false)), fr_nil]; rfl), rfl, fun h => absurd h (by omega)⟩) ⟨rfl, rfl, rfl, rfl, rfl, rfl, rfl, rfl, rfl, rfl, trivial⟩ rfl ?_
          rintro n P9 K wh g Y ⟨hn, hpq, hq, hK, hwh, hY, hg, hend⟩ ihL2
          have hqc := Own.cap_le hq
          have hpql : P9.1.length + P9.2.1.length = t125.l.length := by rw [← hpq, List.length_append]
          have hgc := Own.cap_le g.own
          have hgl : g.l.length ≤ 20000 := by have h9 := congrArg List.length hY; rw [List.length_map] at h9; rw [hg, List.length_map, h9]; have h8 := (frF_keep (m := 65535) (by decide) (DP sd P9.1)).2.2; have h7 := DP_len sd P9.1; omega
          refine At.seq ?_
          refine At.seq ?_
          refine At.region ?_
          refine AtL.move (.inl rfl) rfl rfl ?_
          refine AtL.move (.inl rfl) rfl rfl ?_
          refine AtL.lenL Tryz.underlying23 (.inl rfl) rfl rfl ?_
          refine AtL.leq (.inl rfl) rfl rfl rfl ?_
          refine AtL.done ?_
          refine At.cond rfl ?_ ?_
          · intro hc7
            have hc7 : (n : Int) ≤ (ns.length : Int) := of_decide_eq_true hc7
            refine At.skip ?_
            refine At.seq ?_
            refine At.block ?_
            refine At.seq ?_
            refine At.region ?_
            refine AtL.move (.inl rfl) rfl rfl ?_
            refine AtL.lenL Tryz.underlying34 (.inl rfl) rfl rfl ?_
            refine AtL.assign (.inl rfl) rfl rfl ?_
            refine AtL.done ?_
            refine At.seq ?_
            refine At.seq ?_
            refine At.region ?_
            refine AtL.move (.inl rfl) rfl rfl ?_
            refine AtL.move (.inl rfl) rfl rfl ?_
            refine AtL.lenL Tryz.underlying23 (.inl rfl) rfl rfl ?_
            refine AtL.lss (.inl rfl) rfl rfl rfl ?_
            refine AtL.done ?_
            refine At.cond rfl ?_ ?_
            · intro hc8
              have hc8 : (n : Int) < (ns.length : Int) := of_decide_eq_true hc8
              refine At.region ?_
              refine AtL.move (.inl rfl) rfl rfl ?_
              refine AtL.move (.inl rfl) rfl rfl ?_
              refine AtL.indexL n (Rd.skip 8 h2) Tryz.underlying23 tf_sz3 (.inl rfl) rfl rfl rfl rfl (by omega) ?_
              refine AtL.load (v := .int .i64 (ns.getD n 0)) tf_flat3 (.inl rfl) rfl rfl (Rd.cell0 (Rd.skip 8 h2) (getD_some 0 (by omega)) rfl) ?_
              refine AtL.move (.inl rfl) rfl rfl ?_
              refine AtL.lenL Tryz.underlying34 (.inl rfl) rfl rfl ?_
              refine AtL.add (z := (P9.2.1.length : Int) + 1) (.inl rfl) rfl rfl rfl (w64 (by omega) (by omega)) ?_
              refine AtL.call tf_body13 (.inl rfl) rfl rfl (pick_ok (ns.getD n 0) ((P9.2.1.length : Int) + 1) (by omega)) ?_
              rintro _ _ ⟨rfl, rfl⟩
              refine AtL.assign (.inl rfl) rfl rfl ?_
              refine AtL.done ?_
              have hpk9 := pick_bd28 (ns.getD n 0) (P9.2.1.length + 1) (by omega)
              refine At.seq ?_
              refine At.region ?_
              refine AtL.move (.inl rfl) rfl rfl ?_
              refine AtL.move (.inl rfl) rfl rfl ?_
              refine AtL.move (.inl rfl) rfl rfl ?_
              refine AtL.move (.inl rfl) rfl rfl ?_
              have hleo132 := Own.le_cap hq
              refine AtL.sliceO 0 (Int.toNat (pick (ns.getD n 0) ((P9.2.1.length : Int) + 1))) P9.2.2.2 hq rfl (evBound_some rfl (by omega)) rfl (by intro h; cases h) (by omega) (by omega) (by omega) (Nat.le_refl _) Tryz.underlying34 tf_sz5 (.inl rfl) rfl rfl ?_
              intro A130 C131 o132
              clear hleo132
              have hlo132 : (subl P9.2.1 0 (Int.toNat (pick (ns.getD n 0) ((P9.2.1.length : Int) + 1)))).length = (Int.toNat (pick (ns.getD n 0) ((P9.2.1.length : Int) + 1))) - 0 := subl_len (by omega)
              refine AtL.move (.inl rfl) rfl rfl ?_
              have hOk9 : OkP sd (P9.1 ++ (subl P9.2.1 0 (Int.toNat (pick (ns.getD n 0) ((P9.2.1.length : Int) + 1))))) := by have h9 := hOk; rw [← hpq, show P9.2.1 = (subl P9.2.1 0 (Int.toNat (pick (ns.getD n 0) ((P9.2.1.length : Int) + 1)))) ++ P9.2.1.drop ((subl P9.2.1 0 (Int.toNat (pick (ns.getD n 0) ((P9.2.1.length : Int) + 1)))).length) from (by rw [subl_len28]), ← List.append_assoc] at h9; exact h9.left
              obtain ⟨outs133, hpu134, hou135⟩ := push_at (wh := wh) (now := (n : Int)) hOk9
              refine AtL.pick (H' := [(c, .cells #[.int .i64 1, .int .i64 1000, .int .i64 1048576, .int .i64 1, .map (some mb)] 64 (0, 0))] :: [(mb, mapG kyI Lk.v K (0 + 1))] :: linksS K :: g.s :: segsOf Y :: t125.s :: ch126.s :: y.s :: H) [2, 3, 4, 0, 1, 5, 6, 7] 8 rfl rfl ?_
              refine AtL.call tf_body14 (.inl rfl) rfl rfl (bpushN (e := 0) (cl := false) (outs := outs133) (x := strP sd wh P9.1) (x' := strP sd (max wh (n : Int)) (P9.1 ++ (subl P9.2.1 0 (Int.toNat (pick (ns.getD n 0) ((P9.2.1.length : Int) + 1)))))) (sz := P9.1.length) (sz2 := (P9.1 ++ (subl P9.2.1 0 (Int.toNat (pick (ns.getD n 0) ((P9.2.1.length : Int) + 1))))).length) (P2 := ([(1, (.str (strP sd (max wh (n : Int)) (P9.1 ++ (subl P9.2.1 0 (Int.toNat (pick (ns.getD n 0) ((P9.2.1.length : Int) + 1)))))) (P9.1 ++ (subl P9.2.1 0 (Int.toNat (pick (ns.getD n 0) ((P9.2.1.length : Int) + 1))))).length))] : List (Int × LkV))) (P := ([(1, (.str (strP sd wh P9.1) P9.1.length))] : List (Int × LkV))) (by omega) hK rfl (o132.rd (i := 2) rfl) (show inT (n : Int) from (by unfold inT; omega)) (by omega) rfl (by omega) hpu134 (by rw [List.length_append]) rfl) ?_
              rintro _ _ ⟨o136, ys137, K138, ho139, hys140, hK141, rfl, rfl⟩
              have o136n : o136.l.length ≤ 20000 := by have h9 := congrArg List.length hou135; rw [List.length_append] at h9; have h8 := (frF_keep (m := 65535) (by decide) (DP sd (P9.1 ++ (subl P9.2.1 0 (Int.toNat (pick (ns.getD n 0) ((P9.2.1.length : Int) + 1))))))).2.2; have h7 := DP_len sd (P9.1 ++ (subl P9.2.1 0 (Int.toNat (pick (ns.getD n 0) ((P9.2.1.length : Int) + 1))))); have h6 := congrArg List.length hys140; rw [List.length_map] at h6; rw [ho139, List.length_map]; rw [List.length_append] at h7; omega
              refine AtL.move (.inl rfl) rfl rfl ?_
              refine AtL.extract (.inl rfl) rfl rfl rfl ?_
              refine AtL.extract (.inl rfl) rfl rfl rfl ?_
              refine AtL.assign (.inl rfl) rfl rfl ?_
              refine AtL.assign (.inl rfl) rfl rfl ?_
              refine AtL.done ?_
              refine At.seq ?_
              refine At.seq ?_
              refine At.region ?_
              refine AtL.move (.inl rfl) rfl rfl ?_
              refine AtL.nei (.inl rfl) rfl rfl rfl ?_
              refine AtL.done ?_
              refine At.condF rfl ?_
              refine At.skip ?_
              refine At.seq ?_
              refine At.seq ?_
              refine At.region ?_
              refine AtL.assign (.inl rfl) rfl rfl ?_
              refine AtL.done ?_
              refine At.block ?_
              refine At.loop2 (fun (j : Nat) (g2 : Sl tyL 34) => [(1, .slice A l.length C), (2, .slice Ac ns.length Cc), (7, .bool true), (8, .pointer (some ⟨c, 0, none⟩)), (10, .int .i64 1), (12, ch126.v), (13, .slice P9.2.2.1 P9.2.1.length P9.2.2.2), (14, .slice y.A y.l.length y.C), (16, .slice g2.A g2.l.length g2.C), (17, .int .i64 (n : Int)), (18, .int .i64 (pick (ns.getD n 0) ((P9.2.1.length : Int) + 1))), (19, .slice o136.A o136.l.length o136.C), (21, .int .i64 (j : Int))]) (fun (j : Nat) (g2 : Sl tyL 34) => o136.s :: segsOf ys137 :: [(c, .cells #[.int .i64 1, .int .i64 1000, .int .i64 1048576, .int .i64 1, .map (some mb)] 64 (0, 0))] :: [(mb, mapG kyI Lk.v K138 (0 + 1))] :: linksS K138 :: g2.s :: segsOf Y :: t125.s :: ch126.s :: y.s :: H) (fun (j : Nat) (g2 : Sl tyL 34) => j ≤ o136.l.length ∧ g2.l = g.l ++ (ys137.take j).map Sl.v) (fun (j : Nat) (g2 : Sl tyL 34) => o136.l.length - j) 0 g (⟨Nat.zero_le _, by rw [List.take_zero, List.map_nil, List.append_nil]⟩) ⟨rfl, rfl, rfl, rfl, rfl, rfl, rfl, rfl, rfl, rfl, rfl, rfl, rfl, trivial⟩ rfl ?_
              rintro j g2 ⟨hj, hg2⟩ ihL3
              have hg2c := Own.cap_le g2.own
              have hg2l : g2.l.length ≤ 40000 := by rw [hg2, List.length_append, List.length_map, List.length_take]; have h9 := Nat.min_le_left j ys137.length; omega
              refine At.seq ?_
              refine At.seq ?_
              refine At.region ?_
              refine AtL.move (.inl rfl) rfl rfl ?_
              refine AtL.move (.inl rfl) rfl rfl ?_
              refine AtL.lenL Tryz.underlying37 (.inl rfl) rfl rfl ?_
              refine AtL.lss (.inl rfl) rfl rfl rfl ?_
              refine AtL.done ?_
              refine At.cond rfl ?_ ?_
              · intro hc10
                have hc10 : (j : Int) < (o136.l.length : Int) := of_decide_eq_true hc10
                refine At.skip ?_
                refine At.seq ?_
                refine At.block ?_
                refine At.region ?_
                refine AtL.move (.inl rfl) rfl rfl ?_
                refine AtL.move (.inl rfl) rfl rfl ?_
                refine AtL.move (.inl rfl) rfl rfl ?_
                refine AtL.indexL j (o136.own.rd (i := 0) rfl) Tryz.underlying37 tf_sz44 (.inl rfl) rfl rfl rfl rfl (by omega) ?_
                refine AtL.fieldAddr tf_fo44_3 (.inl rfl) rfl rfl ?_
                refine AtL.load (v := .slice ((o136.l.getD j ((0, 0, [], [], 0, ⟨none, 0, []⟩, ⟨none, 0, []⟩) : Int × Int × List UInt8 × List UInt8 × Int × Vs (List UInt8 × List UInt8) × Vs UInt8)).2.2.2.2.2.2.A) ((o136.l.getD j ((0, 0, [], [], 0, ⟨none, 0, []⟩, ⟨none, 0, []⟩) : Int × Int × List UInt8 × List UInt8 × Int × Vs (List UInt8 × List UInt8) × Vs UInt8)).2.2.2.2.2.2.l).length ((o136.l.getD j ((0, 0, [], [], 0, ⟨none, 0, []⟩, ⟨none, 0, []⟩) : Int × Int × List UInt8 × List UInt8 × Int × Vs (List UInt8 × List UInt8) × Vs UInt8)).2.2.2.2.2.2.C)) tf_flat34 (.inl rfl) rfl rfl (Rd.cell_at (o136.own.rd (i := 0) rfl) (j := 6) (getD_some ((0, 0, [], [], 0, ⟨none, 0, []⟩, ⟨none, 0, []⟩) : Int × Int × List UInt8 × List UInt8 × Int × Vs (List UInt8 × List UInt8) × Vs UInt8) (by omega)) rfl) ?_
                refine AtL.buildSlice (cs := [.slice ((o136.l.getD j ((0, 0, [], [], 0, ⟨none, 0, []⟩, ⟨none, 0, []⟩) : Int × Int × List UInt8 × List UInt8 × Int × Vs (List UInt8 × List UInt8) × Vs UInt8)).2.2.2.2.2.2.A) ((o136.l.getD j ((0, 0, [], [], 0, ⟨none, 0, []⟩, ⟨none, 0, []⟩) : Int × Int × List UInt8 × List UInt8 × Int × Vs (List UInt8 × List UInt8) × Vs UInt8)).2.2.2.2.2.2.l).length ((o136.l.getD j ((0, 0, [], [], 0, ⟨none, 0, []⟩, ⟨none, 0, []⟩) : Int × Int × List UInt8 × List UInt8 × Int × Vs (List UInt8 × List UInt8) × Vs UInt8)).2.2.2.2.2.2.C)]) Tryz.underlying22 tf_zero34 tf_sz34 rfl rfl (.inl rfl) rfl rfl rfl ?_
                intro b142
                refine AtL.own1 tyL (l := ([(⟨(o136.l.getD j ((0, 0, [], [], 0, ⟨none, 0, []⟩, ⟨none, 0, []⟩) : Int × Int × List UInt8 × List UInt8 × Int × Vs (List UInt8 × List UInt8) × Vs UInt8)).2.2.2.2.2.2.A, (o136.l.getD j ((0, 0, [], [], 0, ⟨none, 0, []⟩, ⟨none, 0, []⟩) : Int × Int × List UInt8 × List UInt8 × Int × Vs (List UInt8 × List UInt8) × Vs UInt8)).2.2.2.2.2.2.C, (o136.l.getD j ((0, 0, [], [], 0, ⟨none, 0, []⟩, ⟨none, 0, []⟩) : Int × Int × List UInt8 × List UInt8 × Int × Vs (List UInt8 × List UInt8) × Vs UInt8)).2.2.2.2.2.2.l⟩ : Bs)] : List Bs)) rfl rfl (by first | decide | simp) ?_
                intro s143 o144
                refine AtL.append (l := g2.l) (news := [(⟨(o136.l.getD j ((0, 0, [], [], 0, ⟨none, 0, []⟩, ⟨none, 0, []⟩) : Int × Int × List UInt8 × List UInt8 × Int × Vs (List UInt8 × List UInt8) × Vs UInt8)).2.2.2.2.2.2.A, (o136.l.getD j ((0, 0, [], [], 0, ⟨none, 0, []⟩, ⟨none, 0, []⟩) : Int × Int × List UInt8 × List UInt8 × Int × Vs (List UInt8 × List UInt8) × Vs UInt8)).2.2.2.2.2.2.C, (o136.l.getD j ((0, 0, [], [], 0, ⟨none, 0, []⟩, ⟨none, 0, []⟩) : Int × Int × List UInt8 × List UInt8 × Int × Vs (List UInt8 × List UInt8) × Vs UInt8)).2.2.2.2.2.2.l⟩ : Bs)]) 6 tf_el22 rfl g2.own (o144.rd (i := 0) rfl) (by first | omega | (simp only [List.length_append, List.length_cons, List.length_nil]; omega) | (simp; done) | (simp; omega)) (.inl rfl) rfl rfl rfl ?_
                intro A145 C146 s147 o148
                refine AtL.assign (.inl rfl) rfl rfl ?_
                refine AtL.done ?_
                refine At.inBlock ?_
                refine At.region ?_
                refine AtL.move (.inl rfl) rfl rfl ?_
                refine AtL.add (z := (j : Int) + 1) (.inl rfl) rfl rfl rfl (w64 (by omega) (by omega)) ?_
                refine AtL.assign (.inl rfl) rfl rfl ?_
                refine AtL.done ?_
                refine At.pick (H' := o136.s :: segsOf ys137 :: [(c, .cells #[.int .i64 1, .int .i64 1000, .int .i64 1048576, .int .i64 1, .map (some mb)] 64 (0, 0))] :: [(mb, mapG kyI Lk.v K138 (0 + 1))] :: linksS K138 :: s147 :: segsOf Y :: t125.s :: ch126.s :: y.s :: H) [1, 2, 3, 4, 5, 6, 7, 8, 9, 10] 11 rfl rfl ?_
                refine ihL3 (j + 1) (⟨A145, C146, g2.l ++ ([(⟨(o136.l.getD j ((0, 0, [], [], 0, ⟨none, 0, []⟩, ⟨none, 0, []⟩) : Int × Int × List UInt8 × List UInt8 × Int × Vs (List UInt8 × List UInt8) × Vs UInt8)).2.2.2.2.2.2.A, (o136.l.getD j ((0, 0, [], [], 0, ⟨none, 0, []⟩, ⟨none, 0, []⟩) : Int × Int × List UInt8 × List UInt8 × Int × Vs (List UInt8 × List UInt8) × Vs UInt8)).2.2.2.2.2.2.C, (o136.l.getD j ((0, 0, [], [], 0, ⟨none, 0, []⟩, ⟨none, 0, []⟩) : Int × Int × List UInt8 × List UInt8 × Int × Vs (List UInt8 × List UInt8) × Vs UInt8)).2.2.2.2.2.2.l⟩ : Bs)]), s147, o148⟩) (⟨by omega, by dsimp only; rw [hg2, takeV28 ho139 (by omega), ← List.append_assoc]⟩) (by omega) _ ?_
                exact ⟨rfl, rfl, rfl, rfl, rfl, rfl, rfl, rfl, (by first | rfl | exact slLen (by simp []) | exact intEq (by omega) | exact intEq (by simp []) | exact slLen (by simp []; omega)), rfl, rfl, rfl, (by first | rfl | exact slLen (by simp []) | exact intEq (by omega) | exact intEq (by simp []) | exact slLen (by simp []; omega)), trivial⟩
              · intro hc10
                have hc10 : ¬ ((j : Int) < (o136.l.length : Int)) := of_decide_eq_false hc10
                refine At.exit rfl ?_
                refine At.region ?_
                refine AtL.move (.inl rfl) rfl rfl ?_
                refine AtL.move (.inl rfl) rfl rfl ?_
                have hleo151 := Own.le_cap hq
                refine AtL.sliceO (Int.toNat (pick (ns.getD n 0) ((P9.2.1.length : Int) + 1))) P9.2.1.length P9.2.2.2 hq (evBound_some rfl (by omega)) rfl rfl (by intro h; cases h) (by omega) (by omega) (by omega) (Nat.le_refl _) Tryz.underlying34 tf_sz5 (.inl rfl) rfl rfl ?_
                intro A149 C150 o151
                clear hleo151
                have hlo151 : (subl P9.2.1 (Int.toNat (pick (ns.getD n 0) ((P9.2.1.length : Int) + 1))) P9.2.1.length).length = P9.2.1.length - (Int.toNat (pick (ns.getD n 0) ((P9.2.1.length : Int) + 1))) := subl_len (by omega)
                refine AtL.assign (.inl rfl) rfl rfl ?_
                refine AtL.done ?_
                refine At.inBlock ?_
                refine At.region ?_
                refine AtL.move (.inl rfl) rfl rfl ?_
                refine AtL.add (z := (n : Int) + 1) (.inl rfl) rfl rfl rfl (w64 (by omega) (by omega)) ?_
                refine AtL.assign (.inl rfl) rfl rfl ?_
                refine AtL.done ?_
                refine At.pick (H' := g2.s :: segsOf Y :: segsOf ys137 :: [(c, .cells #[.int .i64 1, .int .i64 1000, .int .i64 1048576, .int .i64 1, .map (some mb)] 64 (0, 0))] :: [(mb, mapG kyI Lk.v K138 (0 + 1))] :: linksS K138 :: t125.s :: ch126.s :: y.s :: H) [5, 6, 1, 2, 3, 4, 7, 8, 9] 10 rfl rfl ?_
                refine At.flat (H' := g2.s :: segsOf (Y ++ ys137) :: [(c, .cells #[.int .i64 1, .int .i64 1000, .int .i64 1048576, .int .i64 1, .map (some mb)] 64 (0, 0))] :: [(mb, mapG kyI Lk.v K138 (0 + 1))] :: linksS K138 :: t125.s :: ch126.s :: y.s :: H) (List.Perm.of_eq (by simp [segs_app, List.append_assoc])) ?_
                refine ihL2 (n + 1) ((P9.1 ++ (subl P9.2.1 0 (Int.toNat (pick (ns.getD n 0) ((P9.2.1.length : Int) + 1))))), subl P9.2.1 (Int.toNat (pick (ns.getD n 0) ((P9.2.1.length : Int) + 1))) P9.2.1.length, A149, C150) K138 (max wh (n : Int)) g2 (Y ++ ys137) (⟨by omega, by dsimp only; rw [List.append_assoc, ← hpq]; congr 1; exact subl_two28 (by omega), o151, hK141, ⟨by omega, by omega⟩, by rw [List.map_append, hY, hys140]; exact hou135.symm, by rw [hg2, hg, List.take_of_length_le (by have h9 := congrArg List.length ho139; rw [List.length_map] at h9; omega), List.map_append], fun h9 => by exact sublast28 (by omega)⟩) (by omega) _ ?_
                exact ⟨rfl, rfl, rfl, rfl, rfl, rfl, (by first | rfl | exact slLen (by simp []) | exact intEq (by omega) | exact intEq (by simp []) | exact slLen (by simp []; omega)), rfl, (by first | rfl | exact slLen (by simp []) | exact intEq (by omega) | exact intEq (by simp []) | exact slLen (by simp []; omega)), (by first | rfl | exact slLen (by simp []) | exact intEq (by omega) | exact intEq (by simp []) | exact slLen (by simp []; omega)), trivial⟩
            · intro hc8
              have hc8 : ¬ ((n : Int) < (ns.length : Int)) := of_decide_eq_false hc8
              refine At.skip ?_
              refine At.seq ?_
              refine At.region ?_
              refine AtL.move (.inl rfl) rfl rfl ?_
              refine AtL.move (.inl rfl) rfl rfl ?_
              refine AtL.move (.inl rfl) rfl rfl ?_
              refine AtL.move (.inl rfl) rfl rfl ?_
              have hleo154 := Own.le_cap hq
              refine AtL.sliceO 0 P9.2.1.length P9.2.2.2 hq rfl (evBound_some rfl rfl) rfl (by intro h; cases h) (by omega) (by omega) (by omega) (Nat.le_refl _) Tryz.underlying34 tf_sz5 (.inl rfl) rfl rfl ?_
              intro A152 C153 o154
              clear hleo154
              have hlo154 : (subl P9.2.1 0 P9.2.1.length).length = P9.2.1.length - 0 := subl_len (by omega)
              refine AtL.move (.inl rfl) rfl rfl ?_
              have hOk9 : OkP sd (P9.1 ++ (subl P9.2.1 0 P9.2.1.length)) := by have h9 := hOk; rw [← hpq, show P9.2.1 = (subl P9.2.1 0 P9.2.1.length) ++ P9.2.1.drop ((subl P9.2.1 0 P9.2.1.length).length) from (by rw [subl_len28]), ← List.append_assoc] at h9; exact h9.left
              obtain ⟨outs155, hpu156, hou157⟩ := push_at (wh := wh) (now := (n : Int)) hOk9
              refine AtL.pick (H' := [(c, .cells #[.int .i64 1, .int .i64 1000, .int .i64 1048576, .int .i64 1, .map (some mb)] 64 (0, 0))] :: [(mb, mapG kyI Lk.v K (0 + 1))] :: linksS K :: g.s :: segsOf Y :: t125.s :: ch126.s :: y.s :: H) [2, 3, 4, 0, 1, 5, 6, 7] 8 rfl rfl ?_
              refine AtL.call tf_body14 (.inl rfl) rfl rfl (bpushN (e := 0) (cl := false) (outs := outs155) (x := strP sd wh P9.1) (x' := strP sd (max wh (n : Int)) (P9.1 ++ (subl P9.2.1 0 P9.2.1.length))) (sz := P9.1.length) (sz2 := (P9.1 ++ (subl P9.2.1 0 P9.2.1.length)).length) (P2 := ([(1, (.str (strP sd (max wh (n : Int)) (P9.1 ++ (subl P9.2.1 0 P9.2.1.length))) (P9.1 ++ (subl P9.2.1 0 P9.2.1.length)).length))] : List (Int × LkV))) (P := ([(1, (.str (strP sd wh P9.1) P9.1.length))] : List (Int × LkV))) (by omega) hK rfl (o154.rd (i := 2) rfl) (show inT (n : Int) from (by unfold inT; omega)) (by omega) rfl (by omega) hpu156 (by rw [List.length_append]) rfl) ?_
              rintro _ _ ⟨o158, ys159, K160, ho161, hys162, hK163, rfl, rfl⟩
              have o158n : o158.l.length ≤ 20000 := by have h9 := congrArg List.length hou157; rw [List.length_append] at h9; have h8 := (frF_keep (m := 65535) (by decide) (DP sd (P9.1 ++ (subl P9.2.1 0 P9.2.1.length)))).2.2; have h7 := DP_len sd (P9.1 ++ (subl P9.2.1 0 P9.2.1.length)); have h6 := congrArg List.length hys162; rw [List.length_map] at h6; rw [ho161, List.length_map]; rw [List.length_append] at h7; omega
              refine AtL.move (.inl rfl) rfl rfl ?_
              refine AtL.extract (.inl rfl) rfl rfl rfl ?_
              refine AtL.extract (.inl rfl) rfl rfl rfl ?_
              refine AtL.assign (.inl rfl) rfl rfl ?_
              refine AtL.assign (.inl rfl) rfl rfl ?_
              refine AtL.done ?_
              refine At.seq ?_
              refine At.seq ?_
              refine At.region ?_
              refine AtL.move (.inl rfl) rfl rfl ?_
              refine AtL.nei (.inl rfl) rfl rfl rfl ?_
              refine AtL.done ?_
              refine At.condF rfl ?_
              refine At.skip ?_
              refine At.seq ?_
              refine At.seq ?_
              refine At.region ?_
              refine AtL.assign (.inl rfl) rfl rfl ?_
              refine AtL.done ?_
              refine At.block ?_
              refine At.loop2 (fun (j : Nat) (g2 : Sl tyL 34) => [(1, .slice A l.length C), (2, .slice Ac ns.length Cc), (7, .bool true), (8, .pointer (some ⟨c, 0, none⟩)), (10, .int .i64 1), (12, ch126.v), (13, .slice P9.2.2.1 P9.2.1.length P9.2.2.2), (14, .slice y.A y.l.length y.C), (16, .slice g2.A g2.l.length g2.C), (17, .int .i64 (n : Int)), (18, .int .i64 (P9.2.1.length : Int)), (19, .slice o158.A o158.l.length o158.C), (21, .int .i64 (j : Int))]) (fun (j : Nat) (g2 : Sl tyL 34) => o158.s :: segsOf ys159 :: [(c, .cells #[.int .i64 1, .int .i64 1000, .int .i64 1048576, .int .i64 1, .map (some mb)] 64 (0, 0))] :: [(mb, mapG kyI Lk.v K160 (0 + 1))] :: linksS K160 :: g2.s :: segsOf Y :: t125.s :: ch126.s :: y.s :: H) (fun (j : Nat) (g2 : Sl tyL 34) => j ≤ o158.l.length ∧ g2.l = g.l ++ (ys159.take j).map Sl.v) (fun (j : Nat) (g2 : Sl tyL 34) => o158.l.length - j) 0 g (⟨Nat.zero_le _, by rw [List.take_zero, List.map_nil, List.append_nil]⟩) ⟨rfl, rfl, rfl, rfl, rfl, rfl, rfl, rfl, rfl, rfl, rfl, rfl, rfl, trivial⟩ rfl ?_
              rintro j g2 ⟨hj, hg2⟩ ihL3
              have hg2c := Own.cap_le g2.own
              have hg2l : g2.l.length ≤ 40000 := by rw [hg2, List.length_append, List.length_map, List.length_take]; have h9 := Nat.min_le_left j ys159.length; omega
              refine At.seq ?_
              refine At.seq ?_
              refine At.region ?_
              refine AtL.move (.inl rfl) rfl rfl ?_
              refine AtL.move (.inl rfl) rfl rfl ?_
              refine AtL.lenL Tryz.underlying37 (.inl rfl) rfl rfl ?_
              refine AtL.lss (.inl rfl) rfl rfl rfl ?_
              refine AtL.done ?_
              refine At.cond rfl ?_ ?_
              · intro hc10
                have hc10 : (j : Int) < (o158.l.length : Int) := of_decide_eq_true hc10
                refine At.skip ?_
                refine At.seq ?_
                refine At.block ?_
                refine At.region ?_
                refine AtL.move (.inl rfl) rfl rfl ?_
                refine AtL.move (.inl rfl) rfl rfl ?_
                refine AtL.move (.inl rfl) rfl rfl ?_
                refine AtL.indexL j (o158.own.rd (i := 0) rfl) Tryz.underlying37 tf_sz44 (.inl rfl) rfl rfl rfl rfl (by omega) ?_
                refine AtL.fieldAddr tf_fo44_3 (.inl rfl) rfl rfl ?_
                refine AtL.load (v := .slice ((o158.l.getD j ((0, 0, [], [], 0, ⟨none, 0, []⟩, ⟨none, 0, []⟩) : Int × Int × List UInt8 × List UInt8 × Int × Vs (List UInt8 × List UInt8) × Vs UInt8)).2.2.2.2.2.2.A) ((o158.l.getD j ((0, 0, [], [], 0, ⟨none, 0, []⟩, ⟨none, 0, []⟩) : Int × Int × List UInt8 × List UInt8 × Int × Vs (List UInt8 × List UInt8) × Vs UInt8)).2.2.2.2.2.2.l).length ((o158.l.getD j ((0, 0, [], [], 0, ⟨none, 0, []⟩, ⟨none, 0, []⟩) : Int × Int × List UInt8 × List UInt8 × Int × Vs (List UInt8 × List UInt8) × Vs UInt8)).2.2.2.2.2.2.C)) tf_flat34 (.inl rfl) rfl rfl (Rd.cell_at (o158.own.rd (i := 0) rfl) (j := 6) (getD_some ((0, 0, [], [], 0, ⟨none, 0, []⟩, ⟨none, 0, []⟩) : Int × Int × List UInt8 × List UInt8 × Int × Vs (List UInt8 × List UInt8) × Vs UInt8) (by omega)) rfl) ?_
                refine AtL.buildSlice (cs := [.slice ((o158.l.getD j ((0, 0, [], [], 0, ⟨none, 0, []⟩, ⟨none, 0, []⟩) : Int × Int × List UInt8 × List UInt8 × Int × Vs (List UInt8 × List UInt8) × Vs UInt8)).2.2.2.2.2.2.A) ((o158.l.getD j ((0, 0, [], [], 0, ⟨none, 0, []⟩, ⟨none, 0, []⟩) : Int × Int × List UInt8 × List UInt8 × Int × Vs (List UInt8 × List UInt8) × Vs UInt8)).2.2.2.2.2.2.l).length ((o158.l.getD j ((0, 0, [], [], 0, ⟨none, 0, []⟩, ⟨none, 0, []⟩) : Int × Int × List UInt8 × List UInt8 × Int × Vs (List UInt8 × List UInt8) × Vs UInt8)).2.2.2.2.2.2.C)]) Tryz.underlying22 tf_zero34 tf_sz34 rfl rfl (.inl rfl) rfl rfl rfl ?_
                intro b164
                refine AtL.own1 tyL (l := ([(⟨(o158.l.getD j ((0, 0, [], [], 0, ⟨none, 0, []⟩, ⟨none, 0, []⟩) : Int × Int × List UInt8 × List UInt8 × Int × Vs (List UInt8 × List UInt8) × Vs UInt8)).2.2.2.2.2.2.A, (o158.l.getD j ((0, 0, [], [], 0, ⟨none, 0, []⟩, ⟨none, 0, []⟩) : Int × Int × List UInt8 × List UInt8 × Int × Vs (List UInt8 × List UInt8) × Vs UInt8)).2.2.2.2.2.2.C, (o158.l.getD j ((0, 0, [], [], 0, ⟨none, 0, []⟩, ⟨none, 0, []⟩) : Int × Int × List UInt8 × List UInt8 × Int × Vs (List UInt8 × List UInt8) × Vs UInt8)).2.2.2.2.2.2.l⟩ : Bs)] : List Bs)) rfl rfl (by first | decide | simp) ?_
                intro s165 o166
                refine AtL.append (l := g2.l) (news := [(⟨(o158.l.getD j ((0, 0, [], [], 0, ⟨none, 0, []⟩, ⟨none, 0, []⟩) : Int × Int × List UInt8 × List UInt8 × Int × Vs (List UInt8 × List UInt8) × Vs UInt8)).2.2.2.2.2.2.A, (o158.l.getD j ((0, 0, [], [], 0, ⟨none, 0, []⟩, ⟨none, 0, []⟩) : Int × Int × List UInt8 × List UInt8 × Int × Vs (List UInt8 × List UInt8) × Vs UInt8)).2.2.2.2.2.2.C, (o158.l.getD j ((0, 0, [], [], 0, ⟨none, 0, []⟩, ⟨none, 0, []⟩) : Int × Int × List UInt8 × List UInt8 × Int × Vs (List UInt8 × List UInt8) × Vs UInt8)).2.2.2.2.2.2.l⟩ : Bs)]) 6 tf_el22 rfl g2.own (o166.rd (i := 0) rfl) (by first | omega | (simp only [List.length_append, List.length_cons, List.length_nil]; omega) | (simp; done) | (simp; omega)) (.inl rfl) rfl rfl rfl ?_
                intro A167 C168 s169 o170
                refine AtL.assign (.inl rfl) rfl rfl ?_
                refine AtL.done ?_
                refine At.inBlock ?_
                refine At.region ?_
                refine AtL.move (.inl rfl) rfl rfl ?_
                refine AtL.add (z := (j : Int) + 1) (.inl rfl) rfl rfl rfl (w64 (by omega) (by omega)) ?_
                refine AtL.assign (.inl rfl) rfl rfl ?_
                refine AtL.done ?_
                refine At.pick (H' := o158.s :: segsOf ys159 :: [(c, .cells #[.int .i64 1, .int .i64 1000, .int .i64 1048576, .int .i64 1, .map (some mb)] 64 (0, 0))] :: [(mb, mapG kyI Lk.v K160 (0 + 1))] :: linksS K160 :: s169 :: segsOf Y :: t125.s :: ch126.s :: y.s :: H) [1, 2, 3, 4, 5, 6, 7, 8, 9, 10] 11 rfl rfl ?_
                refine ihL3 (j + 1) (⟨A167, C168, g2.l ++ ([(⟨(o158.l.getD j ((0, 0, [], [], 0, ⟨none, 0, []⟩, ⟨none, 0, []⟩) : Int × Int × List UInt8 × List UInt8 × Int × Vs (List UInt8 × List UInt8) × Vs UInt8)).2.2.2.2.2.2.A, (o158.l.getD j ((0, 0, [], [], 0, ⟨none, 0, []⟩, ⟨none, 0, []⟩) : Int × Int × List UInt8 × List UInt8 × Int × Vs (List UInt8 × List UInt8) × Vs UInt8)).2.2.2.2.2.2.C, (o158.l.getD j ((0, 0, [], [], 0, ⟨none, 0, []⟩, ⟨none, 0, []⟩) : Int × Int × List UInt8 × List UInt8 × Int × Vs (List UInt8 × List UInt8) × Vs UInt8)).2.2.2.2.2.2.l⟩ : Bs)]), s169, o170⟩) (⟨by omega, by dsimp only; rw [hg2, takeV28 ho161 (by omega), ← List.append_assoc]⟩) (by omega) _ ?_
                exact ⟨rfl, rfl, rfl, rfl, rfl, rfl, rfl, rfl, (by first | rfl | exact slLen (by simp []) | exact intEq (by omega) | exact intEq (by simp []) | exact slLen (by simp []; omega)), rfl, rfl, rfl, (by first | rfl | exact slLen (by simp []) | exact intEq (by omega) | exact intEq (by simp []) | exact slLen (by simp []; omega)), trivial⟩
              · intro hc10
                have hc10 : ¬ ((j : Int) < (o158.l.length : Int)) := of_decide_eq_false hc10
                refine At.exit rfl ?_
                refine At.region ?_
                refine AtL.move (.inl rfl) rfl rfl ?_
                refine AtL.move (.inl rfl) rfl rfl ?_
                have hleo173 := Own.le_cap hq
                refine AtL.sliceO P9.2.1.length P9.2.1.length P9.2.2.2 hq (evBound_some rfl rfl) rfl rfl (by intro h; cases h) (by omega) (by omega) (by omega) (Nat.le_refl _) Tryz.underlying34 tf_sz5 (.inl rfl) rfl rfl ?_
                intro A171 C172 o173
                clear hleo173
                have hlo173 : (subl P9.2.1 P9.2.1.length P9.2.1.length).length = P9.2.1.length - P9.2.1.length := subl_len (by omega)
                refine AtL.assign (.inl rfl) rfl rfl ?_
                refine AtL.done ?_
                refine At.inBlock ?_
                refine At.region ?_
                refine AtL.move (.inl rfl) rfl rfl ?_
                refine AtL.add (z := (n : Int) + 1) (.inl rfl) rfl rfl rfl (w64 (by omega) (by omega)) ?_
                refine AtL.assign (.inl rfl) rfl rfl ?_
                refine AtL.done ?_
                refine At.pick (H' := g2.s :: segsOf Y :: segsOf ys159 :: [(c, .cells #[.int .i64 1, .int .i64 1000, .int .i64 1048576, .int .i64 1, .map (some mb)] 64 (0, 0))] :: [(mb, mapG kyI Lk.v K160 (0 + 1))] :: linksS K160 :: t125.s :: ch126.s :: y.s :: H) [5, 6, 1, 2, 3, 4, 7, 8, 9] 10 rfl rfl ?_
                refine At.flat (H' := g2.s :: segsOf (Y ++ ys159) :: [(c, .cells #[.int .i64 1, .int .i64 1000, .int .i64 1048576, .int .i64 1, .map (some mb)] 64 (0, 0))] :: [(mb, mapG kyI Lk.v K160 (0 + 1))] :: linksS K160 :: t125.s :: ch126.s :: y.s :: H) (List.Perm.of_eq (by simp [segs_app, List.append_assoc])) ?_
                refine ihL2 (n + 1) ((P9.1 ++ (subl P9.2.1 0 P9.2.1.length)), subl P9.2.1 P9.2.1.length P9.2.1.length, A171, C172) K160 (max wh (n : Int)) g2 (Y ++ ys159) (⟨by omega, by dsimp only; rw [List.append_assoc, ← hpq]; congr 1; exact subl_two28 (by omega), o173, hK163, ⟨by omega, by omega⟩, by rw [List.map_append, hY, hys162]; exact hou157.symm, by rw [hg2, hg, List.take_of_length_le (by have h9 := congrArg List.length ho161; rw [List.length_map] at h9; omega), List.map_append], fun h9 => by exact sublast28 (by omega)⟩) (by omega) _ ?_
                exact ⟨rfl, rfl, rfl, rfl, rfl, rfl, (by first | rfl | exact slLen (by simp []) | exact intEq (by omega) | exact intEq (by simp []) | exact slLen (by simp []; omega)), rfl, (by first | rfl | exact slLen (by simp []) | exact intEq (by omega) | exact intEq (by simp []) | exact slLen (by simp []; omega)), (by first | rfl | exact slLen (by simp []) | exact intEq (by omega) | exact intEq (by simp []) | exact slLen (by simp []; omega)), trivial⟩
          · intro hc7
            have hc7 : ¬ ((n : Int) ≤ (ns.length : Int)) := of_decide_eq_false hc7
            refine At.exit rfl ?_
            refine At.seq ?_
            refine At.seq ?_
            refine At.region ?_
            refine AtL.assign (.inl rfl) rfl rfl ?_
            refine AtL.done ?_
            refine At.block ?_
            have hq0 : P9.2.1 = [] := hend (by omega)
            have hpt : P9.1 = t125.l := by rw [← hpq, hq0, List.append_nil]
            have hYm : Y.map (·.l) = (l.map (·.l)) := by rw [hY, hpt, hDP, want_fr _ hmA]
            have hgm : g.l.map (·.l) = (l.map (·.l)) := by rw [hg, List.map_map]; exact hYm
            have hgn : g.l.length = l.length := by have h9 := congrArg List.length hgm; rwa [List.length_map, List.length_map] at h9
            have helg : ∀ x ∈ g.l, Rd tyB w0 base (segsOf Y :: H) x.A x.C x.l := Sl.rdV (i := 0) hg rfl
            refine At.loop4 (fun (i : Nat) (K4 : List (Int × Lk × Nat)) (wv : List UInt8) (ga : Bool) => [(1, .slice A l.length C), (7, .bool true), (8, .pointer (some ⟨c, 0, none⟩)), (10, .int .i64 1), (12, ch126.v), (14, .slice y.A y.l.length y.C), (16, .slice g.A g.l.length g.C), (22, .int .i64 (i : Int))]) (fun (i : Nat) (K4 : List (Int × Lk × Nat)) (wv : List UInt8) (ga : Bool) => g.s :: segsOf Y :: [(c, .cells #[.int .i64 1, .int .i64 1000, .int .i64 1048576, .int .i64 1, .map (some mb)] 64 (0, 0))] :: [(mb, mapG kyI Lk.v K4 (0 + 1))] :: linksS K4 :: t125.s :: ch126.s :: y.s :: H) (fun (i : Nat) (K4 : List (Int × Lk × Nat)) (wv : List UInt8) (ga : Bool) => i ≤ g.l.length ∧ Cs K4 (0 + 1) 1 ([(1, (.str (ansP sd wh t125.l wv ga) P9.1.length))] : List (Int × LkV)) ∧ Car sd wv (swantF ((g.l.map (·.l)).take i)) ga ∧ wv.length ≤ 900 * i) (fun (i : Nat) (K4 : List (Int × Lk × Nat)) (wv : List UInt8) (ga : Bool) => g.l.length - i) 0 K [] false (⟨Nat.zero_le _, by rw [← ans_zero, ← hpt]; exact hK, Car.start sd, Nat.zero_le _⟩) ⟨rfl, rfl, rfl, rfl, rfl, rfl, rfl, rfl, trivial⟩ rfl ?_
            rintro i K4 wv ga ⟨hi4, hK4, hcar4, hwv⟩ ihL4
            refine At.seq ?_
            refine At.seq ?_
            refine At.region ?_
            refine AtL.move (.inl rfl) rfl rfl ?_
            refine AtL.move (.inl rfl) rfl rfl ?_
            refine AtL.lenL Tryz.underlying22 (.inl rfl) rfl rfl ?_
            refine AtL.lss (.inl rfl) rfl rfl rfl ?_
            refine AtL.done ?_
            refine At.cond rfl ?_ ?_
            · intro hc11
              have hc11 : (i : Int) < (g.l.length : Int) := of_decide_eq_true hc11
              refine At.skip ?_
              refine At.seq ?_
              refine At.block ?_
              refine At.seq ?_
              refine At.region ?_
              refine AtL.move (.inl rfl) rfl rfl ?_
              refine AtL.move (.inl rfl) rfl rfl ?_
              refine AtL.move (.inl rfl) rfl rfl ?_
              refine AtL.move (.inl rfl) rfl rfl ?_
              refine AtL.indexL i (g.own.rd (i := 0) rfl) Tryz.underlying22 tf_sz34 (.inl rfl) rfl rfl rfl rfl (by omega) ?_
              refine AtL.load (v := .slice ((g.l.getD i (⟨none, 0, []⟩ : Bs)).A) ((g.l.getD i (⟨none, 0, []⟩ : Bs)).l).length ((g.l.getD i (⟨none, 0, []⟩ : Bs)).C)) tf_flat34 (.inl rfl) rfl rfl (Rd.cell0 (g.own.rd (i := 0) rfl) (getD_some (⟨none, 0, []⟩ : Bs) (by omega)) rfl) ?_
              have hi5 : i < g.l.length := by omega
              have hmem9 : ((g.l.getD i (⟨none, 0, []⟩ : Bs)).l) ∈ (l.map (·.l)) := by rw [← hgm]; exact List.mem_map.2 ⟨_, getD_mem (by omega), rfl⟩
              have hml9 := hmA _ hmem9
              obtain ⟨wv174, ga175, han176, hcar177, hwl178⟩ := ans_step (wh := wh) (b := t125.l) hcar4 hml9 (by omega)
              refine AtL.pick (H' := [(c, .cells #[.int .i64 1, .int .i64 1000, .int .i64 1048576, .int .i64 1, .map (some mb)] 64 (0, 0))] :: [(mb, mapG kyI Lk.v K4 (0 + 1))] :: linksS K4 :: g.s :: segsOf Y :: t125.s :: ch126.s :: y.s :: H) [2, 3, 4, 0, 1, 5, 6, 7] 8 rfl rfl ?_
              refine AtL.call tf_body15 (.inl rfl) rfl rfl (banswer2 (slot := 0) (e := 0) (l := (g.l.getD i (⟨none, 0, []⟩ : Bs)).l) (cl := false) (x := ansP sd wh t125.l wv ga) (x' := ansP sd wh t125.l wv174 ga175) (sz := P9.1.length) (P2 := ([(1, (.str (ansP sd wh t125.l wv174 ga175) P9.1.length))] : List (Int × LkV))) (P := ([(1, (.str (ansP sd wh t125.l wv ga) P9.1.length))] : List (Int × LkV))) (by omega) hK4 rfl (Rd.pick [1] 5 rfl rfl (helg _ (getD_mem (l := g.l) (i := i) (d := (⟨none, 0, []⟩ : Bs)) (by omega)))) (by omega) (show wv.length ≤ 1073741824 by omega) han176 rfl) ?_
              rintro _ _ ⟨K179, hK180, rfl, rfl⟩
              refine AtL.nei (.inl rfl) rfl rfl rfl ?_
              refine AtL.done ?_
              refine At.condF rfl ?_
              refine At.skip ?_
              refine At.inBlock ?_
              refine At.region ?_
              refine AtL.move (.inl rfl) rfl rfl ?_
              refine AtL.add (z := (i : Int) + 1) (.inl rfl) rfl rfl rfl (w64 (by omega) (by omega)) ?_
              refine AtL.assign (.inl rfl) rfl rfl ?_
              refine AtL.done ?_
              refine At.pick (H' := g.s :: segsOf Y :: [(c, .cells #[.int .i64 1, .int .i64 1000, .int .i64 1048576, .int .i64 1, .map (some mb)] 64 (0, 0))] :: [(mb, mapG kyI Lk.v K179 (0 + 1))] :: linksS K179 :: t125.s :: ch126.s :: y.s :: H) [3, 4, 0, 1, 2, 5, 6, 7] 8 rfl rfl ?_
              refine ihL4 (i + 1) K179 wv174 ga175 (⟨by omega, hK180, by rw [take_succ28 hi5, swant_snoc]; exact hcar177, by omega⟩) (by omega) _ ?_
              exact ⟨rfl, rfl, rfl, rfl, rfl, rfl, rfl, (by first | rfl | exact slLen (by simp []) | exact intEq (by omega) | exact intEq (by simp []) | exact slLen (by simp []; omega)), trivial⟩
            · intro hc11
              have hc11 : ¬ ((i : Int) < (g.l.length : Int)) := of_decide_eq_false hc11
              refine At.exit rfl ?_
              refine At.seq ?_
              refine At.region ?_
              refine AtL.move (.inl rfl) rfl rfl ?_
              refine AtL.move (.inl rfl) rfl rfl ?_
              obtain ⟨xT181, hT182⟩ := ans_take (sd := sd) (wh := wh) (now := 100) (b := t125.l) (w := wv) (g := ga) (by omega)
              refine AtL.pick (H' := [(c, .cells #[.int .i64 1, .int .i64 1000, .int .i64 1048576, .int .i64 1, .map (some mb)] 64 (0, 0))] :: [(mb, mapG kyI Lk.v K4 (0 + 1))] :: linksS K4 :: g.s :: segsOf Y :: t125.s :: ch126.s :: y.s :: H) [2, 3, 4, 0, 1, 5, 6, 7] 8 rfl rfl ?_
              refine AtL.call tf_body16 (.inl rfl) rfl rfl (btake2 (m := 1048576) (r := wv) (cl := false) (x := (ansP sd wh t125.l wv ga)) (x' := (xT181 : StrV)) (P2 := ([(1, (.str (xT181 : StrV) P9.1.length))] : List (Int × LkV))) (P := ([(1, (.str (ansP sd wh t125.l wv ga) P9.1.length))] : List (Int × LkV))) (by omega) hK4 rfl (show inT 100 from (by unfold inT; omega)) (show wv.length ≤ 1073741824 by omega) hT182 rfl) ?_
              rintro _ _ ⟨⟨A186, C187, l188, s189, o190⟩, K183, ho185, hcs184, rfl, rfl⟩
              obtain rfl : wv = l188 := ho185.symm
              refine AtL.move (.inl rfl) rfl rfl ?_
              refine AtL.extract (.inl rfl) rfl rfl rfl ?_
              refine AtL.extract (.inl rfl) rfl rfl rfl ?_
              refine AtL.assign (.inl rfl) rfl rfl ?_
              refine AtL.assign (.inl rfl) rfl rfl ?_
              refine AtL.done ?_
              refine At.seq ?_
              refine At.region ?_
              refine AtL.move (.inl rfl) rfl rfl ?_
              refine AtL.move (.inl rfl) rfl rfl ?_
              have hcar5 : Car sd wv (swantF (l.map (·.l))) ga := by rw [List.take_of_length_le (by rw [List.length_map]; omega), hgm] at hcar4; exact hcar4
              obtain ⟨hs1, hs2⟩ := side_two hcar5 hx2
              have hxk : ch126.y.l.length = 0 := by rw [show ch126.y.l = ch126.p.k from rfl, hx2]; rfl
              refine AtL.pick (H' := ch126.s :: s189 :: [(c, .cells #[.int .i64 1, .int .i64 1000, .int .i64 1048576, .int .i64 1, .map (some mb)] 64 (0, 0))] :: [(mb, mapG kyI Lk.v K183 (0 + 1))] :: linksS K183 :: g.s :: segsOf Y :: t125.s :: y.s :: H) [7, 0, 1, 2, 3, 4, 5, 6, 8] 9 rfl rfl ?_
              refine AtL.callI (chn_b_Push ch126) (.inl rfl) rfl rfl rfl (chn_m_Push ch126) (chn_Push ch126 (l := wv) (o190.rd (i := 0) rfl) (by omega)) ?_
              rintro _ _ ⟨t191, ch192, ht193, hp194, hc195, rfl, rfl⟩
              have t191n : t191.l.length ≤ ch126.y.l.length + wv.length := by have h9 := chpush_len ch126.p wv; rw [ht193]; have h8 : ch126.p.k = ch126.y.l := rfl; rw [h8] at h9; omega
              try rw [chn_push_v hp194 hc195]
              have htx : t191.l = y.l := by rw [ht193, hs1, hyA]
              refine AtL.move (.inl rfl) rfl rfl ?_
              refine AtL.extract (.inl rfl) rfl rfl rfl ?_
              refine AtL.extract (.inl rfl) rfl rfl rfl ?_
              refine AtL.assign (.inl rfl) rfl rfl ?_
              refine AtL.assign (.inl rfl) rfl rfl ?_
              refine AtL.done ?_
              refine At.seq ?_
              refine At.region ?_
              refine AtL.move (.inl rfl) rfl rfl ?_
              refine AtL.move (.inl rfl) rfl rfl ?_
              refine AtL.move (.inr ⟨_, _, _, rfl, rfl, rfl, rfl⟩) rfl rfl ?_
              refine AtL.move (.inr ⟨_, _, _, rfl, rfl, rfl, rfl⟩) rfl rfl ?_
              refine AtL.call tf_body17 (.inr ⟨_, _, _, rfl, rfl, rfl, rfl⟩) rfl rfl (slists_ok (a := g.l) (b := l) (g.own.rd (i := 6) rfl) (fun x hx => Rd.pick [7] 10 rfl rfl (helg x hx)) (Rd.skip 10 h) (fun x hx => Rd.skip 10 (he x hx))) ?_
              rintro _ _ ⟨rfl, rfl⟩
              refine AtL.pickT (.inl rfl) rfl rfl rfl ?_
              refine AtL.move (.inl rfl) rfl rfl ?_
              refine AtL.join 3 (E' := [(184, .bool true), (14, .slice y.A y.l.length y.C), (25, .slice t191.A t191.l.length t191.C), (26, .int .i64 ((ch126.p.push wv).2.1))]) (H' := t191.s :: ch192.s :: s189 :: [(c, .cells #[.int .i64 1, .int .i64 1000, .int .i64 1048576, .int .i64 1, .map (some mb)] 64 (0, 0))] :: [(mb, mapG kyI Lk.v K183 (0 + 1))] :: linksS K183 :: g.s :: segsOf Y :: t125.s :: y.s :: H) (fun J => ?_) ?_
              · refine AtL.split (t := 181) rfl ?_ ?_
                · intro hs181
                  have hs181 : g.l.map (·.l) = l.map (·.l) := of_decide_eq_true hs181
                  refine AtL.move (.inr ⟨_, _, _, rfl, rfl, rfl, rfl⟩) rfl rfl ?_
                  refine AtL.eqi (.inr ⟨_, _, _, rfl, rfl, rfl, rfl⟩) rfl rfl rfl ?_
                  refine AtL.pickT (.inl rfl) rfl rfl rfl ?_
                  exact J _ (by exact ⟨rfl, rfl, rfl, rfl, trivial⟩)
                · intro hs181
                  have hs181 : ¬ (g.l.map (·.l) = l.map (·.l)) := of_decide_eq_false hs181
                  exfalso; revert hs181; first | decide | (simp; done) | (intro h9; exact absurd hgm h9) | (intro h9; exact absurd hs2 h9) | (intro h9; exact absurd htx h9) | (intro h9; simp [*] at h9; done)
              · skip
                refine AtL.move (.inl rfl) rfl rfl ?_
                refine AtL.move (.inr ⟨_, _, _, rfl, rfl, rfl, rfl⟩) rfl rfl ?_
                refine AtL.eqi (.inr ⟨_, _, _, rfl, rfl, rfl, rfl⟩) rfl rfl rfl ?_
                refine AtL.pickT (.inl rfl) rfl rfl rfl ?_
                refine AtL.move (.inl rfl) rfl rfl ?_
                refine AtL.join 4 (E' := [(193, .bool (decide (t191.l = y.l)))]) (H' := t191.s :: ch192.s :: s189 :: [(c, .cells #[.int .i64 1, .int .i64 1000, .int .i64 1048576, .int .i64 1, .map (some mb)] 64 (0, 0))] :: [(mb, mapG kyI Lk.v K183 (0 + 1))] :: linksS K183 :: g.s :: segsOf Y :: t125.s :: y.s :: H) (fun J => ?_) ?_
                · refine AtL.split (t := 189) rfl ?_ ?_
                  · intro hs189
                    have hs189 : ((ch126.p.push wv).2.1 : Int) = 0 := of_decide_eq_true hs189
                    refine AtL.move (.inr ⟨_, _, _, rfl, rfl, rfl, rfl⟩) rfl rfl ?_
                    refine AtL.move (.inr ⟨_, _, _, rfl, rfl, rfl, rfl⟩) rfl rfl ?_
                    refine AtL.call tf_body18 (.inr ⟨_, _, _, rfl, rfl, rfl, rfl⟩) rfl rfl (same_ok (l := t191.l) (l2 := y.l) (t191.own.rd (i := 0) rfl) (y.own.rd (i := 9) rfl)) ?_
                    rintro _ _ ⟨rfl, rfl⟩
                    refine AtL.pickT (.inl rfl) rfl rfl rfl ?_
                    exact J _ (by exact ⟨(boolIs (by clear J; first | (simp [hs189]; done) | (simp_all; done) | grind)), trivial⟩)
                  · intro hs189
                    have hs189 : ¬ (((ch126.p.push wv).2.1 : Int) = 0) := of_decide_eq_false hs189
                    exfalso; revert hs189; first | decide | (simp; done) | (intro h9; exact absurd hgm h9) | (intro h9; exact absurd hs2 h9) | (intro h9; exact absurd htx h9) | (intro h9; simp [*] at h9; done)
                · skip
                  refine AtL.assign (.inl rfl) rfl rfl ?_
                  refine AtL.done ?_
                  refine At.pick (H' := H) [] 10 rfl rfl ?_
                  exact At.ret Tryz.func3 rfl rfl (⟨by first | rfl | exact congrArg Value.bool (decide_eq_true htx) | (simp; done) | (simp; rfl), rfl⟩)
end Go.Proofs.YtbfabhdfmoiabaaGreatDoor
namespace Go.Proofs.YtbfabhdfmoiabaaGreatDoor
set_option linter.unusedVariables false
theorem returns_listed {H : Type} {enc : TypeId × Value → H} {a : Assume} {C : Checked} {os : Os} {f : FuncId} {fn : Func} {s : ChangeSpec} {conds : List PathCond} {apart fresh handsOn again : Bool} {X : World → Array Value → Prop}
    (hX : ∀ (w w' : World) (args : Array Value), w.heap = w'.heap → X w args → X w' args) (own : ownKnob C.prog.godebug = none) (started : os.Started) (noInit : C.prog.inits.idxOf? f = none) (hfn : C.prog.funcs[f]? = some fn)
    (wit : ∃ (w : World) (tape : Tape) (i : Input), w.os = os ∧ (w.forCall tape i).Shaped C.prog ∧ i.vars = [] ∧ Input.okWide C.prog (w.forCall tape i) .any w.heap.size f i ∧
      ((s.pre enc C.prog fn conds apart (w.forCall tape i).memory i.args ∧ X (w.forCall tape i).memory i.args) ∧ sizedMet enc C.prog fn (OpenSpec.ofChange s) apart (w.forCall tape i).memory i.args) ∧ a.holds C.prog (lone (Frame.enter C.prog f i.args .normal) [] (w.forCall tape i)))
    (con : ∀ (W : World) (base : Nat) (args : Array Value) (ds gs : List (DataW H)) (before : List MemPlace), (∀ (j : Nat) t v, fn.params[j]? = some t → args[j]? = some v → Value.okWide C.prog W .any base t v) → DataW.Whole enc C.prog fn.params.toList s.vars apart W args.toList ds gs before →
      conds.all (PathCond.test C.prog ⟨fn.params.toList, ds, s.plain.varTypes C.prog, gs⟩) = true → (DataW.weightsEach C.prog (fn.params.toList ++ s.plain.varTypes C.prog) (ds ++ gs)).all (· ≤ reachBytes) = true → X W args → W.ShapedOpen C.prog →
      Calls C.prog f args W fun e W' => ∃ v, e = .returned v ∧ s.post enc C.prog fn apart fresh handsOn again W args v W') :
    ReturnsInHanded a C os f .any (fun w args => (s.pre enc C.prog fn conds apart w args ∧ X w args) ∧ sizedMet enc C.prog fn (OpenSpec.ofChange s) apart w args) (s.post enc C.prog fn apart fresh handsOn again) := by
  refine returnsInHanded_of_calls own started noInit wit ?_
  rintro w tape i _ hsh _ ⟨_, _, _, fn', hfn', _, _, _, _, hval⟩ ⟨⟨⟨ds, gs, before, hw, hc⟩, hx⟩, hz⟩ _
  obtain rfl : fn' = fn := Option.some.inj (hfn'.symm.trans hfn)
  refine (con (w.forCall tape i) w.heap.size i.args ds gs before hval (DataW.Whole.of_heap (w' := w.forCall tape i) (by rfl) hw) hc (hz.weights hw) (hX _ _ _ (by rfl) hx) hsh).mono ?_
  rintro _ W' ⟨v, rfl, hp⟩
  exact ChangeSpec.post_blind hp
end Go.Proofs.YtbfabhdfmoiabaaGreatDoor
namespace Go.Proofs.YtbfabhdfmoiabaaGreatDoor
set_option linter.unusedVariables false
set_option linter.unusedSimpArgs false
set_option maxRecDepth 100000
def u8ren : Go.Shelf.Ren := ⟨fun _ => 0, fun | 5 => 5 | 119 => 238 | 138 => 240 | 139 => 241 | _ => 0, fun | 3 => 3 | 4 => 4 | _ => 0⟩
theorem tabs_of {W : World} (hsh : W.ShapedOpen Tryz.prog) {d1 d2 : DataW Unit} (h3 : Go.Lib.VarReads Tryz.prog W "unicode/utf8.first" d1) (h4 : Go.Lib.VarReads Tryz.prog W "unicode/utf8.acceptRanges" d2) (e1 : d1 = Go.Lib.firstData := by kernel_rfl) (e2 : d2 = Go.Lib.acceptData := by kernel_rfl) : Tabs W W.heap.size := by
  subst e1; subst e2
  obtain ⟨m, hm⟩ := cell_of_shapedOpen_int (P := Tryz.prog) (g := 0) (t := 3) (zero := #[.int .i64 0]) hsh (of_decide_eq_true (by kernel_rfl)) (by kernel_rfl) rfl (by kernel_rfl) (by kernel_rfl) Tryz.underlying3
  have hu := Go.Proofs.utf8Tabs_of_readsT (P := Tryz.prog) (ρ := u8ren) { t5 := Tryz.underlying5, t119 := Tryz.underlying238, t138 := Tryz.underlying240, t139 := Tryz.underlying241 } { n3 := by kernel_rfl, n4 := by kernel_rfl, y3 := by kernel_rfl, y4 := by kernel_rfl, c5 := by kernel_rfl, c119 := by kernel_rfl, c138 := by kernel_rfl } h3 h4
  have h1 : ∀ c, c < 256 → W.cell? ⟨3, c, none⟩ = some (.int .u8 (Lib.firstT c)) := hu.1
  have h2 : ∀ i, i < 16 → W.cell? ⟨4, 2 * i, none⟩ = some (.int .u8 (Lib.accLo i)) ∧ W.cell? ⟨4, 2 * i + 1, none⟩ = some (.int .u8 (Lib.accHi i)) := hu.2
  exact ⟨cell_skip (h1 0 (by decide)), cell_skip (h2 0 (by decide)).1, h1, cell_skip hm, ⟨m, hm⟩, h2⟩
end Go.Proofs.YtbfabhdfmoiabaaGreatDoor
namespace Go.Proofs.YtbfabhdfmoiabaaGreatDoor
set_option linter.unusedVariables false
set_option linter.unusedSimpArgs false
set_option maxRecDepth 100000
theorem seat_main : Tryz.prog.mainIs = some ((true, "4d7236934a5e150e4f60b1c5740cbdbb30286df2378f98f26f0a6889d248b4a5").1, (true, "4d7236934a5e150e4f60b1c5740cbdbb30286df2378f98f26f0a6889d248b4a5").2.toList) := by kernel_rfl
theorem seat_looks : true = Tryz.prog.looks [] := by kernel_rfl
end Go.Proofs.YtbfabhdfmoiabaaGreatDoor
namespace Go.Proofs.YtbfabhdfmoiabaaGreatDoor.pConnStreams
open Go.ChangeShapes Go.WideShapes Go.ChangeAt Go.RowKit Go.Deep
open Go.ChangeMaps (open_string shut_string)
set_option linter.unusedVariables false
theorem own : ownKnob Tryz.prog.godebug = none := by kernel_rfl
theorem laidOut : laidOutB Tryz.prog = true := by kernel_rfl
set_option maxRecDepth 100000 in
theorem lifted (os : Os) (started : os.Started) (H : Type) (enc : TypeId × Value → H) :
    ReturnsInHanded {} Tryz.checked os 3 .any (fun w args => (Rows.connStreamsSpec.pre enc Tryz.prog Tryz.f3 Rows.connStreamsRow.domain false w args ∧ laidMetH Tryz.prog [("math/bits.deBruijn32tab", Rows.laid_math_bits_deBruijn32tab), ("math/bits.deBruijn64tab", Rows.laid_math_bits_deBruijn64tab), ("internal/strconv.uint64pow10", Rows.laid_internal_strconv_uint64pow10), ("unicode/utf8.acceptRanges", Rows.laid_unicode_utf8_acceptRanges), ("strconv.ErrRange", Rows.laid_strconv_ErrRange), ("strconv.ErrSyntax", Rows.laid_strconv_ErrSyntax), ("unicode/utf8.first", Rows.laid_unicode_utf8_first)] w) ∧ sizedMet enc Tryz.prog Tryz.f3 (OpenSpec.ofChange Rows.connStreamsSpec) false w args) (Rows.connStreamsSpec.post enc Tryz.prog Tryz.f3 false true false false) := by
  refine returns_listed (C := Tryz.checked) (X := fun w _ => laidMetH Tryz.prog [("math/bits.deBruijn32tab", Rows.laid_math_bits_deBruijn32tab), ("math/bits.deBruijn64tab", Rows.laid_math_bits_deBruijn64tab), ("internal/strconv.uint64pow10", Rows.laid_internal_strconv_uint64pow10), ("unicode/utf8.acceptRanges", Rows.laid_unicode_utf8_acceptRanges), ("strconv.ErrRange", Rows.laid_strconv_ErrRange), ("strconv.ErrSyntax", Rows.laid_strconv_ErrSyntax), ("unicode/utf8.first", Rows.laid_unicode_utf8_first)] w) (fun _ _ _ hh h => h.of_heap hh) own started (by kernel_rfl) Tryz.func3
    (ChangeSpec.witness_shaped (enc := enc) (C := Tryz.checked) (os := os) (X := fun w _ => laidMetH Tryz.prog [("math/bits.deBruijn32tab", Rows.laid_math_bits_deBruijn32tab), ("math/bits.deBruijn64tab", Rows.laid_math_bits_deBruijn64tab), ("internal/strconv.uint64pow10", Rows.laid_internal_strconv_uint64pow10), ("unicode/utf8.acceptRanges", Rows.laid_unicode_utf8_acceptRanges), ("strconv.ErrRange", Rows.laid_strconv_ErrRange), ("strconv.ErrSyntax", Rows.laid_strconv_ErrSyntax), ("unicode/utf8.first", Rows.laid_unicode_utf8_first)] w) false (World.laidAll Tryz.prog os [("math/bits.deBruijn32tab", Rows.laid_math_bits_deBruijn32tab), ("math/bits.deBruijn64tab", Rows.laid_math_bits_deBruijn64tab), ("internal/strconv.uint64pow10", Rows.laid_internal_strconv_uint64pow10), ("unicode/utf8.acceptRanges", Rows.laid_unicode_utf8_acceptRanges), ("strconv.ErrRange", Rows.laid_strconv_ErrRange), ("strconv.ErrSyntax", Rows.laid_strconv_ErrSyntax), ("unicode/utf8.first", Rows.laid_unicode_utf8_first)]) #[.bool false, .slice none 0 0, .slice none 0 0] 8 (World.laidAll_os _ _ _) (World.shaped_of_ZipB (by kernel_rfl) (by kernel_rfl)) (by kernel_rfl) (by kernel_rfl) (by kernel_rfl) (by rw [MakeChecks.laidMetH_plain _ _ _ (by kernel_rfl)]; exact laidMet_laidAll _ (by kernel_rfl) (by kernel_rfl))) ?_
  intro W base args ds gs before hval0 hW hcnd hsz0 hlaid hsh
  have hlaid' : laidMet Tryz.prog [("math/bits.deBruijn32tab", Rows.laid_math_bits_deBruijn32tab), ("math/bits.deBruijn64tab", Rows.laid_math_bits_deBruijn64tab), ("internal/strconv.uint64pow10", Rows.laid_internal_strconv_uint64pow10), ("unicode/utf8.acceptRanges", Rows.laid_unicode_utf8_acceptRanges), ("strconv.ErrRange", Rows.laid_strconv_ErrRange), ("strconv.ErrSyntax", Rows.laid_strconv_ErrSyntax), ("unicode/utf8.first", Rows.laid_unicode_utf8_first)] W := hlaid
  have hTabs : Tabs W W.heap.size := tabs_of hsh (Go.Lib.laidMet.reads hlaid' (n := "unicode/utf8.first") (d := Rows.laid_unicode_utf8_first) (.tail _ (.tail _ (.tail _ (.tail _ (.tail _ (.tail _ (.head _)))))))) (Go.Lib.laidMet.reads hlaid' (n := "unicode/utf8.acceptRanges") (d := Rows.laid_unicode_utf8_acceptRanges) (.tail _ (.tail _ (.tail _ (.head _)))))
  have hsz : ∀ (j : Nat) t d, Tryz.f3.params.toList[j]? = some t → ds[j]? = some d → ∀ n ∈ d.weights Tryz.prog t, n ≤ 140737488351232 := fun j t d ht hd n hn => by
    have h1 := List.all_eq_true.1 hsz0 n (DataW.weights_mem_each (j := j) (t := t) (d := d) (by rw [List.getElem?_append_left (List.getElem?_eq_some_iff.1 ht).1]; exact ht) (by rw [List.getElem?_append_left (List.getElem?_eq_some_iff.1 hd).1]; exact hd) n hn)
    exact of_decide_eq_true h1
  have hval : ∀ (j : Nat) t v, Tryz.f3.params[j]? = some t → args[j]? = some v → Value.okWide Tryz.prog W .any base t v := hval0
  have hW' := hW
  obtain ⟨p, q, hA0, hV, rfl, hfz, hnd⟩ := hW
  have hA : DataW.TrodAll enc Tryz.prog W 0 (fun _ => true) true Tryz.f3.params.toList args.toList ds p := hA0
  rw [Tryz.params3] at hA hval hsz
  obtain ⟨v0, vs0, d0, ds0, p0, q0, hargs, rfl, rfl, h0, tr0⟩ := trodAll_cons hA
  obtain ⟨v1, vs1, d1, ds1, p1, q1, rfl, rfl, rfl, h1, tr1⟩ := trodAll_cons tr0
  obtain ⟨v2, vs2, d2, ds2, p2, q2, rfl, rfl, rfl, h2, tr2⟩ := trodAll_cons tr1
  obtain ⟨rfl, rfl, rfl⟩ := trodAll_nil tr2
  obtain rfl : args = #[v0, v1, v2] := by cases args; simp_all
  obtain ⟨rfl, rfl⟩ := trodVars_none hV
  have k0 := h0
  have lt0 : ∀ x ∈ p0, x.block < W.heap.size := by obtain ⟨m, hm⟩ := k0; exact DataW.trod_lt m _ _ _ hm
  obtain ⟨a0, rfl⟩ := arg_bool Tryz.underlying4 (hval 0 4 v0 rfl rfl) h0 (hsz 0 4 d0 rfl rfl)
  have k1 := h1
  have lt1 : ∀ x ∈ p1, x.block < W.heap.size := by obtain ⟨m, hm⟩ := k1; exact DataW.trod_lt m _ _ _ hm
  obtain ⟨A1, C1, l1, rfl, r1, b1, q1⟩ := arg_slice Tryz.underlying22 (by kernel_rfl) (by decide) 24 (by kernel_rfl) (Reads.slice Tryz.underlying34 (by kernel_rfl) (by decide) 1 (by kernel_rfl) (Reads.u8 Tryz.underlying5)) (hval 1 22 v1 rfl rfl) h1 (hsz 1 22 d1 rfl rfl)
  have k2 := h2
  have lt2 : ∀ x ∈ p2, x.block < W.heap.size := by obtain ⟨m, hm⟩ := k2; exact DataW.trod_lt m _ _ _ hm
  obtain ⟨A2, C2, l2, rfl, r2, b2, q2⟩ := arg_slice Tryz.underlying23 (by kernel_rfl) (by decide) 8 (by kernel_rfl) (Reads.int Tryz.underlying3) (hval 2 23 v2 rfl rfl) h2 (hsz 2 23 d2 rfl rfl)
  clear hA0 hval0
  refine (law_of (connstreams_ok (sd := a0) (l := l1) (ns := l2) r1 (fun x hx => (q1 x hx).1) r2)).mono fun e W' ⟨he, bel⟩ => ?_
  subst he
  exact ⟨_, rfl, _, _, _, [], _, [], hW', trodAll_mk1 (shut_bool Tryz.underlying4 _), (trodAll_cons_mk (Below.trod laidOut (by kernel_rfl) (of_decide_eq_true (by kernel_rfl)) k0 bel lt0) (trodAll_cons_mk (Below.trod laidOut (by kernel_rfl) (of_decide_eq_true (by kernel_rfl)) k1 bel lt1) (trodAll_cons_mk (Below.trod laidOut (by kernel_rfl) (of_decide_eq_true (by kernel_rfl)) k2 bel lt2) trodAll_mk0))), rfl, bel.frame _, fun h => by cases h⟩
theorem jf0 : (Rows.connStreamsRow.inPlace == Tryz.prog.inPlace 3) = true := by kernel_rfl
theorem jf1 : (Rows.connStreamsRow.unfollowed == Tryz.prog.unfollowed 3) = true := by kernel_rfl
theorem jf2 : (Rows.connStreamsRow.recurses == Tryz.prog.recurses 3) = true := by kernel_rfl
theorem jf3 : (Rows.connStreamsRow.named == Tryz.prog.varsNamed 3) = true := by kernel_rfl
theorem jall : joinedFacts Tryz.prog 3 Tryz.f3 Rows.connStreamsSpec Rows.connStreamsRow = true := by
  unfold joinedFacts
  rw [jf0, jf1, jf2, jf3]
  kernel_rfl
theorem over : Rows.connStreamsRow.holds Tryz.pinned (OpenSpec.ofChange Rows.connStreamsSpec) :=
  OpenClaim.holds_of_wide 3 Tryz.f3 rfl rfl rfl rfl rfl rfl rfl ⟨rfl, rfl, rfl, rfl, rfl⟩ rfl rfl rfl rfl rfl (by kernel_rfl) Tryz.func3 jall
    (of_decide_eq_true (by kernel_rfl)) (by unfold Func.isWrapper; first | (rw [if_pos (by decide +kernel)]; kernel_rfl) | (rw [if_neg (by decide +kernel)]; exact ⟨rfl, rfl⟩))
    (fun os started H enc _ => lifted os started H enc)
theorem pf0 : Rows.connStreamsRow.wfByText (OpenSpec.ofChange Rows.connStreamsSpec) = true := by kernel_rfl
theorem pf3 : false = Rows.connStreamsRow.goesBy Tryz.prog := by kernel_rfl
theorem proved : Rows.ConnStreamsCardSaid :=
  Claim7.holds_tied_plain_at .later [] [.data, .data, .data, .data, .sentinel, .sentinel, .pinned] true (true, "4d7236934a5e150e4f60b1c5740cbdbb30286df2378f98f26f0a6889d248b4a5") true
    over (fun _ h => by cases h) pf0 (fun _ h => by cases h) connStreams_row_tie rfl ⟨rfl, rfl⟩ seat_main rfl
    (fun f fn hf hfn => by
      obtain rfl : f = 3 := Option.some.inj ((show Tryz.prog.funcNamed "ostiary/ostiarylaw28.ConnStreams" = some 3 by kernel_rfl).symm.trans hf) |>.symm
      obtain rfl : fn = Tryz.f3 := (Option.some.inj (Tryz.func3.symm.trans hfn)).symm
      exact ⟨seat_looks, fun j t ht => by
        rw [Tryz.params3] at ht
        have hm : t ∈ ([4, 22, 23] : List Nat) := by simpa using Array.mem_of_getElem? ht
        have hall : (([4, 22, 23] : List Nat).all fun u => !Tryz.prog.wantsStandIn u) = true := by kernel_rfl
        exact (show Tryz.prog.wantsStandIn t = false by simpa using List.all_eq_true.1 hall t hm)⟩)
    pf3
end Go.Proofs.YtbfabhdfmoiabaaGreatDoor.pConnStreams
