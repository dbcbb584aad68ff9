/- Ages of messages. -/
import Derived.Test.YtlkdmbpbjhjkfaaDoorY3
namespace Go.Proofs.YtlkdmbpbjhjkfaaDoor
set_option linter.unusedVariables false
set_option linter.unusedSimpArgs false
set_option maxRecDepth 100000

def codeF (f : Int) : Int := IntKind.i64.wrap ((BitVec.ofInt IntKind.i64.bits f &&& BitVec.ofInt IntKind.i64.bits 15).toNat : Int)
def ttls (an : List (List UInt8 × Int × Int × Int × List UInt8)) : List Int := an.map fun x => max 0 x.2.2.2.1
theorem ttls_snoc (an : List (List UInt8 × Int × Int × Int × List UInt8)) (i : Nat) (h : i < an.length) : ttls (an.take (i + 1)) = ttls (an.take i) ++ [max 0 (an.getD i (([], 0, 0, 0, []) : List UInt8 × Int × Int × Int × List UInt8)).2.2.2.1] := by
  have h1 : an.take (i + 1) = an.take i ++ [an.getD i (([], 0, 0, 0, []) : List UInt8 × Int × Int × Int × List UInt8)] := by rw [List.take_succ_eq_append_getElem h]; simp [List.getD, h]
  rw [h1, ttls, ttls, List.map_append]; rfl
theorem ttls_len (an : List (List UInt8 × Int × Int × Int × List UInt8)) : (ttls an).length = an.length := by simp [ttls]
/-- What is told of the age: for how long each answer may be kept, and what soa tells. -/
def AgeP (c : Int) (an ns : List (List UInt8 × Int × Int × Int × List UInt8)) (z : Int) : Prop :=
  ((c = 0 ∨ c = 3) ∧ ∃ s : List Int, (s = [] ∨ ∃ y, 0 ≤ y ∧ (ns = [] → y = 0) ∧ s = [y]) ∧ ((c = 3 ∨ an = []) ∨ s = []) ∧ z ∈ ttls an ++ s ∧ ∀ u ∈ ttls an ++ s, z ≤ u) ∨ ((¬ c = 0 ∧ ¬ c = 3) ∧ z = 0)
theorem AgeP.pos {c : Int} {an ns : List (List UInt8 × Int × Int × Int × List UInt8)} {z : Int} (h : AgeP c an ns z) : 0 ≤ z := by
  rcases h with ⟨_, s, hs, _, hz, _⟩ | ⟨_, rfl⟩
  · rcases List.mem_append.1 hz with h | h
    · obtain ⟨x, _, rfl⟩ := List.mem_map.1 h; omega
    · rcases hs with rfl | ⟨y, hy, _, rfl⟩
      · cases h
      · rw [List.mem_singleton.1 h]; exact hy
  · omega
theorem AgeP.zero {c : Int} {an ns : List (List UInt8 × Int × Int × Int × List UInt8)} {z : Int} (h : AgeP c an ns z) : (c = 0 ∨ c = 3) ∨ z = 0 := by
  rcases h with ⟨h, _⟩ | ⟨_, h⟩
  · exact .inl h
  · exact .inr h
theorem AgeP.le {c : Int} {an ns : List (List UInt8 × Int × Int × Int × List UInt8)} {z : Int} (h : AgeP c an ns z) : ∀ x ∈ an, z ≤ max 0 x.2.2.2.1 := by
  intro x hx
  rcases h with ⟨_, s, _, _, _, h⟩ | ⟨_, rfl⟩
  · exact h _ (List.mem_append_left _ (List.mem_map.2 ⟨x, hx, rfl⟩))
  · omega
theorem AgeP.one {x : (List UInt8 × Int × Int × Int × List UInt8)} {ns : List (List UInt8 × Int × Int × Int × List UInt8)} {z : Int} (h : AgeP 0 [x] ns z) : z = max 0 x.2.2.2.1 := by
  rcases h with ⟨_, s, _, h1, h2, _⟩ | ⟨h, _⟩
  · rcases h1 with (h1 | h1) | rfl
    · omega
    · cases h1
    · simpa [ttls] using h2
  · exact absurd rfl h.1
theorem AgeP.none {z : Int} (h : AgeP 0 [] [] z) : z = 0 := by
  rcases h with ⟨_, s, h1, _, h2, _⟩ | ⟨_, h⟩
  · rcases h1 with rfl | ⟨y, _, hy, rfl⟩
    · simp [ttls] at h2
    · rw [hy rfl] at h2; simpa [ttls] using h2
  · exact h
theorem all_getD {α : Type} {l : List α} {d : α} {P : α → Prop} (h : ∀ j, j < l.length → P (l.getD j d)) : ∀ x ∈ l, P x := by
  intro x hx
  obtain ⟨j, hj, rfl⟩ := List.mem_iff_getElem.1 hx
  have := h j hj
  rwa [show l.getD j d = l[j] by simp [List.getD, hj]] at this

set_option maxHeartbeats 400000 in
theorem code_ok {w0 : World} {base : Nat} {H : List Seg} (f : Int) :
    SCalls Tryd.prog 18 [.int .i64 f] w0 base (H) (fun v H' => v = int (codeF f) ∧ H' = H) := by
  refine SCalls.of_walk (n := 5) Tryd.func18 rfl rfl rfl fun cs => ?_
  refine At.seq ?_
  refine At.region ?_
  refine AtL.assign (.inl rfl) rfl rfl ?_
  refine AtL.done ?_
  refine At.seq ?_
  refine At.region ?_
  refine AtL.move (.inl rfl) rfl rfl ?_
  refine AtL.band (z := codeF f) (.inl rfl) rfl rfl rfl rfl ?_
  refine AtL.assign (.inl rfl) rfl rfl ?_
  refine AtL.done ?_
  exact At.ret Tryd.func18 rfl rfl (⟨rfl, rfl⟩)

set_option maxHeartbeats 400000 in
theorem bigrecs_ok {w0 : World} {base : Nat} {H : List Seg} {A : Option Addr} {C : Nat} {l : List (List UInt8 × Int × Int × Int × List UInt8)} (h : Rd tyRec w0 base H A C l) (n : Int) :
    SCalls Tryd.prog 17 [.slice A l.length C, .int .i64 n] w0 base (H) (fun v H' => ∃ b : Bool, v = .bool b ∧ (b = false → ∀ x ∈ l, (x.1.length : Int) ≤ n ∧ (x.2.2.2.2.length : Int) ≤ n) ∧ H' = H) := by
  have hle0 := h.le
  have hcap0 := h.cap
  refine SCalls.of_walk (n := 30) Tryd.func17 rfl rfl rfl fun cs => ?_
  refine At.seq ?_
  refine At.region ?_
  refine AtL.assign (.inl rfl) rfl rfl ?_
  refine AtL.done ?_
  refine At.seq ?_
  refine At.seq ?_
  refine At.region ?_
  refine AtL.assign (.inl rfl) rfl rfl ?_
  refine AtL.done ?_
  refine At.block ?_
  refine At.loop (fun (i : Nat) => [(0, .slice A l.length C), (1, .int .i64 n), (5, .int .i64 (i : Int))]) (fun (i : Nat) => H) (fun (i : Nat) => i ≤ l.length ∧ ∀ j, j < i → (((l.getD j (([], 0, 0, 0, []) : List UInt8 × Int × Int × Int × List UInt8)).1.length : Int) ≤ n ∧ ((l.getD j (([], 0, 0, 0, []) : List UInt8 × Int × Int × Int × List UInt8)).2.2.2.2.length : Int) ≤ n)) (fun (i : Nat) => l.length - i) 0 (⟨Nat.zero_le _, fun j hj => absurd hj (by omega)⟩) ⟨rfl, rfl, rfl, trivial⟩ rfl ?_
  rintro i ⟨hi, hb⟩ ihL1
  refine At.seq ?_
  refine At.seq ?_
  refine At.region ?_
  refine AtL.move (.inl rfl) rfl rfl ?_
  refine AtL.move (.inl rfl) rfl rfl ?_
  refine AtL.lenL Tryd.underlying37 (.inl rfl) rfl rfl ?_
  refine AtL.lss (.inl rfl) rfl rfl rfl ?_
  refine AtL.done ?_
  refine At.cond rfl ?_ ?_
  · intro hc1
    have hc1 : (i : Int) < (l.length : Int) := of_decide_eq_true hc1
    refine At.skip ?_
    refine At.seq ?_
    refine At.block ?_
    refine At.seq ?_
    refine At.region ?_
    refine AtL.move (.inl rfl) rfl rfl ?_
    refine AtL.move (.inl rfl) rfl rfl ?_
    refine AtL.indexL i h Tryd.underlying37 tf_sz43 (.inl rfl) rfl rfl rfl rfl (by omega) ?_
    refine AtL.fieldAddr tf_fo43_0 (.inl rfl) rfl rfl ?_
    refine AtL.load (v := str ((l.getD i (([], 0, 0, 0, []) : List UInt8 × Int × Int × Int × List UInt8)).1)) tf_flat9 (.inl rfl) rfl rfl (Rd.cell_at h (j := 0) (getD_some (([], 0, 0, 0, []) : List UInt8 × Int × Int × Int × List UInt8) (by omega)) rfl) ?_
    refine AtL.lenS (l := (l.getD i (([], 0, 0, 0, []) : List UInt8 × Int × Int × Int × List UInt8)).1) Tryd.underlying9 (.inl rfl) rfl rfl ?_
    refine AtL.move (.inl rfl) rfl rfl ?_
    refine AtL.gtr (.inl rfl) rfl rfl rfl ?_
    refine AtL.move (.inl rfl) rfl rfl ?_
    refine AtL.join 9 (E' := [(29, .bool (decide ((n < (((l.getD i (([], 0, 0, 0, []) : List UInt8 × Int × Int × Int × List UInt8)).1).length : Int)) ∨ (n < (((l.getD i (([], 0, 0, 0, []) : List UInt8 × Int × Int × Int × List UInt8)).2.2.2.2).length : Int))))), (0, .slice A l.length C), (1, .int .i64 n), (5, .int .i64 (i : Int))]) (H' := H) (fun J => ?_) ?_
    · refine AtL.split (t := 20) rfl ?_ ?_
      · intro hs20
        have hs20 : n < (((l.getD i (([], 0, 0, 0, []) : List UInt8 × Int × Int × Int × List UInt8)).1).length : Int) := of_decide_eq_true hs20
        refine AtL.skipped rfl rfl rfl rfl rfl rfl ?_
        refine AtL.skipped rfl rfl rfl rfl rfl rfl ?_
        refine AtL.skipped rfl rfl rfl rfl rfl rfl ?_
        refine AtL.skipped rfl rfl rfl rfl rfl rfl ?_
        refine AtL.skipped rfl rfl rfl rfl rfl rfl ?_
        refine AtL.skipped rfl rfl rfl rfl rfl rfl ?_
        refine AtL.skipped rfl rfl rfl rfl rfl rfl ?_
        refine AtL.skipped rfl rfl rfl rfl rfl rfl ?_
        refine AtL.pickT (.inl rfl) rfl rfl rfl ?_
        exact J _ (by exact ⟨(boolIs (by clear J; first | (simp [hs20]; done) | (simp_all; done) | grind)), rfl, rfl, rfl, trivial⟩)
      · intro hs20
        have hs20 : ¬ (n < (((l.getD i (([], 0, 0, 0, []) : List UInt8 × Int × Int × Int × List UInt8)).1).length : Int)) := of_decide_eq_false hs20
        refine AtL.move (.inr ⟨_, _, _, rfl, rfl, rfl, rfl⟩) rfl rfl ?_
        refine AtL.move (.inr ⟨_, _, _, rfl, rfl, rfl, rfl⟩) rfl rfl ?_
        refine AtL.indexL i h Tryd.underlying37 tf_sz43 (.inr ⟨_, _, _, rfl, rfl, rfl, rfl⟩) rfl rfl rfl rfl (by omega) ?_
        refine AtL.fieldAddr tf_fo43_4 (.inr ⟨_, _, _, rfl, rfl, rfl, rfl⟩) rfl rfl ?_
        refine AtL.load (v := str ((l.getD i (([], 0, 0, 0, []) : List UInt8 × Int × Int × Int × List UInt8)).2.2.2.2)) tf_flat9 (.inr ⟨_, _, _, rfl, rfl, rfl, rfl⟩) rfl rfl (Rd.cell_at h (j := 4) (getD_some (([], 0, 0, 0, []) : List UInt8 × Int × Int × Int × List UInt8) (by omega)) rfl) ?_
        refine AtL.lenS (l := (l.getD i (([], 0, 0, 0, []) : List UInt8 × Int × Int × Int × List UInt8)).2.2.2.2) Tryd.underlying9 (.inr ⟨_, _, _, rfl, rfl, rfl, rfl⟩) rfl rfl ?_
        refine AtL.move (.inr ⟨_, _, _, rfl, rfl, rfl, rfl⟩) rfl rfl ?_
        refine AtL.gtr (.inr ⟨_, _, _, rfl, rfl, rfl, rfl⟩) rfl rfl rfl ?_
        refine AtL.pickF (.inl rfl) rfl rfl rfl ?_
        exact J _ (by exact ⟨(boolIs (by clear J; first | (simp [hs20]; done) | (simp_all; done) | grind)), rfl, rfl, rfl, trivial⟩)
    · skip
      refine AtL.done ?_
      refine At.cond rfl ?_ ?_
      · intro hc2
        have hc2 : (n < (((l.getD i (([], 0, 0, 0, []) : List UInt8 × Int × Int × Int × List UInt8)).1).length : Int)) ∨ (n < (((l.getD i (([], 0, 0, 0, []) : List UInt8 × Int × Int × Int × List UInt8)).2.2.2.2).length : Int)) := of_decide_eq_true hc2
        refine At.seq ?_
        refine At.region ?_
        refine AtL.assign (.inl rfl) rfl rfl ?_
        refine AtL.done ?_
        exact At.ret Tryd.func17 rfl rfl (⟨true, rfl, fun h => (by cases h), rfl⟩)
      · intro hc2
        have hc2 : ¬ ((n < (((l.getD i (([], 0, 0, 0, []) : List UInt8 × Int × Int × Int × List UInt8)).1).length : Int)) ∨ (n < (((l.getD i (([], 0, 0, 0, []) : List UInt8 × Int × Int × Int × List UInt8)).2.2.2.2).length : Int))) := of_decide_eq_false hc2
        refine At.skip ?_
        refine At.inBlock ?_
        refine At.region ?_
        refine AtL.move (.inl rfl) rfl rfl ?_
        refine AtL.add (z := (i : Int) + 1) (.inl rfl) rfl rfl rfl (w64 (by omega) (by omega)) ?_
        refine AtL.assign (.inl rfl) rfl rfl ?_
        refine AtL.done ?_
        refine ihL1 (i + 1) (⟨by omega, fun j hj => by rcases Nat.lt_or_ge j i with h9 | h9; exact hb j h9; obtain rfl : j = i := (by omega); omega⟩) (by omega) _ ?_
        exact ⟨rfl, rfl, (by first | rfl | exact slLen (by simp []) | exact intEq (by omega) | exact intEq (by simp []) | exact slLen (by simp []; omega)), trivial⟩
  · intro hc1
    have hc1 : ¬ ((i : Int) < (l.length : Int)) := of_decide_eq_false hc1
    refine At.exit rfl ?_
    refine At.seq ?_
    refine At.region ?_
    refine AtL.assign (.inl rfl) rfl rfl ?_
    refine AtL.done ?_
    exact At.ret Tryd.func17 rfl rfl (⟨false, rfl, fun _ => all_getD (d := (([], 0, 0, 0, []) : List UInt8 × Int × Int × Int × List UInt8)) fun j hj => hb j (by omega), rfl⟩)

set_option maxHeartbeats 400000 in
theorem bigmsg_ok {w0 : World} {base : Nat} {H : List Seg} {id flags : Int} {Aq Aa An Ar : Option Addr} {Cq Ca Cn Cr : Nat} {qs : List (List UInt8 × Int × Int)} {an ns ar : List (List UInt8 × Int × Int × Int × List UInt8)} (hq : Rd tyQn w0 base H Aq Cq qs) (ha : Rd tyRec w0 base H Aa Ca an) (hn : Rd tyRec w0 base H An Cn ns) (hr : Rd tyRec w0 base H Ar Cr ar) (hB : qs.length ≤ 140737488355328 ∧ an.length ≤ 140737488355328 ∧ ns.length ≤ 140737488355328 ∧ ar.length ≤ 140737488355328) (k n : Int) :
    SCalls Tryd.prog 11 [.agg #[.int .i64 id, .int .i64 flags, .slice Aq qs.length Cq, .slice Aa an.length Ca, .slice An ns.length Cn, .slice Ar ar.length Cr], .int .i64 k, .int .i64 n] w0 base (H) (fun v H' => ∃ b : Bool, v = .bool b ∧ (b = false → ((an.length + ns.length : Nat) : Int) ≤ k ∧ (∀ x ∈ an, (x.1.length : Int) ≤ n ∧ (x.2.2.2.2.length : Int) ≤ n) ∧ ∀ x ∈ ns, (x.1.length : Int) ≤ n ∧ (x.2.2.2.2.length : Int) ≤ n) ∧ H' = H) := by
  have hleq := hq.le
  have hcapq := hq.cap
  have hlea := ha.le
  have hcapa := ha.cap
  have hlen := hn.le
  have hcapn := hn.cap
  have hler := hr.le
  have hcapr := hr.cap
  obtain ⟨hB1, hB2, hB3, hB4⟩ := hB
  refine SCalls.of_walk (n := 57) Tryd.func11 rfl rfl rfl fun cs => ?_
  refine At.seq ?_
  refine At.region ?_
  refine AtL.box (cs := #[.int .i64 id, .int .i64 flags, .slice Aq qs.length Cq, .slice Aa an.length Ca, .slice An ns.length Cn, .slice Ar ar.length Cr]) rfl (.inl rfl) rfl rfl ?_
  intro b1
  refine AtL.assign (.inl rfl) rfl rfl ?_
  refine AtL.done ?_
  refine At.seq ?_
  refine At.seq ?_
  refine At.region ?_
  refine AtL.fieldAddrB tf_fo39_2 (.inl rfl) rfl rfl rfl ?_
  refine AtL.load tf_flat36 (.inl rfl) rfl rfl (Cell.own 0 0 rfl rfl rfl) ?_
  refine AtL.lenL Tryd.underlying36 (.inl rfl) rfl rfl ?_
  refine AtL.fieldAddrB tf_fo39_3 (.inl rfl) rfl rfl rfl ?_
  refine AtL.load tf_flat37 (.inl rfl) rfl rfl (Cell.own 0 0 rfl rfl rfl) ?_
  refine AtL.lenL Tryd.underlying37 (.inl rfl) rfl rfl ?_
  refine AtL.add (z := (qs.length : Int) + (an.length : Int)) (.inl rfl) rfl rfl rfl (w64 (by omega) (by omega)) ?_
  refine AtL.fieldAddrB tf_fo39_4 (.inl rfl) rfl rfl rfl ?_
  refine AtL.load tf_flat37 (.inl rfl) rfl rfl (Cell.own 0 0 rfl rfl rfl) ?_
  refine AtL.lenL Tryd.underlying37 (.inl rfl) rfl rfl ?_
  refine AtL.add (z := ((qs.length : Int) + (an.length : Int)) + (ns.length : Int)) (.inl rfl) rfl rfl rfl (w64 (by omega) (by omega)) ?_
  refine AtL.fieldAddrB tf_fo39_5 (.inl rfl) rfl rfl rfl ?_
  refine AtL.load tf_flat37 (.inl rfl) rfl rfl (Cell.own 0 0 rfl rfl rfl) ?_
  refine AtL.lenL Tryd.underlying37 (.inl rfl) rfl rfl ?_
  refine AtL.add (z := (((qs.length : Int) + (an.length : Int)) + (ns.length : Int)) + (ar.length : Int)) (.inl rfl) rfl rfl rfl (w64 (by omega) (by omega)) ?_
  refine AtL.move (.inl rfl) rfl rfl ?_
  refine AtL.gtr (.inl rfl) rfl rfl rfl ?_
  refine AtL.done ?_
  refine At.cond rfl ?_ ?_
  · intro hc1
    have hc1 : k < ((((qs.length : Int) + (an.length : Int)) + (ns.length : Int)) + (ar.length : Int)) := of_decide_eq_true hc1
    refine At.seq ?_
    refine At.region ?_
    refine AtL.assign (.inl rfl) rfl rfl ?_
    refine AtL.done ?_
    refine At.pick (H' := H) [] 1 rfl rfl ?_
    exact At.ret Tryd.func11 rfl rfl (⟨true, rfl, fun h => (by cases h), rfl⟩)
  · intro hc1
    have hc1 : ¬ (k < ((((qs.length : Int) + (an.length : Int)) + (ns.length : Int)) + (ar.length : Int))) := of_decide_eq_false hc1
    refine At.skip ?_
    refine At.seq ?_
    refine At.seq ?_
    refine At.region ?_
    refine AtL.assign (.inl rfl) rfl rfl ?_
    refine AtL.done ?_
    refine At.block ?_
    refine At.loop (fun (i : Nat) => [(2, .int .i64 n), (3, .pointer (some ⟨b1, 0, none⟩)), (7, .int .i64 (i : Int))]) (fun (i : Nat) => [(b1, .cells #[.int .i64 id, .int .i64 flags, .slice Aq qs.length Cq, .slice Aa an.length Ca, .slice An ns.length Cn, .slice Ar ar.length Cr] 39 (0, 0))] :: H) (fun (i : Nat) => i ≤ qs.length) (fun (i : Nat) => qs.length - i) 0 (Nat.zero_le _) ⟨rfl, rfl, rfl, trivial⟩ rfl ?_
    rintro i hi ihL1
    refine At.seq ?_
    refine At.seq ?_
    refine At.region ?_
    refine AtL.move (.inl rfl) rfl rfl ?_
    refine AtL.fieldAddrB tf_fo39_2 (.inl rfl) rfl rfl rfl ?_
    refine AtL.load tf_flat36 (.inl rfl) rfl rfl (Cell.own 0 0 rfl rfl rfl) ?_
    refine AtL.lenL Tryd.underlying36 (.inl rfl) rfl rfl ?_
    refine AtL.lss (.inl rfl) rfl rfl rfl ?_
    refine AtL.done ?_
    refine At.cond rfl ?_ ?_
    · intro hc2
      have hc2 : (i : Int) < (qs.length : Int) := of_decide_eq_true hc2
      refine At.skip ?_
      refine At.seq ?_
      refine At.block ?_
      refine At.seq ?_
      refine At.region ?_
      refine AtL.fieldAddrB tf_fo39_2 (.inl rfl) rfl rfl rfl ?_
      refine AtL.load tf_flat36 (.inl rfl) rfl rfl (Cell.own 0 0 rfl rfl rfl) ?_
      refine AtL.move (.inl rfl) rfl rfl ?_
      refine AtL.indexL i (Rd.skip 1 hq) Tryd.underlying36 tf_sz53 (.inl rfl) rfl rfl rfl rfl (by omega) ?_
      refine AtL.fieldAddr tf_fo53_0 (.inl rfl) rfl rfl ?_
      refine AtL.load (v := str ((qs.getD i (([], 0, 0) : List UInt8 × Int × Int)).1)) tf_flat9 (.inl rfl) rfl rfl (Rd.cell_at (Rd.skip 1 hq) (j := 0) (getD_some (([], 0, 0) : List UInt8 × Int × Int) (by omega)) rfl) ?_
      refine AtL.lenS (l := (qs.getD i (([], 0, 0) : List UInt8 × Int × Int)).1) Tryd.underlying9 (.inl rfl) rfl rfl ?_
      refine AtL.move (.inl rfl) rfl rfl ?_
      refine AtL.gtr (.inl rfl) rfl rfl rfl ?_
      refine AtL.done ?_
      refine At.cond rfl ?_ ?_
      · intro hc3
        have hc3 : n < (((qs.getD i (([], 0, 0) : List UInt8 × Int × Int)).1).length : Int) := of_decide_eq_true hc3
        refine At.seq ?_
        refine At.region ?_
        refine AtL.assign (.inl rfl) rfl rfl ?_
        refine AtL.done ?_
        refine At.pick (H' := H) [] 1 rfl rfl ?_
        exact At.ret Tryd.func11 rfl rfl (⟨true, rfl, fun h => (by cases h), rfl⟩)
      · intro hc3
        have hc3 : ¬ (n < (((qs.getD i (([], 0, 0) : List UInt8 × Int × Int)).1).length : Int)) := of_decide_eq_false hc3
        refine At.skip ?_
        refine At.inBlock ?_
        refine At.region ?_
        refine AtL.move (.inl rfl) rfl rfl ?_
        refine AtL.add (z := (i : Int) + 1) (.inl rfl) rfl rfl rfl (w64 (by omega) (by omega)) ?_
        refine AtL.assign (.inl rfl) rfl rfl ?_
        refine AtL.done ?_
        refine ihL1 (i + 1) (by omega) (by omega) _ ?_
        exact ⟨rfl, rfl, (by first | rfl | exact slLen (by simp []) | exact intEq (by omega) | exact intEq (by simp []) | exact slLen (by simp []; omega)), trivial⟩
    · intro hc2
      have hc2 : ¬ ((i : Int) < (qs.length : Int)) := of_decide_eq_false hc2
      refine At.exit rfl ?_
      refine At.seq ?_
      refine At.region ?_
      refine AtL.fieldAddrB tf_fo39_3 (.inl rfl) rfl rfl rfl ?_
      refine AtL.load tf_flat37 (.inl rfl) rfl rfl (Cell.own 0 0 rfl rfl rfl) ?_
      refine AtL.move (.inl rfl) rfl rfl ?_
      refine AtL.call tf_body17 (.inl rfl) rfl rfl (bigrecs_ok (Rd.skip 1 ha) n) ?_
      rintro _ _ ⟨bb2, rfl, hb3, rfl⟩
      refine AtL.move (.inl rfl) rfl rfl ?_
      refine AtL.split (t := 45) rfl ?_ ?_
      · intro hs45
        have hs45 : bb2 = true := hs45
        refine AtL.skipped rfl rfl rfl rfl rfl rfl ?_
        refine AtL.skipped rfl rfl rfl rfl rfl rfl ?_
        refine AtL.skipped rfl rfl rfl rfl rfl rfl ?_
        refine AtL.skipped rfl rfl rfl rfl rfl rfl ?_
        refine AtL.pickT (.inl rfl) rfl rfl rfl ?_
        refine AtL.move (.inl rfl) rfl rfl ?_
        refine AtL.skipped rfl rfl rfl rfl rfl rfl ?_
        refine AtL.skipped rfl rfl rfl rfl rfl rfl ?_
        refine AtL.skipped rfl rfl rfl rfl rfl rfl ?_
        refine AtL.skipped rfl rfl rfl rfl rfl rfl ?_
        refine AtL.pickT (.inl rfl) rfl rfl rfl ?_
        refine AtL.assign (.inl rfl) rfl rfl ?_
        refine AtL.done ?_
        refine At.pick (H' := H) [] 1 rfl rfl ?_
        exact At.ret Tryd.func11 rfl rfl (⟨true, rfl, fun h => (by cases h), rfl⟩)
      · intro hs45
        have hs45 : bb2 = false := hs45
        refine AtL.fieldAddrB tf_fo39_4 (.inr ⟨_, _, _, rfl, rfl, rfl, rfl⟩) rfl rfl rfl ?_
        refine AtL.load tf_flat37 (.inr ⟨_, _, _, rfl, rfl, rfl, rfl⟩) rfl rfl (Cell.own 0 0 rfl rfl rfl) ?_
        refine AtL.move (.inr ⟨_, _, _, rfl, rfl, rfl, rfl⟩) rfl rfl ?_
        refine AtL.call tf_body17 (.inr ⟨_, _, _, rfl, rfl, rfl, rfl⟩) rfl rfl (bigrecs_ok (Rd.skip 1 hn) n) ?_
        rintro _ _ ⟨bb4, rfl, hb5, rfl⟩
        refine AtL.pickF (.inl rfl) rfl rfl rfl ?_
        refine AtL.move (.inl rfl) rfl rfl ?_
        refine AtL.split (t := 51) rfl ?_ ?_
        · intro hs51
          have hs51 : bb4 = true := hs51
          refine AtL.skipped rfl rfl rfl rfl rfl rfl ?_
          refine AtL.skipped rfl rfl rfl rfl rfl rfl ?_
          refine AtL.skipped rfl rfl rfl rfl rfl rfl ?_
          refine AtL.skipped rfl rfl rfl rfl rfl rfl ?_
          refine AtL.pickT (.inl rfl) rfl rfl rfl ?_
          refine AtL.assign (.inl rfl) rfl rfl ?_
          refine AtL.done ?_
          refine At.pick (H' := H) [] 1 rfl rfl ?_
          exact At.ret Tryd.func11 rfl rfl (⟨true, rfl, fun h => (by cases h), rfl⟩)
        · intro hs51
          have hs51 : bb4 = false := hs51
          refine AtL.fieldAddrB tf_fo39_5 (.inr ⟨_, _, _, rfl, rfl, rfl, rfl⟩) rfl rfl rfl ?_
          refine AtL.load tf_flat37 (.inr ⟨_, _, _, rfl, rfl, rfl, rfl⟩) rfl rfl (Cell.own 0 0 rfl rfl rfl) ?_
          refine AtL.move (.inr ⟨_, _, _, rfl, rfl, rfl, rfl⟩) rfl rfl ?_
          refine AtL.call tf_body17 (.inr ⟨_, _, _, rfl, rfl, rfl, rfl⟩) rfl rfl (bigrecs_ok (Rd.skip 1 hr) n) ?_
          rintro _ _ ⟨bb6, rfl, hb7, rfl⟩
          refine AtL.pickF (.inl rfl) rfl rfl rfl ?_
          refine AtL.assign (.inl rfl) rfl rfl ?_
          refine AtL.done ?_
          refine At.pick (H' := H) [] 1 rfl rfl ?_
          exact At.ret Tryd.func11 rfl rfl (⟨_, rfl, fun hx => ⟨by omega, hb3 (by assumption), hb5 (by assumption)⟩, rfl⟩)

set_option maxHeartbeats 400000 in
theorem soa_ok {w0 : World} {base : Nat} {H : List Seg} {id flags : Int} {Aq Aa An Ar : Option Addr} {Cq Ca Cn Cr : Nat} {qs : List (List UInt8 × Int × Int)} {an ns ar : List (List UInt8 × Int × Int × Int × List UInt8)} (hq : Rd tyQn w0 base H Aq Cq qs) (ha : Rd tyRec w0 base H Aa Ca an) (hn : Rd tyRec w0 base H An Cn ns) (hr : Rd tyRec w0 base H Ar Cr ar) (hns : ∀ x ∈ ns, x.2.2.2.2.length ≤ 140737488355328) :
    SCalls Tryd.prog 19 [.agg #[.int .i64 id, .int .i64 flags, .slice Aq qs.length Cq, .slice Aa an.length Ca, .slice An ns.length Cn, .slice Ar ar.length Cr]] w0 base (H) (fun v H' => ∃ z : Int, v = int z ∧ 0 ≤ z ∧ (ns = [] → z = 0) ∧ H' = H) := by
  have hleq := hq.le
  have hcapq := hq.cap
  have hlea := ha.le
  have hcapa := ha.cap
  have hlen := hn.le
  have hcapn := hn.cap
  have hler := hr.le
  have hcapr := hr.cap
  refine SCalls.of_walk (n := 33) Tryd.func19 rfl rfl rfl fun cs => ?_
  refine At.seq ?_
  refine At.region ?_
  refine AtL.box (cs := #[.int .i64 id, .int .i64 flags, .slice Aq qs.length Cq, .slice Aa an.length Ca, .slice An ns.length Cn, .slice Ar ar.length Cr]) rfl (.inl rfl) rfl rfl ?_
  intro b1
  refine AtL.assign (.inl rfl) rfl rfl ?_
  refine AtL.done ?_
  refine At.seq ?_
  refine At.seq ?_
  refine At.region ?_
  refine AtL.fieldAddrB tf_fo39_4 (.inl rfl) rfl rfl rfl ?_
  refine AtL.load tf_flat37 (.inl rfl) rfl rfl (Cell.own 0 0 rfl rfl rfl) ?_
  refine AtL.lenL Tryd.underlying37 (.inl rfl) rfl rfl ?_
  refine AtL.move (.inl rfl) rfl rfl ?_
  refine AtL.done ?_
  refine At.block ?_
  refine At.pick (H' := H) [] 1 rfl rfl ?_
  refine At.loop (fun (i : Nat) => [(8, .slice An ns.length Cn), (9, .int .i64 (ns.length : Int)), (10, .int .i64 (i : Int))]) (fun (i : Nat) => H) (fun (i : Nat) => i ≤ ns.length) (fun (i : Nat) => ns.length - i) 0 (Nat.zero_le _) ⟨rfl, rfl, rfl, trivial⟩ rfl ?_
  rintro i hi ihL1
  refine At.seq ?_
  refine At.region ?_
  refine AtL.lss (.inl rfl) rfl rfl rfl ?_
  refine AtL.done ?_
  refine At.seq ?_
  refine At.cond rfl ?_ ?_
  · intro hc1
    have hc1 : (i : Int) < (ns.length : Int) := of_decide_eq_true hc1
    have hlt : i < ns.length := by omega
    refine At.skip ?_
    refine At.seq ?_
    refine At.block ?_
    refine At.seq ?_
    refine At.region ?_
    refine AtL.indexL i hn Tryd.underlying37 tf_sz43 (.inl rfl) rfl rfl rfl rfl (by omega) ?_
    refine AtL.loadE (n := 0) hn (getD_some (([], 0, 0, 0, []) : List UInt8 × Int × Int × Int × List UInt8) (by omega)) rfl tf_agg43 (.inl rfl) rfl rfl ?_
    refine AtL.alloc tf_zero43 (cs := #[str [], .int .i64 0, .int .i64 0, .int .i64 0, str []]) rfl (.inl rfl) rfl ?_
    intro b2
    refine AtL.store (H' := [(b2, .cells #[str ((ns.getD i (([], 0, 0, 0, []) : List UInt8 × Int × Int × Int × List UInt8)).1), .int .i64 ((ns.getD i (([], 0, 0, 0, []) : List UInt8 × Int × Int × Int × List UInt8)).2.1), .int .i64 ((ns.getD i (([], 0, 0, 0, []) : List UInt8 × Int × Int × Int × List UInt8)).2.2.1), .int .i64 ((ns.getD i (([], 0, 0, 0, []) : List UInt8 × Int × Int × Int × List UInt8)).2.2.2.1), str ((ns.getD i (([], 0, 0, 0, []) : List UInt8 × Int × Int × Int × List UInt8)).2.2.2.2)] 43 (0, 0))] :: H) 0 0 tf_sz43 (.inl rfl) rfl rfl rfl rfl rfl rfl rfl rfl rfl ?_
    refine AtL.done ?_
    refine At.seq ?_
    refine At.region ?_
    refine AtL.fieldAddrB tf_fo43_1 (.inl rfl) rfl rfl rfl ?_
    refine AtL.load tf_flat3 (.inl rfl) rfl rfl (Cell.own 0 0 rfl rfl rfl) ?_
    refine AtL.eqi (.inl rfl) rfl rfl rfl ?_
    refine AtL.done ?_
    refine At.cond rfl ?_ ?_
    · intro hc2
      have hc2 : ((ns.getD i (([], 0, 0, 0, []) : List UInt8 × Int × Int × Int × List UInt8)).2.1) = 6 := of_decide_eq_true hc2
      refine At.seq ?_
      refine At.region ?_
      refine AtL.fieldAddrB tf_fo43_1 (.inl rfl) rfl rfl rfl ?_
      refine AtL.load tf_flat3 (.inl rfl) rfl rfl (Cell.own 0 0 rfl rfl rfl) ?_
      refine AtL.fieldAddrB tf_fo43_4 (.inl rfl) rfl rfl rfl ?_
      refine AtL.load tf_flat9 (.inl rfl) rfl rfl (Cell.own 0 0 rfl rfl rfl) ?_
      refine AtL.call tf_body29 (.inl rfl) rfl rfl (least_t ((ns.getD i (([], 0, 0, 0, []) : List UInt8 × Int × Int × Int × List UInt8)).2.2.2.2) (hns _ (getD_mem (l := ns) (i := i) (d := (([], 0, 0, 0, []) : List UInt8 × Int × Int × Int × List UInt8)) (by omega))) hc2) ?_
      rintro _ _ ⟨e3, b4, rfl, rfl⟩
      refine AtL.move (.inl rfl) rfl rfl ?_
      refine AtL.extract (.inl rfl) rfl rfl rfl ?_
      refine AtL.extract (.inl rfl) rfl rfl rfl ?_
      refine AtL.assign (.inl rfl) rfl rfl ?_
      refine AtL.assign (.inl rfl) rfl rfl ?_
      refine AtL.done ?_
      refine At.seq ?_
      refine At.seq ?_
      refine At.region ?_
      refine AtL.move (.inl rfl) rfl rfl ?_
      refine AtL.not (.inl rfl) rfl rfl ?_
      refine AtL.done ?_
      refine At.cond rfl ?_ ?_
      · intro hc3
        have hc3 : b4 = false := bnot_true hc3
        refine At.seq ?_
        refine At.region ?_
        refine AtL.assign (.inl rfl) rfl rfl ?_
        refine AtL.done ?_
        refine At.pick (H' := H) [] 1 rfl rfl ?_
        exact At.ret Tryd.func19 rfl rfl (⟨_, rfl, by omega, fun h => (by subst h; simp at hlt), rfl⟩)
      · intro hc3
        have hc3 : b4 = true := bnot_false hc3
        refine At.skip ?_
        refine At.seq ?_
        refine At.region ?_
        refine AtL.fieldAddrB tf_fo43_3 (.inl rfl) rfl rfl rfl ?_
        refine AtL.load tf_flat3 (.inl rfl) rfl rfl (Cell.own 0 0 rfl rfl rfl) ?_
        refine AtL.move (.inl rfl) rfl rfl ?_
        refine AtL.minZ (z := min ((ns.getD i (([], 0, 0, 0, []) : List UInt8 × Int × Int × Int × List UInt8)).2.2.2.1) e3) (.inl rfl) rfl rfl rfl (by omega) ?_
        refine AtL.maxZ (z := max 0 (min ((ns.getD i (([], 0, 0, 0, []) : List UInt8 × Int × Int × Int × List UInt8)).2.2.2.1) e3)) (.inl rfl) rfl rfl rfl (by omega) ?_
        refine AtL.assign (.inl rfl) rfl rfl ?_
        refine AtL.done ?_
        refine At.pick (H' := H) [] 1 rfl rfl ?_
        exact At.ret Tryd.func19 rfl rfl (⟨_, rfl, by omega, fun h => (by subst h; simp at hlt), rfl⟩)
    · intro hc2
      have hc2 : ¬ (((ns.getD i (([], 0, 0, 0, []) : List UInt8 × Int × Int × Int × List UInt8)).2.1) = 6) := of_decide_eq_false hc2
      refine At.skip ?_
      refine At.inBlock ?_
      refine At.region ?_
      refine AtL.add (z := (i : Int) + 1) (.inl rfl) rfl rfl rfl (w64 (by omega) (by omega)) ?_
      refine AtL.move (.inl rfl) rfl rfl ?_
      refine AtL.done ?_
      refine At.pick (H' := H) [] 1 rfl rfl ?_
      refine ihL1 (i + 1) (by omega) (by omega) _ ?_
      exact ⟨rfl, rfl, (by first | rfl | exact slLen (by simp []) | exact intEq (by omega) | exact intEq (by simp []) | exact slLen (by simp []; omega)), trivial⟩
  · intro hc1
    have hc1 : ¬ ((i : Int) < (ns.length : Int)) := of_decide_eq_false hc1
    refine At.exit rfl ?_
    refine At.seq ?_
    refine At.region ?_
    refine AtL.assign (.inl rfl) rfl rfl ?_
    refine AtL.done ?_
    exact At.ret Tryd.func19 rfl rfl (⟨_, rfl, by omega, fun _ => rfl, rfl⟩)

theorem min_mem {a b : Int} {l : List Int} (ha : a ∈ l) (hb : b ∈ l) : min a b ∈ l := by
  rcases Int.le_total a b with h | h
  · rw [Int.min_eq_left h]; exact ha
  · rw [Int.min_eq_right h]; exact hb

set_option maxHeartbeats 400000 in
theorem age_ok {w0 : World} {base : Nat} {H : List Seg} {id flags : Int} {Aq Aa An Ar : Option Addr} {Cq Ca Cn Cr : Nat} {qs : List (List UInt8 × Int × Int)} {an ns ar : List (List UInt8 × Int × Int × Int × List UInt8)} (hq : Rd tyQn w0 base H Aq Cq qs) (ha : Rd tyRec w0 base H Aa Ca an) (hn : Rd tyRec w0 base H An Cn ns) (hr : Rd tyRec w0 base H Ar Cr ar) (hns : ∀ x ∈ ns, x.2.2.2.2.length ≤ 140737488355328) (hal : an.length ≤ 1000000) :
    SCalls Tryd.prog 12 [.agg #[.int .i64 id, .int .i64 flags, .slice Aq qs.length Cq, .slice Aa an.length Ca, .slice An ns.length Cn, .slice Ar ar.length Cr]] w0 base (H) (fun v H' => ∃ z : Int, v = int z ∧ AgeP (codeF flags) an ns z ∧ H' = H) := by
  have hleq := hq.le
  have hcapq := hq.cap
  have hlea := ha.le
  have hcapa := ha.cap
  have hlen := hn.le
  have hcapn := hn.cap
  have hler := hr.le
  have hcapr := hr.cap
  refine SCalls.of_walk (n := 59) Tryd.func12 rfl rfl rfl fun cs => ?_
  refine At.seq ?_
  refine At.region ?_
  refine AtL.box (cs := #[.int .i64 id, .int .i64 flags, .slice Aq qs.length Cq, .slice Aa an.length Ca, .slice An ns.length Cn, .slice Ar ar.length Cr]) rfl (.inl rfl) rfl rfl ?_
  intro b1
  refine AtL.assign (.inl rfl) rfl rfl ?_
  refine AtL.done ?_
  refine At.seq ?_
  refine At.region ?_
  refine AtL.fieldAddrB tf_fo39_1 (.inl rfl) rfl rfl rfl ?_
  refine AtL.load tf_flat3 (.inl rfl) rfl rfl (Cell.own 0 0 rfl rfl rfl) ?_
  refine AtL.call tf_body18 (.inl rfl) rfl rfl (code_ok flags) ?_
  rintro _ _ ⟨rfl, rfl⟩
  refine AtL.assign (.inl rfl) rfl rfl ?_
  refine AtL.done ?_
  refine At.seq ?_
  refine At.seq ?_
  refine At.region ?_
  refine AtL.move (.inl rfl) rfl rfl ?_
  refine AtL.nei (.inl rfl) rfl rfl rfl ?_
  refine AtL.move (.inl rfl) rfl rfl ?_
  refine AtL.join 3 (E' := [(18, .bool (decide ((¬ (((codeF flags) : Int) = 0)) ∧ (¬ (((codeF flags) : Int) = 3))))), (1, .pointer (some ⟨b1, 0, none⟩)), (3, .int .i64 (codeF flags))]) (H' := [(b1, .cells #[.int .i64 id, .int .i64 flags, .slice Aq qs.length Cq, .slice Aa an.length Ca, .slice An ns.length Cn, .slice Ar ar.length Cr] 39 (0, 0))] :: H) (fun J => ?_) ?_
  · refine AtL.split (t := 15) rfl ?_ ?_
    · intro hs15
      have hs15 : ¬ (((codeF flags) : Int) = 0) := of_decide_eq_false (bnot_true hs15)
      refine AtL.move (.inr ⟨_, _, _, rfl, rfl, rfl, rfl⟩) rfl rfl ?_
      refine AtL.nei (.inr ⟨_, _, _, rfl, rfl, rfl, rfl⟩) rfl rfl rfl ?_
      refine AtL.pickT (.inl rfl) rfl rfl rfl ?_
      exact J _ (by exact ⟨(boolIs (by clear J; first | (simp [hs15]; done) | (simp_all; done) | grind)), rfl, rfl, trivial⟩)
    · intro hs15
      have hs15 : ((codeF flags) : Int) = 0 := of_decide_eq_true (bnot_false hs15)
      refine AtL.skipped rfl rfl rfl rfl rfl rfl ?_
      refine AtL.skipped rfl rfl rfl rfl rfl rfl ?_
      refine AtL.pickF (.inl rfl) rfl rfl rfl ?_
      exact J _ (by exact ⟨(boolIs (by clear J; first | (simp [hs15]; done) | (simp_all; done) | grind)), rfl, rfl, trivial⟩)
  · skip
    refine AtL.done ?_
    refine At.cond rfl ?_ ?_
    · intro hc1
      have hc1 : (¬ (((codeF flags) : Int) = 0)) ∧ (¬ (((codeF flags) : Int) = 3)) := of_decide_eq_true hc1
      refine At.seq ?_
      refine At.region ?_
      refine AtL.assign (.inl rfl) rfl rfl ?_
      refine AtL.done ?_
      refine At.pick (H' := H) [] 1 rfl rfl ?_
      exact At.ret Tryd.func12 rfl rfl (⟨_, rfl, .inr ⟨by first | assumption | omega, rfl⟩, rfl⟩)
    · intro hc1
      have hc1 : ¬ ((¬ (((codeF flags) : Int) = 0)) ∧ (¬ (((codeF flags) : Int) = 3))) := of_decide_eq_false hc1
      refine At.skip ?_
      refine At.seq ?_
      refine At.region ?_
      refine AtL.assign (.inl rfl) rfl rfl ?_
      refine AtL.done ?_
      refine At.seq ?_
      refine At.seq ?_
      refine At.region ?_
      refine AtL.fieldAddrB tf_fo39_3 (.inl rfl) rfl rfl rfl ?_
      refine AtL.load tf_flat37 (.inl rfl) rfl rfl (Cell.own 0 0 rfl rfl rfl) ?_
      refine AtL.lenL Tryd.underlying37 (.inl rfl) rfl rfl ?_
      refine AtL.move (.inl rfl) rfl rfl ?_
      refine AtL.done ?_
      refine At.block ?_
      refine At.nil ?_
      refine At.loop2 (fun (i : Nat) (x : Sl tyI 3) => [(1, .pointer (some ⟨b1, 0, none⟩)), (3, .int .i64 (codeF flags)), (4, .slice x.A x.l.length x.C), (20, .slice Aa an.length Ca), (21, .int .i64 (an.length : Int)), (22, .int .i64 (i : Int))]) (fun (i : Nat) (x : Sl tyI 3) => x.s :: [(b1, .cells #[.int .i64 id, .int .i64 flags, .slice Aq qs.length Cq, .slice Aa an.length Ca, .slice An ns.length Cn, .slice Ar ar.length Cr] 39 (0, 0))] :: H) (fun (i : Nat) (x : Sl tyI 3) => i ≤ an.length ∧ x.l = ttls (an.take i)) (fun (i : Nat) (x : Sl tyI 3) => an.length - i) 0 Sl.nil (⟨Nat.zero_le _, rfl⟩) ⟨rfl, rfl, rfl, rfl, rfl, rfl, trivial⟩ rfl ?_
      rintro i x ⟨hi, hx⟩ ihL1
      have hcap := Own.cap_le x.own
      have hle := Own.le_cap x.own
      have hxl : x.l.length = i := by rw [hx, ttls_len, List.length_take]; omega
      refine At.seq ?_
      refine At.region ?_
      refine AtL.lss (.inl rfl) rfl rfl rfl ?_
      refine AtL.done ?_
      refine At.seq ?_
      refine At.cond rfl ?_ ?_
      · intro hc2
        have hc2 : (i : Int) < (an.length : Int) := of_decide_eq_true hc2
        refine At.skip ?_
        refine At.seq ?_
        refine At.block ?_
        refine At.seq ?_
        refine At.region ?_
        refine AtL.indexL i (Rd.skip 2 ha) Tryd.underlying37 tf_sz43 (.inl rfl) rfl rfl rfl rfl (by omega) ?_
        refine AtL.loadE (n := 0) (Rd.skip 2 ha) (getD_some (([], 0, 0, 0, []) : List UInt8 × Int × Int × Int × List UInt8) (by omega)) rfl tf_agg43 (.inl rfl) rfl rfl ?_
        refine AtL.alloc tf_zero43 (cs := #[str [], .int .i64 0, .int .i64 0, .int .i64 0, str []]) rfl (.inl rfl) rfl ?_
        intro b2
        refine AtL.store (H' := [(b2, .cells #[str ((an.getD i (([], 0, 0, 0, []) : List UInt8 × Int × Int × Int × List UInt8)).1), .int .i64 ((an.getD i (([], 0, 0, 0, []) : List UInt8 × Int × Int × Int × List UInt8)).2.1), .int .i64 ((an.getD i (([], 0, 0, 0, []) : List UInt8 × Int × Int × Int × List UInt8)).2.2.1), .int .i64 ((an.getD i (([], 0, 0, 0, []) : List UInt8 × Int × Int × Int × List UInt8)).2.2.2.1), str ((an.getD i (([], 0, 0, 0, []) : List UInt8 × Int × Int × Int × List UInt8)).2.2.2.2)] 43 (0, 0))] :: x.s :: [(b1, .cells #[.int .i64 id, .int .i64 flags, .slice Aq qs.length Cq, .slice Aa an.length Ca, .slice An ns.length Cn, .slice Ar ar.length Cr] 39 (0, 0))] :: H) 0 0 tf_sz43 (.inl rfl) rfl rfl rfl rfl rfl rfl rfl rfl rfl ?_
        refine AtL.done ?_
        refine At.region ?_
        refine AtL.move (.inl rfl) rfl rfl ?_
        refine AtL.fieldAddrB tf_fo43_3 (.inl rfl) rfl rfl rfl ?_
        refine AtL.load tf_flat3 (.inl rfl) rfl rfl (Cell.own 0 0 rfl rfl rfl) ?_
        refine AtL.maxZ (z := max 0 ((an.getD i (([], 0, 0, 0, []) : List UInt8 × Int × Int × Int × List UInt8)).2.2.2.1)) (.inl rfl) rfl rfl rfl (by omega) ?_
        refine AtL.buildSlice (cs := [.int .i64 (max 0 ((an.getD i (([], 0, 0, 0, []) : List UInt8 × Int × Int × Int × List UInt8)).2.2.2.1))]) Tryd.underlying56 tf_zero3 tf_sz3 rfl rfl (.inl rfl) rfl rfl rfl ?_
        intro b3
        refine AtL.own1 tyI (l := ([max 0 ((an.getD i (([], 0, 0, 0, []) : List UInt8 × Int × Int × Int × List UInt8)).2.2.2.1)] : List Int)) rfl rfl (by first | decide | simp) ?_
        intro s4 o5
        refine AtL.append (l := x.l) (news := [max 0 ((an.getD i (([], 0, 0, 0, []) : List UInt8 × Int × Int × Int × List UInt8)).2.2.2.1)]) 2 tf_el56 rfl x.own (o5.rd (i := 0) rfl) (by first | omega | (simp only [List.length_append, List.length_cons, List.length_nil]; omega) | (simp; done) | (simp; omega)) (.inl rfl) rfl rfl rfl ?_
        intro A6 C7 s8 o9
        refine AtL.assign (.inl rfl) rfl rfl ?_
        refine AtL.done ?_
        refine At.inBlock ?_
        refine At.region ?_
        refine AtL.add (z := (i : Int) + 1) (.inl rfl) rfl rfl rfl (w64 (by omega) (by omega)) ?_
        refine AtL.move (.inl rfl) rfl rfl ?_
        refine AtL.done ?_
        refine At.pick (H' := s8 :: [(b1, .cells #[.int .i64 id, .int .i64 flags, .slice Aq qs.length Cq, .slice Aa an.length Ca, .slice An ns.length Cn, .slice Ar ar.length Cr] 39 (0, 0))] :: H) [2, 3] 4 rfl rfl ?_
        refine ihL1 (i + 1) (⟨A6, C7, x.l ++ ([max 0 ((an.getD i (([], 0, 0, 0, []) : List UInt8 × Int × Int × Int × List UInt8)).2.2.2.1)]), s8, o9⟩) (⟨by omega, by rw [ttls_snoc _ _ (by omega), ← hx]⟩) (by omega) _ ?_
        exact ⟨rfl, rfl, (by first | rfl | exact slLen (by simp []) | exact intEq (by omega) | exact intEq (by simp []) | exact slLen (by simp []; omega)), rfl, rfl, (by first | rfl | exact slLen (by simp []) | exact intEq (by omega) | exact intEq (by simp []) | exact slLen (by simp []; omega)), trivial⟩
      · intro hc2
        have hc2 : ¬ ((i : Int) < (an.length : Int)) := of_decide_eq_false hc2
        rw [List.take_of_length_le (by omega)] at hx
        refine At.exit rfl ?_
        refine At.seq ?_
        refine At.seq ?_
        refine At.region ?_
        refine AtL.move (.inl rfl) rfl rfl ?_
        refine AtL.eqi (.inl rfl) rfl rfl rfl ?_
        refine AtL.move (.inl rfl) rfl rfl ?_
        refine AtL.join 4 (E' := [(39, .bool (decide ((((codeF flags) : Int) = 3) ∨ ((x.l.length : Int) = 0)))), (1, .pointer (some ⟨b1, 0, none⟩)), (4, .slice x.A x.l.length x.C)]) (H' := x.s :: [(b1, .cells #[.int .i64 id, .int .i64 flags, .slice Aq qs.length Cq, .slice Aa an.length Ca, .slice An ns.length Cn, .slice Ar ar.length Cr] 39 (0, 0))] :: H) (fun J => ?_) ?_
        · refine AtL.split (t := 35) rfl ?_ ?_
          · intro hs35
            have hs35 : ((codeF flags) : Int) = 3 := of_decide_eq_true hs35
            refine AtL.skipped rfl rfl rfl rfl rfl rfl ?_
            refine AtL.skipped rfl rfl rfl rfl rfl rfl ?_
            refine AtL.skipped rfl rfl rfl rfl rfl rfl ?_
            refine AtL.pickT (.inl rfl) rfl rfl rfl ?_
            exact J _ (by exact ⟨(boolIs (by clear J; first | (simp [hs35]; done) | (simp_all; done) | grind)), rfl, rfl, trivial⟩)
          · intro hs35
            have hs35 : ¬ (((codeF flags) : Int) = 3) := of_decide_eq_false hs35
            refine AtL.move (.inr ⟨_, _, _, rfl, rfl, rfl, rfl⟩) rfl rfl ?_
            refine AtL.lenL Tryd.underlying56 (.inr ⟨_, _, _, rfl, rfl, rfl, rfl⟩) rfl rfl ?_
            refine AtL.eqi (.inr ⟨_, _, _, rfl, rfl, rfl, rfl⟩) rfl rfl rfl ?_
            refine AtL.pickF (.inl rfl) rfl rfl rfl ?_
            exact J _ (by exact ⟨(boolIs (by clear J; first | (simp [hs35]; done) | (simp_all; done) | grind)), rfl, rfl, trivial⟩)
        · skip
          refine AtL.done ?_
          refine At.cond rfl ?_ ?_
          · intro hc3
            have hc3 : (((codeF flags) : Int) = 3) ∨ ((x.l.length : Int) = 0) := of_decide_eq_true hc3
            refine At.region ?_
            refine AtL.move (.inl rfl) rfl rfl ?_
            refine AtL.loadN (cs := [.int .i64 id, .int .i64 flags, .slice Aq qs.length Cq, .slice Aa an.length Ca, .slice An ns.length Cn, .slice Ar ar.length Cr]) tf_agg39 (.inl rfl) rfl rfl rfl (cellsOwn 1 0 0 rfl rfl rfl) ?_
            refine AtL.call tf_body19 (.inl rfl) rfl rfl (soa_ok (id := id) (flags := flags) (qs := qs) (an := an) (ns := ns) (ar := ar) (Rd.skip 2 hq) (Rd.skip 2 ha) (Rd.skip 2 hn) (Rd.skip 2 hr) hns) ?_
            rintro _ _ ⟨zs10, rfl, hz11, hz12, rfl⟩
            refine AtL.buildSlice (cs := [.int .i64 zs10]) Tryd.underlying56 tf_zero3 tf_sz3 rfl rfl (.inl rfl) rfl rfl rfl ?_
            intro b13
            refine AtL.own1 tyI (l := ([zs10] : List Int)) rfl rfl (by first | decide | simp) ?_
            intro s14 o15
            refine AtL.append (l := x.l) (news := [zs10]) 1 tf_el56 rfl x.own (o15.rd (i := 0) rfl) (by first | omega | (simp only [List.length_append, List.length_cons, List.length_nil]; omega) | (simp; done) | (simp; omega)) (.inl rfl) rfl rfl rfl ?_
            intro A16 C17 s18 o19
            refine AtL.assign (.inl rfl) rfl rfl ?_
            refine AtL.done ?_
            have hLl : (x.l ++ [zs10]).length = x.l.length + 1 := by rw [List.length_append]; rfl
            refine At.seq ?_
            refine At.region ?_
            refine AtL.move (.inl rfl) rfl rfl ?_
            refine AtL.indexL 0 (o19.rd (i := 1) rfl) Tryd.underlying56 tf_sz3 (.inl rfl) rfl rfl rfl rfl (by omega) ?_
            refine AtL.load (v := .int .i64 ((x.l ++ [zs10]).getD 0 0)) tf_flat3 (.inl rfl) rfl rfl (Rd.cell0 (o19.rd (i := 1) rfl) (getD_some 0 (by omega)) rfl) ?_
            refine AtL.assign (.inl rfl) rfl rfl ?_
            refine AtL.done ?_
            refine At.seq ?_
            refine At.seq ?_
            refine At.region ?_
            refine AtL.move (.inl rfl) rfl rfl ?_
            refine AtL.lenL Tryd.underlying56 (.inl rfl) rfl rfl ?_
            refine AtL.move (.inl rfl) rfl rfl ?_
            refine AtL.done ?_
            refine At.block ?_
            refine At.loop2 (fun (i2 : Nat) (z2 : Int) => [(7, .int .i64 z2), (48, .slice A16 (x.l ++ [zs10]).length C17), (49, .int .i64 ((x.l ++ [zs10]).length : Int)), (50, .int .i64 (i2 : Int))]) (fun (i2 : Nat) (z2 : Int) => s14 :: s18 :: [(b1, .cells #[.int .i64 id, .int .i64 flags, .slice Aq qs.length Cq, .slice Aa an.length Ca, .slice An ns.length Cn, .slice Ar ar.length Cr] 39 (0, 0))] :: H) (fun (i2 : Nat) (z2 : Int) => i2 ≤ (x.l ++ [zs10]).length ∧ z2 ∈ (x.l ++ [zs10] : List Int) ∧ ∀ j, j < i2 → z2 ≤ (x.l ++ [zs10] : List Int).getD j 0) (fun (i2 : Nat) (z2 : Int) => (x.l ++ [zs10]).length - i2) 0 ((x.l ++ [zs10]).getD 0 0) (⟨Nat.zero_le _, getD_mem (by first | omega | simp), fun j hj => absurd hj (by omega)⟩) ⟨rfl, rfl, rfl, rfl, trivial⟩ rfl ?_
            rintro i2 z2 ⟨hi2, hz2, hm2⟩ ihL2
            refine At.seq ?_
            refine At.region ?_
            refine AtL.lss (.inl rfl) rfl rfl rfl ?_
            refine AtL.done ?_
            refine At.seq ?_
            refine At.cond rfl ?_ ?_
            · intro hc4
              have hc4 : (i2 : Int) < ((x.l ++ [zs10]).length : Int) := of_decide_eq_true hc4
              refine At.skip ?_
              refine At.seq ?_
              refine At.block ?_
              refine At.seq ?_
              refine At.region ?_
              refine AtL.indexL i2 (o19.rd (i := 1) rfl) Tryd.underlying56 tf_sz3 (.inl rfl) rfl rfl rfl rfl (by omega) ?_
              refine AtL.load (v := .int .i64 ((x.l ++ [zs10]).getD i2 0)) tf_flat3 (.inl rfl) rfl rfl (Rd.cell0 (o19.rd (i := 1) rfl) (getD_some 0 (by omega)) rfl) ?_
              refine AtL.assign (.inl rfl) rfl rfl ?_
              refine AtL.done ?_
              refine At.region ?_
              refine AtL.move (.inl rfl) rfl rfl ?_
              refine AtL.move (.inl rfl) rfl rfl ?_
              refine AtL.minZ (z := min z2 ((x.l ++ [zs10]).getD i2 0)) (.inl rfl) rfl rfl rfl (by omega) ?_
              refine AtL.assign (.inl rfl) rfl rfl ?_
              refine AtL.done ?_
              refine At.inBlock ?_
              refine At.region ?_
              refine AtL.add (z := (i2 : Int) + 1) (.inl rfl) rfl rfl rfl (w64 (by omega) (by omega)) ?_
              refine AtL.move (.inl rfl) rfl rfl ?_
              refine AtL.done ?_
              refine ihL2 (i2 + 1) (min z2 ((x.l ++ [zs10]).getD i2 0)) (⟨by omega, min_mem hz2 (getD_mem (by omega)), fun j hj => by rcases Nat.lt_or_ge j i2 with h9 | h9; have := hm2 j h9; omega; obtain rfl : j = i2 := (by omega); omega⟩) (by omega) _ ?_
              exact ⟨(by first | rfl | exact slLen (by simp []) | exact intEq (by omega) | exact intEq (by simp []) | exact slLen (by simp []; omega)), rfl, rfl, (by first | rfl | exact slLen (by simp []) | exact intEq (by omega) | exact intEq (by simp []) | exact slLen (by simp []; omega)), trivial⟩
            · intro hc4
              have hc4 : ¬ ((i2 : Int) < ((x.l ++ [zs10]).length : Int)) := of_decide_eq_false hc4
              refine At.exit rfl ?_
              refine At.seq ?_
              refine At.region ?_
              refine AtL.move (.inl rfl) rfl rfl ?_
              refine AtL.assign (.inl rfl) rfl rfl ?_
              refine AtL.done ?_
              refine At.pick (H' := H) [] 3 rfl rfl ?_
              exact At.ret Tryd.func12 rfl rfl (⟨_, rfl, .inl ⟨by omega, [zs10], .inr ⟨zs10, hz11, hz12, rfl⟩, .inl (hc3.imp (fun h8 => h8) fun h9 => List.eq_nil_of_length_eq_zero (by omega)), hx ▸ hz2, by rw [← hx]; exact all_getD (d := 0) fun j hj => hm2 j (by omega)⟩, rfl⟩)
          · intro hc3
            have hc3 : ¬ ((((codeF flags) : Int) = 3) ∨ ((x.l.length : Int) = 0)) := of_decide_eq_false hc3
            refine At.skip ?_
            refine At.seq ?_
            refine At.region ?_
            refine AtL.move (.inl rfl) rfl rfl ?_
            refine AtL.indexL 0 (x.own.rd (i := 0) rfl) Tryd.underlying56 tf_sz3 (.inl rfl) rfl rfl rfl rfl (by omega) ?_
            refine AtL.load (v := .int .i64 (x.l.getD 0 0)) tf_flat3 (.inl rfl) rfl rfl (Rd.cell0 (x.own.rd (i := 0) rfl) (getD_some 0 (by omega)) rfl) ?_
            refine AtL.assign (.inl rfl) rfl rfl ?_
            refine AtL.done ?_
            refine At.seq ?_
            refine At.seq ?_
            refine At.region ?_
            refine AtL.move (.inl rfl) rfl rfl ?_
            refine AtL.lenL Tryd.underlying56 (.inl rfl) rfl rfl ?_
            refine AtL.move (.inl rfl) rfl rfl ?_
            refine AtL.done ?_
            refine At.block ?_
            refine At.loop2 (fun (i2 : Nat) (z2 : Int) => [(7, .int .i64 z2), (48, .slice x.A x.l.length x.C), (49, .int .i64 (x.l.length : Int)), (50, .int .i64 (i2 : Int))]) (fun (i2 : Nat) (z2 : Int) => x.s :: [(b1, .cells #[.int .i64 id, .int .i64 flags, .slice Aq qs.length Cq, .slice Aa an.length Ca, .slice An ns.length Cn, .slice Ar ar.length Cr] 39 (0, 0))] :: H) (fun (i2 : Nat) (z2 : Int) => i2 ≤ (x.l).length ∧ z2 ∈ (x.l : List Int) ∧ ∀ j, j < i2 → z2 ≤ (x.l : List Int).getD j 0) (fun (i2 : Nat) (z2 : Int) => (x.l).length - i2) 0 (x.l.getD 0 0) (⟨Nat.zero_le _, getD_mem (by first | omega | simp), fun j hj => absurd hj (by omega)⟩) ⟨rfl, rfl, rfl, rfl, trivial⟩ rfl ?_
            rintro i2 z2 ⟨hi2, hz2, hm2⟩ ihL2
            refine At.seq ?_
            refine At.region ?_
            refine AtL.lss (.inl rfl) rfl rfl rfl ?_
            refine AtL.done ?_
            refine At.seq ?_
            refine At.cond rfl ?_ ?_
            · intro hc4
              have hc4 : (i2 : Int) < (x.l.length : Int) := of_decide_eq_true hc4
              refine At.skip ?_
              refine At.seq ?_
              refine At.block ?_
              refine At.seq ?_
              refine At.region ?_
              refine AtL.indexL i2 (x.own.rd (i := 0) rfl) Tryd.underlying56 tf_sz3 (.inl rfl) rfl rfl rfl rfl (by omega) ?_
              refine AtL.load (v := .int .i64 (x.l.getD i2 0)) tf_flat3 (.inl rfl) rfl rfl (Rd.cell0 (x.own.rd (i := 0) rfl) (getD_some 0 (by omega)) rfl) ?_
              refine AtL.assign (.inl rfl) rfl rfl ?_
              refine AtL.done ?_
              refine At.region ?_
              refine AtL.move (.inl rfl) rfl rfl ?_
              refine AtL.move (.inl rfl) rfl rfl ?_
              refine AtL.minZ (z := min z2 (x.l.getD i2 0)) (.inl rfl) rfl rfl rfl (by omega) ?_
              refine AtL.assign (.inl rfl) rfl rfl ?_
              refine AtL.done ?_
              refine At.inBlock ?_
              refine At.region ?_
              refine AtL.add (z := (i2 : Int) + 1) (.inl rfl) rfl rfl rfl (w64 (by omega) (by omega)) ?_
              refine AtL.move (.inl rfl) rfl rfl ?_
              refine AtL.done ?_
              refine ihL2 (i2 + 1) (min z2 (x.l.getD i2 0)) (⟨by omega, min_mem hz2 (getD_mem (by omega)), fun j hj => by rcases Nat.lt_or_ge j i2 with h9 | h9; have := hm2 j h9; omega; obtain rfl : j = i2 := (by omega); omega⟩) (by omega) _ ?_
              exact ⟨(by first | rfl | exact slLen (by simp []) | exact intEq (by omega) | exact intEq (by simp []) | exact slLen (by simp []; omega)), rfl, rfl, (by first | rfl | exact slLen (by simp []) | exact intEq (by omega) | exact intEq (by simp []) | exact slLen (by simp []; omega)), trivial⟩
            · intro hc4
              have hc4 : ¬ ((i2 : Int) < (x.l.length : Int)) := of_decide_eq_false hc4
              refine At.exit rfl ?_
              refine At.seq ?_
              refine At.region ?_
              refine AtL.move (.inl rfl) rfl rfl ?_
              refine AtL.assign (.inl rfl) rfl rfl ?_
              refine AtL.done ?_
              refine At.pick (H' := H) [] 2 rfl rfl ?_
              exact At.ret Tryd.func12 rfl rfl (⟨_, rfl, .inl ⟨by omega, [], .inl rfl, .inr rfl, by rw [List.append_nil, ← hx]; exact hz2, by rw [List.append_nil, ← hx]; exact all_getD (d := 0) fun j hj => hm2 j (by omega)⟩, rfl⟩)

/-- A message as a value. -/
def tyMsg : Ty (Int × Int × Vs (List UInt8 × Int × Int) × Vs (List UInt8 × Int × Int × Int × List UInt8) × Vs (List UInt8 × Int × Int × Int × List UInt8) × Vs (List UInt8 × Int × Int × Int × List UInt8)) := { val := fun x => .agg #[int x.1, int x.2.1, .slice x.2.2.1.A x.2.2.1.l.length x.2.2.1.C, .slice x.2.2.2.1.A x.2.2.2.1.l.length x.2.2.2.1.C, .slice x.2.2.2.2.1.A x.2.2.2.2.1.l.length x.2.2.2.2.1.C, .slice x.2.2.2.2.2.A x.2.2.2.2.2.l.length x.2.2.2.2.2.C], sz := 6, ok := fun _ => rfl, plain := fun x c hc => by simp [int, Value.cells] at hc; rcases hc with rfl | rfl | rfl | rfl | rfl | rfl <;> rfl }

end Go.Proofs.YtlkdmbpbjhjkfaaDoor
