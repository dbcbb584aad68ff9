/- A logic for walks: copies, new slices, stores into elements, bytes and strings. -/
import Derived.Test.YtlkdmbpbjhjkfaaGreatDoorLgE
namespace Go.Proofs.YtlkdmbpbjhjkfaaGreatDoor
open Go.RowKit (Below)
set_option linter.unusedVariables false
set_option linter.unusedSimpArgs false

section
variable {X : Pt} {k : List Item} {E : Env} {ds : List Deferred} {H : List Seg} {ops : Array Oper} {os : List Oper}
  {d : Nat} {ty : TypeId} {pos : String} {after : Array Edge} {g : Option (Nat × Bool)}

/-- A stretch of a block of one's own is written over. -/
theorem OwnR.over {α : Type} {T : Ty α} {P : Program} {w0 : World} {base : Nat} {w : World} (S : Sep w0 base w H) {e : TypeId} {A : Option Addr} {l r : List α} {s : Seg} {i : Nat} (hi : H[i]? = some s) (ho : OwnR T e A l r s) {a : Addr} (ha : A = some a) (j : Nat) (news : List α) (hj : j + news.length ≤ l.length) :
    ∃ s' w', (storeCells (a.add (j * T.sz)) (T.cells news)).run P w = .ok () w' ∧ OwnR T e A (l.take j ++ news ++ l.drop (j + news.length)) r s' ∧ Sep w0 base w' (H.set i s') := by
  rcases ho with ⟨rfl, _⟩ | ⟨gb, pre, post, fr, rfl, rfl, hfo, hc⟩
  · cases ha
  · cases ha
    have hblk := (S.at_ hi (j := 0) rfl).1
    have htot : (pre ++ l ++ r ++ post).length * T.sz = pre.length * T.sz + l.length * T.sz + r.length * T.sz + post.length * T.sz := by simp only [List.length_append, Nat.add_mul]
    have hjm := Nat.mul_le_mul_right T.sz hj
    rw [Nat.add_mul] at hjm
    have hst := run_storeCells_blk P gb (pre.length * T.sz + j * T.sz) e fr (T.cells news) 0 _ w hblk (fun q h1 h2 => hfo q (by
        rw [Ty.cells_len] at h2
        rw [htot]
        omega)) (by
        rw [List.size_toArray, Ty.cells_len, Ty.cells_len, htot]
        omega) Ty.cells_plain
    have ecut : ((T.cells (pre ++ l ++ r ++ post)).take (pre.length * T.sz + j * T.sz) ++ T.cells news ++ (T.cells (pre ++ l ++ r ++ post)).drop (pre.length * T.sz + j * T.sz + (T.cells news).length)) = T.cells (pre ++ (l.take j ++ news ++ l.drop (j + news.length)) ++ r ++ post) := by
      have h1 : pre.length * T.sz + j * T.sz = (pre.length + j) * T.sz := by rw [Nat.add_mul]
      have h2 : (pre.length + j) * T.sz + (T.cells news).length = (pre.length + (j + news.length)) * T.sz := by rw [Ty.cells_len]; simp only [Nat.add_mul]; omega
      rw [h1, h2, ← Ty.cells_take _ _ (by simp only [List.length_append]; omega), ← Ty.cells_drop _ _ (by simp only [List.length_append]; omega), ← Ty.cells_app, ← Ty.cells_app]
      congr 1
      rw [show pre ++ l ++ r ++ post = pre ++ (l ++ (r ++ post)) from by simp only [List.append_assoc]]
      rw [List.take_append, List.take_of_length_le (by omega), Nat.add_sub_cancel_left, List.take_append_of_le_length (by omega)]
      rw [List.drop_append, List.drop_eq_nil_of_le (by omega), List.nil_append, Nat.add_sub_cancel_left, List.drop_append_of_le_length (by omega)]
      simp only [List.append_assoc]
    simp only [Nat.add_zero] at hst
    rw [ecut] at hst
    refine ⟨[(gb, .cells (T.cells (pre ++ (l.take j ++ news ++ l.drop (j + news.length)) ++ r ++ post)).toArray e fr)], _, ?_, .inr ⟨gb, pre, post, fr, rfl, rfl, ?_, ?_⟩, S.setRow hi (j := 0) rfl _⟩
    · rw [addr_add]; exact hst
    · have : (pre ++ (l.take j ++ news ++ l.drop (j + news.length)) ++ r ++ post).length = (pre ++ l ++ r ++ post).length := by simp only [List.length_append, List.length_take, List.length_drop]; omega
      rw [this]; exact hfo
    · simp only [List.length_append, List.length_take, List.length_drop]; omega
theorem storeCells_nil {P : Program} {w : World} {a : Addr} : (storeCells a []).run P w = .ok () w := rfl
/-- copy(dst, src). -/
theorem Do.copy {α : Type} {T : Ty α} {t t2 e : TypeId} {x y : Operand} {A A2 : Option Addr} {C C2 : Nat} {l news : List α} {s : Seg} (i : Nat) (hu : X.P.underlying t = some (.slice e)) (hs : sizeN X.P e T.sz = true) (hi : H[i]? = some s) (ho : Own T e A C l s) (hr : Rd T X.w0 X.base H A2 C2 news) (hx : ev E x = some (.slice A l.length C)) (hy : ev E y = some (.slice A2 news.length C2)) : Does X E H (.call ⟨.builtin .copy, #[x, y], #[t, t2]⟩) (fun v H' => ∃ s', Own T e A C (news.take l.length ++ l.drop news.length) s' ∧ v = int ((min news.length l.length : Nat) : Int) ∧ H' = H.set i s') :=
  Does.core rfl (fun dst ty pos after g ρ w hρ S => by
    have hf := hr.first (P := X.P) S (min news.length l.length) (Nat.min_le_left _ _)
    have hmin : Nat.min news.length l.length = min news.length l.length := rfl
    have hlen : (news.take (min news.length l.length)).length = min news.length l.length := by rw [List.length_take]; omega
    have etake : news.take (min news.length l.length) = news.take l.length := by
      rcases Nat.le_total news.length l.length with h | h
      · rw [Nat.min_eq_left h, List.take_of_length_le (Nat.le_refl _), List.take_of_length_le h]
      · rw [Nat.min_eq_right h]
    have edrop : l.drop (min news.length l.length) = l.drop news.length := by
      rcases Nat.le_total news.length l.length with h | h
      · rw [Nat.min_eq_left h]
      · rw [Nat.min_eq_right h, List.drop_eq_nil_of_le (Nat.le_refl _), List.drop_eq_nil_of_le h]
    cases A with
    | none =>
      have hC : l = [] ∧ s = [] := by
        obtain ⟨r, _, h⟩ := ho
        rcases h with ⟨_, h1, _, h2⟩ | ⟨_, _, _, _, h, _⟩
        · exact ⟨h1, h2⟩
        · cases h
      obtain ⟨rfl, rfl⟩ := hC
      have hset : H.set i [] = H := by
        apply List.ext_getElem?
        intro j
        rw [List.getElem?_set]
        split
        · rename_i hj; subst hj; rw [hi]; simp [(List.getElem?_eq_some_iff.1 hi).1]
        · rfl
      refine ⟨_, w, H, ?_, S, [], by simpa using ho, rfl, hset.symm⟩
      simp at hf
      simp [execOp, resolve, invoke, builtin, hρ _ _ hx, hρ _ _ hy, Builtin.copy_, run_underlying hu, sizeN_run hs, Builtin.lenOf, hmin, hf, goInt]
    | some a =>
      obtain ⟨r, rfl, hor⟩ := ho
      obtain ⟨s', w', hst, ho', S'⟩ := hor.over (P := X.P) S hi rfl 0 (news.take (min news.length l.length)) (by rw [hlen]; omega)
      rw [hlen] at ho'
      simp only [List.take_zero, List.nil_append, Nat.zero_add, edrop, etake] at ho'
      have ha : a.add (0 * T.sz) = a := by rw [Nat.zero_mul]; rfl
      rw [ha] at hst
      refine ⟨_, w', _, ?_, S', s', ⟨r, ?_, ho'⟩, rfl, rfl⟩
      · simp [execOp, resolve, invoke, builtin, hρ _ _ hx, hρ _ _ hy, Builtin.copy_, run_underlying hu, sizeN_run hs, Builtin.lenOf, hmin, hf, hst, goInt]
      · simp only [List.length_append, List.length_take, List.length_drop]; omega)
theorem AtL.copy {dst : Option Tmp} {α : Type} {T : Ty α} {t t2 e : TypeId} {x y : Operand} {A A2 : Option Addr} {C C2 : Nat} {l news : List α} {s : Seg} (i : Nat) (hu : X.P.underlying t = some (.slice e)) (hs : sizeN X.P e T.sz = true) (hi : H[i]? = some s) (ho : Own T e A C l s) (hr : Rd T X.w0 X.base H A2 C2 news) (hg : Wd X ops E g) (hd : dstOk X.n dst = true)
    (hx : ev E x = some (.slice A l.length C)) (hy : ev E y = some (.slice A2 news.length C2))
    (hk : ∀ s', Own T e A C (news.take l.length ++ l.drop news.length) s' → AtL X ops os k (putE E dst (int ((min news.length l.length : Nat) : Int))) ds (H.set i s')) :
    AtL X ops (⟨dst, .call ⟨.builtin .copy, #[x, y], #[t, t2]⟩, ty, pos, after, g⟩ :: os) k E ds H :=
  AtL.of (Do.copy i hu hs hi ho hr hx hy) hg hd fun _ _ ⟨s', h', hv, hH⟩ => by subst hv; subst hH; exact hk s' h'
/-- copy(dst, src) of a string. -/
theorem Do.copyS {t t2 e : TypeId} {x y : Operand} {A : Option Addr} {C : Nat} {l news : List UInt8} {s : Seg} (i : Nat) (hu : X.P.underlying t = some (.slice e)) (hs : sizeN X.P e 1 = true) (hi : H[i]? = some s) (ho : Own tyB e A C l s) (hA : A ≠ none) (hx : ev E x = some (.slice A l.length C)) (hy : ev E y = some (str news)) (hle : news.length ≤ l.length) : Does X E H (.call ⟨.builtin .copy, #[x, y], #[t, t2]⟩) (fun v H' => ∃ s', Own tyB e A C (news ++ l.drop news.length) s' ∧ v = int (news.length : Int) ∧ H' = H.set i s') :=
  Does.core rfl (fun dst ty pos after g ρ w hρ S => by
    have hmin : Nat.min news.length l.length = news.length := Nat.min_eq_left hle
    have e1 : (ByteArray.mk ⟨news⟩).extract 0 news.length = ByteArray.mk ⟨news⟩ := by
      apply ByteArray.ext
      simp
    have e2 : (List.map (fun b => Value.int .u8 (b.toNat : Int)) news) = tyB.cells news := by rw [tyB_cells]; rfl
    have e3 : List.take news.length (tyB.cells news) = tyB.cells news := List.take_of_length_le (by rw [Ty.cells_len]; simp [tyB])
    cases A with
    | none => exact absurd rfl hA
    | some a =>
      obtain ⟨r, rfl, hor⟩ := ho
      obtain ⟨s', w', hst, ho', S'⟩ := hor.over (P := X.P) S hi rfl 0 news (by omega)
      simp only [List.take_zero, List.nil_append, Nat.zero_add] at ho'
      have ha : a.add (0 * tyB.sz) = a := by rw [Nat.zero_mul]; rfl
      rw [ha] at hst
      refine ⟨_, w', _, ?_, S', s', ⟨r, ?_, ho'⟩, rfl, rfl⟩
      · simp [execOp, resolve, invoke, builtin, hρ _ _ hx, hρ _ _ hy, Builtin.copy_, run_underlying hu, sizeN_run hs, Builtin.lenOf, str, str_size, hmin, Builtin.firstCells, e1, e2, e3, hst, goInt]
      · simp only [List.length_append, List.length_drop]; omega)
theorem AtL.copyS {dst : Option Tmp} {t t2 e : TypeId} {x y : Operand} {A : Option Addr} {C : Nat} {l news : List UInt8} {s : Seg} (i : Nat) (hu : X.P.underlying t = some (.slice e)) (hs : sizeN X.P e 1 = true) (hi : H[i]? = some s) (ho : Own tyB e A C l s) (hA : A ≠ none) (hg : Wd X ops E g) (hd : dstOk X.n dst = true)
    (hx : ev E x = some (.slice A l.length C)) (hy : ev E y = some (str news)) (hle : news.length ≤ l.length)
    (hk : ∀ s', Own tyB e A C (news ++ l.drop news.length) s' → AtL X ops os k (putE E dst (int (news.length : Int))) ds (H.set i s')) :
    AtL X ops (⟨dst, .call ⟨.builtin .copy, #[x, y], #[t, t2]⟩, ty, pos, after, g⟩ :: os) k E ds H :=
  AtL.of (Do.copyS i hu hs hi ho hA hx hy hle) hg hd fun _ _ ⟨s', h', hv, hH⟩ => by subst hv; subst hH; exact hk s' h'
/-- A store into an element. -/
theorem Do.setIdx {α : Type} {T : Ty α} {t e : TypeId} {x y : Operand} {A : Option Addr} {C : Nat} {l : List α} {s : Seg} {u : α} (i j : Nat) (hsz : sizeN X.P t T.sz = true) (hi : H[i]? = some s) (ho : Own T e A C l s) (hj : j < l.length) (hx : ev E x = some (.pointer (some (eaddr A (j * T.sz))))) (hy : ev E y = some (T.val u)) : Does X E H (.store t x y) (fun v H' => ∃ s', Own T e A C (l.set j u) s' ∧ v = undef ∧ H' = H.set i s') :=
  Does.coreU rfl (fun dst ty pos after g ρ w hρ S => by
    cases A with
    | none =>
      obtain ⟨r, _, h⟩ := ho
      rcases h with ⟨_, rfl, _⟩ | ⟨_, _, _, _, h, _⟩
      · simp at hj
      · cases h
    | some a =>
      obtain ⟨r, rfl, hor⟩ := ho
      obtain ⟨s', w', hst, ho', S'⟩ := hor.over (P := X.P) S hi rfl j [u] (by simp; omega)
      have hc1 : T.cells [u] = (T.val u).cells.toList := by simp [Ty.cells]
      rw [hc1] at hst
      have hset : l.take j ++ [u] ++ l.drop (j + [u].length) = l.set j u := by
        rw [List.set_eq_take_append_cons_drop, if_pos hj]; simp
      rw [hset] at ho'
      refine ⟨w', _, ?_, S', s', ⟨r, by rw [List.length_set], ho'⟩, rfl, rfl⟩
      have hst2 : (storeCells (a.add (j * T.sz)) (T.val u).cells.toList).run X.P w = .ok () w' := hst
      simp [execOp, hρ _ _ hx, hρ _ _ hy, Instr.storeAt, Instr.sureAddr, storeVar, sizeN_run hsz, T.ok, eaddr, hst2])
theorem AtL.setIdx {α : Type} {T : Ty α} {t e : TypeId} {x y : Operand} {A : Option Addr} {C : Nat} {l : List α} {s : Seg} {u : α} (i j : Nat) (hsz : sizeN X.P t T.sz = true) (hi : H[i]? = some s) (ho : Own T e A C l s) (hj : j < l.length) (hg : Wd X ops E g)
    (hx : ev E x = some (.pointer (some (eaddr A (j * T.sz))))) (hy : ev E y = some (T.val u))
    (hk : ∀ s', Own T e A C (l.set j u) s' → AtL X ops os k E ds (H.set i s')) :
    AtL X ops (⟨none, .store t x y, ty, pos, after, g⟩ :: os) k E ds H :=
  AtL.of (Do.setIdx i j hsz hi ho hj hx hy) hg rfl fun _ _ ⟨s', h', hv, hH⟩ => by subst hv; subst hH; exact hk s' h'
/-- make([]T, n, c). -/
theorem Do.makeSlice {α : Type} {T : Ty α} {t e : TypeId} {x y : Operand} {kk k2 : IntKind} {z : α} {by_ n c : Nat} (hT : ElemOk X.P t e T z by_) (hzs : T.sz ≠ 0) (hx : ev E x = some (.int kk (n : Int))) (hy : ev E y = some (.int k2 (c : Int))) (hnc : n ≤ c) (hc : c * by_ ≤ 140737488355328) : Does X E H (.makeSlice t x y) (fun v H' => ∃ A' s', Own T e A' c (List.replicate n z) s' ∧ OwnR T e A' (List.replicate n z) (List.replicate (c - n) z) s' ∧ v = .slice A' (List.replicate n z).length c ∧ H' = s' :: H) :=
  Does.core rfl (fun dst ty pos after g ρ w hρ S => by
    obtain ⟨io, hio, hsz, hby, hz⟩ := hT.info
    have hpos := hT.pos
    have hcl : c ≤ 140737488355328 := Nat.le_trans (Nat.le_mul_of_pos_right _ hpos) hc
    have hR : OwnR T e (some ⟨w.heap.size, 0, none⟩) (List.replicate n z) (List.replicate (c - n) z) [(w.heap.size, .cells (T.cells (List.replicate c z)).toArray e (0, 0))] := by
      refine .inr ⟨w.heap.size, [], [], (0, 0), by simp, ?_, frOut_zero _, by simp; omega⟩
      have : [] ++ List.replicate n z ++ List.replicate (c - n) z ++ [] = List.replicate c z := by
        rw [List.nil_append, List.append_nil, List.replicate_append_replicate]
        congr 1; omega
      rw [this]
    have hO : Own T e (some ⟨w.heap.size, 0, none⟩) c (List.replicate n z) [(w.heap.size, .cells (T.cells (List.replicate c z)).toArray e (0, 0))] := ⟨_, by simp; omega, hR⟩
    refine ⟨.slice (some ⟨w.heap.size, 0, none⟩) n c, _, _, ?_, S.alloc _, _, _, hO, hR, by rw [List.length_replicate], rfl⟩
    have hw1 : IntKind.i64.wrap (n : Int) = n := w64 (by omega) (by omega)
    have hw2 : IntKind.i64.wrap (c : Int) = c := w64 (by omega) (by omega)
    have hbig : ¬ ((281474976710656 : Int) < (by_ : Int) * (c : Int)) := by
      have : ((c * by_ : Nat) : Int) ≤ 140737488355328 := by omega
      rw [Int.natCast_mul, Int.mul_comm] at this
      omega
    have h1 : ¬ ((c : Int) < 0) := by omega
    have h2 : ¬ ((n : Int) < 0) := by omega
    have h3 : ¬ ((c : Int) < (n : Int)) := by omega
    have hasi : ∀ (q : IntKind) (m : Nat) (w : World), (asInt (.int q (m : Int))).run X.P w = .ok (m : Int) w := fun q m w => by simp [asInt, asIntOf]
    have hrow : ((Array.range (c * T.sz)).map fun i => (T.val z).cells[i % (T.val z).cells.size]!) = (T.cells (List.replicate c z)).toArray := by
      have := range_rep (T.val z).cells c
      rw [T.ok] at this ⊢
      rw [this, Ty.cells_rep]
    by_cases h0 : c * T.sz = 0
    · have hc0 : c = 0 := by
        rcases Nat.mul_eq_zero.1 h0 with h | h
        · exact h
        · exact absurd h hzs
      subst hc0
      have hn0 : n = 0 := by omega
      subst hn0
      simp only [execOp, hρ _ _ hx, hρ _ _ hy, Instr.makeSlice, Sem.run_bind, run_underlying hT.u, Result.andThen_ok, hasi, typeInfo, run_program, hio, Sem.run_pure, sizeOf, hsz]
      have hw0 : IntKind.i64.wrap 0 = 0 := by decide
      have er : ∀ f : Nat → Value, (Array.range 0).map f = #[] := fun f => by
        have : Array.range 0 = #[] := by simp [Array.range]
        rw [this]; simp
      simp [hw0, newRow, Ty.cells, hio, er]
    · simp only [execOp, hρ _ _ hx, hρ _ _ hy, Instr.makeSlice, Sem.run_bind, run_underlying hT.u, Result.andThen_ok, hasi, typeInfo, run_program, hio, Sem.run_pure, sizeOf, hsz]
      have hc0 : ¬ c = 0 := fun e => h0 (by rw [e]; simp)
      simp [hw1, hw2, hby, hbig, h1, h2, h3, hc0, newRow, zeroValue, typeInfo, hio, hz, hnc, hzs, hsz]
      rw [if_neg h0, hrow])
theorem AtL.makeSlice {α : Type} {T : Ty α} {t e : TypeId} {x y : Operand} {kk k2 : IntKind} {z : α} {by_ n c : Nat} (hT : ElemOk X.P t e T z by_) (hzs : T.sz ≠ 0) (hg : Wd X ops E g) (hd : Nat.blt d X.n = true) (hx : ev E x = some (.int kk (n : Int))) (hy : ev E y = some (.int k2 (c : Int))) (hnc : n ≤ c) (hc : c * by_ ≤ 140737488355328)
    (hk : ∀ A' s', Own T e A' c (List.replicate n z) s' → OwnR T e A' (List.replicate n z) (List.replicate (c - n) z) s' → AtL X ops os k ((d, .slice A' (List.replicate n z).length c) :: E) ds (s' :: H)) :
    AtL X ops (⟨some d, .makeSlice t x y, ty, pos, after, g⟩ :: os) k E ds H :=
  AtL.of (Do.makeSlice hT hzs hx hy hnc hc) hg hd fun _ _ ⟨A', s', h', h2', hv, hH⟩ => by subst hv; subst hH; exact hk A' s' h' h2'
/-- []byte(s). -/
theorem Do.bytesOf {src dst e : TypeId} {x : Operand} {l : List UInt8} (hs : X.P.underlying src = some .string) (hu : X.P.underlying dst = some (.slice e)) (he : X.P.underlying e = some (.int .u8)) (hl : l.length ≤ 9223372036854775807) (hx : ev E x = some (str l)) : Does X E H (.convert src dst x) (fun v H' => ∃ A' C' s', A' ≠ none ∧ Own tyB e A' C' l s' ∧ v = .slice A' l.length C' ∧ H' = s' :: H) :=
  Does.core rfl (fun dst' ty pos after g ρ w hρ S => by
    have hrun := run_bytes_of_string (P := X.P) w src dst e ⟨⟨l⟩⟩ hs hu he
    have hge := grownCap_ge w l.length 0 e
    have hcm : grownCap w l.length 0 e ≤ maxLen := grownCap_le_maxLen w l.length 0 e (by simpa [maxLen] using hl)
    have erow : bytesRow ⟨⟨l⟩⟩ (grownCap w l.length 0 e) = (tyB.cells ([] ++ l ++ List.replicate (grownCap w l.length 0 e - l.length) 0 ++ [])).toArray := by
      unfold bytesRow
      apply Array.ext'
      rw [tyB_cells]
      simp [byt, str_size]
    have hS : Sep X.w0 X.base (w.drew.alloc (.cells (bytesRow ⟨⟨l⟩⟩ (grownCap w l.length 0 e)) e ((bytesRow ⟨⟨l⟩⟩ (grownCap w l.length 0 e)).size, (bytesRow ⟨⟨l⟩⟩ (grownCap w l.length 0 e)).size + 1))) _ := (S.drawn (w.drawn + 1)).alloc _
    refine ⟨_, _, _, ?_, hS, some ⟨w.heap.size, 0, none⟩, grownCap w l.length 0 e, _, by simp, ⟨List.replicate (grownCap w l.length 0 e - l.length) 0, by simp; omega, .inr ⟨w.heap.size, [], [], _, by simp, by rw [← erow], ?_, by simp only [maxLen] at hcm; rw [List.length_replicate]; omega⟩⟩, rfl, rfl⟩
    · rw [str_size] at hrun
      have hrun' : (convert src dst (str l)).run X.P w = _ := hrun
      simp [execOp, hρ _ _ hx, hrun']
    · intro j hj
      rw [erow]
      rw [Bool.and_eq_false_iff, decide_eq_false_iff_not]
      left
      rw [List.size_toArray, Ty.cells_len]
      omega)
theorem AtL.bytesOf {src dst e : TypeId} {x : Operand} {l : List UInt8} (hs : X.P.underlying src = some .string) (hu : X.P.underlying dst = some (.slice e)) (he : X.P.underlying e = some (.int .u8)) (hl : l.length ≤ 9223372036854775807) (hg : Wd X ops E g) (hd : Nat.blt d X.n = true) (hx : ev E x = some (str l))
    (hk : ∀ A' C' s', A' ≠ none → Own tyB e A' C' l s' → AtL X ops os k ((d, .slice A' l.length C') :: E) ds (s' :: H)) :
    AtL X ops (⟨some d, .convert src dst x, ty, pos, after, g⟩ :: os) k E ds H :=
  AtL.of (Do.bytesOf hs hu he hl hx) hg hd fun _ _ ⟨A', C', s', hn, h', hv, hH⟩ => by subst hv; subst hH; exact hk A' C' s' hn h'
/-- string(b). -/
theorem Do.strOf {src dst e : TypeId} {x : Operand} {A : Option Addr} {C : Nat} {l : List UInt8} (hr : Rd tyB X.w0 X.base H A C l) (hs : X.P.underlying src = some (.slice e)) (he : X.P.underlying e = some (.int .u8)) (hu : X.P.underlying dst = some .string) (hx : ev E x = some (.slice A l.length C)) : Does X E H (.convert src dst x) (fun v H' => v = str l ∧ H' = H) :=
  Does.core rfl (fun dst' ty pos after g ρ w hρ S => by
    refine ⟨_, w, H, ?_, S, rfl, rfl⟩
    have : (convert src dst (.slice A l.length C)).run X.P w = .ok (str l) w := by
      cases A with
      | none =>
        have hC := hr.nil rfl
        have hl := hr.le
        have : l = [] := List.eq_nil_of_length_eq_zero (by omega)
        subst this
        exact run_convert_bytes_nil w src e hs he _ _ dst hu
      | some a =>
        refine run_convert_bytes_back w src dst e a C l hs he hu (fun j hj => ?_)
        obtain ⟨b, off, ha, hc⟩ := hr.cells (by rintro rfl; simp at hj)
        cases ha
        rw [addr_add]
        refine hc w S j _ ?_
        rw [tyB_cells, List.getElem?_map, List.getElem?_eq_getElem hj]
        rfl
    simp [execOp, hρ _ _ hx, this])
theorem AtL.strOf {src dst e : TypeId} {x : Operand} {A : Option Addr} {C : Nat} {l : List UInt8} (hr : Rd tyB X.w0 X.base H A C l) (hs : X.P.underlying src = some (.slice e)) (he : X.P.underlying e = some (.int .u8)) (hu : X.P.underlying dst = some .string) (hg : Wd X ops E g) (hd : Nat.blt d X.n = true) (hx : ev E x = some (.slice A l.length C))
    (hk : AtL X ops os k ((d, str l) :: E) ds H) :
    AtL X ops (⟨some d, .convert src dst x, ty, pos, after, g⟩ :: os) k E ds H :=
  AtL.of (Do.strOf hr hs he hu hx) hg hd fun _ _ ⟨hv, hH⟩ => by subst hv; subst hH; exact hk 
end
theorem slLen {A : Option Addr} {C n m : Nat} (h : n = m) : some (Value.slice A n C) = some (Value.slice A m C) := by rw [h]
theorem slLen2 {A : Option Addr} {C D n m : Nat} (h : n = m) (h2 : C = D) : some (Value.slice A n C) = some (Value.slice A m D) := by rw [h, h2]
theorem intEq {kk : IntKind} {a b : Int} (h : a = b) : some (Value.int kk a) = some (Value.int kk b) := by rw [h]
theorem strEq {a b : List UInt8} (h : a = b) : some (str a) = some (str b) := by rw [h]
theorem boolEq {a b : Bool} (h : a = b) : some (Value.bool a) = some (Value.bool b) := by rw [h]
/-- A composite that has just been laid, as a slice of its own. -/
theorem own_new {α : Type} (T : Ty α) (e : TypeId) (b : Nat) (l : List α) (n : Nat) (cs : List Value) (hcs : cs = T.cells l) (hn : n = l.length) (hle : l.length ≤ 9223372036854775807) :
    ∃ s, s = [(b, Obj.cells cs.toArray e (0, 0))] ∧ Own T e (some ⟨b, 0, none⟩) n l s := by
  subst hcs; subst hn
  refine ⟨_, rfl, [], by simp, .inr ⟨b, [], [], (0, 0), by simp, by simp, frOut_zero _, by simpa using hle⟩⟩
theorem AtL.relen {X : Pt} {k : List Item} {E : Env} {ds : List Deferred} {H : List Seg} {ops : Array Oper} {os : List Oper} {A : Option Addr} {C n m : Nat} (t : Nat) (hb : Env.get E t = some (.slice A n C)) (hn : m = n)
    (h : AtL X ops os k ((t, .slice A m C) :: E) ds H) : AtL X ops os k E ds H := by
  subst hn
  intro is hi a w ha S
  refine h is hi a w ⟨ha.size, fun u v hu => ?_⟩ S
  simp only [Env.get] at hu
  by_cases e : t = u
  · subst e
    simp at hu
    subst hu
    exact ha.get t _ hb
  · rw [beq_no e] at hu
    exact ha.get u v hu
theorem copy_len {α : Type} (l news : List α) : (news.take l.length ++ l.drop news.length).length = l.length := by simp; omega
theorem copyS_len {α : Type} (l news : List α) (h : news.length ≤ l.length) : (news ++ l.drop news.length).length = l.length := by simp; omega
theorem AtL.own1 {X : Pt} {k : List Item} {E : Env} {ds : List Deferred} {H : List Seg} {ops : Array Oper} {os : List Oper} {α : Type} (T : Ty α) {e : TypeId} {b : Nat} {l : List α} {n : Nat} {cs : Array Value} (hcs : cs = (T.cells l).toArray) (hn : n = l.length) (hle : l.length ≤ 9223372036854775807)
    (h : ∀ s, Own T e (some ⟨b, 0, none⟩) n l s → AtL X ops os k E ds (s :: H)) : AtL X ops os k E ds ([(b, .cells cs e (0, 0))] :: H) := by
  obtain ⟨s, hs, ho⟩ := own_new T e b l n _ rfl hn hle
  have := h s ho
  rw [hs, ← hcs] at this
  exact this
/-- The cells of a block of one's own, several at once. -/
theorem cellsOwn {w0 : World} {base : Nat} {H : List Seg} {b : Nat} {cs : Array Value} {e : TypeId} {fr : Nat × Nat} {s : Seg} {vs : List Value} (i j o : Nat) (hi : H[i]? = some s) (hj : s[j]? = some (b, .cells cs e fr)) (hv : (cs.toList.drop o).take vs.length = vs) :
    ∀ q v, vs[q]? = some v → Cell w0 base H ((⟨b, o, none⟩ : Addr).add q) v := by
  intro q v hq
  rw [addr_add]
  refine Cell.own i j hi hj ?_
  rw [← hv, List.getElem?_take] at hq
  split at hq
  · rw [List.getElem?_drop] at hq
    simpa using hq
  · cases hq
end Go.Proofs.YtlkdmbpbjhjkfaaGreatDoor
