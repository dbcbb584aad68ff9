/- The table of powers of ten, and the errors, as the rows list them. -/
import Derived.Lib.LaidTab
import Derived.LaidLaws
import Derived.Test.YtlfkoimkojbghaaGreatDoorTD1
import Derived.Test.YtlfkoimkojbghaaGreatDoorTV1
namespace Go.Proofs.YtlfkoimkojbghaaGreatDoor
set_option linter.unusedVariables false
set_option linter.unusedSimpArgs false
set_option maxRecDepth 100000

/-- A response as a value. -/
def tyResp : Ty (Int × Vs (List UInt8 × List UInt8) × Vs UInt8 × Bool) := { val := fun x => .agg #[int x.1, .slice x.2.1.A x.2.1.l.length x.2.1.C, .slice x.2.2.1.A x.2.2.1.l.length x.2.2.1.C, .bool x.2.2.2], sz := 4, ok := fun _ => rfl, plain := fun x c hc => by simp [int, Value.cells] at hc; rcases hc with rfl | rfl | rfl | rfl <;> rfl }
theorem tab10_of {W : World} {d : DataW Unit} (h : Go.Lib.VarReads Tryz.prog W "internal/strconv.uint64pow10" d) (e : d = Go.Lib.tabData .u64 Go.Lib.pow10Tab := by kernel_rfl) : Tab10 W W.heap.size := by
  subst e
  have hg : Tryz.prog.globalNamed "internal/strconv.uint64pow10" = some 3 := by kernel_rfl
  have hT : Go.Lib.TabIs Tryz.prog W "internal/strconv.uint64pow10" .u64 Go.Lib.pow10Tab := by
    obtain ⟨g', t', cs, fuel, p, hg', ht', hvar, hd⟩ := h
    obtain rfl := Option.some.inj (hg.symm.trans hg')
    obtain rfl := Option.some.inj ((show (Tryz.prog.globals[3]?).map (·.type) = some 248 by kernel_rfl).symm.trans ht')
    unfold Go.Lib.TabIs
    rw [hvar, ← Go.Lib.cells_of_tab Tryz.underlying248 Tryz.underlying219 (by kernel_rfl) (by kernel_rfl) hd]
  exact ⟨cell_skip (Go.Lib.TabIs.cell hT hg 0 (by decide)), hT⟩

theorem errcell_of {W : World} {n : String} {g : Nat} {t : TypeId} {ms : Array (String × TypeId)} {nm : String} {d0 : DataW Unit} (h : Go.Lib.VarReads Tryz.prog W n (.iface nm d0)) (hg : Tryz.prog.globalNamed n = some g) (ht : (Tryz.prog.globals[g]?).map (·.type) = some t) (hu : Tryz.prog.underlying t = some (.interface ms)) : ∃ ev : Value, W.cell? ⟨g, 0, none⟩ = some ev ∧ (ev = .nilIface ∨ ∃ te pe, ev = .iface te pe) := by
  obtain ⟨g', t', cs, fuel, p, hg', ht', hv, hd⟩ := h
  obtain rfl := Option.some.inj (hg.symm.trans hg')
  obtain rfl := Option.some.inj (ht.symm.trans ht')
  obtain ⟨_, u, v, hcs, _⟩ := iface_of_trod hu hd
  have hc := World.var?_cell hg hv 0
  have e : cs[0]? = some (.iface u v) := by rw [← Array.getElem?_toList, hcs]; rfl
  exact ⟨_, hc.trans e, .inr ⟨u, v, rfl⟩⟩
theorem errtab_of {W : World} {m1 m2 : String} {d1 d2 : DataW Unit} (h1 : Go.Lib.VarReads Tryz.prog W "strconv.ErrSyntax" (.iface m1 d1)) (h2 : Go.Lib.VarReads Tryz.prog W "strconv.ErrRange" (.iface m2 d2)) : ErrTab W W.heap.size := by
  have e1 := errcell_of h1 (g := 1) (t := 125) (by kernel_rfl) (by kernel_rfl) Tryz.underlying125
  have e2 := errcell_of h2 (g := 2) (t := 125) (by kernel_rfl) (by kernel_rfl) Tryz.underlying125
  obtain ⟨v1, c1, _⟩ := e1
  obtain ⟨v2, c2, _⟩ := e2
  exact ⟨cell_skip c1, cell_skip c2, errcell_of h1 (g := 1) (t := 125) (by kernel_rfl) (by kernel_rfl) Tryz.underlying125, errcell_of h2 (g := 2) (t := 125) (by kernel_rfl) (by kernel_rfl) Tryz.underlying125⟩

end Go.Proofs.YtlfkoimkojbghaaGreatDoor
