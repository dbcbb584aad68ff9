/- The parts of the proof that this law needs, in the order of their texts: the logic of walks, the plain laws, the walks. -/
import Derived.Test.YtdncjmehhahidaaGreatDoorQE14
namespace Go.Proofs.YtdncjmehhahidaaGreatDoor
set_option maxHeartbeats 400000
open Go.RowKit (Below)
set_option linter.unusedVariables false
set_option maxRecDepth 100000
noncomputable section
def prb0 (g:FuncId):Option (List LV→Nat→LH→Rs):=match Nat.beq g 203 with
 | true => some cntE
 | false => match Nat.beq g 368 with
 | true => some idxE
 | false => match Nat.beq g 267 with
 | true => some joinE
 | false => match Nat.beq g 63 with
 | true => some nameE
 | false => pr0 g
def gl10 (g o:Nat):Option LV:=match Nat.beq g 6 with
 | true => match Nat.blt o 20 with
  | true => some (.int .u64 (.ofNat (Nat.pow 10 o)))
  | false => none
 | false => none
def cxb0:Cx:=cxOf Tryz.prog 822 prb0 gl10
end
section
variable {w0:World}{base:Nat}
theorem prb0_ok (g:FuncId) (p:List LV→Nat→LH→Rs) (h:prb0 g=some p):PrOk Tryz.prog w0 base g p:=by
 unfold prb0 at h
 split at h
 ·rename_i hg
  cases h
  rw [zaa.1 hg]
  exact cnt_pr (fun s c w => by rw [run_callFunc_extern Tryz.func203 (by kernel_rfl) (by kernel_rfl) (by kernel_rfl) (e:=Extern.BytealgCount.count) (by kernel_rfl),Lib.run_countString]; rfl)
 ·skip
  split at h
  ·rename_i hg
   cases h
   rw [zaa.1 hg]
   exact idx_pr (fun s c w => by rw [run_callFunc_extern Tryz.func368 (by kernel_rfl) (by kernel_rfl) (by kernel_rfl) (e:=Extern.BytealgIndexByte.indexByte) (by kernel_rfl),Lib.run_indexByteString]; rfl)
  ·skip
   split at h
   ·rename_i hg
    cases h
    rw [zaa.1 hg]
    exact join_pr ⟨Tryz.f267,Tryz.func267,by kernel_rfl,by kernel_rfl⟩ fun h h1 h2 => zfv h h1 h2
   ·skip
    split at h
    ·rename_i hg
     cases h
     rw [zaa.1 hg]
     exact name_pr ⟨Tryz.f63,Tryz.func63,by kernel_rfl,by kernel_rfl⟩ fun h h1 h2 => njoin_ok h h1 h2
    ·skip
     exact pr0_ok g p h
theorem gl10_ok (T10:Tab10 w0 base) (g o:Nat) (v:LV) (h:gl10 g o=some v):∃ u,VR [] v u∧∀ w,Below base w0 w→w.cell? ⟨g,o,none⟩=some u:=by
 unfold gl10 at h
 split at h
 ·rename_i hg
  split at h
  ·rename_i ho
   cases h
   rw [zaa.1 hg]
   exact ⟨.int .u64 ((10 ^ o:Nat):Int),by simp only [VR]; rfl,fun w B => T10.cell B (zal.1 ho)⟩
  ·cases h
 ·cases h
theorem cxb_all {pr:FuncId→Option (List LV→Nat→LH→Rs)}(T10:Tab10 w0 base) (hp:∀ g p,pr g=some p→PrOk Tryz.prog w0 base g p):CxF Tryz.prog w0 base (cxOf Tryz.prog 822 pr gl10) :=
 cx_ok (by decide) (of_decide_eq_true n_types) (of_decide_eq_true n_funcs) all_body mixed hp (gl10_ok T10)
theorem zdO (T10:Tab10 w0 base):CxF Tryz.prog w0 base cxb0:=cxb_all T10 prb0_ok
end
end Go.Proofs.YtdncjmehhahidaaGreatDoor
