/- The parts of the proof that this law needs, in the order of their texts: the logic of walks, the plain laws, the walks. -/
import Derived.Test.YtlkdmbpbjhjkfaaGreatDoorBackPkA
namespace Go.Proofs.YtlkdmbpbjhjkfaaGreatDoor
set_option maxRecDepth 100000
theorem tf_flat3 : flatB Tryz.prog 3 = true := by kernel_rfl
theorem tf_sz3 : sizeN Tryz.prog 3 1 = true := by kernel_rfl
theorem tf_zero3 : zeroV Tryz.prog 3 = some (.int .i64 0) := by kernel_rfl
theorem tf_flat4 : flatB Tryz.prog 4 = true := by kernel_rfl
theorem tf_sz4 : sizeN Tryz.prog 4 1 = true := by kernel_rfl
theorem tf_zero4 : zeroV Tryz.prog 4 = some (.bool false) := by kernel_rfl
theorem tf_flat5 : flatB Tryz.prog 5 = true := by kernel_rfl
theorem tf_sz5 : sizeN Tryz.prog 5 1 = true := by kernel_rfl
theorem tf_zero5 : zeroV Tryz.prog 5 = some (.int .u8 0) := by kernel_rfl
theorem tf_flat9 : flatB Tryz.prog 9 = true := by kernel_rfl
theorem tf_sz9 : sizeN Tryz.prog 9 1 = true := by kernel_rfl
theorem tf_zero9 : zeroV Tryz.prog 9 = some (str []) := by kernel_rfl
theorem tf_flat22 : flatB Tryz.prog 22 = true := by kernel_rfl
theorem tf_sz22 : sizeN Tryz.prog 22 1 = true := by kernel_rfl
theorem tf_el22 : ElemOk Tryz.prog 22 5 tyB (0 : UInt8) 1 := ElemOk.of Tryz.underlying22 (by kernel_rfl) (by kernel_rfl) rfl
theorem tf_flat25 : flatB Tryz.prog 25 = true := by kernel_rfl
theorem tf_sz25 : sizeN Tryz.prog 25 1 = true := by kernel_rfl
theorem tf_zero25 : zeroV Tryz.prog 25 = some (.int .i64 0) := by kernel_rfl
theorem tf_flat45 : flatB Tryz.prog 45 = true := by kernel_rfl
theorem tf_sz45 : sizeN Tryz.prog 45 1 = true := by kernel_rfl
theorem tf_el45 : ElemOk Tryz.prog 45 78 tyField (([], []) : List UInt8 × List UInt8) 32 := ElemOk.of Tryz.underlying45 (by kernel_rfl) (by kernel_rfl) rfl
theorem tf_sz47 : sizeN Tryz.prog 47 4 = true := by kernel_rfl
theorem tf_agg47 : aggN Tryz.prog 47 = some 4 := by kernel_rfl
theorem tf_zero47 : zeroV Tryz.prog 47 = some (.agg #[str [], str [], .int .i64 0, .slice none 0 0]) := by kernel_rfl
theorem tf_lay47 : layOf Tryz.prog 47 = some ([(0, 1), (1, 1), (2, 1), (3, 1)], [str [], str [], .int .i64 0, .slice none 0 0]) := by kernel_rfl
theorem tf_fo47_0 : fieldOff Tryz.prog 47 0 = some 0 := by kernel_rfl
theorem tf_fo47_1 : fieldOff Tryz.prog 47 1 = some 1 := by kernel_rfl
theorem tf_fo47_2 : fieldOff Tryz.prog 47 2 = some 2 := by kernel_rfl
theorem tf_fo47_3 : fieldOff Tryz.prog 47 3 = some 3 := by kernel_rfl
theorem tf_el55 : ElemOk Tryz.prog 55 3 tyI (0 : Int) 8 := ElemOk.of Tryz.underlying55 (by kernel_rfl) (by kernel_rfl) rfl
theorem tf_zero70 : zeroV Tryz.prog 70 = some (.nilFunc) := by kernel_rfl
theorem tf_sz74 : sizeN Tryz.prog 74 4 = true := by kernel_rfl
theorem tf_agg74 : aggN Tryz.prog 74 = some 4 := by kernel_rfl
theorem tf_zero74 : zeroV Tryz.prog 74 = some (.agg #[.int .i64 0, .slice none 0 0, .slice none 0 0, .bool false]) := by kernel_rfl
theorem tf_lay74 : layOf Tryz.prog 74 = some ([(0, 1), (1, 1), (2, 1), (3, 1)], [.int .i64 0, .slice none 0 0, .slice none 0 0, .bool false]) := by kernel_rfl
theorem tf_fo74_0 : fieldOff Tryz.prog 74 0 = some 0 := by kernel_rfl
theorem tf_fo74_1 : fieldOff Tryz.prog 74 1 = some 1 := by kernel_rfl
theorem tf_fo74_2 : fieldOff Tryz.prog 74 2 = some 2 := by kernel_rfl
theorem tf_fo74_3 : fieldOff Tryz.prog 74 3 = some 3 := by kernel_rfl
theorem tf_sz78 : sizeN Tryz.prog 78 2 = true := by kernel_rfl
theorem tf_agg78 : aggN Tryz.prog 78 = some 2 := by kernel_rfl
theorem tf_zero78 : zeroV Tryz.prog 78 = some (.agg #[str [], str []]) := by kernel_rfl
theorem tf_lay78 : layOf Tryz.prog 78 = some ([(0, 1), (1, 1)], [str [], str []]) := by kernel_rfl
theorem tf_fo78_0 : fieldOff Tryz.prog 78 0 = some 0 := by kernel_rfl
theorem tf_fo78_1 : fieldOff Tryz.prog 78 1 = some 1 := by kernel_rfl
theorem tf_sz80 : sizeN Tryz.prog 80 5 = true := by kernel_rfl
theorem tf_agg80 : aggN Tryz.prog 80 = some 5 := by kernel_rfl
theorem tf_zero80 : zeroV Tryz.prog 80 = some (.agg #[str [], .int .i64 0, .int .i64 0, .int .i64 0, str []]) := by kernel_rfl
theorem tf_lay80 : layOf Tryz.prog 80 = some ([(0, 1), (1, 1), (2, 1), (3, 1), (4, 1)], [str [], .int .i64 0, .int .i64 0, .int .i64 0, str []]) := by kernel_rfl
theorem tf_fo80_1 : fieldOff Tryz.prog 80 1 = some 1 := by kernel_rfl
theorem tf_fo80_3 : fieldOff Tryz.prog 80 3 = some 3 := by kernel_rfl
theorem tf_fo80_4 : fieldOff Tryz.prog 80 4 = some 4 := by kernel_rfl
theorem tf_flat81 : flatB Tryz.prog 81 = true := by kernel_rfl
theorem tf_sz84 : sizeN Tryz.prog 84 6 = true := by kernel_rfl
theorem tf_agg84 : aggN Tryz.prog 84 = some 6 := by kernel_rfl
theorem tf_zero84 : zeroV Tryz.prog 84 = some (.agg #[.int .i64 0, .int .i64 0, .slice none 0 0, .slice none 0 0, .slice none 0 0, .slice none 0 0]) := by kernel_rfl
theorem tf_lay84 : layOf Tryz.prog 84 = some ([(0, 1), (1, 1), (2, 1), (3, 1), (4, 1), (5, 1)], [.int .i64 0, .int .i64 0, .slice none 0 0, .slice none 0 0, .slice none 0 0, .slice none 0 0]) := by kernel_rfl
theorem tf_fo84_1 : fieldOff Tryz.prog 84 1 = some 1 := by kernel_rfl
theorem tf_fo84_3 : fieldOff Tryz.prog 84 3 = some 3 := by kernel_rfl
theorem tf_fo84_4 : fieldOff Tryz.prog 84 4 = some 4 := by kernel_rfl
theorem tf_flat106 : flatB Tryz.prog 106 = true := by kernel_rfl
theorem tf_sz106 : sizeN Tryz.prog 106 1 = true := by kernel_rfl
theorem tf_sz108 : sizeN Tryz.prog 108 2 = true := by kernel_rfl
theorem tf_zero108 : zeroV Tryz.prog 108 = some (.agg #[.pointer none, .slice none 0 0]) := by kernel_rfl
theorem tf_fo108_0 : fieldOff Tryz.prog 108 0 = some 0 := by kernel_rfl
theorem tf_fo108_1 : fieldOff Tryz.prog 108 1 = some 1 := by kernel_rfl
theorem tf_flat109 : flatB Tryz.prog 109 = true := by kernel_rfl
theorem tf_sz109 : sizeN Tryz.prog 109 1 = true := by kernel_rfl
theorem tf_zero109 : zeroV Tryz.prog 109 = some (.slice none 0 0) := by kernel_rfl
theorem tf_el109 : ElemOk Tryz.prog 109 9 tyS ([] : List UInt8) 16 := ElemOk.of Tryz.underlying109 (by kernel_rfl) (by kernel_rfl) rfl
theorem tf_zero117 : zeroV Tryz.prog 117 = some (.agg #[.int .i64 0, .int .i64 0]) := by kernel_rfl
theorem tf_fo117_0 : fieldOff Tryz.prog 117 0 = some 0 := by kernel_rfl
theorem tf_fo117_1 : fieldOff Tryz.prog 117 1 = some 1 := by kernel_rfl
theorem tf_sz133 : sizeN Tryz.prog 133 2 = true := by kernel_rfl
theorem tf_agg133 : aggN Tryz.prog 133 = some 2 := by kernel_rfl
theorem tf_zero133 : zeroV Tryz.prog 133 = some (.agg #[.int .i64 0, .int .i64 0]) := by kernel_rfl
theorem tf_lay133 : layOf Tryz.prog 133 = some ([(0, 1), (1, 1)], [.int .i64 0, .int .i64 0]) := by kernel_rfl
theorem tf_fo133_0 : fieldOff Tryz.prog 133 0 = some 0 := by kernel_rfl
theorem tf_zero151 : zeroV Tryz.prog 151 = some (.agg #[str []]) := by kernel_rfl
theorem tf_lay151 : layOf Tryz.prog 151 = some ([(0, 1)], [str []]) := by kernel_rfl
theorem tf_sz166 : sizeN Tryz.prog 166 256 = true := by kernel_rfl
theorem tf_agg166 : aggN Tryz.prog 166 = some 256 := by kernel_rfl
theorem tf_zero166 : zeroV Tryz.prog 166 = some (.agg (tyB.cells (List.replicate 256 (0 : UInt8))).toArray) := by kernel_rfl
theorem tf_zarr166 : (Value.agg (tyB.cells (List.replicate 256 (0 : UInt8))).toArray).cells = (tyB.cells (List.replicate 256 (0 : UInt8))).toArray := rfl
theorem tf_sz179 : sizeN Tryz.prog 179 256 = true := by kernel_rfl
theorem tf_agg179 : aggN Tryz.prog 179 = some 256 := by kernel_rfl
theorem tf_zero179 : zeroV Tryz.prog 179 = some (.agg (tyBool.cells (List.replicate 256 false)).toArray) := by kernel_rfl
theorem tf_zarr179 : (Value.agg (tyBool.cells (List.replicate 256 false)).toArray).cells = (tyBool.cells (List.replicate 256 false)).toArray := rfl
theorem tf_flat213 : flatB Tryz.prog 213 = true := by kernel_rfl
theorem tf_sz213 : sizeN Tryz.prog 213 1 = true := by kernel_rfl
theorem tf_zero213 : zeroV Tryz.prog 213 = some (.slice none 0 0) := by kernel_rfl
theorem tf_el213 : ElemOk Tryz.prog 213 236 tyPiece (([], false) : List UInt8 × Bool) 24 := ElemOk.of Tryz.underlying213 (by kernel_rfl) (by kernel_rfl) rfl
theorem tf_zero232 : zeroV Tryz.prog 232 = some (.slice none 0 0) := by kernel_rfl
theorem tf_sz236 : sizeN Tryz.prog 236 2 = true := by kernel_rfl
theorem tf_zero236 : zeroV Tryz.prog 236 = some (.agg #[str [], .bool false]) := by kernel_rfl
theorem tf_lay236 : layOf Tryz.prog 236 = some ([(0, 1), (1, 1)], [str [], .bool false]) := by kernel_rfl
theorem tf_sz238 : sizeN Tryz.prog 238 0 = true := by kernel_rfl
theorem tf_zero238 : zeroV Tryz.prog 238 = some (.agg #[]) := by kernel_rfl
theorem tf_lay238 : layOf Tryz.prog 238 = some ([], []) := by kernel_rfl
theorem tf_sz241 : sizeN Tryz.prog 241 3 = true := by kernel_rfl
theorem tf_agg241 : aggN Tryz.prog 241 = some 3 := by kernel_rfl
theorem tf_zero241 : zeroV Tryz.prog 241 = some (.agg #[.int .i64 0, .bool false, .bool false]) := by kernel_rfl
theorem tf_lay241 : layOf Tryz.prog 241 = some ([(0, 1), (1, 1), (2, 1)], [.int .i64 0, .bool false, .bool false]) := by kernel_rfl
theorem tf_fo241_0 : fieldOff Tryz.prog 241 0 = some 0 := by kernel_rfl
theorem tf_fo241_1 : fieldOff Tryz.prog 241 1 = some 1 := by kernel_rfl
theorem tf_fo241_2 : fieldOff Tryz.prog 241 2 = some 2 := by kernel_rfl
theorem tf_sz245 : sizeN Tryz.prog 245 256 = true := by kernel_rfl
theorem tf_agg245 : aggN Tryz.prog 245 = some 256 := by kernel_rfl
theorem tf_zero245 : zeroV Tryz.prog 245 = some (.agg (tyBool.cells (List.replicate 256 false)).toArray) := by kernel_rfl
theorem tf_zarr245 : (Value.agg (tyBool.cells (List.replicate 256 false)).toArray).cells = (tyBool.cells (List.replicate 256 false)).toArray := rfl
theorem tf_sz252 : sizeN Tryz.prog 252 2 = true := by kernel_rfl
theorem tf_agg252 : aggN Tryz.prog 252 = some 2 := by kernel_rfl
theorem tf_zero252 : zeroV Tryz.prog 252 = some (.agg #[.int .u8 0, .int .u8 0]) := by kernel_rfl
theorem tf_fo252_0 : fieldOff Tryz.prog 252 0 = some 0 := by kernel_rfl
theorem tf_fo252_1 : fieldOff Tryz.prog 252 1 = some 1 := by kernel_rfl
theorem tf_mixed : Tryz.prog.follows .mixedOrders = true := by kernel_rfl
theorem tf_body10 : Body Tryz.prog 10 := Body.of (by kernel_rfl)
theorem tf_body12 : Body Tryz.prog 12 := Body.of (by kernel_rfl)
theorem tf_body14 : Body Tryz.prog 14 := Body.of (by kernel_rfl)
theorem tf_body16 : Body Tryz.prog 16 := Body.of (by kernel_rfl)
theorem tf_body18 : Body Tryz.prog 18 := Body.of (by kernel_rfl)
theorem tf_body35 : Body Tryz.prog 35 := Body.of (by kernel_rfl)
theorem tf_body36 : Body Tryz.prog 36 := Body.of (by kernel_rfl)
theorem tf_body37 : Body Tryz.prog 37 := Body.of (by kernel_rfl)
theorem tf_body38 : Body Tryz.prog 38 := Body.of (by kernel_rfl)
theorem tf_body39 : Body Tryz.prog 39 := Body.of (by kernel_rfl)
theorem tf_body40 : Body Tryz.prog 40 := Body.of (by kernel_rfl)
theorem tf_body41 : Body Tryz.prog 41 := Body.of (by kernel_rfl)
theorem tf_body42 : Body Tryz.prog 42 := Body.of (by kernel_rfl)
theorem tf_body43 : Body Tryz.prog 43 := Body.of (by kernel_rfl)
theorem tf_body45 : Body Tryz.prog 45 := Body.of (by kernel_rfl)
theorem tf_body52 : Body Tryz.prog 52 := Body.of (by kernel_rfl)
theorem tf_body53 : Body Tryz.prog 53 := Body.of (by kernel_rfl)
theorem tf_body54 : Body Tryz.prog 54 := Body.of (by kernel_rfl)
theorem tf_body55 : Body Tryz.prog 55 := Body.of (by kernel_rfl)
theorem tf_body56 : Body Tryz.prog 56 := Body.of (by kernel_rfl)
theorem tf_body57 : Body Tryz.prog 57 := Body.of (by kernel_rfl)
theorem tf_body58 : Body Tryz.prog 58 := Body.of (by kernel_rfl)
theorem tf_body59 : Body Tryz.prog 59 := Body.of (by kernel_rfl)
theorem tf_body60 : Body Tryz.prog 60 := Body.of (by kernel_rfl)
theorem tf_body62 : Body Tryz.prog 62 := Body.of (by kernel_rfl)
theorem tf_body63 : Body Tryz.prog 63 := Body.of (by kernel_rfl)
theorem tf_body64 : Body Tryz.prog 64 := Body.of (by kernel_rfl)
theorem tf_body65 : Body Tryz.prog 65 := Body.of (by kernel_rfl)
theorem tf_body66 : Body Tryz.prog 66 := Body.of (by kernel_rfl)
theorem tf_body69 : Body Tryz.prog 69 := Body.of (by kernel_rfl)
theorem tf_body70 : Body Tryz.prog 70 := Body.of (by kernel_rfl)
theorem tf_body71 : Body Tryz.prog 71 := Body.of (by kernel_rfl)
theorem tf_body74 : Body Tryz.prog 74 := Body.of (by kernel_rfl)
theorem tf_body76 : Body Tryz.prog 76 := Body.of (by kernel_rfl)
theorem tf_body86 : Body Tryz.prog 86 := Body.of (by kernel_rfl)
theorem tf_body87 : Body Tryz.prog 87 := Body.of (by kernel_rfl)
theorem tf_body89 : Body Tryz.prog 89 := Body.of (by kernel_rfl)
theorem tf_body90 : Body Tryz.prog 90 := Body.of (by kernel_rfl)
theorem tf_body91 : Body Tryz.prog 91 := Body.of (by kernel_rfl)
theorem tf_body92 : Body Tryz.prog 92 := Body.of (by kernel_rfl)
theorem tf_body93 : Body Tryz.prog 93 := Body.of (by kernel_rfl)
theorem tf_body94 : Body Tryz.prog 94 := Body.of (by kernel_rfl)
theorem tf_body95 : Body Tryz.prog 95 := Body.of (by kernel_rfl)
theorem tf_body96 : Body Tryz.prog 96 := Body.of (by kernel_rfl)
theorem tf_body97 : Body Tryz.prog 97 := Body.of (by kernel_rfl)
theorem tf_body98 : Body Tryz.prog 98 := Body.of (by kernel_rfl)
theorem tf_body99 : Body Tryz.prog 99 := Body.of (by kernel_rfl)
theorem tf_body100 : Body Tryz.prog 100 := Body.of (by kernel_rfl)
theorem tf_body101 : Body Tryz.prog 101 := Body.of (by kernel_rfl)
theorem tf_body102 : Body Tryz.prog 102 := Body.of (by kernel_rfl)
theorem tf_body103 : Body Tryz.prog 103 := Body.of (by kernel_rfl)
theorem tf_body104 : Body Tryz.prog 104 := Body.of (by kernel_rfl)
theorem tf_body106 : Body Tryz.prog 106 := Body.of (by kernel_rfl)
theorem tf_body107 : Body Tryz.prog 107 := Body.of (by kernel_rfl)
theorem tf_body108 : Body Tryz.prog 108 := Body.of (by kernel_rfl)
theorem tf_body117 : Body Tryz.prog 117 := Body.of (by kernel_rfl)
theorem tf_body119 : Body Tryz.prog 119 := Body.of (by kernel_rfl)
theorem tf_body127 : Body Tryz.prog 127 := Body.of (by kernel_rfl)
theorem tf_body130 : Body Tryz.prog 130 := Body.of (by kernel_rfl)
theorem tf_body131 : Body Tryz.prog 131 := Body.of (by kernel_rfl)
theorem tf_body132 : Body Tryz.prog 132 := Body.of (by kernel_rfl)
theorem tf_body137 : Body Tryz.prog 137 := Body.of (by kernel_rfl)
theorem tf_body138 : Body Tryz.prog 138 := Body.of (by kernel_rfl)
theorem tf_body139 : Body Tryz.prog 139 := Body.of (by kernel_rfl)
theorem tf_body140 : Body Tryz.prog 140 := Body.of (by kernel_rfl)
theorem tf_body141 : Body Tryz.prog 141 := Body.of (by kernel_rfl)
theorem tf_body142 : Body Tryz.prog 142 := Body.of (by kernel_rfl)
theorem tf_body150 : Body Tryz.prog 150 := Body.of (by kernel_rfl)
theorem tf_body151 : Body Tryz.prog 151 := Body.of (by kernel_rfl)
theorem tf_body155 : Body Tryz.prog 155 := Body.of (by kernel_rfl)
theorem tf_body162 : Body Tryz.prog 162 := Body.of (by kernel_rfl)
theorem tf_body180 : Body Tryz.prog 180 := Body.of (by kernel_rfl)
theorem tf_body181 : Body Tryz.prog 181 := Body.of (by kernel_rfl)
theorem tf_body182 : Body Tryz.prog 182 := Body.of (by kernel_rfl)
theorem tf_body192 : Body Tryz.prog 192 := Body.of (by kernel_rfl)
theorem tf_body203 : Body Tryz.prog 203 := Body.of (by kernel_rfl)
theorem tf_body204 : Body Tryz.prog 204 := Body.of (by kernel_rfl)
theorem tf_body206 : Body Tryz.prog 206 := Body.of (by kernel_rfl)
theorem tf_body207 : Body Tryz.prog 207 := Body.of (by kernel_rfl)
theorem tf_body209 : Body Tryz.prog 209 := Body.of (by kernel_rfl)
theorem tf_body210 : Body Tryz.prog 210 := Body.of (by kernel_rfl)
theorem tf_body211 : Body Tryz.prog 211 := Body.of (by kernel_rfl)
theorem tf_body212 : Body Tryz.prog 212 := Body.of (by kernel_rfl)
theorem tf_body221 : Body Tryz.prog 221 := Body.of (by kernel_rfl)
theorem tf_body222 : Body Tryz.prog 222 := Body.of (by kernel_rfl)
theorem tf_body225 : Body Tryz.prog 225 := Body.of (by kernel_rfl)
theorem tf_body227 : Body Tryz.prog 227 := Body.of (by kernel_rfl)
theorem tf_body229 : Body Tryz.prog 229 := Body.of (by kernel_rfl)
theorem tf_body230 : Body Tryz.prog 230 := Body.of (by kernel_rfl)
end Go.Proofs.YtlkdmbpbjhjkfaaGreatDoor
namespace Go.Proofs.YtlkdmbpbjhjkfaaGreatDoor
set_option linter.unusedVariables false
set_option linter.unusedSimpArgs false
set_option maxRecDepth 100000
set_option maxHeartbeats 400000 in
theorem same_ok {w0 : World} {base : Nat} {H : List Seg} {A A2 : Option Addr} {C C2 : Nat} {l l2 : List UInt8} (h : Rd tyB w0 base H A C l) (h2 : Rd tyB w0 base H A2 C2 l2) :
    SCalls Tryz.prog 18 [.slice A l.length C, .slice A2 l2.length C2] w0 base (H) (fun v H' => v = .bool (decide (l = l2)) ∧ H' = H) := by
  refine SCalls.of_walk (n := 10) Tryz.func18 rfl rfl rfl fun cs => ?_
  refine At.seq ?_
  refine At.region ?_
  refine AtL.assign (.inl rfl) rfl rfl ?_
  refine AtL.done ?_
  refine At.seq ?_
  refine At.region ?_
  refine AtL.move (.inl rfl) rfl rfl ?_
  refine AtL.strOf h Tryz.underlying22 Tryz.underlying5 Tryz.underlying9 (.inl rfl) rfl rfl ?_
  refine AtL.move (.inl rfl) rfl rfl ?_
  refine AtL.strOf h2 Tryz.underlying22 Tryz.underlying5 Tryz.underlying9 (.inl rfl) rfl rfl ?_
  refine AtL.eqs (a := l) (b := l2) (.inl rfl) rfl rfl rfl ?_
  refine AtL.assign (.inl rfl) rfl rfl ?_
  refine AtL.done ?_
  exact At.ret Tryz.func18 rfl rfl (⟨rfl, rfl⟩)
end Go.Proofs.YtlkdmbpbjhjkfaaGreatDoor
namespace Go.Proofs.YtlkdmbpbjhjkfaaGreatDoor
set_option linter.unusedVariables false
set_option linter.unusedSimpArgs false
set_option maxRecDepth 100000
open Go
def cutCR : List UInt8 → Option (List UInt8 × List UInt8)
  | [] => none
  | c :: r => if c = 13 ∧ r.head? = some 10 then some ([], r.tail) else (cutCR r).map fun p => (c :: p.1, p.2)
def crlf (c : UInt8) : Bool := c = 13 || c = 10
theorem cutCR_len {b l r : List UInt8} (h : cutCR b = some (l, r)) : b = l ++ 13 :: 10 :: r := by
  induction b generalizing l with
  | nil => simp [cutCR] at h
  | cons c b ih =>
    unfold cutCR at h
    split at h
    · rename_i h1
      obtain ⟨rfl, h2⟩ := h1
      cases b with
      | nil => simp at h2
      | cons d b => simp at h2; subst h2; simp at h; obtain ⟨rfl, rfl⟩ := h; rfl
    · cases hc : cutCR b with
      | none => rw [hc] at h; simp at h
      | some p =>
        rw [hc] at h
        simp at h
        obtain ⟨rfl, rfl⟩ := h
        rw [ih (l := p.1) (by rw [hc])]
        rfl
def linesF (b : List UInt8) : Option (List (List UInt8)) :=
  match h : cutCR b with
  | none => none
  | some (l, r) => if l.any crlf then none else if l = [] then (if r = [] then some [] else none) else (linesF r).map (l :: ·)
termination_by b.length
decreasing_by (have := cutCR_len h; rw [this]; simp; omega)
theorem cutCR_index (b : List UInt8) : cutCR b = if Lib.index b [13, 10] = -1 then none else some (b.take (Lib.index b [13, 10]).toNat, b.drop ((Lib.index b [13, 10]).toNat + 2)) := by
  induction b with
  | nil => rfl
  | cons c r ih =>
    have hg := Lib.index_ge r [13, 10]
    unfold cutCR Lib.index
    by_cases h : c = 13 ∧ r.head? = some 10
    · obtain ⟨rfl, h2⟩ := h
      cases r with
      | nil => simp at h2
      | cons d r => simp at h2; subst h2; simp [List.isPrefixOf]
    · rw [if_neg h]
      have hp : List.isPrefixOf [13, 10] (c :: r) = false := by
        cases r with
        | nil => simp [List.isPrefixOf]
        | cons d r => simp [List.isPrefixOf] at h ⊢; intro h1 h2; exact h h1.symm h2.symm
      rw [hp, ih]
      by_cases h3 : Lib.index r [13, 10] = -1
      · simp [h3]
      · have h4 : ¬ (Lib.index r [13, 10] == -1) = true := by simpa using h3
        simp only [Bool.false_eq_true, if_false, h3, h4]
        have h5 : ¬ Lib.index r [13, 10] + 1 = -1 := by omega
        rw [if_neg h5]
        have h6 : (Lib.index r [13, 10] + 1).toNat = (Lib.index r [13, 10]).toNat + 1 := by omega
        rw [h6]
        simp [Nat.add_right_comm]
def spF (c : UInt8) : List UInt8 → List (List UInt8)
  | [] => [[]]
  | d :: r => if d = c then [] :: spF c r else match spF c r with
    | [] => [[d]]
    | w :: ws => (d :: w) :: ws
theorem spF_ne (c : UInt8) (l : List UInt8) : spF c l ≠ [] := by
  cases l with
  | nil => simp [spF]
  | cons d r => unfold spF; split <;> (try simp); split <;> simp
theorem index_c (c : UInt8) (l : List UInt8) : (Lib.index l [c] = -1 ∧ l.count c = 0 ∧ spF c l = [l]) ∨ (∃ i : Nat, Lib.index l [c] = i ∧ i < l.length ∧ l.count c = (l.drop (i + 1)).count c + 1 ∧ spF c l = l.take i :: spF c (l.drop (i + 1))) := by
  induction l with
  | nil => left; exact ⟨rfl, rfl, rfl⟩
  | cons d r ih =>
    by_cases h : d = c
    · subst h
      right
      refine ⟨0, by unfold Lib.index; simp [List.isPrefixOf], by simp, by simp, ?_⟩
      rw [spF, if_pos rfl]; simp
    · have hp : List.isPrefixOf [c] (d :: r) = false := by simp [List.isPrefixOf]; exact fun h2 => h h2.symm
      rcases ih with ⟨h1, h2, h3⟩ | ⟨i, h1, h2, h3, h4⟩
      · left
        refine ⟨by unfold Lib.index; rw [hp]; simp [h1], by simp [List.count_cons, h, h2], ?_⟩
        rw [spF, if_neg h, h3]
      · right
        refine ⟨i + 1, ?_, by simp; omega, ?_, ?_⟩
        · unfold Lib.index; rw [hp, h1]
          have : ¬ ((i : Int) == -1) = true := by simp
          simp only [Bool.false_eq_true, if_false]
          rw [if_neg this]; omega
        · rw [List.drop_succ_cons, List.count_cons, h3]; simp [h]
        · rw [spF, if_neg h, h4]; simp
theorem splitK_sp (c : UInt8) (l : List UInt8) : Lib.splitK [c] 0 (l.count c) l = spF c l := by
  induction l using (measure List.length).wf.induction with
  | _ l ih =>
    rcases index_c c l with ⟨h1, h2, h3⟩ | ⟨i, h1, h2, h3, h4⟩
    · rw [h2, h3]; rfl
    · rw [h3, h4]
      unfold Lib.splitK
      have h5 : ¬ (Lib.index l [c] == -1) = true := by rw [h1]; simp
      rw [if_neg h5, h1]
      simp only [Int.toNat_natCast, Nat.add_zero, List.length_singleton]
      rw [ih (l.drop (i + 1)) (show (List.drop _ _).length < _ by simp; omega)]
theorem count_c (c : UInt8) (n : Nat) (l : List UInt8) (h : l.length < n) : Lib.countFrom [c] n l = l.count c := by
  induction n generalizing l with
  | zero => omega
  | succ n ih =>
    unfold Lib.countFrom
    rcases index_c c l with ⟨h1, h2, h3⟩ | ⟨i, h1, h2, h3, h4⟩
    · rw [h1, h2]; rfl
    · have h5 : ¬ (Lib.index l [c] == -1) = true := by rw [h1]; simp
      rw [if_neg h5, h1, h3]
      simp only [Int.toNat_natCast, List.length_singleton]
      rw [ih _ (by simp; omega)]; omega
def blankF (c : UInt8) : Bool := c = 9 || c = 32
theorem dw_le (p : UInt8 → Bool) (l : List UInt8) : (l.dropWhile p).length ≤ l.length := by
  induction l with
  | nil => simp
  | cons c l ih => rw [List.dropWhile_cons]; split <;> simp; omega
def tl (p : UInt8 → Bool) (l : List UInt8) : List UInt8 := l.dropWhile p
def tr (p : UInt8 → Bool) (l : List UInt8) : List UInt8 := (l.reverse.dropWhile p).reverse
theorem tr_snoc (p : UInt8 → Bool) (l : List UInt8) (c : UInt8) : tr p (l ++ [c]) = if p c then tr p l else l ++ [c] := by
  unfold tr
  rw [List.reverse_append]
  simp only [List.reverse_cons, List.reverse_nil, List.nil_append, List.singleton_append, List.dropWhile_cons]
  split <;> simp
theorem tl_snoc (p : UInt8 → Bool) (l : List UInt8) (c : UInt8) : tl p (l ++ [c]) = if tl p l = [] then (if p c then [] else [c]) else tl p l ++ [c] := by
  induction l with
  | nil => simp [tl, List.dropWhile_cons]
  | cons d l ih =>
    unfold tl at ih ⊢
    simp only [List.cons_append, List.dropWhile_cons]
    split
    · exact ih
    · simp
theorem snoc_cases (l : List UInt8) : l = [] ∨ ∃ k c, l = k ++ [c] := by
  rcases List.eq_nil_or_concat l with h | ⟨k, c, h⟩
  · exact .inl h
  · exact .inr ⟨k, c, by simpa using h⟩
theorem tl_tr (p : UInt8 → Bool) (l : List UInt8) : tl p (tr p l) = tr p (tl p l) := by
  induction l using (measure List.length).wf.induction with
  | _ l ih =>
    rcases snoc_cases l with rfl | ⟨k, c, rfl⟩
    · rfl
    · rw [tr_snoc, tl_snoc]
      have hk := ih k (show k.length < (k ++ [c]).length by simp)
      by_cases hc : p c = true
      · rw [if_pos hc, hk]
        by_cases h2 : tl p k = []
        · rw [if_pos h2, if_pos hc, h2]
        · rw [if_neg h2, tr_snoc, if_pos hc]
      · rw [if_neg hc, tl_snoc]
        by_cases h2 : tl p k = []
        · rw [if_pos h2, if_neg hc]
          have := tr_snoc p [] c
          rw [if_neg hc] at this
          exact this.symm
        · rw [if_neg h2, tr_snoc, if_neg hc]
def trimF (l : List UInt8) : List UInt8 := tr blankF (tl blankF l)
theorem trim_set (l : List UInt8) : Lib.trimS l [9, 32] = trimF l := by
  have h : (fun c => ([9, 32] : List UInt8).contains c) = blankF := by
    funext c
    simp [blankF, List.contains_cons]
  unfold Lib.trimS Lib.trimLeftS Lib.trimRightS trimF
  rw [h]
  exact tl_tr blankF l
def lowB (c : UInt8) : UInt8 := if 65 ≤ c ∧ c ≤ 90 then c + 32 else c
def lowerF (l : List UInt8) : List UInt8 := l.map lowB
def valCh (c : UInt8) : Bool := !(c ≠ 9 && c < 32) && c ≠ 127
def valueF (l : List UInt8) : Bool := l.all valCh && decide (trimF l = l)
theorem trim_same (l : List UInt8) : trimF l = l ↔ (l = [] ∨ (blankF (l.getD 0 0) = false ∧ blankF (l.getD (l.length - 1) 0) = false)) := by
  constructor
  · intro h
    by_cases h0 : l = []
    · exact .inl h0
    · right
      have hlen : (tl blankF l).length ≤ l.length := by unfold tl; exact dw_le _ _
      have hlen2 : (tr blankF (tl blankF l)).length ≤ (tl blankF l).length := by unfold tr; rw [List.length_reverse]; exact Nat.le_trans (dw_le _ _) (by simp)
      have e : (tr blankF (tl blankF l)).length = l.length := by show (trimF l).length = _; rw [h]
      constructor
      · cases l with
        | nil => exact absurd rfl h0
        | cons c l =>
          show blankF c = false
          cases hb : blankF c with
          | false => rfl
          | true =>
            exfalso
            have : tl blankF (c :: l) = tl blankF l := by unfold tl; rw [List.dropWhile_cons, if_pos hb]
            have h3 : (tl blankF l).length ≤ l.length := by unfold tl; exact dw_le _ _
            rw [this] at hlen2 e
            simp at e; omega
      · rcases snoc_cases l with h1 | ⟨k, c, rfl⟩
        · exact absurd h1 h0
        · have : (k ++ [c]).getD ((k ++ [c]).length - 1) 0 = c := by simp
          rw [this]
          cases hb : blankF c with
          | false => rfl
          | true =>
            exfalso
            have h2 : trimF (k ++ [c]) = tl blankF (tr blankF (k ++ [c])) := (tl_tr _ _).symm
            rw [tr_snoc, if_pos hb] at h2
            have h3 : (tl blankF (tr blankF k)).length ≤ k.length := by
              refine Nat.le_trans (dw_le _ _) ?_
              unfold tr; rw [List.length_reverse]; exact Nat.le_trans (dw_le _ _) (by simp)
            rw [← h2, h] at h3
            simp at h3; omega
  · rintro (rfl | ⟨h1, h2⟩)
    · rfl
    · have ha : tl blankF l = l := by
        cases l with
        | nil => rfl
        | cons c l => unfold tl; rw [List.dropWhile_cons, if_neg (by rw [show blankF c = false from h1]; simp)]
      unfold trimF
      rw [ha]
      rcases snoc_cases l with rfl | ⟨k, c, rfl⟩
      · rfl
      · have : (k ++ [c]).getD ((k ++ [c]).length - 1) 0 = c := by simp
        rw [this] at h2
        rw [tr_snoc, if_neg (by rw [h2]; simp)]
def LET : List UInt8 := [48, 49, 50, 51, 52, 53, 54, 55, 56, 57, 65, 66, 67, 68, 69, 70, 71, 72, 73, 74, 75, 76, 77, 78, 79, 80, 81, 82, 83, 84, 85, 86, 87, 88, 89, 90, 97, 98, 99, 100, 101, 102, 103, 104, 105, 106, 107, 108, 109, 110, 111, 112, 113, 114, 115, 116, 117, 118, 119, 120, 121, 122, 33, 35, 36, 37, 38, 39, 42, 43, 45, 46, 94, 95, 96, 124, 126]
def letterF (c : UInt8) : Bool :=
  decide ((((48 ≤ c.toNat ∧ c.toNat ≤ 57) ∨ (65 ≤ c.toNat ∧ c.toNat ≤ 90)) ∨ (97 ≤ c.toNat ∧ c.toNat ≤ 122)) ∨
    (c.toNat = 33 ∨ (35 ≤ c.toNat ∧ c.toNat ≤ 39) ∨ c.toNat = 42 ∨ c.toNat = 43 ∨ c.toNat = 45 ∨ c.toNat = 46 ∨ (94 ≤ c.toNat ∧ c.toNat ≤ 96) ∨ c.toNat = 124 ∨ c.toNat = 126))
theorem let_all : ((List.range 256).all fun n => letterF (UInt8.ofNat n) == LET.contains (UInt8.ofNat n)) = true := by decide +kernel
theorem let_eq (c : UInt8) : letterF c = LET.contains c := by
  have h := List.all_eq_true.1 let_all c.toNat (List.mem_range.2 (by have := c.toNat_lt; omega))
  rw [UInt8.ofNat_toNat] at h
  exact eq_of_beq h
def wordF (s : List UInt8) (most : Int) : Bool := decide (1 ≤ s.length ∧ (s.length : Int) ≤ most) && s.all letterF
def targetF (s : List UInt8) : Bool := decide (s.head? = some 47) && s.all fun c => decide (33 ≤ c.toNat ∧ c.toNat ≤ 126)
def allF (fs : List (List UInt8 × List UInt8)) (name : List UInt8) : List (List UInt8) := (fs.filter fun f => lowerF f.1 = lowerF name).map (·.2)
def fieldF (fs : List (List UInt8 × List UInt8)) (name : List UInt8) : List UInt8 × Nat := ((allF fs name).headD [], (allF fs name).length)
def HOST : List UInt8 := [104, 111, 115, 116]
def hostsF (fs : List (List UInt8 × List UInt8)) (minor : Int) : Bool := decide ((fieldF fs HOST).2 = 1 ∨ ((fieldF fs HOST).2 = 0 ∧ minor = 0))
abbrev Fld := List UInt8 × List UInt8
structure HeadV where
  m : List UInt8
  t : List UInt8
  minor : Int
  fs : List Fld
deriving DecidableEq
def HeadV.zero : HeadV := ⟨[], [], 0, []⟩
def fieldOk (f : Fld) : Bool := wordF f.1 64 && valueF f.2
def okF (h : HeadV) : Bool :=
  wordF h.m 16 && decide (h.t.length ≤ 2048) && targetF h.t && decide (0 ≤ h.minor ∧ h.minor ≤ 1) && decide (h.fs.length ≤ 32) && h.fs.all fieldOk && hostsF h.fs h.minor
def HTTP1 : List UInt8 := [72, 84, 84, 80, 47, 49, 46]
def fieldB (f : Fld) : List UInt8 := f.1 ++ 58 :: 32 :: f.2
def fieldsB : List Fld → List UInt8
  | [] => [13, 10]
  | f :: fs => fieldB f ++ 13 :: 10 :: fieldsB fs
def lineB (h : HeadV) : List UInt8 := h.m ++ 32 :: (h.t ++ 32 :: (HTTP1 ++ [UInt8.ofNat (48 + h.minor.toNat)]))
def headB (h : HeadV) : List UInt8 := lineB h ++ 13 :: 10 :: fieldsB h.fs
def writeOk (h : HeadV) : Bool := okF h && decide ((headB h).length ≤ 4096)
def cutC (c : UInt8) : List UInt8 → Option (List UInt8 × List UInt8)
  | [] => none
  | a :: r => if a = c then some ([], r) else (cutC c r).map fun p => (a :: p.1, p.2)
def verF (v : List UInt8) : Bool :=
  decide (v.length = 8) && decide (v.take 5 = [72, 84, 84, 80, 47]) && decide (48 ≤ v.getD 5 0 ∧ v.getD 5 0 ≤ 57) && decide (v.getD 6 0 = 46) && decide (48 ≤ v.getD 7 0 ∧ v.getD 7 0 ≤ 57)
def fieldsF : List (List UInt8) → Nat → Int ⊕ List Fld
  | [], _ => .inr []
  | x :: r, n => if n = 32 then .inl 431 else
    match cutC 58 x with
    | none => .inl 400
    | some (k, v) => if wordF k 64 && valueF (trimF v) then
        (match fieldsF r (n + 1) with | .inl s => .inl s | .inr fs => .inr ((k, trimF v) :: fs))
      else .inl 400
def headF (l0 : List UInt8) (ls : List (List UInt8)) : HeadV × Int :=
  match spF 32 l0 with
  | [m, t, v] =>
    if m = [] ∨ t = [] ∨ v = [] ∨ wordF m 16 = false then (.zero, 400)
    else if verF v = false then (.zero, 400)
    else if v.getD 5 0 ≠ 49 ∨ 49 < v.getD 7 0 then (.zero, 505)
    else if 2048 < t.length then (.zero, 414)
    else if targetF t = false then (.zero, 400)
    else match fieldsF ls 0 with
      | .inl s => (.zero, s)
      | .inr fs => if hostsF fs ((v.getD 7 0 - 48).toNat : Int) then (⟨m, t, ((v.getD 7 0 - 48).toNat : Int), fs⟩, 200) else (.zero, 400)
  | _ => (.zero, 400)
def parseF (b : List UInt8) : HeadV × Int :=
  if 4096 < b.length then (.zero, 431)
  else match linesF b with
    | none => (.zero, 400)
    | some [] => (.zero, 400)
    | some (l0 :: ls) => headF l0 ls
theorem cutCR_app {l : List UInt8} (r : List UInt8) (h : l.any crlf = false) : cutCR (l ++ 13 :: 10 :: r) = some (l, r) := by
  induction l with
  | nil => simp [cutCR]
  | cons c l ih =>
    have hc : crlf c = false := by simp at h; exact h.1
    have h1 : l.any crlf = false := by simp at h; simpa using h.2
    have h2 : ¬ c = 13 := by intro h3; subst h3; cases hc
    rw [List.cons_append, cutCR, if_neg (fun h3 => h2 h3.1), ih h1]; rfl
theorem linesF_app {l : List UInt8} (r : List UInt8) (h : l.any crlf = false) (hn : l ≠ []) : linesF (l ++ 13 :: 10 :: r) = (linesF r).map (l :: ·) := by
  have h1 := cutCR_app r h
  rw [linesF]
  split
  · rename_i h2; rw [h1] at h2; cases h2
  · rename_i a b h2
    rw [h1] at h2
    cases h2
    rw [if_neg (by rw [h]; simp), if_neg hn]
theorem linesF_end : linesF [13, 10] = some [] := by
  rw [linesF]
  split
  · rename_i h2; simp [cutCR] at h2
  · rename_i a b h2
    simp [cutCR] at h2
    obtain ⟨rfl, rfl⟩ := h2
    simp
theorem spF_app {c : UInt8} {l : List UInt8} (r : List UInt8) (h : l.any (fun x => x == c) = false) : spF c (l ++ c :: r) = l :: spF c r := by
  induction l with
  | nil => simp [spF]
  | cons a l ih =>
    have h0 : ¬ a = c := by simp at h; exact h.1
    have h1 : l.any (fun x => x == c) = false := by simp at h; simpa using h.2
    rw [List.cons_append, spF, if_neg h0, ih h1]
theorem spF_one {c : UInt8} {l : List UInt8} (h : l.any (fun x => x == c) = false) : spF c l = [l] := by
  induction l with
  | nil => simp [spF]
  | cons a l ih =>
    have h0 : ¬ a = c := by simp at h; exact h.1
    have h1 : l.any (fun x => x == c) = false := by simp at h; simpa using h.2
    rw [spF, if_neg h0, ih h1]
theorem cutC_app {c : UInt8} {l : List UInt8} (r : List UInt8) (h : l.any (fun x => x == c) = false) : cutC c (l ++ c :: r) = some (l, r) := by
  induction l with
  | nil => simp [cutC]
  | cons a l ih =>
    have h0 : ¬ a = c := by simp at h; exact h.1
    have h1 : l.any (fun x => x == c) = false := by simp at h; simpa using h.2
    rw [List.cons_append, cutC, if_neg h0, ih h1]; rfl
theorem all_not {p q : UInt8 → Bool} (l : List UInt8) (h : l.all p = true) (hq : ∀ c, p c = true → q c = false) : l.any q = false := by
  rw [List.any_eq_false]
  intro c hc
  rw [hq c (List.all_eq_true.1 h c hc)]; simp
theorem letter_cl : ∀ c : UInt8, letterF c = true → (crlf c = false ∧ (c == 32) = false ∧ (c == 58) = false) := by
  intro c h
  rw [let_eq] at h
  have h1 : c ∈ LET := by simpa using h
  have h2 : ∀ c ∈ LET, (crlf c = false ∧ (c == 32) = false ∧ (c == 58) = false) := by decide +kernel
  exact h2 c h1
theorem word_cl {s : List UInt8} {n : Int} (h : wordF s n = true) : s ≠ [] ∧ s.any crlf = false ∧ s.any (fun x => x == 32) = false ∧ s.any (fun x => x == 58) = false := by
  simp only [wordF, Bool.and_eq_true, decide_eq_true_eq] at h
  refine ⟨?_, all_not s h.2 fun c hc => (letter_cl c hc).1, all_not s h.2 fun c hc => (letter_cl c hc).2.1, all_not s h.2 fun c hc => (letter_cl c hc).2.2⟩
  rintro rfl; simp at h
theorem target_cl {s : List UInt8} (h : targetF s = true) : s ≠ [] ∧ s.any crlf = false ∧ s.any (fun x => x == 32) = false := by
  simp only [targetF, Bool.and_eq_true, decide_eq_true_eq] at h
  refine ⟨?_, all_not s h.2 fun c hc => ?_, all_not s h.2 fun c hc => ?_⟩
  · rintro rfl; simp at h
  · simp only [decide_eq_true_eq] at hc
    simp only [crlf, Bool.or_eq_false_iff, decide_eq_false_iff_not]
    constructor <;> (rintro rfl; revert hc; decide)
  · simp only [decide_eq_true_eq] at hc
    simp only [beq_eq_false_iff_ne, ne_eq]
    rintro rfl; revert hc; decide
theorem value_cl {s : List UInt8} (h : valueF s = true) : s.any crlf = false ∧ trimF s = s := by
  simp only [valueF, Bool.and_eq_true, decide_eq_true_eq] at h
  refine ⟨all_not s h.1 fun c hc => ?_, h.2⟩
  simp only [crlf, Bool.or_eq_false_iff, decide_eq_false_iff_not]
  constructor <;> (rintro rfl; revert hc; decide)
theorem trim_blank (a : UInt8) (h : blankF a = true) (v : List UInt8) : trimF (a :: v) = trimF v := by
  simp [trimF, tl, h]
theorem line_ne (f : Fld) : fieldB f ≠ [] := by simp [fieldB]
theorem field_line {f : Fld} (h : fieldOk f = true) : (fieldB f).any crlf = false ∧ cutC 58 (fieldB f) = some (f.1, 32 :: f.2) ∧ trimF (32 :: f.2) = f.2 := by
  simp only [fieldOk, Bool.and_eq_true] at h
  obtain ⟨h1, h2⟩ := h
  obtain ⟨_, hw, _, hw2⟩ := word_cl h1
  obtain ⟨hv, ht⟩ := value_cl h2
  refine ⟨?_, cutC_app _ hw2, ?_⟩
  · rw [fieldB, List.any_append, hw, List.any_cons, List.any_cons, hv]; decide
  · rw [trim_blank _ (by decide), ht]
theorem fields_back (fs : List Fld) (n : Nat) (hn : n + fs.length ≤ 32) (h : fs.all fieldOk = true) :
    ∃ ls, linesF (fieldsB fs) = some ls ∧ fieldsF ls n = .inr fs := by
  induction fs generalizing n with
  | nil => exact ⟨[], linesF_end, rfl⟩
  | cons f fs ih =>
    simp only [List.all_cons, Bool.and_eq_true] at h
    simp only [List.length_cons] at hn
    obtain ⟨ls, h1, h2⟩ := ih (n + 1) (by omega) h.2
    obtain ⟨g1, g2, g3⟩ := field_line h.1
    refine ⟨fieldB f :: ls, ?_, ?_⟩
    · rw [fieldsB, linesF_app _ g1 (line_ne f), h1]; rfl
    · have h3 := h.1
      simp only [fieldOk] at h3
      rw [fieldsF, if_neg (by omega), g2]
      simp only [g3, h3, h2, if_true]
theorem ver_c : ∀ n : Nat, n ≤ 1 → verF (HTTP1 ++ [UInt8.ofNat (48 + n)]) = true ∧ (HTTP1 ++ [UInt8.ofNat (48 + n)]).getD 5 0 = 49 ∧ (HTTP1 ++ [UInt8.ofNat (48 + n)]).getD 7 0 = UInt8.ofNat (48 + n) ∧ ¬ 49 < UInt8.ofNat (48 + n) ∧ (UInt8.ofNat (48 + n) - 48).toNat = n ∧ (HTTP1 ++ [UInt8.ofNat (48 + n)]).any crlf = false ∧ (HTTP1 ++ [UInt8.ofNat (48 + n)]).any (fun x => x == 32) = false := by
  intro n hn
  have : n = 0 ∨ n = 1 := by omega
  rcases this with rfl | rfl <;> decide +kernel
theorem back1 (h : HeadV) (ho : writeOk h = true) : parseF (headB h) = (h, 200) := by
  simp only [writeOk, Bool.and_eq_true, decide_eq_true_eq] at ho
  obtain ⟨ho, hlen⟩ := ho
  simp only [okF, Bool.and_eq_true, decide_eq_true_eq] at ho
  obtain ⟨⟨⟨⟨⟨⟨hm, ht1⟩, ht⟩, hmin⟩, hfs⟩, hall⟩, hh⟩ := ho
  obtain ⟨m1, m2, m3, _⟩ := word_cl hm
  obtain ⟨t1, t2, t3⟩ := target_cl ht
  obtain ⟨v1, v2, v3, v4, v5, v6, v7⟩ := ver_c h.minor.toNat (by omega)
  obtain ⟨ls, h1, h2⟩ := fields_back h.fs 0 (by omega) hall
  have hl : (lineB h).any crlf = false := by
    rw [lineB, List.any_append, m2, List.any_cons, List.any_append, t2, List.any_cons, v6]; decide
  have hne : lineB h ≠ [] := by simp [lineB]
  have hsp : spF 32 (lineB h) = [h.m, h.t, HTTP1 ++ [UInt8.ofNat (48 + h.minor.toNat)]] := by
    rw [lineB, spF_app _ m3, spF_app _ t3, spF_one v7]
  rw [parseF, if_neg (by omega), headB, linesF_app _ hl hne, h1]
  simp only [Option.map_some]
  rw [headF, hsp]
  have hvne : HTTP1 ++ [UInt8.ofNat (48 + h.minor.toNat)] ≠ [] := by simp
  have h0 : ((h.minor.toNat : Nat) : Int) = h.minor := by omega
  simp only [m1, t1, hm, v1, v2, v3, v4, v5, ht, h2, h0, hh, hvne, show ¬ 2048 < h.t.length by omega, or_self, Bool.false_eq_true, if_false, if_true, not_true_eq_false, ne_eq, reduceCtorEq]
theorem linesF_len {b : List UInt8} {ls : List (List UInt8)} (h : linesF b = some ls) : b.length = ((ls.map fun l => l.length + 2).sum) + 2 := by
  induction b using (measure List.length).wf.induction generalizing ls with
  | _ b ih =>
    rw [linesF] at h
    split at h
    · cases h
    · rename_i l r hc
      have hb := cutCR_len hc
      split at h
      · cases h
      · split at h
        · rename_i h1 h2
          split at h
          · rename_i h3
            cases h; subst h3; subst h2; rw [hb]; rfl
          · cases h
        · cases hr : linesF r with
          | none => rw [hr] at h; cases h
          | some ks =>
            rw [hr] at h
            cases h
            have := ih r (show r.length < b.length by rw [hb]; simp; omega) hr
            rw [hb]
            simp only [List.length_append, List.length_cons, List.map_cons, List.sum_cons, this]
            omega
def CLEN : List UInt8 := [99, 111, 110, 116, 101, 110, 116, 45, 108, 101, 110, 103, 116, 104]
def TENC : List UInt8 := [116, 114, 97, 110, 115, 102, 101, 114, 45, 101, 110, 99, 111, 100, 105, 110, 103]
def CONN : List UInt8 := [99, 111, 110, 110, 101, 99, 116, 105, 111, 110]
def sizeF (s : List UInt8) : Option Nat := if s.length ≤ 10 then Go.Lib.decNat s else none
theorem dec_all (s : List UInt8) (n : Nat) : (Go.Lib.decFrom n s).isSome = s.all fun c => decide (48 ≤ c.toNat ∧ c.toNat ≤ 57) := by
  induction s generalizing n with
  | nil => rfl
  | cons a s ih =>
    rw [Go.Lib.decFrom, List.all_cons]
    by_cases h : 48 ≤ a.toNat ∧ a.toNat ≤ 57
    · rw [Go.Lib.digitVal, if_pos h]; simp only [ih, h, and_self, decide_true, Bool.true_and]
    · rw [Go.Lib.digitVal, if_neg h]; simp [h]
theorem size_atoi {s : List UInt8} {n : Nat} (h : sizeF s = some n) : Go.Lib.atoi s = some (n : Int) := by
  rw [sizeF] at h
  split at h
  · cases s with
    | nil => cases h
    | cons a s =>
      have h1 := dec_all (a :: s) 0
      have h2 : Go.Lib.decFrom 0 (a :: s) = some n := h
      rw [h2] at h1
      have h3 : 48 ≤ a.toNat := by
        have := List.all_eq_true.1 h1.symm a (by simp)
        simp only [decide_eq_true_eq] at this; exact this.1
      have h4 : (a == 45) = false := by
        rw [beq_eq_false_iff_ne]; rintro rfl; revert h3; decide
      have h5 : (a == 43) = false := by
        rw [beq_eq_false_iff_ne]; rintro rfl; revert h3; decide
      rw [Go.Lib.atoi]
      simp only [h4, h5, Bool.false_eq_true, if_false, h, Option.map_some]
  · cases h
def decF (n : Nat) : List UInt8 := if n < 10 then [UInt8.ofNat (48 + n)] else decF (n / 10) ++ [UInt8.ofNat (48 + n % 10)]
theorem decFrom_app (a : List UInt8) (c : UInt8) (k n m : Nat) (d : Nat) (h : Go.Lib.decFrom k a = some n) (hd : Go.Lib.digitVal c = some d) (hm : m = n * 10 + d) : Go.Lib.decFrom k (a ++ [c]) = some m := by
  induction a generalizing k with
  | nil => cases h; rw [List.nil_append, Go.Lib.decFrom, hd, hm]; rfl
  | cons x a ih =>
    rw [List.cons_append, Go.Lib.decFrom]
    rw [Go.Lib.decFrom] at h
    split at h
    · rename_i e he; exact ih _ h
    · cases h
theorem digit_c : ∀ n : Fin 10, Go.Lib.digitVal (UInt8.ofNat (48 + n.val)) = some n.val := by decide +kernel
theorem decF_num (n : Nat) : Go.Lib.decFrom 0 (decF n) = some n ∧ decF n ≠ [] ∧ (∀ k, n < 10 ^ (k + 1) → (decF n).length ≤ k + 1) := by
  induction n using Nat.strongRecOn with
  | _ n ih =>
    rw [decF]
    split
    · rename_i h
      refine ⟨?_, by simp, fun k _ => by simp⟩
      have := digit_c ⟨n, h⟩
      rw [Go.Lib.decFrom, this]; simp [Go.Lib.decFrom]
    · rename_i h
      obtain ⟨i1, i2, i3⟩ := ih (n / 10) (by omega)
      refine ⟨decFrom_app _ _ 0 _ _ (n % 10) i1 (digit_c ⟨n % 10, by omega⟩) (by omega), by simp, fun k hk => ?_⟩
      cases k with
      | zero => simp at hk; omega
      | succ k =>
        have := i3 k (by rw [Nat.pow_succ] at hk; omega)
        simp only [List.length_append, List.length_cons, List.length_nil]; omega
theorem size_dec (n : Nat) (h : n ≤ 1073741824) : sizeF (decF n) = some n := by
  obtain ⟨i1, i2, i3⟩ := decF_num n
  have h1 := i3 9 (by have : (10 : Nat) ^ 10 = 10000000000 := by decide
                      omega)
  rw [sizeF, if_pos h1, Go.Lib.decNat]
  cases hd : decF n with
  | nil => exact absurd hd i2
  | cons a r => rw [hd] at i1; simpa using i1
def CL1 : List UInt8 := [67, 111, 110, 116, 101, 110, 116, 45, 76, 101, 110, 103, 116, 104]
end Go.Proofs.YtlkdmbpbjhjkfaaGreatDoor
namespace Go.Proofs.YtlkdmbpbjhjkfaaGreatDoor
set_option linter.unusedVariables false
set_option linter.unusedSimpArgs false
set_option maxRecDepth 100000
def mapTo (f : UInt8 → UInt8) (l : List UInt8) (k : Nat) : List UInt8 := (l.take k).map f ++ l.drop k
theorem mapTo_len (f : UInt8 → UInt8) (l : List UInt8) (k : Nat) : (mapTo f l k).length = l.length := by simp [mapTo]; omega
theorem mapTo_zero (f : UInt8 → UInt8) (l : List UInt8) : mapTo f l 0 = l := by simp [mapTo]
theorem mapTo_all (f : UInt8 → UInt8) (l : List UInt8) : mapTo f l l.length = l.map f := by simp [mapTo]
theorem mapTo_get (f : UInt8 → UInt8) (l : List UInt8) (k : Nat) (h : k < l.length) : (mapTo f l k).getD k 0 = l.getD k 0 := by
  have hl : ((l.take k).map f).length = k := by simp; omega
  simp only [mapTo, List.getD]
  rw [List.getElem?_append_right (by omega), hl, Nat.sub_self, List.getElem?_drop, Nat.add_zero]
theorem mapTo_set (f : UInt8 → UInt8) (l : List UInt8) (k : Nat) (h : k < l.length) : (mapTo f l k).set k (f (l.getD k 0)) = mapTo f l (k + 1) := by
  have hl : ((l.take k).map f).length = k := by simp; omega
  unfold mapTo
  rw [List.set_append_right _ _ (by omega), hl, Nat.sub_self]
  rw [List.drop_eq_getElem_cons h, List.set_cons_zero]
  rw [List.take_succ_eq_append_getElem h, List.map_append]
  simp [List.getD, h]
theorem mapTo_same (f : UInt8 → UInt8) (l : List UInt8) (k : Nat) (h : k < l.length) (hf : f (l.getD k 0) = l.getD k 0) : mapTo f l (k + 1) = mapTo f l k := by
  rw [← mapTo_set f l k h, hf, ← mapTo_get f l k h]
  apply List.ext_getElem (by simp)
  intro i h1 h2
  rw [List.getElem_set]
  split
  · rename_i h3; subst h3; simp [List.getD, h2]
  · rfl
theorem lowB_up {c : UInt8} (h : (65 : Int) ≤ (c.toNat : Int) ∧ (c.toNat : Int) ≤ 90) : lowB c = c + 32 := by
  rw [lowB, if_pos ⟨by show (65 : Nat) ≤ c.toNat; omega, by show c.toNat ≤ 90; omega⟩]
theorem lowB_no {c : UInt8} (h : ¬ ((65 : Int) ≤ (c.toNat : Int) ∧ (c.toNat : Int) ≤ 90)) : lowB c = c := by
  rw [lowB, if_neg]
  rintro ⟨h1, h2⟩
  have h1 : (65 : Nat) ≤ c.toNat := h1
  have h2 : c.toNat ≤ 90 := h2
  omega
theorem add32 {c : UInt8} (h : (65 : Int) ≤ (c.toNat : Int) ∧ (c.toNat : Int) ≤ 90) : IntKind.u8.wrap ((c.toNat : Int) + 32) = ((lowB c).toNat : Int) := by
  rw [lowB_up h, UInt8.toNat_add]
  have h2 : (c.toNat + (32 : UInt8).toNat) % 2 ^ 8 = c.toNat + 32 := by
    rw [show (32 : UInt8).toNat = 32 from rfl]; omega
  rw [h2]
  exact w8 (by omega) (by omega)
set_option maxHeartbeats 400000 in
theorem lower_ok {w0 : World} {base : Nat} {H : List Seg} {l : List UInt8} (hl : l.length ≤ 140737488355000) :
    SCalls Tryz.prog 119 [str l] w0 base (H) (fun v H' => v = str (lowerF l) ∧ H' = H) := by
  refine SCalls.of_walk (n := 29) Tryz.func119 rfl rfl rfl fun cs => ?_
  refine At.seq ?_
  refine At.region ?_
  refine AtL.assign (.inl rfl) rfl rfl ?_
  refine AtL.done ?_
  refine At.seq ?_
  refine At.region ?_
  refine AtL.move (.inl rfl) rfl rfl ?_
  refine AtL.bytesOf (l := l) Tryz.underlying9 Tryz.underlying22 Tryz.underlying5 (by first | omega | (simp only [List.length_append, List.length_cons, List.length_nil]; omega) | (simp; done) | (simp; omega)) (.inl rfl) rfl rfl ?_
  intro A1 C2 s3 n5 o4
  refine AtL.assign (.inl rfl) rfl rfl ?_
  refine AtL.done ?_
  refine At.seq ?_
  refine At.seq ?_
  refine At.region ?_
  refine AtL.move (.inl rfl) rfl rfl ?_
  refine AtL.lenL Tryz.underlying22 (.inl rfl) rfl rfl ?_
  refine AtL.move (.inl rfl) rfl rfl ?_
  refine AtL.done ?_
  refine At.block ?_
  refine At.loop2 (fun (k : Nat) (s2 : Seg) => [(3, .slice A1 (mapTo lowB l k).length C2), (8, .slice A1 (mapTo lowB l k).length C2), (9, .int .i64 (l.length : Int)), (10, .int .i64 (k : Int))]) (fun (k : Nat) (s2 : Seg) => s2 :: H) (fun (k : Nat) (s2 : Seg) => k ≤ l.length ∧ Own tyB 5 A1 (C2) (mapTo lowB l k) s2) (fun (k : Nat) (s2 : Seg) => l.length - k) 0 s3 (⟨Nat.zero_le _, by rw [mapTo_zero]; exact o4⟩) ⟨rfl, rfl, rfl, rfl, trivial⟩ rfl ?_
  rintro k s2 ⟨hk, ho⟩ ihL1
  have hlen := mapTo_len lowB l k
  have hcap := Own.cap_le ho
  have hle := Own.le_cap ho
  refine At.seq ?_
  refine At.region ?_
  refine AtL.lss (.inl rfl) rfl rfl rfl ?_
  refine AtL.done ?_
  refine At.seq ?_
  refine At.cond rfl ?_ ?_
  · intro hc1
    have hc1 : (k : Int) < (l.length : Int) := of_decide_eq_true hc1
    refine At.skip ?_
    refine At.seq ?_
    refine At.block ?_
    refine At.seq ?_
    refine At.region ?_
    refine AtL.move (.inl rfl) rfl rfl ?_
    refine AtL.indexL k (ho.rd (i := 0) rfl) Tryz.underlying22 tf_sz5 (.inl rfl) rfl rfl rfl rfl (by omega) ?_
    refine AtL.load (v := .int .u8 (((mapTo lowB l k).getD k 0).toNat : Int)) tf_flat5 (.inl rfl) rfl rfl (Rd.cell0 (ho.rd (i := 0) rfl) (getD_some 0 (by omega)) rfl) ?_
    refine AtL.assign (.inl rfl) rfl rfl ?_
    refine AtL.assign (.inl rfl) rfl rfl ?_
    refine AtL.done ?_
    refine At.seq ?_
    refine At.region ?_
    refine AtL.move (.inl rfl) rfl rfl ?_
    refine AtL.geq (.inl rfl) rfl rfl rfl ?_
    refine AtL.move (.inl rfl) rfl rfl ?_
    refine AtL.join 3 (E' := [(20, .bool (decide ((65 ≤ (((mapTo lowB l k).getD k 0).toNat : Int)) ∧ ((((mapTo lowB l k).getD k 0).toNat : Int) ≤ 90)))), (3, .slice A1 (mapTo lowB l k).length C2), (4, .int .i64 (k : Int)), (5, .int .u8 (((mapTo lowB l k).getD k 0).toNat : Int)), (8, .slice A1 (mapTo lowB l k).length C2), (9, .int .i64 (l.length : Int)), (10, .int .i64 (k : Int))]) (H' := s2 :: H) (fun J => ?_) ?_
    · refine AtL.split (t := 17) rfl ?_ ?_
      · intro hs17
        have hs17 : 65 ≤ (((mapTo lowB l k).getD k 0).toNat : Int) := of_decide_eq_true hs17
        refine AtL.move (.inr ⟨_, _, _, rfl, rfl, rfl, rfl⟩) rfl rfl ?_
        refine AtL.leq (.inr ⟨_, _, _, rfl, rfl, rfl, rfl⟩) rfl rfl rfl ?_
        refine AtL.pickT (.inl rfl) rfl rfl rfl ?_
        exact J _ (by exact ⟨(boolIs (by clear J; first | (simp [hs17]; done) | (simp_all; done) | grind)), rfl, rfl, rfl, rfl, rfl, rfl, trivial⟩)
      · intro hs17
        have hs17 : ¬ (65 ≤ (((mapTo lowB l k).getD k 0).toNat : Int)) := of_decide_eq_false hs17
        refine AtL.skipped rfl rfl rfl rfl rfl rfl ?_
        refine AtL.skipped rfl rfl rfl rfl rfl rfl ?_
        refine AtL.pickF (.inl rfl) rfl rfl rfl ?_
        exact J _ (by exact ⟨(boolIs (by clear J; first | (simp [hs17]; done) | (simp_all; done) | grind)), rfl, rfl, rfl, rfl, rfl, rfl, trivial⟩)
    · skip
      refine AtL.done ?_
      refine At.cond rfl ?_ ?_
      · intro hc2
        have hc2 : (65 ≤ (((mapTo lowB l k).getD k 0).toNat : Int)) ∧ ((((mapTo lowB l k).getD k 0).toNat : Int) ≤ 90) := of_decide_eq_true hc2
        refine At.region ?_
        refine AtL.move (.inl rfl) rfl rfl ?_
        refine AtL.move (.inl rfl) rfl rfl ?_
        refine AtL.move (.inl rfl) rfl rfl ?_
        refine AtL.add (z := (lowB ((mapTo lowB l k).getD k 0)).toNat) (.inl rfl) rfl rfl rfl (add32 hc2) ?_
        refine AtL.indexL k (ho.rd (i := 0) rfl) Tryz.underlying22 tf_sz5 (.inl rfl) rfl rfl rfl rfl (by omega) ?_
        refine AtL.setIdx (u := (lowB ((mapTo lowB l k).getD k 0))) 0 k tf_sz5 rfl ho (by omega) (.inl rfl) rfl rfl ?_
        intro s6 o7
        refine AtL.relen (m := ((mapTo lowB l k).set k (lowB ((mapTo lowB l k).getD k 0))).length) 3 rfl (List.length_set) ?_
        refine AtL.relen (m := ((mapTo lowB l k).set k (lowB ((mapTo lowB l k).getD k 0))).length) 8 rfl (List.length_set) ?_
        refine AtL.done ?_
        refine At.inBlock ?_
        refine At.region ?_
        refine AtL.add (z := (k : Int) + 1) (.inl rfl) rfl rfl rfl (w64 (by omega) (by omega)) ?_
        refine AtL.move (.inl rfl) rfl rfl ?_
        refine AtL.done ?_
        refine ihL1 (k + 1) s6 (⟨by omega, by rw [← mapTo_set _ _ _ (by omega), ← mapTo_get lowB l k (by omega)]; exact o7⟩) (by omega) _ ?_
        exact ⟨(by first | rfl | exact slLen (by simp [mapTo_len]) | exact intEq (by omega) | exact intEq (by simp [mapTo_len]) | exact slLen (by simp [mapTo_len]; omega)), (by first | rfl | exact slLen (by simp [mapTo_len]) | exact intEq (by omega) | exact intEq (by simp [mapTo_len]) | exact slLen (by simp [mapTo_len]; omega)), rfl, (by first | rfl | exact slLen (by simp [mapTo_len]) | exact intEq (by omega) | exact intEq (by simp [mapTo_len]) | exact slLen (by simp [mapTo_len]; omega)), trivial⟩
      · intro hc2
        have hc2 : ¬ ((65 ≤ (((mapTo lowB l k).getD k 0).toNat : Int)) ∧ ((((mapTo lowB l k).getD k 0).toNat : Int) ≤ 90)) := of_decide_eq_false hc2
        refine At.skip ?_
        refine At.inBlock ?_
        refine At.region ?_
        refine AtL.add (z := (k : Int) + 1) (.inl rfl) rfl rfl rfl (w64 (by omega) (by omega)) ?_
        refine AtL.move (.inl rfl) rfl rfl ?_
        refine AtL.done ?_
        refine ihL1 (k + 1) s2 (⟨by omega, by rw [mapTo_same _ _ _ (by omega) (by rw [← mapTo_get lowB l k (by omega)]; exact lowB_no hc2)]; exact ho⟩) (by omega) _ ?_
        exact ⟨(by first | rfl | exact slLen (by simp [mapTo_len]) | exact intEq (by omega) | exact intEq (by simp [mapTo_len]) | exact slLen (by simp [mapTo_len]; omega)), (by first | rfl | exact slLen (by simp [mapTo_len]) | exact intEq (by omega) | exact intEq (by simp [mapTo_len]) | exact slLen (by simp [mapTo_len]; omega)), rfl, (by first | rfl | exact slLen (by simp [mapTo_len]) | exact intEq (by omega) | exact intEq (by simp [mapTo_len]) | exact slLen (by simp [mapTo_len]; omega)), trivial⟩
  · intro hc1
    have hc1 : ¬ ((k : Int) < (l.length : Int)) := of_decide_eq_false hc1
    obtain rfl : k = l.length := by omega
    refine At.exit rfl ?_
    refine At.seq ?_
    refine At.region ?_
    refine AtL.move (.inl rfl) rfl rfl ?_
    refine AtL.strOf (ho.rd (i := 0) rfl) Tryz.underlying22 Tryz.underlying5 Tryz.underlying9 (.inl rfl) rfl rfl ?_
    refine AtL.assign (.inl rfl) rfl rfl ?_
    refine AtL.done ?_
    refine At.pick (H' := H) [] 1 rfl rfl ?_
    exact At.ret Tryz.func119 rfl rfl (⟨congrArg str (by rw [mapTo_all, lowerF]), rfl⟩)
theorem take_succ_d (l : List UInt8) (k : Nat) (h : k < l.length) : l.take (k + 1) = l.take k ++ [l.getD k 0] := by
  rw [List.take_succ_eq_append_getElem h]; simp [List.getD, h]
theorem all_step {p : UInt8 → Bool} {l : List UInt8} {k : Nat} (h : k < l.length) (ha : (l.take k).all p = true) (hp : p (l.getD k 0) = true) : (l.take (k + 1)).all p = true := by
  rw [take_succ_d l k h, List.all_append, ha]; simpa using hp
theorem all_bad {p : UInt8 → Bool} {l : List UInt8} {k : Nat} (h : k < l.length) (hp : p (l.getD k 0) = false) : l.all p = false := by
  rw [List.all_eq_false]
  refine ⟨l.getD k 0, ?_, by rw [hp]; simp⟩
  simp [List.getD, h]
theorem all_end {p : UInt8 → Bool} {l : List UInt8} {k : Nat} (h : l.length ≤ k) (ha : (l.take k).all p = true) : l.all p = true := by
  rw [List.take_of_length_le h] at ha; exact ha
theorem u8_eq {c : UInt8} {n : Nat} (hn : n < 256) : (c.toNat : Int) = (n : Int) ↔ c = UInt8.ofNat n := by
  constructor
  · intro h
    have h : c.toNat = n := by omega
    apply UInt8.toNat_inj.1
    rw [h, UInt8.toNat_ofNat_of_lt' hn]
  · rintro rfl
    rw [UInt8.toNat_ofNat_of_lt' hn]
set_option maxHeartbeats 400000 in
theorem digit_ok {w0 : World} {base : Nat} {H : List Seg} (c : UInt8) :
    SCalls Tryz.prog 142 [.int .u8 (c.toNat : Int)] w0 base (H) (fun v H' => v = .bool (decide (48 ≤ (c.toNat : Int) ∧ (c.toNat : Int) ≤ 57)) ∧ H' = H) := by
  refine SCalls.of_walk (n := 9) Tryz.func142 rfl rfl rfl fun cs => ?_
  refine At.seq ?_
  refine At.region ?_
  refine AtL.assign (.inl rfl) rfl rfl ?_
  refine AtL.done ?_
  refine At.seq ?_
  refine At.region ?_
  refine AtL.move (.inl rfl) rfl rfl ?_
  refine AtL.geq (.inl rfl) rfl rfl rfl ?_
  refine AtL.move (.inl rfl) rfl rfl ?_
  refine AtL.join 3 (E' := [(8, .bool (decide ((48 ≤ (c.toNat : Int)) ∧ ((c.toNat : Int) ≤ 57))))]) (H' := H) (fun J => ?_) ?_
  · refine AtL.split (t := 5) rfl ?_ ?_
    · intro hs5
      have hs5 : 48 ≤ (c.toNat : Int) := of_decide_eq_true hs5
      refine AtL.move (.inr ⟨_, _, _, rfl, rfl, rfl, rfl⟩) rfl rfl ?_
      refine AtL.leq (.inr ⟨_, _, _, rfl, rfl, rfl, rfl⟩) rfl rfl rfl ?_
      refine AtL.pickT (.inl rfl) rfl rfl rfl ?_
      exact J _ (by exact ⟨(boolIs (by clear J; first | (simp [hs5]; done) | (simp_all; done) | grind)), trivial⟩)
    · intro hs5
      have hs5 : ¬ (48 ≤ (c.toNat : Int)) := of_decide_eq_false hs5
      refine AtL.skipped rfl rfl rfl rfl rfl rfl ?_
      refine AtL.skipped rfl rfl rfl rfl rfl rfl ?_
      refine AtL.pickF (.inl rfl) rfl rfl rfl ?_
      exact J _ (by exact ⟨(boolIs (by clear J; first | (simp [hs5]; done) | (simp_all; done) | grind)), trivial⟩)
  · skip
    refine AtL.assign (.inl rfl) rfl rfl ?_
    refine AtL.done ?_
    exact At.ret Tryz.func142 rfl rfl (⟨congrArg Value.bool (decide_eq_decide.2 (by omega)), rfl⟩)
set_option maxHeartbeats 400000 in
theorem blank_ok {w0 : World} {base : Nat} {H : List Seg} (c : UInt8) :
    SCalls Tryz.prog 150 [.int .u8 (c.toNat : Int)] w0 base (H) (fun v H' => v = .bool (decide ((c.toNat : Int) = 9 ∨ (c.toNat : Int) = 32)) ∧ H' = H) := by
  refine SCalls.of_walk (n := 9) Tryz.func150 rfl rfl rfl fun cs => ?_
  refine At.seq ?_
  refine At.region ?_
  refine AtL.assign (.inl rfl) rfl rfl ?_
  refine AtL.done ?_
  refine At.seq ?_
  refine At.region ?_
  refine AtL.move (.inl rfl) rfl rfl ?_
  refine AtL.eqi (.inl rfl) rfl rfl rfl ?_
  refine AtL.move (.inl rfl) rfl rfl ?_
  refine AtL.join 3 (E' := [(8, .bool (decide (((c.toNat : Int) = 9) ∨ ((c.toNat : Int) = 32))))]) (H' := H) (fun J => ?_) ?_
  · refine AtL.split (t := 5) rfl ?_ ?_
    · intro hs5
      have hs5 : (c.toNat : Int) = 9 := of_decide_eq_true hs5
      refine AtL.skipped rfl rfl rfl rfl rfl rfl ?_
      refine AtL.skipped rfl rfl rfl rfl rfl rfl ?_
      refine AtL.pickT (.inl rfl) rfl rfl rfl ?_
      exact J _ (by exact ⟨(boolIs (by clear J; first | (simp [hs5]; done) | (simp_all; done) | grind)), trivial⟩)
    · intro hs5
      have hs5 : ¬ ((c.toNat : Int) = 9) := of_decide_eq_false hs5
      refine AtL.move (.inr ⟨_, _, _, rfl, rfl, rfl, rfl⟩) rfl rfl ?_
      refine AtL.eqi (.inr ⟨_, _, _, rfl, rfl, rfl, rfl⟩) rfl rfl rfl ?_
      refine AtL.pickF (.inl rfl) rfl rfl rfl ?_
      exact J _ (by exact ⟨(boolIs (by clear J; first | (simp [hs5]; done) | (simp_all; done) | grind)), trivial⟩)
  · skip
    refine AtL.assign (.inl rfl) rfl rfl ?_
    refine AtL.done ?_
    exact At.ret Tryz.func150 rfl rfl (⟨congrArg Value.bool (decide_eq_decide.2 (by omega)), rfl⟩)
def tgtCh (c : UInt8) : Bool := decide (33 ≤ c.toNat ∧ c.toNat ≤ 126)
theorem tgtCh_yes {c : UInt8} (h : ¬ ((c.toNat : Int) < 33 ∨ 126 < (c.toNat : Int))) : tgtCh c = true := decide_eq_true (by omega)
theorem tgtCh_no {c : UInt8} (h : (c.toNat : Int) < 33 ∨ 126 < (c.toNat : Int)) : tgtCh c = false := decide_eq_false (by omega)
theorem targetF_all (l : List UInt8) : targetF l = (decide (l.head? = some 47) && l.all tgtCh) := rfl
theorem head_47 (l : List UInt8) : (l.head? = some 47) ↔ (l ≠ [] ∧ ((l.getD 0 0).toNat : Int) = 47) := by
  cases l with
  | nil => simp
  | cons c l =>
    simp only [List.head?_cons, Option.some.injEq, ne_eq, reduceCtorEq, not_false_eq_true, true_and]
    exact (u8_eq (c := c) (n := 47) (by omega)).symm
theorem valCh_yes {c : UInt8} (h : ¬ (¬ (c.toNat : Int) = 9 ∧ ((c.toNat : Int) < 32 ∨ (c.toNat : Int) = 127))) : valCh c = true := by
  have h9 := u8_eq (c := c) (n := 9) (by omega)
  have h127 := u8_eq (c := c) (n := 127) (by omega)
  have hlt : c < 32 ↔ (c.toNat : Int) < 32 := by
    constructor
    · intro h; have : c.toNat < 32 := h; omega
    · intro h; show c.toNat < 32; omega
  simp only [valCh, Bool.and_eq_true, Bool.not_eq_true', Bool.and_eq_false_iff, decide_eq_false_iff_not, decide_eq_true_eq, ne_eq, Decidable.not_not, hlt]
  by_cases h1 : (c.toNat : Int) = 9
  · have : c = 9 := h9.1 h1
    subst this; exact ⟨.inl rfl, by decide⟩
  · refine ⟨.inr (fun h2 => h ⟨h1, .inl h2⟩), fun h2 => h ⟨h1, .inr (h127.2 h2)⟩⟩
theorem valCh_no {c : UInt8} (h : ¬ (c.toNat : Int) = 9 ∧ ((c.toNat : Int) < 32 ∨ (c.toNat : Int) = 127)) : valCh c = false := by
  have h9 := u8_eq (c := c) (n := 9) (by omega)
  have h127 := u8_eq (c := c) (n := 127) (by omega)
  have hlt : c < 32 ↔ (c.toNat : Int) < 32 := by
    constructor
    · intro h; have : c.toNat < 32 := h; omega
    · intro h; show c.toNat < 32; omega
  have h1 : ¬ c = 9 := fun h2 => h.1 (h9.2 h2)
  rcases h.2 with h2 | h2
  · simp only [valCh, ne_eq, h1, not_false_eq_true, decide_true, hlt.2 h2, Bool.and_self, Bool.not_true, Bool.false_and]
  · have : c = 127 := h127.1 h2
    subst this; decide
theorem valueF_is (l : List UInt8) (h : l.all valCh = true) : valueF l = decide (l = [] ∨ (¬ (((l.getD 0 0).toNat : Int) = 9 ∨ ((l.getD 0 0).toNat : Int) = 32) ∧ ¬ (((l.getD (Int.toNat ((l.length : Int) - 1)) 0).toNat : Int) = 9 ∨ ((l.getD (Int.toNat ((l.length : Int) - 1)) 0).toNat : Int) = 32))) := by
  have key : ∀ c : UInt8, blankF c = false ↔ ¬ ((c.toNat : Int) = 9 ∨ (c.toNat : Int) = 32) := by
    intro c
    have h9 := u8_eq (c := c) (n := 9) (by omega)
    have h32 := u8_eq (c := c) (n := 32) (by omega)
    simp only [blankF, Bool.or_eq_false_iff, decide_eq_false_iff_not, not_or]
    exact and_congr (not_congr h9.symm) (not_congr h32.symm)
  rw [show Int.toNat ((l.length : Int) - 1) = l.length - 1 by omega, valueF, h, Bool.true_and]
  exact decide_eq_decide.2 ((trim_same l).trans (by rw [key, key]))
set_option maxHeartbeats 400000 in
theorem target_ok {w0 : World} {base : Nat} {H : List Seg} {l : List UInt8} (hl : l.length ≤ 140737488355000) :
    SCalls Tryz.prog 101 [str l] w0 base (H) (fun v H' => v = .bool (targetF l) ∧ H' = H) := by
  refine SCalls.of_walk (n := 26) Tryz.func101 rfl rfl rfl fun cs => ?_
  refine At.seq ?_
  refine At.region ?_
  refine AtL.assign (.inl rfl) rfl rfl ?_
  refine AtL.done ?_
  refine At.seq ?_
  refine At.seq ?_
  refine At.region ?_
  refine AtL.move (.inl rfl) rfl rfl ?_
  refine AtL.bytesOf (l := l) Tryz.underlying9 Tryz.underlying22 Tryz.underlying5 (by first | omega | (simp only [List.length_append, List.length_cons, List.length_nil]; omega) | (simp; done) | (simp; omega)) (.inl rfl) rfl rfl ?_
  intro A1 C2 s3 n5 o4
  refine AtL.lenL Tryz.underlying22 (.inl rfl) rfl rfl ?_
  refine AtL.move (.inl rfl) rfl rfl ?_
  refine AtL.done ?_
  refine At.block ?_
  refine At.loop (fun (k : Nat) => [(0, str l), (6, .slice A1 l.length C2), (7, .int .i64 (l.length : Int)), (8, .int .i64 (k : Int))]) (fun (k : Nat) => s3 :: H) (fun (k : Nat) => k ≤ l.length ∧ (l.take k).all tgtCh = true) (fun (k : Nat) => l.length - k) 0 (⟨Nat.zero_le _, rfl⟩) ⟨rfl, rfl, rfl, rfl, trivial⟩ rfl ?_
  rintro k ⟨hk, ha⟩ ihL1
  refine At.seq ?_
  refine At.region ?_
  refine AtL.lss (.inl rfl) rfl rfl rfl ?_
  refine AtL.done ?_
  refine At.seq ?_
  refine At.cond rfl ?_ ?_
  · intro hc1
    have hc1 : (k : Int) < (l.length : Int) := of_decide_eq_true hc1
    refine At.skip ?_
    refine At.seq ?_
    refine At.block ?_
    refine At.seq ?_
    refine At.region ?_
    refine AtL.indexL k (o4.rd (i := 0) rfl) Tryz.underlying22 tf_sz5 (.inl rfl) rfl rfl rfl rfl (by omega) ?_
    refine AtL.load (v := .int .u8 ((l.getD k 0).toNat : Int)) tf_flat5 (.inl rfl) rfl rfl (Rd.cell0 (o4.rd (i := 0) rfl) (getD_some 0 (by omega)) rfl) ?_
    refine AtL.assign (.inl rfl) rfl rfl ?_
    refine AtL.done ?_
    refine At.seq ?_
    refine At.region ?_
    refine AtL.move (.inl rfl) rfl rfl ?_
    refine AtL.lss (.inl rfl) rfl rfl rfl ?_
    refine AtL.move (.inl rfl) rfl rfl ?_
    refine AtL.join 3 (E' := [(17, .bool (decide ((((l.getD k 0).toNat : Int) < 33) ∨ (126 < ((l.getD k 0).toNat : Int))))), (0, str l), (6, .slice A1 l.length C2), (7, .int .i64 (l.length : Int)), (8, .int .i64 (k : Int))]) (H' := s3 :: H) (fun J => ?_) ?_
    · refine AtL.split (t := 14) rfl ?_ ?_
      · intro hs14
        have hs14 : ((l.getD k 0).toNat : Int) < 33 := of_decide_eq_true hs14
        refine AtL.skipped rfl rfl rfl rfl rfl rfl ?_
        refine AtL.skipped rfl rfl rfl rfl rfl rfl ?_
        refine AtL.pickT (.inl rfl) rfl rfl rfl ?_
        exact J _ (by exact ⟨(boolIs (by clear J; first | (simp [hs14]; done) | (simp_all; done) | grind)), rfl, rfl, rfl, rfl, trivial⟩)
      · intro hs14
        have hs14 : ¬ (((l.getD k 0).toNat : Int) < 33) := of_decide_eq_false hs14
        refine AtL.move (.inr ⟨_, _, _, rfl, rfl, rfl, rfl⟩) rfl rfl ?_
        refine AtL.gtr (.inr ⟨_, _, _, rfl, rfl, rfl, rfl⟩) rfl rfl rfl ?_
        refine AtL.pickF (.inl rfl) rfl rfl rfl ?_
        exact J _ (by exact ⟨(boolIs (by clear J; first | (simp [hs14]; done) | (simp_all; done) | grind)), rfl, rfl, rfl, rfl, trivial⟩)
    · skip
      refine AtL.done ?_
      refine At.cond rfl ?_ ?_
      · intro hc2
        have hc2 : (((l.getD k 0).toNat : Int) < 33) ∨ (126 < ((l.getD k 0).toNat : Int)) := of_decide_eq_true hc2
        refine At.seq ?_
        refine At.region ?_
        refine AtL.assign (.inl rfl) rfl rfl ?_
        refine AtL.done ?_
        refine At.pick (H' := H) [] 1 rfl rfl ?_
        exact At.ret Tryz.func101 rfl rfl (⟨congrArg Value.bool (by rw [targetF_all, all_bad (by omega) (tgtCh_no hc2), Bool.and_false]), rfl⟩)
      · intro hc2
        have hc2 : ¬ ((((l.getD k 0).toNat : Int) < 33) ∨ (126 < ((l.getD k 0).toNat : Int))) := of_decide_eq_false hc2
        refine At.skip ?_
        refine At.inBlock ?_
        refine At.region ?_
        refine AtL.add (z := (k : Int) + 1) (.inl rfl) rfl rfl rfl (w64 (by omega) (by omega)) ?_
        refine AtL.move (.inl rfl) rfl rfl ?_
        refine AtL.done ?_
        refine ihL1 (k + 1) (⟨by omega, all_step (by omega) ha (tgtCh_yes hc2)⟩) (by omega) _ ?_
        exact ⟨rfl, rfl, rfl, (by first | rfl | exact slLen (by simp []) | exact intEq (by omega) | exact intEq (by simp []) | exact slLen (by simp []; omega)), trivial⟩
  · intro hc1
    have hc1 : ¬ ((k : Int) < (l.length : Int)) := of_decide_eq_false hc1
    refine At.exit rfl ?_
    refine At.seq ?_
    refine At.region ?_
    refine AtL.move (.inl rfl) rfl rfl ?_
    refine AtL.nes (a := l) (b := []) (.inl rfl) rfl rfl rfl ?_
    refine AtL.move (.inl rfl) rfl rfl ?_
    refine AtL.join 4 (E' := [(25, .bool (decide ((¬ (l = [])) ∧ (((l.getD 0 0).toNat : Int) = 47))))]) (H' := s3 :: H) (fun J => ?_) ?_
    · refine AtL.split (t := 21) rfl ?_ ?_
      · intro hs21
        have hs21 : ¬ (l = []) := of_decide_eq_false (bnot_true hs21)
        have hpos := List.length_pos_iff.2 hs21
        refine AtL.move (.inr ⟨_, _, _, rfl, rfl, rfl, rfl⟩) rfl rfl ?_
        refine AtL.indexS (l := l) 0 rfl (by omega) Tryz.underlying9 (.inr ⟨_, _, _, rfl, rfl, rfl, rfl⟩) rfl rfl rfl ?_
        refine AtL.eqi (.inr ⟨_, _, _, rfl, rfl, rfl, rfl⟩) rfl rfl rfl ?_
        refine AtL.pickT (.inl rfl) rfl rfl rfl ?_
        exact J _ (by exact ⟨(boolIs (by clear J; first | (simp [hs21]; done) | (simp_all; done) | grind)), trivial⟩)
      · intro hs21
        have hs21 : l = [] := of_decide_eq_true (bnot_false hs21)
        refine AtL.skipped rfl rfl rfl rfl rfl rfl ?_
        refine AtL.skipped rfl rfl rfl rfl rfl rfl ?_
        refine AtL.skipped rfl rfl rfl rfl rfl rfl ?_
        refine AtL.pickF (.inl rfl) rfl rfl rfl ?_
        exact J _ (by exact ⟨(boolIs (by clear J; first | (simp [hs21]; done) | (simp_all; done) | grind)), trivial⟩)
    · skip
      refine AtL.assign (.inl rfl) rfl rfl ?_
      refine AtL.done ?_
      refine At.pick (H' := H) [] 1 rfl rfl ?_
      exact At.ret Tryz.func101 rfl rfl (⟨congrArg Value.bool (by rw [targetF_all, all_end (by omega) ha, Bool.and_true]; exact decide_eq_decide.2 (head_47 l).symm), rfl⟩)
set_option maxHeartbeats 400000 in
theorem value_ok {w0 : World} {base : Nat} {H : List Seg} {l : List UInt8} (hl : l.length ≤ 140737488355000) :
    SCalls Tryz.prog 103 [str l] w0 base (H) (fun v H' => v = .bool (valueF l) ∧ H' = H) := by
  refine SCalls.of_walk (n := 40) Tryz.func103 rfl rfl rfl fun cs => ?_
  refine At.seq ?_
  refine At.region ?_
  refine AtL.assign (.inl rfl) rfl rfl ?_
  refine AtL.done ?_
  refine At.seq ?_
  refine At.seq ?_
  refine At.region ?_
  refine AtL.move (.inl rfl) rfl rfl ?_
  refine AtL.bytesOf (l := l) Tryz.underlying9 Tryz.underlying22 Tryz.underlying5 (by first | omega | (simp only [List.length_append, List.length_cons, List.length_nil]; omega) | (simp; done) | (simp; omega)) (.inl rfl) rfl rfl ?_
  intro A1 C2 s3 n5 o4
  refine AtL.lenL Tryz.underlying22 (.inl rfl) rfl rfl ?_
  refine AtL.move (.inl rfl) rfl rfl ?_
  refine AtL.done ?_
  refine At.block ?_
  refine At.loop (fun (k : Nat) => [(0, str l), (6, .slice A1 l.length C2), (7, .int .i64 (l.length : Int)), (8, .int .i64 (k : Int))]) (fun (k : Nat) => s3 :: H) (fun (k : Nat) => k ≤ l.length ∧ (l.take k).all valCh = true) (fun (k : Nat) => l.length - k) 0 (⟨Nat.zero_le _, rfl⟩) ⟨rfl, rfl, rfl, rfl, trivial⟩ rfl ?_
  rintro k ⟨hk, ha⟩ ihL1
  refine At.seq ?_
  refine At.region ?_
  refine AtL.lss (.inl rfl) rfl rfl rfl ?_
  refine AtL.done ?_
  refine At.seq ?_
  refine At.cond rfl ?_ ?_
  · intro hc1
    have hc1 : (k : Int) < (l.length : Int) := of_decide_eq_true hc1
    refine At.skip ?_
    refine At.seq ?_
    refine At.block ?_
    refine At.seq ?_
    refine At.region ?_
    refine AtL.indexL k (o4.rd (i := 0) rfl) Tryz.underlying22 tf_sz5 (.inl rfl) rfl rfl rfl rfl (by omega) ?_
    refine AtL.load (v := .int .u8 ((l.getD k 0).toNat : Int)) tf_flat5 (.inl rfl) rfl rfl (Rd.cell0 (o4.rd (i := 0) rfl) (getD_some 0 (by omega)) rfl) ?_
    refine AtL.assign (.inl rfl) rfl rfl ?_
    refine AtL.done ?_
    refine At.seq ?_
    refine At.region ?_
    refine AtL.move (.inl rfl) rfl rfl ?_
    refine AtL.nei (.inl rfl) rfl rfl rfl ?_
    refine AtL.move (.inl rfl) rfl rfl ?_
    refine AtL.join 7 (E' := [(21, .bool (decide ((¬ (((l.getD k 0).toNat : Int) = 9)) ∧ ((((l.getD k 0).toNat : Int) < 32) ∨ (((l.getD k 0).toNat : Int) = 127))))), (0, str l), (6, .slice A1 l.length C2), (7, .int .i64 (l.length : Int)), (8, .int .i64 (k : Int))]) (H' := s3 :: H) (fun J => ?_) ?_
    · refine AtL.split (t := 14) rfl ?_ ?_
      · intro hs14
        have hs14 : ¬ (((l.getD k 0).toNat : Int) = 9) := of_decide_eq_false (bnot_true hs14)
        refine AtL.move (.inr ⟨_, _, _, rfl, rfl, rfl, rfl⟩) rfl rfl ?_
        refine AtL.lss (.inr ⟨_, _, _, rfl, rfl, rfl, rfl⟩) rfl rfl rfl ?_
        refine AtL.move (.inr ⟨_, _, _, rfl, rfl, rfl, rfl⟩) rfl rfl ?_
        refine AtL.join 3 (E' := [(20, .bool (decide ((((l.getD k 0).toNat : Int) < 32) ∨ (((l.getD k 0).toNat : Int) = 127)))), (0, str l), (6, .slice A1 l.length C2), (7, .int .i64 (l.length : Int)), (8, .int .i64 (k : Int)), (14, .bool true)]) (H' := s3 :: H) (fun J => ?_) ?_
        · refine AtL.split (t := 17) rfl ?_ ?_
          · intro hs17
            have hs17 : ((l.getD k 0).toNat : Int) < 32 := of_decide_eq_true hs17
            refine AtL.skipped rfl rfl rfl rfl rfl rfl ?_
            refine AtL.skipped rfl rfl rfl rfl rfl rfl ?_
            refine AtL.pickT (.inr ⟨_, _, _, rfl, rfl, rfl, rfl⟩) rfl rfl rfl ?_
            exact J _ (by exact ⟨(boolIs (by clear J; first | (simp [hs17]; done) | (simp_all; done) | grind)), rfl, rfl, rfl, rfl, rfl, trivial⟩)
          · intro hs17
            have hs17 : ¬ (((l.getD k 0).toNat : Int) < 32) := of_decide_eq_false hs17
            refine AtL.move (.inr ⟨_, _, _, rfl, rfl, rfl, rfl⟩) rfl rfl ?_
            refine AtL.eqi (.inr ⟨_, _, _, rfl, rfl, rfl, rfl⟩) rfl rfl rfl ?_
            refine AtL.pickF (.inr ⟨_, _, _, rfl, rfl, rfl, rfl⟩) rfl rfl rfl ?_
            exact J _ (by exact ⟨(boolIs (by clear J; first | (simp [hs17]; done) | (simp_all; done) | grind)), rfl, rfl, rfl, rfl, rfl, trivial⟩)
        · skip
          refine AtL.pickT (.inl rfl) rfl rfl rfl ?_
          exact J _ (by exact ⟨(boolIs (by clear J; first | (simp [hs14]; done) | (simp_all; done) | grind)), rfl, rfl, rfl, rfl, trivial⟩)
      · intro hs14
        have hs14 : ((l.getD k 0).toNat : Int) = 9 := of_decide_eq_true (bnot_false hs14)
        refine AtL.skipped rfl rfl rfl rfl rfl rfl ?_
        refine AtL.skipped rfl rfl rfl rfl rfl rfl ?_
        refine AtL.skipped rfl rfl rfl rfl rfl rfl ?_
        refine AtL.skippedU rfl rfl rfl rfl rfl ?_
        refine AtL.skippedU rfl rfl rfl rfl rfl ?_
        refine AtL.skipped rfl rfl rfl rfl rfl rfl ?_
        refine AtL.pickF (.inl rfl) rfl rfl rfl ?_
        exact J _ (by exact ⟨(boolIs (by clear J; first | (simp [hs14]; done) | (simp_all; done) | grind)), rfl, rfl, rfl, rfl, trivial⟩)
    · skip
      refine AtL.done ?_
      refine At.cond rfl ?_ ?_
      · intro hc2
        have hc2 : (¬ (((l.getD k 0).toNat : Int) = 9)) ∧ ((((l.getD k 0).toNat : Int) < 32) ∨ (((l.getD k 0).toNat : Int) = 127)) := of_decide_eq_true hc2
        refine At.seq ?_
        refine At.region ?_
        refine AtL.assign (.inl rfl) rfl rfl ?_
        refine AtL.done ?_
        refine At.pick (H' := H) [] 1 rfl rfl ?_
        exact At.ret Tryz.func103 rfl rfl (⟨congrArg Value.bool (by rw [valueF, all_bad (by omega) (valCh_no hc2), Bool.false_and]), rfl⟩)
      · intro hc2
        have hc2 : ¬ ((¬ (((l.getD k 0).toNat : Int) = 9)) ∧ ((((l.getD k 0).toNat : Int) < 32) ∨ (((l.getD k 0).toNat : Int) = 127))) := of_decide_eq_false hc2
        refine At.skip ?_
        refine At.inBlock ?_
        refine At.region ?_
        refine AtL.add (z := (k : Int) + 1) (.inl rfl) rfl rfl rfl (w64 (by omega) (by omega)) ?_
        refine AtL.move (.inl rfl) rfl rfl ?_
        refine AtL.done ?_
        refine ihL1 (k + 1) (⟨by omega, all_step (by omega) ha (valCh_yes hc2)⟩) (by omega) _ ?_
        exact ⟨rfl, rfl, rfl, (by first | rfl | exact slLen (by simp []) | exact intEq (by omega) | exact intEq (by simp []) | exact slLen (by simp []; omega)), trivial⟩
  · intro hc1
    have hc1 : ¬ ((k : Int) < (l.length : Int)) := of_decide_eq_false hc1
    refine At.exit rfl ?_
    refine At.seq ?_
    refine At.region ?_
    refine AtL.move (.inl rfl) rfl rfl ?_
    refine AtL.eqs (a := l) (b := []) (.inl rfl) rfl rfl rfl ?_
    refine AtL.move (.inl rfl) rfl rfl ?_
    refine AtL.join 14 (E' := [(39, .bool (decide ((l = []) ∨ ((¬ (((l.getD 0 0).toNat : Int) = 9 ∨ ((l.getD 0 0).toNat : Int) = 32)) ∧ (¬ (((l.getD (Int.toNat ((l.length : Int) - 1)) 0).toNat : Int) = 9 ∨ ((l.getD (Int.toNat ((l.length : Int) - 1)) 0).toNat : Int) = 32))))))]) (H' := s3 :: H) (fun J => ?_) ?_
    · refine AtL.split (t := 25) rfl ?_ ?_
      · intro hs25
        have hs25 : l = [] := of_decide_eq_true hs25
        refine AtL.skipped rfl rfl rfl rfl rfl rfl ?_
        refine AtL.skipped rfl rfl rfl rfl rfl rfl ?_
        refine AtL.skipped rfl rfl rfl rfl rfl rfl ?_
        refine AtL.skipped rfl rfl rfl rfl rfl rfl ?_
        refine AtL.skipped rfl rfl rfl rfl rfl rfl ?_
        refine AtL.skippedU rfl rfl rfl rfl rfl ?_
        refine AtL.skippedU rfl rfl rfl rfl rfl ?_
        refine AtL.skippedU rfl rfl rfl rfl rfl ?_
        refine AtL.skippedU rfl rfl rfl rfl rfl ?_
        refine AtL.skippedU rfl rfl rfl rfl rfl ?_
        refine AtL.skippedU rfl rfl rfl rfl rfl ?_
        refine AtL.skippedU rfl rfl rfl rfl rfl ?_
        refine AtL.skipped rfl rfl rfl rfl rfl rfl ?_
        refine AtL.pickT (.inl rfl) rfl rfl rfl ?_
        exact J _ (by exact ⟨(boolIs (by clear J; first | (simp [hs25]; done) | (simp_all; done) | grind)), trivial⟩)
      · intro hs25
        have hs25 : ¬ (l = []) := of_decide_eq_false hs25
        have hpos := List.length_pos_iff.2 hs25
        refine AtL.move (.inr ⟨_, _, _, rfl, rfl, rfl, rfl⟩) rfl rfl ?_
        refine AtL.indexS (l := l) 0 rfl (by omega) Tryz.underlying9 (.inr ⟨_, _, _, rfl, rfl, rfl, rfl⟩) rfl rfl rfl ?_
        refine AtL.call tf_body150 (.inr ⟨_, _, _, rfl, rfl, rfl, rfl⟩) rfl rfl (blank_ok (l.getD 0 0)) ?_
        rintro _ _ ⟨rfl, rfl⟩
        refine AtL.not (.inr ⟨_, _, _, rfl, rfl, rfl, rfl⟩) rfl rfl ?_
        refine AtL.move (.inr ⟨_, _, _, rfl, rfl, rfl, rfl⟩) rfl rfl ?_
        refine AtL.join 8 (E' := [(38, .bool (decide ((¬ (((l.getD 0 0).toNat : Int) = 9 ∨ ((l.getD 0 0).toNat : Int) = 32)) ∧ (¬ (((l.getD (Int.toNat ((l.length : Int) - 1)) 0).toNat : Int) = 9 ∨ ((l.getD (Int.toNat ((l.length : Int) - 1)) 0).toNat : Int) = 32))))), (25, .bool false)]) (H' := s3 :: H) (fun J => ?_) ?_
        · refine AtL.split (t := 30) rfl ?_ ?_
          · intro hs30
            have hs30 : ¬ (((l.getD 0 0).toNat : Int) = 9 ∨ ((l.getD 0 0).toNat : Int) = 32) := of_decide_eq_false (bnot_true hs30)
            refine AtL.move (.inr ⟨_, _, _, rfl, rfl, rfl, rfl⟩) rfl rfl ?_
            refine AtL.move (.inr ⟨_, _, _, rfl, rfl, rfl, rfl⟩) rfl rfl ?_
            refine AtL.lenS (l := l) Tryz.underlying9 (.inr ⟨_, _, _, rfl, rfl, rfl, rfl⟩) rfl rfl ?_
            refine AtL.sub (z := (l.length : Int) - 1) (.inr ⟨_, _, _, rfl, rfl, rfl, rfl⟩) rfl rfl rfl (w64 (by omega) (by omega)) ?_
            refine AtL.indexS (l := l) (Int.toNat ((l.length : Int) - 1)) (by omega) (by omega) Tryz.underlying9 (.inr ⟨_, _, _, rfl, rfl, rfl, rfl⟩) rfl rfl rfl ?_
            refine AtL.call tf_body150 (.inr ⟨_, _, _, rfl, rfl, rfl, rfl⟩) rfl rfl (blank_ok (l.getD (Int.toNat ((l.length : Int) - 1)) 0)) ?_
            rintro _ _ ⟨rfl, rfl⟩
            refine AtL.not (.inr ⟨_, _, _, rfl, rfl, rfl, rfl⟩) rfl rfl ?_
            refine AtL.pickT (.inr ⟨_, _, _, rfl, rfl, rfl, rfl⟩) rfl rfl rfl ?_
            exact J _ (by exact ⟨(boolIs (by clear J; first | (simp [hs30]; done) | (simp_all; done) | grind)), rfl, trivial⟩)
          · intro hs30
            have hs30 : ((l.getD 0 0).toNat : Int) = 9 ∨ ((l.getD 0 0).toNat : Int) = 32 := of_decide_eq_true (bnot_false hs30)
            refine AtL.skipped rfl rfl rfl rfl rfl rfl ?_
            refine AtL.skipped rfl rfl rfl rfl rfl rfl ?_
            refine AtL.skipped rfl rfl rfl rfl rfl rfl ?_
            refine AtL.skipped rfl rfl rfl rfl rfl rfl ?_
            refine AtL.skipped rfl rfl rfl rfl rfl rfl ?_
            refine AtL.skipped rfl rfl rfl rfl rfl rfl ?_
            refine AtL.skipped rfl rfl rfl rfl rfl rfl ?_
            refine AtL.pickF (.inr ⟨_, _, _, rfl, rfl, rfl, rfl⟩) rfl rfl rfl ?_
            exact J _ (by exact ⟨(boolIs (by clear J; first | (simp [hs30]; done) | (simp_all; done) | grind)), rfl, trivial⟩)
        · skip
          refine AtL.pickF (.inl rfl) rfl rfl rfl ?_
          exact J _ (by exact ⟨(boolIs (by clear J; first | (simp [hs25]; done) | (simp_all; done) | grind)), trivial⟩)
    · skip
      refine AtL.assign (.inl rfl) rfl rfl ?_
      refine AtL.done ?_
      refine At.pick (H' := H) [] 1 rfl rfl ?_
      exact At.ret Tryz.func103 rfl rfl (⟨congrArg Value.bool (by rw [valueF_is l (all_end (by omega) ha)]), rfl⟩)
def letA (l : List UInt8) : List Bool := (List.range 256).map fun i => l.contains (UInt8.ofNat i)
theorem letA_len (l : List UInt8) : (letA l).length = 256 := by simp [letA]
theorem letA_nil : List.replicate 256 false = letA [] := by
  apply List.ext_getElem (by rw [letA_len, List.length_replicate])
  intro i h1 h2
  rw [List.getElem_replicate]
  simp only [letA, List.getElem_map]
  rfl
theorem letA_get (l : List UInt8) (c : UInt8) : (letA l).getD c.toNat false = l.contains c := by
  have h := c.toNat_lt
  simp [letA, List.getD, h, UInt8.ofNat_toNat]
theorem letA_set (l : List UInt8) (c : UInt8) : (letA l).set c.toNat true = letA (l ++ [c]) := by
  apply List.ext_getElem (by simp [letA])
  intro i h1 h2
  have hi : i < 256 := by simpa [letA] using h2
  rw [List.getElem_set]
  by_cases h : c.toNat = i
  · subst h
    simp [letA, UInt8.ofNat_toNat]
  · have hne : ¬ (UInt8.ofNat i = c) := by
      intro h3; apply h; rw [← h3, UInt8.toNat_ofNat_of_lt' hi]
    simp [letA, h, hne]
set_option maxHeartbeats 400000 in
theorem letters_ok {w0 : World} {base : Nat} {H : List Seg} {l : List UInt8} (hl : l.length ≤ 140737488355000) :
    SCalls Tryz.prog 141 [str l] w0 base (H) (fun v H' => v = .agg (tyBool.cells (letA l)).toArray ∧ H' = H) := by
  refine SCalls.of_walk (n := 16) Tryz.func141 rfl rfl rfl fun cs => ?_
  refine At.seq ?_
  refine At.region ?_
  refine AtL.allocArr tyBool (l := List.replicate 256 false) tf_zero179 tf_zarr179 (by simp) (.inl rfl) rfl ?_
  intro b1 s2 o3
  rw [List.length_replicate] at o3
  refine AtL.done ?_
  refine At.seq ?_
  refine At.seq ?_
  refine At.region ?_
  refine AtL.move (.inl rfl) rfl rfl ?_
  refine AtL.bytesOf (l := l) Tryz.underlying9 Tryz.underlying22 Tryz.underlying5 (by first | omega | (simp only [List.length_append, List.length_cons, List.length_nil]; omega) | (simp; done) | (simp; omega)) (.inl rfl) rfl rfl ?_
  intro A4 C5 s6 n8 o7
  refine AtL.lenL Tryz.underlying22 (.inl rfl) rfl rfl ?_
  refine AtL.move (.inl rfl) rfl rfl ?_
  refine AtL.done ?_
  refine At.block ?_
  refine At.loop2 (fun (k : Nat) (s2 : Seg) => [(2, .pointer (some ⟨b1, 0, none⟩)), (6, .slice A4 l.length C5), (7, .int .i64 (l.length : Int)), (8, .int .i64 (k : Int))]) (fun (k : Nat) (s2 : Seg) => s6 :: s2 :: H) (fun (k : Nat) (s2 : Seg) => k ≤ l.length ∧ Own tyBool 179 (some ⟨b1, 0, none⟩) 256 (letA (l.take k)) s2) (fun (k : Nat) (s2 : Seg) => l.length - k) 0 s2 (⟨Nat.zero_le _, by rw [List.take_zero, ← letA_nil]; exact o3⟩) ⟨rfl, rfl, rfl, rfl, trivial⟩ rfl ?_
  rintro k s2 ⟨hk, ho⟩ ihL1
  have hlen := letA_len (l.take k)
  have hlt := (l.getD k 0).toNat_lt
  have hle := Own.le_cap ho
  refine At.seq ?_
  refine At.region ?_
  refine AtL.lss (.inl rfl) rfl rfl rfl ?_
  refine AtL.done ?_
  refine At.seq ?_
  refine At.cond rfl ?_ ?_
  · intro hc1
    have hc1 : (k : Int) < (l.length : Int) := of_decide_eq_true hc1
    refine At.skip ?_
    refine At.seq ?_
    refine At.block ?_
    refine At.seq ?_
    refine At.region ?_
    refine AtL.indexL k (o7.rd (i := 0) rfl) Tryz.underlying22 tf_sz5 (.inl rfl) rfl rfl rfl rfl (by omega) ?_
    refine AtL.load (v := .int .u8 ((l.getD k 0).toNat : Int)) tf_flat5 (.inl rfl) rfl rfl (Rd.cell0 (o7.rd (i := 0) rfl) (getD_some 0 (by omega)) rfl) ?_
    refine AtL.assign (.inl rfl) rfl rfl ?_
    refine AtL.done ?_
    refine At.region ?_
    refine AtL.move (.inl rfl) rfl rfl ?_
    refine AtL.indexArr ((l.getD k 0).toNat) Tryz.underlying179 tf_sz4 (.inl rfl) rfl rfl rfl rfl (by omega) ?_
    refine AtL.setIdx (u := true) 1 ((l.getD k 0).toNat) tf_sz4 rfl ho (by omega) (.inl rfl) rfl rfl ?_
    intro s9 o10
    refine AtL.done ?_
    refine At.inBlock ?_
    refine At.region ?_
    refine AtL.add (z := (k : Int) + 1) (.inl rfl) rfl rfl rfl (w64 (by omega) (by omega)) ?_
    refine AtL.move (.inl rfl) rfl rfl ?_
    refine AtL.done ?_
    refine ihL1 (k + 1) s9 (⟨by omega, by rw [take_succ_d l k (by omega), ← letA_set]; exact o10⟩) (by omega) _ ?_
    exact ⟨(by first | rfl | exact slLen (by simp []) | exact intEq (by omega) | exact intEq (by simp []) | exact slLen (by simp []; omega)), rfl, rfl, (by first | rfl | exact slLen (by simp []) | exact intEq (by omega) | exact intEq (by simp []) | exact slLen (by simp []; omega)), trivial⟩
  · intro hc1
    have hc1 : ¬ ((k : Int) < (l.length : Int)) := of_decide_eq_false hc1
    refine At.exit rfl ?_
    refine At.seq ?_
    refine At.region ?_
    refine AtL.loadArr (ho.rd (i := 1) rfl) tf_agg179 (by simp [Ty.cells_len, tyBool, letA_len]) (.inl rfl) rfl rfl ?_
    refine AtL.storeArr (T := tyBool) (l' := letA (l.take k)) 1 tf_sz179 rfl ho rfl rfl (by simp [Ty.cells_len, tyBool, letA_len]) (.inl rfl) rfl rfl ?_
    intro s11 o12
    refine AtL.done ?_
    exact At.retMP (vs := [.agg (tyBool.cells (letA (l.take k))).toArray]) (H2 := H) [] 2 rfl rfl Tryz.func141 rfl ⟨⟨_, rfl, LoadsTo.arr (o12.rd (i := 1) rfl) tf_agg179 (by simp [Ty.cells_len, tyBool, letA_len])⟩, trivial⟩ (⟨by rw [List.take_of_length_le (show l.length ≤ k by omega)]; rfl, rfl⟩)
theorem word_no {s : List UInt8} {k : Nat} {most : Int} (hk : k < s.length) (h : (letA LET).getD (s.getD k 0).toNat false = false) : wordF s most = false := by
  rw [letA_get, ← let_eq] at h
  rw [wordF, all_bad hk h, Bool.and_false]
theorem word_yes {s : List UInt8} {most : Int} (h : s.all letterF = true) : wordF s most = decide (¬ s = [] ∧ (s.length : Int) ≤ most) := by
  rw [wordF, h, Bool.and_true]
  apply decide_eq_decide.2
  have := List.length_pos_iff (l := s)
  constructor
  · rintro ⟨h1, h2⟩; exact ⟨this.1 (by omega), h2⟩
  · rintro ⟨h1, h2⟩; exact ⟨this.2 h1, h2⟩
set_option maxHeartbeats 400000 in
theorem word_ok {w0 : World} {base : Nat} {H : List Seg} {l : List UInt8} (hl : l.length ≤ 140737488355000) (most : Int) :
    SCalls Tryz.prog 99 [str l, .int .i64 most] w0 base (H) (fun v H' => v = .bool (wordF l most) ∧ H' = H) := by
  refine SCalls.of_walk (n := 29) Tryz.func99 rfl rfl rfl fun cs => ?_
  refine At.seq ?_
  refine At.region ?_
  refine AtL.assign (.inl rfl) rfl rfl ?_
  refine AtL.done ?_
  refine At.seq ?_
  refine At.region ?_
  refine AtL.call tf_body141 (.inl rfl) rfl rfl (letters_ok (l := LET) (by decide)) ?_
  rintro _ _ ⟨rfl, hHq⟩
  obtain rfl := hHq.symm
  refine AtL.allocArr tyBool (l := List.replicate 256 false) tf_zero179 tf_zarr179 (by simp) (.inl rfl) rfl ?_
  intro b1 s2 o3
  rw [List.length_replicate] at o3
  refine AtL.storeArr (T := tyBool) (l' := letA LET) 0 tf_sz179 rfl o3 (by simp [letA_len]) rfl (by simp [Ty.cells_len, tyBool, letA_len]) (.inl rfl) rfl rfl ?_
  intro s4 o5
  refine AtL.done ?_
  refine At.seq ?_
  refine At.seq ?_
  refine At.region ?_
  refine AtL.move (.inl rfl) rfl rfl ?_
  refine AtL.bytesOf (l := l) Tryz.underlying9 Tryz.underlying22 Tryz.underlying5 (by first | omega | (simp only [List.length_append, List.length_cons, List.length_nil]; omega) | (simp; done) | (simp; omega)) (.inl rfl) rfl rfl ?_
  intro A6 C7 s8 n10 o9
  refine AtL.lenL Tryz.underlying22 (.inl rfl) rfl rfl ?_
  refine AtL.move (.inl rfl) rfl rfl ?_
  refine AtL.done ?_
  refine At.block ?_
  refine At.loop (fun (k : Nat) => [(0, str l), (1, .int .i64 most), (5, .pointer (some ⟨b1, 0, none⟩)), (10, .slice A6 l.length C7), (11, .int .i64 (l.length : Int)), (12, .int .i64 (k : Int))]) (fun (k : Nat) => s8 :: s4 :: H) (fun (k : Nat) => k ≤ l.length ∧ (l.take k).all letterF = true) (fun (k : Nat) => l.length - k) 0 (⟨Nat.zero_le _, rfl⟩) ⟨rfl, rfl, rfl, rfl, rfl, rfl, trivial⟩ rfl ?_
  rintro k ⟨hk, ha⟩ ihL1
  have hlt := (l.getD k 0).toNat_lt
  have hlen := letA_len LET
  refine At.seq ?_
  refine At.region ?_
  refine AtL.lss (.inl rfl) rfl rfl rfl ?_
  refine AtL.done ?_
  refine At.seq ?_
  refine At.cond rfl ?_ ?_
  · intro hc1
    have hc1 : (k : Int) < (l.length : Int) := of_decide_eq_true hc1
    refine At.skip ?_
    refine At.seq ?_
    refine At.block ?_
    refine At.seq ?_
    refine At.region ?_
    refine AtL.indexL k (o9.rd (i := 0) rfl) Tryz.underlying22 tf_sz5 (.inl rfl) rfl rfl rfl rfl (by omega) ?_
    refine AtL.load (v := .int .u8 ((l.getD k 0).toNat : Int)) tf_flat5 (.inl rfl) rfl rfl (Rd.cell0 (o9.rd (i := 0) rfl) (getD_some 0 (by omega)) rfl) ?_
    refine AtL.assign (.inl rfl) rfl rfl ?_
    refine AtL.done ?_
    refine At.seq ?_
    refine At.region ?_
    refine AtL.move (.inl rfl) rfl rfl ?_
    refine AtL.indexArr ((l.getD k 0).toNat) Tryz.underlying179 tf_sz4 (.inl rfl) rfl rfl rfl rfl (by omega) ?_
    refine AtL.load (v := .bool ((letA LET).getD ((l.getD k 0).toNat) false)) tf_flat4 (.inl rfl) rfl rfl (Rd.cell0 (o5.rd (i := 1) rfl) (getD_some false (show (l.getD k 0).toNat < (letA LET).length by omega)) rfl) ?_
    refine AtL.not (.inl rfl) rfl rfl ?_
    refine AtL.done ?_
    refine At.cond rfl ?_ ?_
    · intro hc2
      have hc2 : ((letA LET).getD ((l.getD k 0).toNat) false) = false := bnot_true hc2
      refine At.seq ?_
      refine At.region ?_
      refine AtL.assign (.inl rfl) rfl rfl ?_
      refine AtL.done ?_
      refine At.pick (H' := H) [] 2 rfl rfl ?_
      exact At.ret Tryz.func99 rfl rfl (⟨congrArg Value.bool (by rw [word_no (k := k) (by omega) (by simpa using hc2)]), rfl⟩)
    · intro hc2
      have hc2 : ((letA LET).getD ((l.getD k 0).toNat) false) = true := bnot_false hc2
      refine At.skip ?_
      refine At.inBlock ?_
      refine At.region ?_
      refine AtL.add (z := (k : Int) + 1) (.inl rfl) rfl rfl rfl (w64 (by omega) (by omega)) ?_
      refine AtL.move (.inl rfl) rfl rfl ?_
      refine AtL.done ?_
      refine ihL1 (k + 1) (⟨by omega, all_step (by omega) ha (by rw [let_eq, ← letA_get]; simpa using hc2)⟩) (by omega) _ ?_
      exact ⟨rfl, rfl, rfl, rfl, rfl, (by first | rfl | exact slLen (by simp []) | exact intEq (by omega) | exact intEq (by simp []) | exact slLen (by simp []; omega)), trivial⟩
  · intro hc1
    have hc1 : ¬ ((k : Int) < (l.length : Int)) := of_decide_eq_false hc1
    refine At.exit rfl ?_
    refine At.seq ?_
    refine At.region ?_
    refine AtL.move (.inl rfl) rfl rfl ?_
    refine AtL.nes (a := l) (b := []) (.inl rfl) rfl rfl rfl ?_
    refine AtL.move (.inl rfl) rfl rfl ?_
    refine AtL.join 5 (E' := [(28, .bool (decide ((¬ (l = [])) ∧ ((l.length : Int) ≤ most))))]) (H' := s8 :: s4 :: H) (fun J => ?_) ?_
    · refine AtL.split (t := 23) rfl ?_ ?_
      · intro hs23
        have hs23 : ¬ (l = []) := of_decide_eq_false (bnot_true hs23)
        refine AtL.move (.inr ⟨_, _, _, rfl, rfl, rfl, rfl⟩) rfl rfl ?_
        refine AtL.lenS (l := l) Tryz.underlying9 (.inr ⟨_, _, _, rfl, rfl, rfl, rfl⟩) rfl rfl ?_
        refine AtL.move (.inr ⟨_, _, _, rfl, rfl, rfl, rfl⟩) rfl rfl ?_
        refine AtL.leq (.inr ⟨_, _, _, rfl, rfl, rfl, rfl⟩) rfl rfl rfl ?_
        refine AtL.pickT (.inl rfl) rfl rfl rfl ?_
        exact J _ (by exact ⟨(boolIs (by clear J; first | (simp [hs23]; done) | (simp_all; done) | grind)), trivial⟩)
      · intro hs23
        have hs23 : l = [] := of_decide_eq_true (bnot_false hs23)
        refine AtL.skipped rfl rfl rfl rfl rfl rfl ?_
        refine AtL.skipped rfl rfl rfl rfl rfl rfl ?_
        refine AtL.skipped rfl rfl rfl rfl rfl rfl ?_
        refine AtL.skipped rfl rfl rfl rfl rfl rfl ?_
        refine AtL.pickF (.inl rfl) rfl rfl rfl ?_
        exact J _ (by exact ⟨(boolIs (by clear J; first | (simp [hs23]; done) | (simp_all; done) | grind)), trivial⟩)
    · skip
      refine AtL.assign (.inl rfl) rfl rfl ?_
      refine AtL.done ?_
      refine At.pick (H' := H) [] 2 rfl rfl ?_
      exact At.ret Tryz.func99 rfl rfl (⟨congrArg Value.bool (by rw [word_yes (all_end (by omega) ha)]), rfl⟩)
theorem ver_no {l : List UInt8} (h : ¬ ((l.length : Int) = 8 ∧ subl l 0 5 = [72, 84, 84, 80, 47] ∧ (48 ≤ ((l.getD 5 0).toNat : Int) ∧ ((l.getD 5 0).toNat : Int) ≤ 57) ∧ ((l.getD 6 0).toNat : Int) = 46 ∧ (48 ≤ ((l.getD 7 0).toNat : Int) ∧ ((l.getD 7 0).toNat : Int) ≤ 57))) : verF l = false := by
  rw [← Bool.not_eq_true]
  intro hv
  apply h
  simp only [verF, Bool.and_eq_true, decide_eq_true_eq, UInt8.le_iff_toNat_le] at hv
  obtain ⟨⟨⟨⟨h1, h2⟩, h3⟩, h4⟩, h5⟩ := hv
  have e1 : (48 : UInt8).toNat = 48 := rfl
  have e2 : (57 : UInt8).toNat = 57 := rfl
  rw [e1, e2] at h3 h5
  exact ⟨by omega, by rw [show subl l 0 5 = l.take 5 by simp [subl]]; exact h2, by omega, (u8_eq (c := l.getD 6 0) (n := 46) (by omega)).2 h4, by omega⟩
theorem ver_yes {l : List UInt8} (h1 : (l.length : Int) = 8) (h2 : subl l 0 5 = [72, 84, 84, 80, 47]) (h3 : 48 ≤ ((l.getD 5 0).toNat : Int) ∧ ((l.getD 5 0).toNat : Int) ≤ 57) (h4 : ((l.getD 6 0).toNat : Int) = 46) (h5 : 48 ≤ ((l.getD 7 0).toNat : Int) ∧ ((l.getD 7 0).toNat : Int) ≤ 57) : verF l = true := by
  have e1 : (48 : UInt8).toNat = 48 := rfl
  have e2 : (57 : UInt8).toNat = 57 := rfl
  simp only [verF, Bool.and_eq_true, decide_eq_true_eq, UInt8.le_iff_toNat_le, e1, e2]
  exact ⟨⟨⟨⟨by omega, by rw [show subl l 0 5 = l.take 5 by simp [subl]] at h2; exact h2⟩, by omega⟩, (u8_eq (c := l.getD 6 0) (n := 46) (by omega)).1 h4⟩, by omega⟩
theorem sub48 {c : UInt8} (h : 48 ≤ (c.toNat : Int) ∧ (c.toNat : Int) ≤ 57) : IntKind.u8.wrap ((c.toNat : Int) - 48) = (((c - 48 : UInt8)).toNat : Int) := by
  have h1 : (c - 48).toNat = c.toNat - 48 := by
    rw [UInt8.toNat_sub_of_le]
    · rfl
    · show (48 : UInt8).toNat ≤ c.toNat
      have : (48 : UInt8).toNat = 48 := rfl
      omega
  rw [h1]
  have h2 : ((c.toNat - 48 : Nat) : Int) = (c.toNat : Int) - 48 := by omega
  rw [h2]
  exact w8 (by omega) (by omega)
set_option maxHeartbeats 400000 in
theorem version_ok {w0 : World} {base : Nat} {H : List Seg} {l : List UInt8} (hl : l.length ≤ 140737488355000) :
    SCalls Tryz.prog 100 [str l] w0 base (H) (fun v H' => (verF l = false ∧ v = .tuple #[.int .u8 0, .int .u8 0, .bool false] ∧ H' = H) ∨ (verF l = true ∧ l.length = 8 ∧ v = .tuple #[.int .u8 ((l.getD 5 0 - 48).toNat : Int), .int .u8 ((l.getD 7 0 - 48).toNat : Int), .bool true] ∧ H' = H)) := by
  refine SCalls.of_walk (n := 36) Tryz.func100 rfl rfl rfl fun cs => ?_
  refine At.seq ?_
  refine At.region ?_
  refine AtL.assign (.inl rfl) rfl rfl ?_
  refine AtL.assign (.inl rfl) rfl rfl ?_
  refine AtL.assign (.inl rfl) rfl rfl ?_
  refine AtL.done ?_
  refine At.seq ?_
  refine At.seq ?_
  refine At.region ?_
  refine AtL.move (.inl rfl) rfl rfl ?_
  refine AtL.lenS (l := l) Tryz.underlying9 (.inl rfl) rfl rfl ?_
  refine AtL.nei (.inl rfl) rfl rfl rfl ?_
  refine AtL.move (.inl rfl) rfl rfl ?_
  refine AtL.join 4 (E' := [(12, .bool (decide ((¬ ((l.length : Int) = 8)) ∨ (¬ (subl l 0 5 = [72, 84, 84, 80, 47]))))), (0, str l)]) (H' := H) (fun J => ?_) ?_
  · refine AtL.split (t := 8) rfl ?_ ?_
    · intro hs8
      have hs8 : ¬ ((l.length : Int) = 8) := of_decide_eq_false (bnot_true hs8)
      refine AtL.skipped rfl rfl rfl rfl rfl rfl ?_
      refine AtL.skipped rfl rfl rfl rfl rfl rfl ?_
      refine AtL.skipped rfl rfl rfl rfl rfl rfl ?_
      refine AtL.pickT (.inl rfl) rfl rfl rfl ?_
      exact J _ (by exact ⟨(boolIs (by clear J; first | (simp [hs8]; done) | (simp_all; done) | grind)), rfl, trivial⟩)
    · intro hs8
      have hs8 : (l.length : Int) = 8 := of_decide_eq_true (bnot_false hs8)
      refine AtL.move (.inr ⟨_, _, _, rfl, rfl, rfl, rfl⟩) rfl rfl ?_
      refine AtL.sliceS (l := l) 0 5 rfl (evBound_some rfl rfl) (by omega) (by omega) Tryz.underlying9 (.inr ⟨_, _, _, rfl, rfl, rfl, rfl⟩) rfl rfl ?_
      refine AtL.nes (a := subl l 0 5) (b := [72, 84, 84, 80, 47]) (.inr ⟨_, _, _, rfl, rfl, rfl, rfl⟩) rfl rfl rfl ?_
      refine AtL.pickF (.inl rfl) rfl rfl rfl ?_
      exact J _ (by exact ⟨(boolIs (by clear J; first | (simp [hs8]; done) | (simp_all; done) | grind)), rfl, trivial⟩)
  · skip
    refine AtL.move (.inl rfl) rfl rfl ?_
    refine AtL.join 5 (E' := [(18, .bool (decide (((¬ ((l.length : Int) = 8)) ∨ (¬ (subl l 0 5 = [72, 84, 84, 80, 47]))) ∨ (¬ (48 ≤ ((l.getD 5 0).toNat : Int) ∧ ((l.getD 5 0).toNat : Int) ≤ 57))))), (0, str l)]) (H' := H) (fun J => ?_) ?_
    · refine AtL.split (t := 13) rfl ?_ ?_
      · intro hs13
        have hs13 : (¬ ((l.length : Int) = 8)) ∨ (¬ (subl l 0 5 = [72, 84, 84, 80, 47])) := of_decide_eq_true hs13
        refine AtL.skipped rfl rfl rfl rfl rfl rfl ?_
        refine AtL.skipped rfl rfl rfl rfl rfl rfl ?_
        refine AtL.skipped rfl rfl rfl rfl rfl rfl ?_
        refine AtL.skipped rfl rfl rfl rfl rfl rfl ?_
        refine AtL.pickT (.inl rfl) rfl rfl rfl ?_
        exact J _ (by exact ⟨(boolIs (by clear J; first | (simp [hs13]; done) | (simp_all; done) | grind)), rfl, trivial⟩)
      · intro hs13
        have hs13 : ¬ ((¬ ((l.length : Int) = 8)) ∨ (¬ (subl l 0 5 = [72, 84, 84, 80, 47]))) := of_decide_eq_false hs13
        refine AtL.move (.inr ⟨_, _, _, rfl, rfl, rfl, rfl⟩) rfl rfl ?_
        refine AtL.indexS (l := l) 5 rfl (by omega) Tryz.underlying9 (.inr ⟨_, _, _, rfl, rfl, rfl, rfl⟩) rfl rfl rfl ?_
        refine AtL.call tf_body142 (.inr ⟨_, _, _, rfl, rfl, rfl, rfl⟩) rfl rfl (digit_ok (l.getD 5 0)) ?_
        rintro _ _ ⟨rfl, hHq⟩
        obtain rfl := hHq.symm
        refine AtL.not (.inr ⟨_, _, _, rfl, rfl, rfl, rfl⟩) rfl rfl ?_
        refine AtL.pickF (.inl rfl) rfl rfl rfl ?_
        exact J _ (by exact ⟨(boolIs (by clear J; first | (simp [hs13]; done) | (simp_all; done) | grind)), rfl, trivial⟩)
    · skip
      refine AtL.move (.inl rfl) rfl rfl ?_
      refine AtL.join 4 (E' := [(23, .bool (decide ((((¬ ((l.length : Int) = 8)) ∨ (¬ (subl l 0 5 = [72, 84, 84, 80, 47]))) ∨ (¬ (48 ≤ ((l.getD 5 0).toNat : Int) ∧ ((l.getD 5 0).toNat : Int) ≤ 57))) ∨ (¬ (((l.getD 6 0).toNat : Int) = 46))))), (0, str l)]) (H' := H) (fun J => ?_) ?_
      · refine AtL.split (t := 19) rfl ?_ ?_
        · intro hs19
          have hs19 : ((¬ ((l.length : Int) = 8)) ∨ (¬ (subl l 0 5 = [72, 84, 84, 80, 47]))) ∨ (¬ (48 ≤ ((l.getD 5 0).toNat : Int) ∧ ((l.getD 5 0).toNat : Int) ≤ 57)) := of_decide_eq_true hs19
          refine AtL.skipped rfl rfl rfl rfl rfl rfl ?_
          refine AtL.skipped rfl rfl rfl rfl rfl rfl ?_
          refine AtL.skipped rfl rfl rfl rfl rfl rfl ?_
          refine AtL.pickT (.inl rfl) rfl rfl rfl ?_
          exact J _ (by exact ⟨(boolIs (by clear J; first | (simp [hs19]; done) | (simp_all; done) | grind)), rfl, trivial⟩)
        · intro hs19
          have hs19 : ¬ (((¬ ((l.length : Int) = 8)) ∨ (¬ (subl l 0 5 = [72, 84, 84, 80, 47]))) ∨ (¬ (48 ≤ ((l.getD 5 0).toNat : Int) ∧ ((l.getD 5 0).toNat : Int) ≤ 57))) := of_decide_eq_false hs19
          refine AtL.move (.inr ⟨_, _, _, rfl, rfl, rfl, rfl⟩) rfl rfl ?_
          refine AtL.indexS (l := l) 6 rfl (by omega) Tryz.underlying9 (.inr ⟨_, _, _, rfl, rfl, rfl, rfl⟩) rfl rfl rfl ?_
          refine AtL.nei (.inr ⟨_, _, _, rfl, rfl, rfl, rfl⟩) rfl rfl rfl ?_
          refine AtL.pickF (.inl rfl) rfl rfl rfl ?_
          exact J _ (by exact ⟨(boolIs (by clear J; first | (simp [hs19]; done) | (simp_all; done) | grind)), rfl, trivial⟩)
      · skip
        refine AtL.move (.inl rfl) rfl rfl ?_
        refine AtL.join 5 (E' := [(29, .bool (decide (((((¬ ((l.length : Int) = 8)) ∨ (¬ (subl l 0 5 = [72, 84, 84, 80, 47]))) ∨ (¬ (48 ≤ ((l.getD 5 0).toNat : Int) ∧ ((l.getD 5 0).toNat : Int) ≤ 57))) ∨ (¬ (((l.getD 6 0).toNat : Int) = 46))) ∨ (¬ (48 ≤ ((l.getD 7 0).toNat : Int) ∧ ((l.getD 7 0).toNat : Int) ≤ 57))))), (0, str l)]) (H' := H) (fun J => ?_) ?_
        · refine AtL.split (t := 24) rfl ?_ ?_
          · intro hs24
            have hs24 : (((¬ ((l.length : Int) = 8)) ∨ (¬ (subl l 0 5 = [72, 84, 84, 80, 47]))) ∨ (¬ (48 ≤ ((l.getD 5 0).toNat : Int) ∧ ((l.getD 5 0).toNat : Int) ≤ 57))) ∨ (¬ (((l.getD 6 0).toNat : Int) = 46)) := of_decide_eq_true hs24
            refine AtL.skipped rfl rfl rfl rfl rfl rfl ?_
            refine AtL.skipped rfl rfl rfl rfl rfl rfl ?_
            refine AtL.skipped rfl rfl rfl rfl rfl rfl ?_
            refine AtL.skipped rfl rfl rfl rfl rfl rfl ?_
            refine AtL.pickT (.inl rfl) rfl rfl rfl ?_
            exact J _ (by exact ⟨(boolIs (by clear J; first | (simp [hs24]; done) | (simp_all; done) | grind)), rfl, trivial⟩)
          · intro hs24
            have hs24 : ¬ ((((¬ ((l.length : Int) = 8)) ∨ (¬ (subl l 0 5 = [72, 84, 84, 80, 47]))) ∨ (¬ (48 ≤ ((l.getD 5 0).toNat : Int) ∧ ((l.getD 5 0).toNat : Int) ≤ 57))) ∨ (¬ (((l.getD 6 0).toNat : Int) = 46))) := of_decide_eq_false hs24
            refine AtL.move (.inr ⟨_, _, _, rfl, rfl, rfl, rfl⟩) rfl rfl ?_
            refine AtL.indexS (l := l) 7 rfl (by omega) Tryz.underlying9 (.inr ⟨_, _, _, rfl, rfl, rfl, rfl⟩) rfl rfl rfl ?_
            refine AtL.call tf_body142 (.inr ⟨_, _, _, rfl, rfl, rfl, rfl⟩) rfl rfl (digit_ok (l.getD 7 0)) ?_
            rintro _ _ ⟨rfl, hHq⟩
            obtain rfl := hHq.symm
            refine AtL.not (.inr ⟨_, _, _, rfl, rfl, rfl, rfl⟩) rfl rfl ?_
            refine AtL.pickF (.inl rfl) rfl rfl rfl ?_
            exact J _ (by exact ⟨(boolIs (by clear J; first | (simp [hs24]; done) | (simp_all; done) | grind)), rfl, trivial⟩)
        · skip
          refine AtL.done ?_
          refine At.cond rfl ?_ ?_
          · intro hc1
            have hc1 : ((((¬ ((l.length : Int) = 8)) ∨ (¬ (subl l 0 5 = [72, 84, 84, 80, 47]))) ∨ (¬ (48 ≤ ((l.getD 5 0).toNat : Int) ∧ ((l.getD 5 0).toNat : Int) ≤ 57))) ∨ (¬ (((l.getD 6 0).toNat : Int) = 46))) ∨ (¬ (48 ≤ ((l.getD 7 0).toNat : Int) ∧ ((l.getD 7 0).toNat : Int) ≤ 57)) := of_decide_eq_true hc1
            refine At.seq ?_
            refine At.region ?_
            refine AtL.assign (.inl rfl) rfl rfl ?_
            refine AtL.assign (.inl rfl) rfl rfl ?_
            refine AtL.assign (.inl rfl) rfl rfl ?_
            refine AtL.done ?_
            exact At.ret Tryz.func100 rfl rfl (Or.inl ⟨ver_no (by rintro ⟨a, b, c, d, e⟩; rcases hc1 with (((h | h) | h) | h) | h <;> contradiction), rfl, rfl⟩)
          · intro hc1
            have hc1 : ¬ (((((¬ ((l.length : Int) = 8)) ∨ (¬ (subl l 0 5 = [72, 84, 84, 80, 47]))) ∨ (¬ (48 ≤ ((l.getD 5 0).toNat : Int) ∧ ((l.getD 5 0).toNat : Int) ≤ 57))) ∨ (¬ (((l.getD 6 0).toNat : Int) = 46))) ∨ (¬ (48 ≤ ((l.getD 7 0).toNat : Int) ∧ ((l.getD 7 0).toNat : Int) ≤ 57))) := of_decide_eq_false hc1
            simp only [not_or, Decidable.not_not] at hc1
            obtain ⟨⟨⟨⟨v1, v2⟩, v3⟩, v4⟩, v5⟩ := hc1
            refine At.skip ?_
            refine At.seq ?_
            refine At.draw (es := []) (pv := [(0, str l), (1, .int .u8 ((l.getD 5 0).toNat : Int)), (2, .int .u8 ((l.getD 5 0 - 48 : UInt8).toNat : Int)), (3, str l), (4, .int .u8 ((l.getD 7 0).toNat : Int)), (5, .int .u8 ((l.getD 7 0 - 48 : UInt8).toNat : Int)), (6, .int .u8 ((l.getD 5 0 - 48 : UInt8).toNat : Int)), (7, .int .u8 ((l.getD 7 0 - 48 : UInt8).toNat : Int)), (8, .bool true)]) tf_mixed (by kernel_rfl) (by kernel_rfl) (by kernel_rfl) ?_
            refine ⟨⟨.inr ⟨_, rfl, rfl, .inl ⟨rfl, Do.move rfl⟩⟩, .inr ⟨_, rfl, rfl, .inl ⟨rfl, Do.indexS (l := l) 5 rfl (by omega) Tryz.underlying9 rfl rfl⟩⟩, .inr ⟨_, rfl, rfl, .inl ⟨rfl, Do.sub (z := ((l.getD 5 0 - 48 : UInt8).toNat : Int)) rfl rfl (sub48 v3)⟩⟩, .inr ⟨_, rfl, rfl, .inl ⟨rfl, Do.move rfl⟩⟩, .inr ⟨_, rfl, rfl, .inl ⟨rfl, Do.indexS (l := l) 7 rfl (by omega) Tryz.underlying9 rfl rfl⟩⟩, .inr ⟨_, rfl, rfl, .inl ⟨rfl, Do.sub (z := ((l.getD 7 0 - 48 : UInt8).toNat : Int)) rfl rfl (sub48 v5)⟩⟩, .inr ⟨_, rfl, rfl, .inl ⟨rfl, Do.assign rfl⟩⟩, .inr ⟨_, rfl, rfl, .inl ⟨rfl, Do.assign rfl⟩⟩, .inr ⟨_, rfl, rfl, .inl ⟨rfl, Do.assign rfl⟩⟩, trivial⟩, by kernel_rfl, ?_⟩
            refine At.mono (E' := [(2, .int .u8 ((l.getD 5 0 - 48 : UInt8).toNat : Int)), (3, .int .u8 ((l.getD 7 0 - 48 : UInt8).toNat : Int)), (4, .bool true)]) ⟨rfl, rfl, rfl, trivial⟩ ?_
            exact At.ret Tryz.func100 rfl rfl (Or.inr ⟨ver_yes v1 v2 v3 v4 v5, by omega, rfl, rfl⟩)
end Go.Proofs.YtlkdmbpbjhjkfaaGreatDoor
namespace Go.Proofs.YtlkdmbpbjhjkfaaGreatDoor
set_option linter.unusedVariables false
set_option linter.unusedSimpArgs false
set_option maxRecDepth 100000
theorem allF_snoc (fs : List Fld) (k : Nat) (h : k < fs.length) (nm : List UInt8) : allF (fs.take (k + 1)) nm = allF (fs.take k) nm ++ (if lowerF (fs.getD k ([], [])).1 = lowerF nm then [(fs.getD k ([], [])).2] else []) := by
  have h1 : fs.take (k + 1) = fs.take k ++ [fs.getD k ([], [])] := by rw [List.take_succ_eq_append_getElem h]; simp [List.getD, h]
  rw [h1, allF, allF, List.filter_append, List.map_append]
  congr 1
  by_cases h2 : lowerF (fs.getD k ([], [])).1 = lowerF nm
  · rw [if_pos h2]; simp only [List.filter_cons, h2, decide_true, if_true, List.filter_nil, List.map_cons, List.map_nil]
  · rw [if_neg h2]; simp only [List.filter_cons, h2, decide_false, Bool.false_eq_true, if_false, List.filter_nil, List.map_nil]
theorem headD_getD (l : List (List UInt8)) : l.headD [] = l.getD 0 [] := by cases l <;> rfl
theorem allF_len (fs : List Fld) (nm : List UInt8) : (allF fs nm).length ≤ fs.length := by
  simp only [allF, List.length_map]
  exact List.length_filter_le _ _
set_option maxHeartbeats 400000 in
theorem all_ok {w0 : World} {base : Nat} {H : List Seg} {m t : List UInt8} {minor : Int} {A : Option Addr} {C : Nat} {fs : List (List UInt8 × List UInt8)} (h : Rd tyField w0 base H A C fs) {nm : List UInt8} (hnm : nm.length ≤ 140737488355000) (hfl : fs.length ≤ 1000) (hb : ∀ f ∈ fs, f.1.length ≤ 140737488355000 ∧ f.2.length ≤ 140737488355000) :
    SCalls Tryz.prog 117 [.agg #[str m, str t, .int .i64 minor, .slice A fs.length C], str nm] w0 base (H) (fun v H' => ∃ x : Sl tyS 9, x.l = allF fs nm ∧ v = .slice x.A x.l.length x.C ∧ H' = x.s :: H) := by
  have hle0 := h.le
  have hcap0 := h.cap
  refine SCalls.of_walk (n := 28) Tryz.func117 rfl rfl rfl fun cs => ?_
  refine At.seq ?_
  refine At.region ?_
  refine AtL.box (cs := #[str m, str t, .int .i64 minor, .slice A fs.length C]) rfl (.inl rfl) rfl rfl ?_
  intro b1
  refine AtL.assign (.inl rfl) rfl rfl ?_
  refine AtL.done ?_
  refine At.seq ?_
  refine At.region ?_
  refine AtL.assign (.inl rfl) rfl rfl ?_
  refine AtL.done ?_
  refine At.seq ?_
  refine At.seq ?_
  refine At.region ?_
  refine AtL.fieldAddrB tf_fo47_3 (.inl rfl) rfl rfl rfl ?_
  refine AtL.load tf_flat45 (.inl rfl) rfl rfl (Cell.own 0 0 rfl rfl rfl) ?_
  refine AtL.lenL Tryz.underlying45 (.inl rfl) rfl rfl ?_
  refine AtL.move (.inl rfl) rfl rfl ?_
  refine AtL.done ?_
  refine At.block ?_
  refine At.nil ?_
  refine At.pick (H' := [] :: H) [0] 2 rfl rfl ?_
  refine At.loop2 (fun (k : Nat) (x : Sl tyS 9) => [(1, str nm), (5, .slice x.A x.l.length x.C), (9, .slice A fs.length C), (10, .int .i64 (fs.length : Int)), (11, .int .i64 (k : Int))]) (fun (k : Nat) (x : Sl tyS 9) => x.s :: H) (fun (k : Nat) (x : Sl tyS 9) => k ≤ fs.length ∧ x.l = allF (fs.take k) nm) (fun (k : Nat) (x : Sl tyS 9) => fs.length - k) 0 Sl.nil (⟨Nat.zero_le _, rfl⟩) ⟨rfl, rfl, rfl, rfl, rfl, trivial⟩ rfl ?_
  rintro k x ⟨hk, hx⟩ ihL1
  have hcap := Own.cap_le x.own
  have hle := Own.le_cap x.own
  have hxl := allF_len (fs.take k) nm
  rw [← hx, List.length_take] at hxl
  refine At.seq ?_
  refine At.region ?_
  refine AtL.lss (.inl rfl) rfl rfl rfl ?_
  refine AtL.done ?_
  refine At.seq ?_
  refine At.cond rfl ?_ ?_
  · intro hc1
    have hc1 : (k : Int) < (fs.length : Int) := of_decide_eq_true hc1
    have hbk := hb _ (getD_mem (l := fs) (i := k) (d := (([], []) : List UInt8 × List UInt8)) (by omega))
    refine At.skip ?_
    refine At.seq ?_
    refine At.block ?_
    refine At.seq ?_
    refine At.region ?_
    refine AtL.indexL k (Rd.skip 1 h) Tryz.underlying45 tf_sz78 (.inl rfl) rfl rfl rfl rfl (by omega) ?_
    refine AtL.loadE (n := 0) (Rd.skip 1 h) (getD_some (([], []) : List UInt8 × List UInt8) (by omega)) rfl tf_agg78 (.inl rfl) rfl rfl ?_
    refine AtL.alloc tf_zero78 (cs := #[str [], str []]) rfl (.inl rfl) rfl ?_
    intro b2
    refine AtL.store (H' := [(b2, .cells #[str ((fs.getD k (([], []) : List UInt8 × List UInt8)).1), str ((fs.getD k (([], []) : List UInt8 × List UInt8)).2)] 78 (0, 0))] :: x.s :: H) 0 0 tf_sz78 (.inl rfl) rfl rfl rfl rfl rfl rfl rfl rfl rfl ?_
    refine AtL.done ?_
    refine At.seq ?_
    refine At.region ?_
    refine AtL.fieldAddrB tf_fo78_0 (.inl rfl) rfl rfl rfl ?_
    refine AtL.load tf_flat9 (.inl rfl) rfl rfl (Cell.own 0 0 rfl rfl rfl) ?_
    refine AtL.call tf_body119 (.inl rfl) rfl rfl (lower_ok (l := (fs.getD k (([], []) : List UInt8 × List UInt8)).1) (by first | omega | (simp only [List.length_append, List.length_cons, List.length_nil]; omega) | (simp; done) | (simp; omega))) ?_
    rintro _ _ ⟨rfl, rfl⟩
    refine AtL.move (.inl rfl) rfl rfl ?_
    refine AtL.call tf_body119 (.inl rfl) rfl rfl (lower_ok (l := nm) (by first | omega | (simp only [List.length_append, List.length_cons, List.length_nil]; omega) | (simp; done) | (simp; omega))) ?_
    rintro _ _ ⟨rfl, rfl⟩
    refine AtL.eqs (a := lowerF ((fs.getD k (([], []) : List UInt8 × List UInt8)).1)) (b := lowerF nm) (.inl rfl) rfl rfl rfl ?_
    refine AtL.done ?_
    refine At.cond rfl ?_ ?_
    · intro hc2
      have hc2 : lowerF ((fs.getD k (([], []) : List UInt8 × List UInt8)).1) = lowerF nm := of_decide_eq_true hc2
      refine At.region ?_
      refine AtL.move (.inl rfl) rfl rfl ?_
      refine AtL.fieldAddrB tf_fo78_1 (.inl rfl) rfl rfl rfl ?_
      refine AtL.load tf_flat9 (.inl rfl) rfl rfl (Cell.own 0 0 rfl rfl rfl) ?_
      refine AtL.buildSlice (cs := [str ((fs.getD k (([], []) : List UInt8 × List UInt8)).2)]) Tryz.underlying109 tf_zero9 tf_sz9 rfl rfl (.inl rfl) rfl rfl rfl ?_
      intro b3
      refine AtL.own1 tyS (l := ([(fs.getD k (([], []) : List UInt8 × List UInt8)).2] : List (List UInt8))) rfl rfl (by first | decide | simp) ?_
      intro s4 o5
      refine AtL.append (l := x.l) (news := [(fs.getD k (([], []) : List UInt8 × List UInt8)).2]) 2 tf_el109 rfl x.own (o5.rd (i := 0) rfl) (by first | omega | (simp only [List.length_append, List.length_cons, List.length_nil]; omega) | (simp; done) | (simp; omega)) (.inl rfl) rfl rfl rfl ?_
      intro A6 C7 s8 o9
      refine AtL.assign (.inl rfl) rfl rfl ?_
      refine AtL.done ?_
      refine At.inBlock ?_
      refine At.region ?_
      refine AtL.add (z := (k : Int) + 1) (.inl rfl) rfl rfl rfl (w64 (by omega) (by omega)) ?_
      refine AtL.move (.inl rfl) rfl rfl ?_
      refine AtL.done ?_
      refine At.pick (H' := s8 :: H) [2] 3 rfl rfl ?_
      refine ihL1 (k + 1) (⟨A6, C7, x.l ++ ([(fs.getD k (([], []) : List UInt8 × List UInt8)).2]), s8, o9⟩) (⟨by omega, by rw [allF_snoc _ _ (by omega), if_pos hc2, ← hx]⟩) (by omega) _ ?_
      exact ⟨rfl, (by first | rfl | exact slLen (by simp []) | exact intEq (by omega) | exact intEq (by simp []) | exact slLen (by simp []; omega)), rfl, rfl, (by first | rfl | exact slLen (by simp []) | exact intEq (by omega) | exact intEq (by simp []) | exact slLen (by simp []; omega)), trivial⟩
    · intro hc2
      have hc2 : ¬ (lowerF ((fs.getD k (([], []) : List UInt8 × List UInt8)).1) = lowerF nm) := of_decide_eq_false hc2
      refine At.skip ?_
      refine At.inBlock ?_
      refine At.region ?_
      refine AtL.add (z := (k : Int) + 1) (.inl rfl) rfl rfl rfl (w64 (by omega) (by omega)) ?_
      refine AtL.move (.inl rfl) rfl rfl ?_
      refine AtL.done ?_
      refine At.pick (H' := x.s :: H) [1] 2 rfl rfl ?_
      refine ihL1 (k + 1) x (⟨by omega, by rw [allF_snoc _ _ (by omega), if_neg hc2, List.append_nil, ← hx]⟩) (by omega) _ ?_
      exact ⟨rfl, (by first | rfl | exact slLen (by simp []) | exact intEq (by omega) | exact intEq (by simp []) | exact slLen (by simp []; omega)), rfl, rfl, (by first | rfl | exact slLen (by simp []) | exact intEq (by omega) | exact intEq (by simp []) | exact slLen (by simp []; omega)), trivial⟩
  · intro hc1
    have hc1 : ¬ ((k : Int) < (fs.length : Int)) := of_decide_eq_false hc1
    refine At.exit rfl ?_
    refine At.seq ?_
    refine At.region ?_
    refine AtL.move (.inl rfl) rfl rfl ?_
    refine AtL.assign (.inl rfl) rfl rfl ?_
    refine AtL.done ?_
    exact At.ret Tryz.func117 rfl rfl (⟨x, by rw [List.take_of_length_le (show fs.length ≤ k by omega)] at hx; exact hx, rfl, rfl⟩)
set_option maxHeartbeats 400000 in
theorem field_ok {w0 : World} {base : Nat} {H : List Seg} {m t : List UInt8} {minor : Int} {A : Option Addr} {C : Nat} {fs : List (List UInt8 × List UInt8)} (h : Rd tyField w0 base H A C fs) {nm : List UInt8} (hnm : nm.length ≤ 140737488355000) (hfl : fs.length ≤ 1000) (hb : ∀ f ∈ fs, f.1.length ≤ 140737488355000 ∧ f.2.length ≤ 140737488355000) :
    SCalls Tryz.prog 76 [.agg #[str m, str t, .int .i64 minor, .slice A fs.length C], str nm] w0 base (H) (fun v H' => v = .tuple #[str (fieldF fs nm).1, int ((fieldF fs nm).2 : Int)] ∧ H' = H) := by
  refine SCalls.of_walk (n := 18) Tryz.func76 rfl rfl rfl fun cs => ?_
  refine At.seq ?_
  refine At.region ?_
  refine AtL.box (cs := #[str m, str t, .int .i64 minor, .slice A fs.length C]) rfl (.inl rfl) rfl rfl ?_
  intro b1
  refine AtL.assign (.inl rfl) rfl rfl ?_
  refine AtL.assign (.inl rfl) rfl rfl ?_
  refine AtL.done ?_
  refine At.seq ?_
  refine At.region ?_
  refine AtL.loadN (cs := [str m, str t, .int .i64 minor, .slice A fs.length C]) tf_agg47 (.inl rfl) rfl rfl rfl (cellsOwn 0 0 0 rfl rfl rfl) ?_
  refine AtL.move (.inl rfl) rfl rfl ?_
  refine AtL.call tf_body117 (.inl rfl) rfl rfl (all_ok (fs := fs) (Rd.skip 1 h) (nm := nm) (by first | omega | decide) hfl hb) ?_
  rintro _ _ ⟨⟨A2, C3, l4, s5, o6⟩, hx7, rfl, rfl⟩
  obtain rfl : allF fs nm = l4 := hx7.symm
  refine AtL.assign (.inl rfl) rfl rfl ?_
  refine AtL.done ?_
  refine At.seq ?_
  refine At.seq ?_
  refine At.region ?_
  refine AtL.move (.inl rfl) rfl rfl ?_
  refine AtL.lenL Tryz.underlying109 (.inl rfl) rfl rfl ?_
  refine AtL.eqi (.inl rfl) rfl rfl rfl ?_
  refine AtL.done ?_
  refine At.cond rfl ?_ ?_
  · intro hc1
    have hc1 : ((allF fs nm).length : Int) = 0 := of_decide_eq_true hc1
    have hnil : allF fs nm = [] := List.eq_nil_of_length_eq_zero (by omega)
    refine At.seq ?_
    refine At.region ?_
    refine AtL.assign (.inl rfl) rfl rfl ?_
    refine AtL.assign (.inl rfl) rfl rfl ?_
    refine AtL.done ?_
    refine At.pick (H' := H) [] 2 rfl rfl ?_
    exact At.ret Tryz.func76 rfl rfl (⟨by rw [fieldF, hnil]; rfl, rfl⟩)
  · intro hc1
    have hc1 : ¬ (((allF fs nm).length : Int) = 0) := of_decide_eq_false hc1
    have hcons : 0 < (allF fs nm).length := by omega
    refine At.skip ?_
    refine At.seq ?_
    refine At.region ?_
    refine AtL.move (.inl rfl) rfl rfl ?_
    refine AtL.indexL 0 (o6.rd (i := 0) rfl) Tryz.underlying109 tf_sz9 (.inl rfl) rfl rfl rfl rfl (by omega) ?_
    refine AtL.load (v := str ((allF fs nm).getD 0 [])) tf_flat9 (.inl rfl) rfl rfl (Rd.cell0 (o6.rd (i := 0) rfl) (getD_some [] (by omega)) rfl) ?_
    refine AtL.move (.inl rfl) rfl rfl ?_
    refine AtL.lenL Tryz.underlying109 (.inl rfl) rfl rfl ?_
    refine AtL.assign (.inl rfl) rfl rfl ?_
    refine AtL.assign (.inl rfl) rfl rfl ?_
    refine AtL.done ?_
    refine At.pick (H' := H) [] 2 rfl rfl ?_
    exact At.ret Tryz.func76 rfl rfl (⟨by rw [fieldF, headD_getD]; rfl, rfl⟩)
set_option maxHeartbeats 400000 in
theorem hosts_ok {w0 : World} {base : Nat} {H : List Seg} {m t : List UInt8} {minor : Int} {A : Option Addr} {C : Nat} {fs : List (List UInt8 × List UInt8)} (h : Rd tyField w0 base H A C fs) (hfl : fs.length ≤ 1000) (hb : ∀ f ∈ fs, f.1.length ≤ 140737488355000 ∧ f.2.length ≤ 140737488355000) :
    SCalls Tryz.prog 104 [.agg #[str m, str t, .int .i64 minor, .slice A fs.length C]] w0 base (H) (fun v H' => v = .bool (hostsF fs minor) ∧ H' = H) := by
  refine SCalls.of_walk (n := 21) Tryz.func104 rfl rfl rfl fun cs => ?_
  refine At.seq ?_
  refine At.region ?_
  refine AtL.box (cs := #[str m, str t, .int .i64 minor, .slice A fs.length C]) rfl (.inl rfl) rfl rfl ?_
  intro b1
  refine AtL.assign (.inl rfl) rfl rfl ?_
  refine AtL.done ?_
  refine At.seq ?_
  refine At.region ?_
  refine AtL.loadN (cs := [str m, str t, .int .i64 minor, .slice A fs.length C]) tf_agg47 (.inl rfl) rfl rfl rfl (cellsOwn 0 0 0 rfl rfl rfl) ?_
  refine AtL.call tf_body76 (.inl rfl) rfl rfl (field_ok (fs := fs) (Rd.skip 1 h) (nm := [104, 111, 115, 116]) (by first | omega | decide) hfl hb) ?_
  rintro _ _ ⟨rfl, rfl⟩
  refine AtL.move (.inl rfl) rfl rfl ?_
  refine AtL.extract (.inl rfl) rfl rfl rfl ?_
  refine AtL.extract (.inl rfl) rfl rfl rfl ?_
  refine AtL.assign (.inl rfl) rfl rfl ?_
  refine AtL.assign (.inl rfl) rfl rfl ?_
  refine AtL.done ?_
  refine At.seq ?_
  refine At.region ?_
  refine AtL.move (.inl rfl) rfl rfl ?_
  refine AtL.eqi (.inl rfl) rfl rfl rfl ?_
  refine AtL.move (.inl rfl) rfl rfl ?_
  refine AtL.join 8 (E' := [(20, .bool (decide ((((fieldF fs [104, 111, 115, 116]).2 : Int) = 1) ∨ ((((fieldF fs [104, 111, 115, 116]).2 : Int) = 0) ∧ ((minor : Int) = 0)))))]) (H' := [(b1, .cells #[str m, str t, .int .i64 minor, .slice A fs.length C] 47 (0, 0))] :: H) (fun J => ?_) ?_
  · refine AtL.split (t := 12) rfl ?_ ?_
    · intro hs12
      have hs12 : ((fieldF fs [104, 111, 115, 116]).2 : Int) = 1 := of_decide_eq_true hs12
      refine AtL.skipped rfl rfl rfl rfl rfl rfl ?_
      refine AtL.skipped rfl rfl rfl rfl rfl rfl ?_
      refine AtL.skipped rfl rfl rfl rfl rfl rfl ?_
      refine AtL.skippedU rfl rfl rfl rfl rfl ?_
      refine AtL.skippedU rfl rfl rfl rfl rfl ?_
      refine AtL.skippedU rfl rfl rfl rfl rfl ?_
      refine AtL.skipped rfl rfl rfl rfl rfl rfl ?_
      refine AtL.pickT (.inl rfl) rfl rfl rfl ?_
      exact J _ (by exact ⟨(boolIs (by clear J; first | (simp [hs12]; done) | (simp_all; done) | grind)), trivial⟩)
    · intro hs12
      have hs12 : ¬ (((fieldF fs [104, 111, 115, 116]).2 : Int) = 1) := of_decide_eq_false hs12
      refine AtL.move (.inr ⟨_, _, _, rfl, rfl, rfl, rfl⟩) rfl rfl ?_
      refine AtL.eqi (.inr ⟨_, _, _, rfl, rfl, rfl, rfl⟩) rfl rfl rfl ?_
      refine AtL.move (.inr ⟨_, _, _, rfl, rfl, rfl, rfl⟩) rfl rfl ?_
      refine AtL.join 4 (E' := [(19, .bool (decide ((((fieldF fs [104, 111, 115, 116]).2 : Int) = 0) ∧ ((minor : Int) = 0)))), (12, .bool false)]) (H' := [(b1, .cells #[str m, str t, .int .i64 minor, .slice A fs.length C] 47 (0, 0))] :: H) (fun J => ?_) ?_
      · refine AtL.split (t := 15) rfl ?_ ?_
        · intro hs15
          have hs15 : ((fieldF fs [104, 111, 115, 116]).2 : Int) = 0 := of_decide_eq_true hs15
          refine AtL.fieldAddrB tf_fo47_2 (.inr ⟨_, _, _, rfl, rfl, rfl, rfl⟩) rfl rfl rfl ?_
          refine AtL.load tf_flat3 (.inr ⟨_, _, _, rfl, rfl, rfl, rfl⟩) rfl rfl (Cell.own 0 0 rfl rfl rfl) ?_
          refine AtL.eqi (.inr ⟨_, _, _, rfl, rfl, rfl, rfl⟩) rfl rfl rfl ?_
          refine AtL.pickT (.inr ⟨_, _, _, rfl, rfl, rfl, rfl⟩) rfl rfl rfl ?_
          exact J _ (by exact ⟨(boolIs (by clear J; first | (simp [hs15]; done) | (simp_all; done) | grind)), rfl, trivial⟩)
        · intro hs15
          have hs15 : ¬ (((fieldF fs [104, 111, 115, 116]).2 : Int) = 0) := of_decide_eq_false hs15
          refine AtL.skipped rfl rfl rfl rfl rfl rfl ?_
          refine AtL.skipped rfl rfl rfl rfl rfl rfl ?_
          refine AtL.skipped rfl rfl rfl rfl rfl rfl ?_
          refine AtL.pickF (.inr ⟨_, _, _, rfl, rfl, rfl, rfl⟩) rfl rfl rfl ?_
          exact J _ (by exact ⟨(boolIs (by clear J; first | (simp [hs15]; done) | (simp_all; done) | grind)), rfl, trivial⟩)
      · skip
        refine AtL.pickF (.inl rfl) rfl rfl rfl ?_
        exact J _ (by exact ⟨(boolIs (by clear J; first | (simp [hs12]; done) | (simp_all; done) | grind)), trivial⟩)
  · skip
    refine AtL.assign (.inl rfl) rfl rfl ?_
    refine AtL.done ?_
    refine At.pick (H' := H) [] 1 rfl rfl ?_
    exact At.ret Tryz.func104 rfl rfl (⟨congrArg Value.bool (by rw [hostsF]; exact decide_eq_decide.2 (by show _ ↔ ((fieldF fs [104, 111, 115, 116]).2 = 1 ∨ ((fieldF fs [104, 111, 115, 116]).2 = 0 ∧ minor = 0)); omega)), rfl⟩)
theorem ok_bad {h : HeadV} {k : Nat} (hk : k < h.fs.length) (hf : fieldOk (h.fs.getD k ([], [])) = false) : okF h = false := by
  have : h.fs.all fieldOk = false := by
    rw [List.all_eq_false]
    exact ⟨_, getD_mem hk, by rw [hf]; simp⟩
  rw [okF, this]; simp
theorem all_stepF {fs : List Fld} {k : Nat} (h : k < fs.length) (ha : (fs.take k).all fieldOk = true) (hp : fieldOk (fs.getD k ([], [])) = true) : (fs.take (k + 1)).all fieldOk = true := by
  have h1 : fs.take (k + 1) = fs.take k ++ [fs.getD k ([], [])] := by rw [List.take_succ_eq_append_getElem h]; simp [List.getD, h]
  rw [h1, List.all_append, ha]; simpa using hp
set_option maxHeartbeats 400000 in
theorem fine_ok {w0 : World} {base : Nat} {H : List Seg} {m t : List UInt8} {minor : Int} {A : Option Addr} {C : Nat} {fs : List (List UInt8 × List UInt8)} (h : Rd tyField w0 base H A C fs) (hfl : fs.length ≤ 1000) (hb : ∀ f ∈ fs, f.1.length ≤ 140737488355000 ∧ f.2.length ≤ 140737488355000) (hm : m.length ≤ 140737488355000) (ht : t.length ≤ 140737488355000) :
    SCalls Tryz.prog 86 [.agg #[str m, str t, .int .i64 minor, .slice A fs.length C]] w0 base (H) (fun v H' => v = .bool (okF ⟨m, t, minor, fs⟩) ∧ H' = H) := by
  have hle0 := h.le
  have hcap0 := h.cap
  refine SCalls.of_walk (n := 57) Tryz.func86 rfl rfl rfl fun cs => ?_
  refine At.seq ?_
  refine At.region ?_
  refine AtL.box (cs := #[str m, str t, .int .i64 minor, .slice A fs.length C]) rfl (.inl rfl) rfl rfl ?_
  intro b1
  refine AtL.assign (.inl rfl) rfl rfl ?_
  refine AtL.done ?_
  refine At.seq ?_
  refine At.seq ?_
  refine At.region ?_
  refine AtL.fieldAddrB tf_fo47_0 (.inl rfl) rfl rfl rfl ?_
  refine AtL.load tf_flat9 (.inl rfl) rfl rfl (Cell.own 0 0 rfl rfl rfl) ?_
  refine AtL.call tf_body99 (.inl rfl) rfl rfl (word_ok (l := m) (by first | omega | (simp only [List.length_append, List.length_cons, List.length_nil]; omega) | (simp; done) | (simp; omega)) 16) ?_
  rintro _ _ ⟨rfl, rfl⟩
  refine AtL.not (.inl rfl) rfl rfl ?_
  refine AtL.move (.inl rfl) rfl rfl ?_
  refine AtL.join 5 (E' := [(14, .bool (decide (((wordF m 16) = false) ∨ (2048 < (t.length : Int))))), (1, .pointer (some ⟨b1, 0, none⟩))]) (H' := [(b1, .cells #[str m, str t, .int .i64 minor, .slice A fs.length C] 47 (0, 0))] :: H) (fun J => ?_) ?_
  · refine AtL.split (t := 9) rfl ?_ ?_
    · intro hs9
      have hs9 : (wordF m 16) = false := bnot_true hs9
      refine AtL.skipped rfl rfl rfl rfl rfl rfl ?_
      refine AtL.skipped rfl rfl rfl rfl rfl rfl ?_
      refine AtL.skipped rfl rfl rfl rfl rfl rfl ?_
      refine AtL.skipped rfl rfl rfl rfl rfl rfl ?_
      refine AtL.pickT (.inl rfl) rfl rfl rfl ?_
      exact J _ (by exact ⟨(boolIs (by clear J; first | (simp [hs9]; done) | (simp_all; done) | grind)), rfl, trivial⟩)
    · intro hs9
      have hs9 : (wordF m 16) = true := bnot_false hs9
      refine AtL.fieldAddrB tf_fo47_1 (.inr ⟨_, _, _, rfl, rfl, rfl, rfl⟩) rfl rfl rfl ?_
      refine AtL.load tf_flat9 (.inr ⟨_, _, _, rfl, rfl, rfl, rfl⟩) rfl rfl (Cell.own 0 0 rfl rfl rfl) ?_
      refine AtL.lenS (l := t) Tryz.underlying9 (.inr ⟨_, _, _, rfl, rfl, rfl, rfl⟩) rfl rfl ?_
      refine AtL.gtr (.inr ⟨_, _, _, rfl, rfl, rfl, rfl⟩) rfl rfl rfl ?_
      refine AtL.pickF (.inl rfl) rfl rfl rfl ?_
      exact J _ (by exact ⟨(boolIs (by clear J; first | (simp [hs9]; done) | (simp_all; done) | grind)), rfl, trivial⟩)
  · skip
    refine AtL.move (.inl rfl) rfl rfl ?_
    refine AtL.join 5 (E' := [(20, .bool (decide ((((wordF m 16) = false) ∨ (2048 < (t.length : Int))) ∨ ((targetF t) = false)))), (1, .pointer (some ⟨b1, 0, none⟩))]) (H' := [(b1, .cells #[str m, str t, .int .i64 minor, .slice A fs.length C] 47 (0, 0))] :: H) (fun J => ?_) ?_
    · refine AtL.split (t := 15) rfl ?_ ?_
      · intro hs15
        have hs15 : ((wordF m 16) = false) ∨ (2048 < (t.length : Int)) := of_decide_eq_true hs15
        refine AtL.skipped rfl rfl rfl rfl rfl rfl ?_
        refine AtL.skipped rfl rfl rfl rfl rfl rfl ?_
        refine AtL.skipped rfl rfl rfl rfl rfl rfl ?_
        refine AtL.skipped rfl rfl rfl rfl rfl rfl ?_
        refine AtL.pickT (.inl rfl) rfl rfl rfl ?_
        exact J _ (by exact ⟨(boolIs (by clear J; first | (simp [hs15]; done) | (simp_all; done) | grind)), rfl, trivial⟩)
      · intro hs15
        have hs15 : ¬ (((wordF m 16) = false) ∨ (2048 < (t.length : Int))) := of_decide_eq_false hs15
        refine AtL.fieldAddrB tf_fo47_1 (.inr ⟨_, _, _, rfl, rfl, rfl, rfl⟩) rfl rfl rfl ?_
        refine AtL.load tf_flat9 (.inr ⟨_, _, _, rfl, rfl, rfl, rfl⟩) rfl rfl (Cell.own 0 0 rfl rfl rfl) ?_
        refine AtL.call tf_body101 (.inr ⟨_, _, _, rfl, rfl, rfl, rfl⟩) rfl rfl (target_ok (l := t) (by first | omega | (simp only [List.length_append, List.length_cons, List.length_nil]; omega) | (simp; done) | (simp; omega))) ?_
        rintro _ _ ⟨rfl, rfl⟩
        refine AtL.not (.inr ⟨_, _, _, rfl, rfl, rfl, rfl⟩) rfl rfl ?_
        refine AtL.pickF (.inl rfl) rfl rfl rfl ?_
        exact J _ (by exact ⟨(boolIs (by clear J; first | (simp [hs15]; done) | (simp_all; done) | grind)), rfl, trivial⟩)
    · skip
      refine AtL.move (.inl rfl) rfl rfl ?_
      refine AtL.join 4 (E' := [(25, .bool (decide (((((wordF m 16) = false) ∨ (2048 < (t.length : Int))) ∨ ((targetF t) = false)) ∨ ((minor : Int) < 0)))), (1, .pointer (some ⟨b1, 0, none⟩))]) (H' := [(b1, .cells #[str m, str t, .int .i64 minor, .slice A fs.length C] 47 (0, 0))] :: H) (fun J => ?_) ?_
      · refine AtL.split (t := 21) rfl ?_ ?_
        · intro hs21
          have hs21 : (((wordF m 16) = false) ∨ (2048 < (t.length : Int))) ∨ ((targetF t) = false) := of_decide_eq_true hs21
          refine AtL.skipped rfl rfl rfl rfl rfl rfl ?_
          refine AtL.skipped rfl rfl rfl rfl rfl rfl ?_
          refine AtL.skipped rfl rfl rfl rfl rfl rfl ?_
          refine AtL.pickT (.inl rfl) rfl rfl rfl ?_
          exact J _ (by exact ⟨(boolIs (by clear J; first | (simp [hs21]; done) | (simp_all; done) | grind)), rfl, trivial⟩)
        · intro hs21
          have hs21 : ¬ ((((wordF m 16) = false) ∨ (2048 < (t.length : Int))) ∨ ((targetF t) = false)) := of_decide_eq_false hs21
          refine AtL.fieldAddrB tf_fo47_2 (.inr ⟨_, _, _, rfl, rfl, rfl, rfl⟩) rfl rfl rfl ?_
          refine AtL.load tf_flat3 (.inr ⟨_, _, _, rfl, rfl, rfl, rfl⟩) rfl rfl (Cell.own 0 0 rfl rfl rfl) ?_
          refine AtL.lss (.inr ⟨_, _, _, rfl, rfl, rfl, rfl⟩) rfl rfl rfl ?_
          refine AtL.pickF (.inl rfl) rfl rfl rfl ?_
          exact J _ (by exact ⟨(boolIs (by clear J; first | (simp [hs21]; done) | (simp_all; done) | grind)), rfl, trivial⟩)
      · skip
        refine AtL.move (.inl rfl) rfl rfl ?_
        refine AtL.join 4 (E' := [(30, .bool (decide ((((((wordF m 16) = false) ∨ (2048 < (t.length : Int))) ∨ ((targetF t) = false)) ∨ ((minor : Int) < 0)) ∨ (1 < (minor : Int))))), (1, .pointer (some ⟨b1, 0, none⟩))]) (H' := [(b1, .cells #[str m, str t, .int .i64 minor, .slice A fs.length C] 47 (0, 0))] :: H) (fun J => ?_) ?_
        · refine AtL.split (t := 26) rfl ?_ ?_
          · intro hs26
            have hs26 : ((((wordF m 16) = false) ∨ (2048 < (t.length : Int))) ∨ ((targetF t) = false)) ∨ ((minor : Int) < 0) := of_decide_eq_true hs26
            refine AtL.skipped rfl rfl rfl rfl rfl rfl ?_
            refine AtL.skipped rfl rfl rfl rfl rfl rfl ?_
            refine AtL.skipped rfl rfl rfl rfl rfl rfl ?_
            refine AtL.pickT (.inl rfl) rfl rfl rfl ?_
            exact J _ (by exact ⟨(boolIs (by clear J; first | (simp [hs26]; done) | (simp_all; done) | grind)), rfl, trivial⟩)
          · intro hs26
            have hs26 : ¬ (((((wordF m 16) = false) ∨ (2048 < (t.length : Int))) ∨ ((targetF t) = false)) ∨ ((minor : Int) < 0)) := of_decide_eq_false hs26
            refine AtL.fieldAddrB tf_fo47_2 (.inr ⟨_, _, _, rfl, rfl, rfl, rfl⟩) rfl rfl rfl ?_
            refine AtL.load tf_flat3 (.inr ⟨_, _, _, rfl, rfl, rfl, rfl⟩) rfl rfl (Cell.own 0 0 rfl rfl rfl) ?_
            refine AtL.gtr (.inr ⟨_, _, _, rfl, rfl, rfl, rfl⟩) rfl rfl rfl ?_
            refine AtL.pickF (.inl rfl) rfl rfl rfl ?_
            exact J _ (by exact ⟨(boolIs (by clear J; first | (simp [hs26]; done) | (simp_all; done) | grind)), rfl, trivial⟩)
        · skip
          refine AtL.move (.inl rfl) rfl rfl ?_
          refine AtL.join 5 (E' := [(36, .bool (decide (((((((wordF m 16) = false) ∨ (2048 < (t.length : Int))) ∨ ((targetF t) = false)) ∨ ((minor : Int) < 0)) ∨ (1 < (minor : Int))) ∨ (32 < (fs.length : Int))))), (1, .pointer (some ⟨b1, 0, none⟩))]) (H' := [(b1, .cells #[str m, str t, .int .i64 minor, .slice A fs.length C] 47 (0, 0))] :: H) (fun J => ?_) ?_
          · refine AtL.split (t := 31) rfl ?_ ?_
            · intro hs31
              have hs31 : (((((wordF m 16) = false) ∨ (2048 < (t.length : Int))) ∨ ((targetF t) = false)) ∨ ((minor : Int) < 0)) ∨ (1 < (minor : Int)) := of_decide_eq_true hs31
              refine AtL.skipped rfl rfl rfl rfl rfl rfl ?_
              refine AtL.skipped rfl rfl rfl rfl rfl rfl ?_
              refine AtL.skipped rfl rfl rfl rfl rfl rfl ?_
              refine AtL.skipped rfl rfl rfl rfl rfl rfl ?_
              refine AtL.pickT (.inl rfl) rfl rfl rfl ?_
              exact J _ (by exact ⟨(boolIs (by clear J; first | (simp [hs31]; done) | (simp_all; done) | grind)), rfl, trivial⟩)
            · intro hs31
              have hs31 : ¬ ((((((wordF m 16) = false) ∨ (2048 < (t.length : Int))) ∨ ((targetF t) = false)) ∨ ((minor : Int) < 0)) ∨ (1 < (minor : Int))) := of_decide_eq_false hs31
              refine AtL.fieldAddrB tf_fo47_3 (.inr ⟨_, _, _, rfl, rfl, rfl, rfl⟩) rfl rfl rfl ?_
              refine AtL.load tf_flat45 (.inr ⟨_, _, _, rfl, rfl, rfl, rfl⟩) rfl rfl (Cell.own 0 0 rfl rfl rfl) ?_
              refine AtL.lenL Tryz.underlying45 (.inr ⟨_, _, _, rfl, rfl, rfl, rfl⟩) rfl rfl ?_
              refine AtL.gtr (.inr ⟨_, _, _, rfl, rfl, rfl, rfl⟩) rfl rfl rfl ?_
              refine AtL.pickF (.inl rfl) rfl rfl rfl ?_
              exact J _ (by exact ⟨(boolIs (by clear J; first | (simp [hs31]; done) | (simp_all; done) | grind)), rfl, trivial⟩)
          · skip
            refine AtL.done ?_
            refine At.cond rfl ?_ ?_
            · intro hc1
              have hc1 : ((((((wordF m 16) = false) ∨ (2048 < (t.length : Int))) ∨ ((targetF t) = false)) ∨ ((minor : Int) < 0)) ∨ (1 < (minor : Int))) ∨ (32 < (fs.length : Int)) := of_decide_eq_true hc1
              refine At.seq ?_
              refine At.region ?_
              refine AtL.assign (.inl rfl) rfl rfl ?_
              refine AtL.done ?_
              refine At.pick (H' := H) [] 1 rfl rfl ?_
              exact At.ret Tryz.func86 rfl rfl (⟨congrArg Value.bool (by simp only [okF]; rcases hc1 with ((((h1 | h1) | h1) | h1) | h1) | h1 <;> simp [h1] <;> omega), rfl⟩)
            · intro hc1
              have hc1 : ¬ (((((((wordF m 16) = false) ∨ (2048 < (t.length : Int))) ∨ ((targetF t) = false)) ∨ ((minor : Int) < 0)) ∨ (1 < (minor : Int))) ∨ (32 < (fs.length : Int))) := of_decide_eq_false hc1
              refine At.skip ?_
              refine At.seq ?_
              refine At.seq ?_
              refine At.region ?_
              refine AtL.fieldAddrB tf_fo47_3 (.inl rfl) rfl rfl rfl ?_
              refine AtL.load tf_flat45 (.inl rfl) rfl rfl (Cell.own 0 0 rfl rfl rfl) ?_
              refine AtL.lenL Tryz.underlying45 (.inl rfl) rfl rfl ?_
              refine AtL.move (.inl rfl) rfl rfl ?_
              refine AtL.done ?_
              refine At.block ?_
              refine At.loop (fun (k : Nat) => [(1, .pointer (some ⟨b1, 0, none⟩)), (38, .slice A fs.length C), (39, .int .i64 (fs.length : Int)), (40, .int .i64 (k : Int))]) (fun (k : Nat) => [(b1, .cells #[str m, str t, .int .i64 minor, .slice A fs.length C] 47 (0, 0))] :: H) (fun (k : Nat) => k ≤ fs.length ∧ (fs.take k).all fieldOk = true) (fun (k : Nat) => fs.length - k) 0 (⟨Nat.zero_le _, rfl⟩) ⟨rfl, rfl, rfl, rfl, trivial⟩ rfl ?_
              rintro k ⟨hk, ha⟩ ihL1
              refine At.seq ?_
              refine At.region ?_
              refine AtL.lss (.inl rfl) rfl rfl rfl ?_
              refine AtL.done ?_
              refine At.seq ?_
              refine At.cond rfl ?_ ?_
              · intro hc2
                have hc2 : (k : Int) < (fs.length : Int) := of_decide_eq_true hc2
                have hbk := hb _ (getD_mem (l := fs) (i := k) (d := (([], []) : List UInt8 × List UInt8)) (by omega))
                refine At.skip ?_
                refine At.seq ?_
                refine At.block ?_
                refine At.seq ?_
                refine At.region ?_
                refine AtL.indexL k (Rd.skip 1 h) Tryz.underlying45 tf_sz78 (.inl rfl) rfl rfl rfl rfl (by omega) ?_
                refine AtL.loadE (n := 0) (Rd.skip 1 h) (getD_some (([], []) : List UInt8 × List UInt8) (by omega)) rfl tf_agg78 (.inl rfl) rfl rfl ?_
                refine AtL.alloc tf_zero78 (cs := #[str [], str []]) rfl (.inl rfl) rfl ?_
                intro b2
                refine AtL.store (H' := [(b2, .cells #[str ((fs.getD k (([], []) : List UInt8 × List UInt8)).1), str ((fs.getD k (([], []) : List UInt8 × List UInt8)).2)] 78 (0, 0))] :: [(b1, .cells #[str m, str t, .int .i64 minor, .slice A fs.length C] 47 (0, 0))] :: H) 0 0 tf_sz78 (.inl rfl) rfl rfl rfl rfl rfl rfl rfl rfl rfl ?_
                refine AtL.done ?_
                refine At.seq ?_
                refine At.region ?_
                refine AtL.fieldAddrB tf_fo78_0 (.inl rfl) rfl rfl rfl ?_
                refine AtL.load tf_flat9 (.inl rfl) rfl rfl (Cell.own 0 0 rfl rfl rfl) ?_
                refine AtL.call tf_body99 (.inl rfl) rfl rfl (word_ok (l := (fs.getD k (([], []) : List UInt8 × List UInt8)).1) (by first | omega | (simp only [List.length_append, List.length_cons, List.length_nil]; omega) | (simp; done) | (simp; omega)) 64) ?_
                rintro _ _ ⟨rfl, rfl⟩
                refine AtL.not (.inl rfl) rfl rfl ?_
                refine AtL.move (.inl rfl) rfl rfl ?_
                refine AtL.join 5 (E' := [(53, .bool (decide (((wordF ((fs.getD k (([], []) : List UInt8 × List UInt8)).1) 64) = false) ∨ ((valueF ((fs.getD k (([], []) : List UInt8 × List UInt8)).2)) = false)))), (1, .pointer (some ⟨b1, 0, none⟩)), (38, .slice A fs.length C), (39, .int .i64 (fs.length : Int)), (40, .int .i64 (k : Int))]) (H' := [(b2, .cells #[str ((fs.getD k (([], []) : List UInt8 × List UInt8)).1), str ((fs.getD k (([], []) : List UInt8 × List UInt8)).2)] 78 (0, 0))] :: [(b1, .cells #[str m, str t, .int .i64 minor, .slice A fs.length C] 47 (0, 0))] :: H) (fun J => ?_) ?_
                · refine AtL.split (t := 48) rfl ?_ ?_
                  · intro hs48
                    have hs48 : (wordF ((fs.getD k (([], []) : List UInt8 × List UInt8)).1) 64) = false := bnot_true hs48
                    refine AtL.skipped rfl rfl rfl rfl rfl rfl ?_
                    refine AtL.skipped rfl rfl rfl rfl rfl rfl ?_
                    refine AtL.skipped rfl rfl rfl rfl rfl rfl ?_
                    refine AtL.skipped rfl rfl rfl rfl rfl rfl ?_
                    refine AtL.pickT (.inl rfl) rfl rfl rfl ?_
                    exact J _ (by exact ⟨(boolIs (by clear J; first | (simp [hs48]; done) | (simp_all; done) | grind)), rfl, rfl, rfl, rfl, trivial⟩)
                  · intro hs48
                    have hs48 : (wordF ((fs.getD k (([], []) : List UInt8 × List UInt8)).1) 64) = true := bnot_false hs48
                    refine AtL.fieldAddrB tf_fo78_1 (.inr ⟨_, _, _, rfl, rfl, rfl, rfl⟩) rfl rfl rfl ?_
                    refine AtL.load tf_flat9 (.inr ⟨_, _, _, rfl, rfl, rfl, rfl⟩) rfl rfl (Cell.own 0 0 rfl rfl rfl) ?_
                    refine AtL.call tf_body103 (.inr ⟨_, _, _, rfl, rfl, rfl, rfl⟩) rfl rfl (value_ok (l := (fs.getD k (([], []) : List UInt8 × List UInt8)).2) (by first | omega | (simp only [List.length_append, List.length_cons, List.length_nil]; omega) | (simp; done) | (simp; omega))) ?_
                    rintro _ _ ⟨rfl, rfl⟩
                    refine AtL.not (.inr ⟨_, _, _, rfl, rfl, rfl, rfl⟩) rfl rfl ?_
                    refine AtL.pickF (.inl rfl) rfl rfl rfl ?_
                    exact J _ (by exact ⟨(boolIs (by clear J; first | (simp [hs48]; done) | (simp_all; done) | grind)), rfl, rfl, rfl, rfl, trivial⟩)
                · skip
                  refine AtL.done ?_
                  refine At.cond rfl ?_ ?_
                  · intro hc3
                    have hc3 : ((wordF ((fs.getD k (([], []) : List UInt8 × List UInt8)).1) 64) = false) ∨ ((valueF ((fs.getD k (([], []) : List UInt8 × List UInt8)).2)) = false) := of_decide_eq_true hc3
                    refine At.seq ?_
                    refine At.region ?_
                    refine AtL.assign (.inl rfl) rfl rfl ?_
                    refine AtL.done ?_
                    refine At.pick (H' := H) [] 2 rfl rfl ?_
                    exact At.ret Tryz.func86 rfl rfl (⟨congrArg Value.bool (ok_bad (h := ⟨m, t, minor, fs⟩) (k := k) (show k < fs.length by omega) (by rw [fieldOk]; rcases hc3 with h3 | h3 <;> simp [h3] <;> simp_all)).symm, rfl⟩)
                  · intro hc3
                    have hc3 : ¬ (((wordF ((fs.getD k (([], []) : List UInt8 × List UInt8)).1) 64) = false) ∨ ((valueF ((fs.getD k (([], []) : List UInt8 × List UInt8)).2)) = false)) := of_decide_eq_false hc3
                    refine At.skip ?_
                    refine At.inBlock ?_
                    refine At.region ?_
                    refine AtL.add (z := (k : Int) + 1) (.inl rfl) rfl rfl rfl (w64 (by omega) (by omega)) ?_
                    refine AtL.move (.inl rfl) rfl rfl ?_
                    refine AtL.done ?_
                    refine At.pick (H' := [(b1, .cells #[str m, str t, .int .i64 minor, .slice A fs.length C] 47 (0, 0))] :: H) [1] 2 rfl rfl ?_
                    refine ihL1 (k + 1) (⟨by omega, all_stepF (by omega) ha (by rw [fieldOk]; simpa using hc3)⟩) (by omega) _ ?_
                    exact ⟨rfl, rfl, rfl, (by first | rfl | exact slLen (by simp []) | exact intEq (by omega) | exact intEq (by simp []) | exact slLen (by simp []; omega)), trivial⟩
              · intro hc2
                have hc2 : ¬ ((k : Int) < (fs.length : Int)) := of_decide_eq_false hc2
                refine At.exit rfl ?_
                refine At.seq ?_
                refine At.region ?_
                refine AtL.loadN (cs := [str m, str t, .int .i64 minor, .slice A fs.length C]) tf_agg47 (.inl rfl) rfl rfl rfl (cellsOwn 0 0 0 rfl rfl rfl) ?_
                refine AtL.call tf_body104 (.inl rfl) rfl rfl (hosts_ok (fs := fs) (Rd.skip 1 h) hfl hb) ?_
                rintro _ _ ⟨rfl, rfl⟩
                refine AtL.assign (.inl rfl) rfl rfl ?_
                refine AtL.done ?_
                refine At.pick (H' := H) [] 1 rfl rfl ?_
                exact At.ret Tryz.func86 rfl rfl (⟨congrArg Value.bool (by simp only [okF]; rw [show fs.all fieldOk = true from by rw [List.take_of_length_le (show fs.length ≤ k by omega)] at ha; exact ha]; simp only [not_or] at hc1; simp [hc1]; omega), rfl⟩)
end Go.Proofs.YtlkdmbpbjhjkfaaGreatDoor
namespace Go.Proofs.YtlkdmbpbjhjkfaaGreatDoor
set_option linter.unusedVariables false
set_option linter.unusedSimpArgs false
set_option maxRecDepth 100000
theorem small_cut : ∀ n : Nat, n < 10 → subl [48, 49, 50, 51, 52, 53, 54, 55, 56, 57, 97, 98, 99, 100, 101, 102, 103, 104, 105, 106, 107, 108, 109, 110, 111, 112, 113, 114, 115, 116, 117, 118, 119, 120, 121, 122] n (n + 1) = [UInt8.ofNat (48 + n)] := by decide +kernel
set_option maxHeartbeats 400000 in
theorem small_ok {w0 : World} {base : Nat} {H : List Seg} (n : Nat) (hn : n < 10) :
    SCalls Tryz.prog 151 [.int .i64 (n : Int)] w0 base (H) (fun v H' => v = str [UInt8.ofNat (48 + n)] ∧ H' = H) := by
  refine SCalls.of_walk (n := 15) Tryz.func151 rfl rfl rfl fun cs => ?_
  refine At.seq ?_
  refine At.region ?_
  refine AtL.assign (.inl rfl) rfl rfl ?_
  refine AtL.done ?_
  refine At.seq ?_
  refine At.seq ?_
  refine At.region ?_
  refine AtL.move (.inl rfl) rfl rfl ?_
  refine AtL.lss (.inl rfl) rfl rfl rfl ?_
  refine AtL.done ?_
  refine At.condIs true rfl (decide_eq_true (by omega)) ?_
  refine At.seq ?_
  refine At.region ?_
  refine AtL.move (.inl rfl) rfl rfl ?_
  refine AtL.move (.inl rfl) rfl rfl ?_
  refine AtL.add (z := (n : Int) + 1) (.inl rfl) rfl rfl rfl (w64 (by omega) (by omega)) ?_
  refine AtL.sliceS (l := [48, 49, 50, 51, 52, 53, 54, 55, 56, 57, 97, 98, 99, 100, 101, 102, 103, 104, 105, 106, 107, 108, 109, 110, 111, 112, 113, 114, 115, 116, 117, 118, 119, 120, 121, 122]) n (n + 1) (evBound_some rfl rfl) (evBound_some rfl rfl) (by omega) (by show n + 1 ≤ 36; omega) Tryz.underlying9 (.inl rfl) rfl rfl ?_
  refine AtL.assign (.inl rfl) rfl rfl ?_
  refine AtL.done ?_
  exact At.ret Tryz.func151 rfl rfl (⟨congrArg str (small_cut n hn), rfl⟩)
set_option maxHeartbeats 400000 in
theorem appu_ok {w0 : World} {base : Nat} {H : List Seg} {y : Sl tyB 5} (hy : y.l.length ≤ 140737488355000) (n : Nat) (hn : n < 10) :
    SCalls Tryz.prog 192 [.slice y.A y.l.length y.C, .int .u64 (n : Int), .int .i64 10] w0 base (y.s :: H) (fun v H' => ∃ x : Sl tyB 5, x.l = y.l ++ [UInt8.ofNat (48 + n)] ∧ v = .slice x.A x.l.length x.C ∧ H' = x.s :: H) := by
  refine SCalls.of_walk (n := 36) Tryz.func192 rfl rfl rfl fun cs => ?_
  refine At.seq ?_
  refine At.region ?_
  refine AtL.assign (.inl rfl) rfl rfl ?_
  refine AtL.done ?_
  refine At.seq ?_
  refine At.seq ?_
  refine At.region ?_
  refine AtL.move (.inl rfl) rfl rfl ?_
  refine AtL.eqi (.inl rfl) rfl rfl rfl ?_
  refine AtL.done ?_
  refine At.condT rfl ?_
  refine At.seq ?_
  refine At.seq ?_
  refine At.region ?_
  refine AtL.move (.inl rfl) rfl rfl ?_
  refine AtL.lss (.inl rfl) rfl rfl rfl ?_
  refine AtL.done ?_
  refine At.condIs true rfl (decide_eq_true (by omega)) ?_
  refine At.seq ?_
  refine At.region ?_
  refine AtL.move (.inl rfl) rfl rfl ?_
  refine AtL.move (.inl rfl) rfl rfl ?_
  refine AtL.convInt (z := (n : Int)) Tryz.underlying188 Tryz.underlying3 (.inl rfl) rfl rfl (w64 (by omega) (by omega)) ?_
  refine AtL.call tf_body151 (.inl rfl) rfl rfl (small_ok n (by omega)) ?_
  rintro _ _ ⟨rfl, rfl⟩
  refine AtL.appendS (l := y.l) (news := [UInt8.ofNat (48 + n)]) 0 tf_el22 Tryz.underlying9 rfl y.own (by first | omega | (simp only [List.length_append, List.length_cons, List.length_nil]; omega) | (simp; done) | (simp; omega)) (.inl rfl) rfl rfl rfl ?_
  intro A1 C2 s3 o4
  refine AtL.assign (.inl rfl) rfl rfl ?_
  refine AtL.done ?_
  exact At.ret Tryz.func192 rfl rfl (⟨⟨A1, C2, y.l ++ [UInt8.ofNat (48 + n)], s3, o4⟩, rfl, rfl, rfl⟩)
set_option maxHeartbeats 400000 in
theorem iappi_ok {w0 : World} {base : Nat} {H : List Seg} {y : Sl tyB 5} (hy : y.l.length ≤ 140737488355000) (n : Nat) (hn : n < 10) :
    SCalls Tryz.prog 162 [.slice y.A y.l.length y.C, .int .i64 (n : Int), .int .i64 10] w0 base (y.s :: H) (fun v H' => ∃ x : Sl tyB 5, x.l = y.l ++ [UInt8.ofNat (48 + n)] ∧ v = .slice x.A x.l.length x.C ∧ H' = x.s :: H) := by
  refine SCalls.of_walk (n := 21) Tryz.func162 rfl rfl rfl fun cs => ?_
  refine At.seq ?_
  refine At.region ?_
  refine AtL.assign (.inl rfl) rfl rfl ?_
  refine AtL.done ?_
  refine At.seq ?_
  refine At.region ?_
  refine AtL.move (.inl rfl) rfl rfl ?_
  refine AtL.convInt (z := (n : Int)) Tryz.underlying2 Tryz.underlying188 (.inl rfl) rfl rfl (w64u (by omega) (by omega)) ?_
  refine AtL.assign (.inl rfl) rfl rfl ?_
  refine AtL.done ?_
  refine At.seq ?_
  refine At.seq ?_
  refine At.region ?_
  refine AtL.move (.inl rfl) rfl rfl ?_
  refine AtL.lss (.inl rfl) rfl rfl rfl ?_
  refine AtL.done ?_
  refine At.condIs false rfl (decide_eq_false (by omega)) ?_
  refine At.skip ?_
  refine At.seq ?_
  refine At.region ?_
  refine AtL.move (.inl rfl) rfl rfl ?_
  refine AtL.move (.inl rfl) rfl rfl ?_
  refine AtL.move (.inl rfl) rfl rfl ?_
  refine AtL.call tf_body192 (.inl rfl) rfl rfl (appu_ok (y := y) (by first | omega | (simp only [List.length_append, List.length_cons, List.length_nil]; omega) | (simp; done) | (simp; omega)) n (by omega)) ?_
  rintro _ _ ⟨⟨A1, C2, l3, s4, o5⟩, hx6, rfl, rfl⟩
  obtain rfl : y.l ++ [UInt8.ofNat (48 + n)] = l3 := hx6.symm
  refine AtL.assign (.inl rfl) rfl rfl ?_
  refine AtL.done ?_
  exact At.ret Tryz.func162 rfl rfl (⟨⟨A1, C2, y.l ++ [UInt8.ofNat (48 + n)], s4, o5⟩, rfl, rfl, rfl⟩)
set_option maxHeartbeats 400000 in
theorem appi_ok {w0 : World} {base : Nat} {H : List Seg} {y : Sl tyB 5} (hy : y.l.length ≤ 140737488355000) (n : Nat) (hn : n < 10) :
    SCalls Tryz.prog 127 [.slice y.A y.l.length y.C, .int .i64 (n : Int), .int .i64 10] w0 base (y.s :: H) (fun v H' => ∃ x : Sl tyB 5, x.l = y.l ++ [UInt8.ofNat (48 + n)] ∧ v = .slice x.A x.l.length x.C ∧ H' = x.s :: H) := by
  refine SCalls.of_walk (n := 11) Tryz.func127 rfl rfl rfl fun cs => ?_
  refine At.seq ?_
  refine At.region ?_
  refine AtL.assign (.inl rfl) rfl rfl ?_
  refine AtL.done ?_
  refine At.seq ?_
  refine At.region ?_
  refine AtL.move (.inl rfl) rfl rfl ?_
  refine AtL.move (.inl rfl) rfl rfl ?_
  refine AtL.move (.inl rfl) rfl rfl ?_
  refine AtL.call tf_body162 (.inl rfl) rfl rfl (iappi_ok (y := y) (by first | omega | (simp only [List.length_append, List.length_cons, List.length_nil]; omega) | (simp; done) | (simp; omega)) n (by omega)) ?_
  rintro _ _ ⟨⟨A1, C2, l3, s4, o5⟩, hx6, rfl, rfl⟩
  obtain rfl : y.l ++ [UInt8.ofNat (48 + n)] = l3 := hx6.symm
  refine AtL.assign (.inl rfl) rfl rfl ?_
  refine AtL.done ?_
  exact At.ret Tryz.func127 rfl rfl (⟨⟨A1, C2, y.l ++ [UInt8.ofNat (48 + n)], s4, o5⟩, rfl, rfl, rfl⟩)
end Go.Proofs.YtlkdmbpbjhjkfaaGreatDoor
namespace Go.Proofs.YtlkdmbpbjhjkfaaGreatDoor
set_option linter.unusedVariables false
set_option linter.unusedSimpArgs false
set_option maxRecDepth 100000
def fieldsP (fs : List Fld) : List UInt8 := (fs.map fun f => fieldB f ++ [13, 10]).flatten
theorem fieldsB_p (fs : List Fld) : fieldsB fs = fieldsP fs ++ [13, 10] := by
  induction fs with
  | nil => rfl
  | cons f fs ih => rw [fieldsB, ih]; simp [fieldsP]
theorem fieldsP_snoc (fs : List Fld) (k : Nat) (h : k < fs.length) : fieldsP (fs.take (k + 1)) = fieldsP (fs.take k) ++ (fieldB (fs.getD k ([], [])) ++ [13, 10]) := by
  have h1 : fs.take (k + 1) = fs.take k ++ [fs.getD k ([], [])] := by rw [List.take_succ_eq_append_getElem h]; simp [List.getD, h]
  rw [h1]; simp [fieldsP]
def szF (fs : List Fld) : Nat := (fs.map fun f => f.1.length + f.2.length + 4).sum
theorem szF_take (fs : List Fld) : ∀ k, (fieldsP (fs.take k)).length ≤ szF fs := by
  induction fs with
  | nil => intro k; simp [fieldsP]
  | cons f fs ih =>
    intro k
    cases k with
    | zero => simp [fieldsP]
    | succ k =>
      have := ih k
      simp [fieldsP, szF, fieldB] at this ⊢
      omega
theorem szF_step (fs : List Fld) (k : Nat) (h : k < fs.length) : (fieldsP (fs.take k)).length + ((fs.getD k ([], [])).1.length + (fs.getD k ([], [])).2.length + 4) ≤ szF fs := by
  have h1 := szF_take fs (k + 1)
  rw [fieldsP_snoc fs k h] at h1
  simp only [List.length_append, fieldB, List.length_cons, List.length_nil] at h1
  omega
theorem szF_mem {fs : List Fld} {f : Fld} (h : f ∈ fs) : f.1.length + f.2.length ≤ szF fs := by
  induction fs with
  | nil => simp at h
  | cons g fs ih =>
    simp only [szF, List.map_cons, List.sum_cons]
    rcases List.mem_cons.1 h with rfl | h
    · omega
    · have := ih h; simp only [szF] at this; omega
set_option maxHeartbeats 400000 in
theorem bytes_ok {w0 : World} {base : Nat} {H : List Seg} {m t : List UInt8} {A : Option Addr} {C : Nat} {fs : List (List UInt8 × List UInt8)} (h : Rd tyField w0 base H A C fs) (hfl : fs.length ≤ 1000) (htot : m.length + t.length + szF fs ≤ 140737488354000) (n : Nat) (hn : n < 10) :
    SCalls Tryz.prog 87 [.agg #[str m, str t, .int .i64 (n : Int), .slice A fs.length C]] w0 base (H) (fun v H' => ∃ x : Sl tyB 5, x.l = headB ⟨m, t, (n : Int), fs⟩ ∧ v = .slice x.A x.l.length x.C ∧ H' = x.s :: H) := by
  have hle0 := h.le
  have hcap0 := h.cap
  refine SCalls.of_walk (n := 40) Tryz.func87 rfl rfl rfl fun cs => ?_
  refine At.seq ?_
  refine At.region ?_
  refine AtL.box (cs := #[str m, str t, .int .i64 (n : Int), .slice A fs.length C]) rfl (.inl rfl) rfl rfl ?_
  intro b1
  refine AtL.assign (.inl rfl) rfl rfl ?_
  refine AtL.done ?_
  refine At.seq ?_
  refine At.region ?_
  refine AtL.fieldAddrB tf_fo47_0 (.inl rfl) rfl rfl rfl ?_
  refine AtL.load tf_flat9 (.inl rfl) rfl rfl (Cell.own 0 0 rfl rfl rfl) ?_
  refine AtL.bytesOf (l := m) Tryz.underlying9 Tryz.underlying22 Tryz.underlying5 (by first | omega | (simp only [List.length_append, List.length_cons, List.length_nil]; omega) | (simp; done) | (simp; omega)) (.inl rfl) rfl rfl ?_
  intro A2 C3 s4 n6 o5
  refine AtL.buildSlice (cs := [.int .u8 32]) Tryz.underlying22 tf_zero5 tf_sz5 rfl rfl (.inl rfl) rfl rfl rfl ?_
  intro b7
  refine AtL.own1 tyB (l := ([32] : List UInt8)) rfl rfl (by first | decide | simp) ?_
  intro s8 o9
  refine AtL.append (l := m) (news := [32]) 1 tf_el22 rfl o5 (o9.rd (i := 0) rfl) (by first | omega | (simp only [List.length_append, List.length_cons, List.length_nil]; omega) | (simp; done) | (simp; omega)) (.inl rfl) rfl rfl rfl ?_
  intro A10 C11 s12 o13
  refine AtL.assign (.inl rfl) rfl rfl ?_
  refine AtL.done ?_
  refine At.seq ?_
  refine At.region ?_
  refine AtL.move (.inl rfl) rfl rfl ?_
  refine AtL.fieldAddrB tf_fo47_1 (.inl rfl) rfl rfl rfl ?_
  refine AtL.load tf_flat9 (.inl rfl) rfl rfl (Cell.own 2 0 rfl rfl rfl) ?_
  refine AtL.appendS (l := m ++ [32]) (news := t) 1 tf_el22 Tryz.underlying9 rfl o13 (by first | omega | (simp only [List.length_append, List.length_cons, List.length_nil]; omega) | (simp; done) | (simp; omega)) (.inl rfl) rfl rfl rfl ?_
  intro A14 C15 s16 o17
  refine AtL.appendS (l := (m ++ [32]) ++ t) (news := [32, 72, 84, 84, 80, 47, 49, 46]) 1 tf_el22 Tryz.underlying9 rfl o17 (by first | omega | (simp only [List.length_append, List.length_cons, List.length_nil]; omega) | (simp; done) | (simp; omega)) (.inl rfl) rfl rfl rfl ?_
  intro A18 C19 s20 o21
  refine AtL.assign (.inl rfl) rfl rfl ?_
  refine AtL.done ?_
  refine At.seq ?_
  refine At.region ?_
  refine AtL.move (.inl rfl) rfl rfl ?_
  refine AtL.fieldAddrB tf_fo47_2 (.inl rfl) rfl rfl rfl ?_
  refine AtL.load tf_flat3 (.inl rfl) rfl rfl (Cell.own 2 0 rfl rfl rfl) ?_
  refine AtL.pick (H' := s20 :: s8 :: [(b1, .cells #[str m, str t, .int .i64 (n : Int), .slice A fs.length C] 47 (0, 0))] :: H) [1, 0, 2] 3 rfl rfl ?_
  refine AtL.call tf_body127 (.inl rfl) rfl rfl (appi_ok (y := ⟨A18, C19, ((m ++ [32]) ++ t) ++ [32, 72, 84, 84, 80, 47, 49, 46], s20, o21⟩) (by first | omega | (simp only [List.length_append, List.length_cons, List.length_nil]; omega) | (simp; done) | (simp; omega)) n (by omega)) ?_
  rintro _ _ ⟨⟨A22, C23, l24, s25, o26⟩, hx27, rfl, rfl⟩
  obtain rfl : (((m ++ [32]) ++ t) ++ [32, 72, 84, 84, 80, 47, 49, 46]) ++ [UInt8.ofNat (48 + n)] = l24 := hx27.symm
  refine AtL.appendS (l := (((m ++ [32]) ++ t) ++ [32, 72, 84, 84, 80, 47, 49, 46]) ++ [UInt8.ofNat (48 + n)]) (news := [13, 10]) 0 tf_el22 Tryz.underlying9 rfl o26 (by first | omega | (simp only [List.length_append, List.length_cons, List.length_nil]; omega) | (simp; done) | (simp; omega)) (.inl rfl) rfl rfl rfl ?_
  intro A28 C29 s30 o31
  refine AtL.assign (.inl rfl) rfl rfl ?_
  refine AtL.done ?_
  refine At.seq ?_
  refine At.seq ?_
  refine At.region ?_
  refine AtL.fieldAddrB tf_fo47_3 (.inl rfl) rfl rfl rfl ?_
  refine AtL.load tf_flat45 (.inl rfl) rfl rfl (Cell.own 2 0 rfl rfl rfl) ?_
  refine AtL.lenL Tryz.underlying45 (.inl rfl) rfl rfl ?_
  refine AtL.move (.inl rfl) rfl rfl ?_
  refine AtL.done ?_
  refine At.block ?_
  refine At.pick (H' := s30 :: H) [0] 3 rfl rfl ?_
  refine At.loop2 (fun (k : Nat) (x : Sl tyB 5) => [(3, .slice x.A x.l.length x.C), (22, .slice A fs.length C), (23, .int .i64 (fs.length : Int)), (24, .int .i64 (k : Int))]) (fun (k : Nat) (x : Sl tyB 5) => x.s :: H) (fun (k : Nat) (x : Sl tyB 5) => k ≤ fs.length ∧ x.l = lineB ⟨m, t, (n : Int), fs⟩ ++ [13, 10] ++ fieldsP (fs.take k)) (fun (k : Nat) (x : Sl tyB 5) => fs.length - k) 0 (⟨A28, C29, ((((m ++ [32]) ++ t) ++ [32, 72, 84, 84, 80, 47, 49, 46]) ++ [UInt8.ofNat (48 + n)]) ++ [13, 10], s30, o31⟩) (⟨Nat.zero_le _, by simp [lineB, HTTP1, fieldsP]⟩) ⟨rfl, rfl, rfl, rfl, trivial⟩ rfl ?_
  rintro k x ⟨hk, hx⟩ ihL1
  have hpl := szF_take fs k
  have hxl : x.l.length = m.length + t.length + 12 + (fieldsP (fs.take k)).length := by rw [hx]; simp [lineB, HTTP1]; omega
  refine At.seq ?_
  refine At.region ?_
  refine AtL.lss (.inl rfl) rfl rfl rfl ?_
  refine AtL.done ?_
  refine At.seq ?_
  refine At.cond rfl ?_ ?_
  · intro hc1
    have hc1 : (k : Int) < (fs.length : Int) := of_decide_eq_true hc1
    have hbk := szF_step fs k (by omega)
    refine At.skip ?_
    refine At.seq ?_
    refine At.block ?_
    refine At.seq ?_
    refine At.region ?_
    refine AtL.indexL k (Rd.skip 1 h) Tryz.underlying45 tf_sz78 (.inl rfl) rfl rfl rfl rfl (by omega) ?_
    refine AtL.loadE (n := 0) (Rd.skip 1 h) (getD_some (([], []) : List UInt8 × List UInt8) (by omega)) rfl tf_agg78 (.inl rfl) rfl rfl ?_
    refine AtL.alloc tf_zero78 (cs := #[str [], str []]) rfl (.inl rfl) rfl ?_
    intro b32
    refine AtL.store (H' := [(b32, .cells #[str ((fs.getD k (([], []) : List UInt8 × List UInt8)).1), str ((fs.getD k (([], []) : List UInt8 × List UInt8)).2)] 78 (0, 0))] :: x.s :: H) 0 0 tf_sz78 (.inl rfl) rfl rfl rfl rfl rfl rfl rfl rfl rfl ?_
    refine AtL.done ?_
    refine At.draw (es := [3, 4, 7, 8]) (pv := [(0, .slice x.A x.l.length x.C), (1, .pointer (some ⟨b32, 0, none⟩)), (2, str ((fs.getD k (([], []) : List UInt8 × List UInt8)).1)), (5, .pointer (some ⟨b32, 1, none⟩)), (6, str ((fs.getD k (([], []) : List UInt8 × List UInt8)).2))]) tf_mixed (by kernel_rfl) (by kernel_rfl) (by kernel_rfl) ?_
    refine ⟨⟨.inr ⟨_, rfl, rfl, .inl ⟨rfl, Do.move rfl⟩⟩, .inr ⟨_, rfl, rfl, .inl ⟨rfl, Do.fieldAddrB tf_fo78_0 rfl rfl⟩⟩, .inr ⟨_, rfl, rfl, .inl ⟨rfl, Do.load tf_flat9 rfl (Cell.own 0 0 rfl rfl rfl)⟩⟩, .inr ⟨_, rfl, rfl, .inl ⟨rfl, Do.fieldAddrB tf_fo78_1 rfl rfl⟩⟩, .inr ⟨_, rfl, rfl, .inl ⟨rfl, Do.load tf_flat9 rfl (Cell.own 0 0 rfl rfl rfl)⟩⟩, trivial⟩, rfl, rfl, by kernel_rfl, _, rfl, rfl, rfl, _, Do.appendS (l := x.l) (news := (fs.getD k (([], []) : List UInt8 × List UInt8)).1) 1 tf_el22 Tryz.underlying9 rfl x.own (by first | omega | (simp only [List.length_append, List.length_cons, List.length_nil]; omega) | (simp; done) | (simp; omega)) rfl rfl, ?_⟩
    rintro _ _ ⟨A33, C34, s35, o36, rfl, rfl⟩
    refine ⟨[], rfl, ?_⟩
    refine ⟨⟨.inl (by kernel_rfl), .inl (by kernel_rfl), .inl (by kernel_rfl), .inr ⟨_, rfl, rfl, .inl ⟨rfl, Do.fieldAddrB tf_fo78_1 rfl rfl⟩⟩, .inr ⟨_, rfl, rfl, .inl ⟨rfl, Do.load tf_flat9 rfl (Cell.own 0 0 rfl rfl rfl)⟩⟩, trivial⟩, rfl, rfl, by kernel_rfl, _, rfl, rfl, rfl, _, Do.appendS (l := x.l ++ ((fs.getD k (([], []) : List UInt8 × List UInt8)).1)) (news := [58, 32]) 1 tf_el22 Tryz.underlying9 rfl o36 (by first | omega | (simp only [List.length_append, List.length_cons, List.length_nil]; omega) | (simp; done) | (simp; omega)) rfl rfl, ?_⟩
    rintro _ _ ⟨A37, C38, s39, o40, rfl, rfl⟩
    refine ⟨[], rfl, ?_⟩
    refine ⟨⟨.inl (by kernel_rfl), .inl (by kernel_rfl), .inl (by kernel_rfl), .inr ⟨_, rfl, rfl, .inl ⟨rfl, Do.fieldAddrB tf_fo78_1 rfl rfl⟩⟩, .inr ⟨_, rfl, rfl, .inl ⟨rfl, Do.load tf_flat9 rfl (Cell.own 0 0 rfl rfl rfl)⟩⟩, trivial⟩, rfl, rfl, by kernel_rfl, _, rfl, rfl, rfl, _, Do.appendS (l := (x.l ++ ((fs.getD k (([], []) : List UInt8 × List UInt8)).1)) ++ [58, 32]) (news := (fs.getD k (([], []) : List UInt8 × List UInt8)).2) 1 tf_el22 Tryz.underlying9 rfl o40 (by first | omega | (simp only [List.length_append, List.length_cons, List.length_nil]; omega) | (simp; done) | (simp; omega)) rfl rfl, ?_⟩
    rintro _ _ ⟨A41, C42, s43, o44, rfl, rfl⟩
    refine ⟨[], rfl, ?_⟩
    refine ⟨⟨.inl (by kernel_rfl), .inl (by kernel_rfl), .inl (by kernel_rfl), .inl (by kernel_rfl), .inl (by kernel_rfl), trivial⟩, rfl, rfl, by kernel_rfl, _, rfl, rfl, rfl, _, Do.appendS (l := ((x.l ++ ((fs.getD k (([], []) : List UInt8 × List UInt8)).1)) ++ [58, 32]) ++ ((fs.getD k (([], []) : List UInt8 × List UInt8)).2)) (news := [13, 10]) 1 tf_el22 Tryz.underlying9 rfl o44 (by first | omega | (simp only [List.length_append, List.length_cons, List.length_nil]; omega) | (simp; done) | (simp; omega)) rfl rfl, ?_⟩
    rintro _ _ ⟨A45, C46, s47, o48, rfl, rfl⟩
    refine ⟨[(9, .slice A45 ((((x.l ++ ((fs.getD k (([], []) : List UInt8 × List UInt8)).1)) ++ [58, 32]) ++ ((fs.getD k (([], []) : List UInt8 × List UInt8)).2)) ++ [13, 10]).length C46)], rfl, ?_⟩
    refine ⟨⟨.inr ⟨_, rfl, rfl, .inl ⟨rfl, Do.assign rfl⟩⟩, .inl (by kernel_rfl), .inl (by kernel_rfl), .inl (by kernel_rfl), .inl (by kernel_rfl), .inl (by kernel_rfl), trivial⟩, by kernel_rfl, ?_⟩
    refine At.mono (E' := [(3, .slice A45 ((((x.l ++ ((fs.getD k (([], []) : List UInt8 × List UInt8)).1)) ++ [58, 32]) ++ ((fs.getD k (([], []) : List UInt8 × List UInt8)).2)) ++ [13, 10]).length C46), (22, .slice A fs.length C), (23, .int .i64 (fs.length : Int)), (24, .int .i64 (k : Int))]) ⟨rfl, rfl, rfl, rfl, trivial⟩ ?_
    refine At.inBlock ?_
    refine At.region ?_
    refine AtL.add (z := (k : Int) + 1) (.inl rfl) rfl rfl rfl (w64 (by omega) (by omega)) ?_
    refine AtL.move (.inl rfl) rfl rfl ?_
    refine AtL.done ?_
    refine At.pick (H' := s47 :: H) [1] 2 rfl rfl ?_
    refine ihL1 (k + 1) (⟨A45, C46, (((x.l ++ ((fs.getD k (([], []) : List UInt8 × List UInt8)).1)) ++ [58, 32]) ++ ((fs.getD k (([], []) : List UInt8 × List UInt8)).2)) ++ [13, 10], s47, o48⟩) (⟨by omega, by rw [fieldsP_snoc _ _ (by omega), ← List.append_assoc, ← hx]; simp [fieldB]⟩) (by omega) _ ?_
    exact ⟨(by first | rfl | exact slLen (by simp []) | exact intEq (by omega) | exact intEq (by simp []) | exact slLen (by simp []; omega)), rfl, rfl, (by first | rfl | exact slLen (by simp []) | exact intEq (by omega) | exact intEq (by simp []) | exact slLen (by simp []; omega)), trivial⟩
  · intro hc1
    have hc1 : ¬ ((k : Int) < (fs.length : Int)) := of_decide_eq_false hc1
    refine At.exit rfl ?_
    refine At.seq ?_
    refine At.region ?_
    refine AtL.move (.inl rfl) rfl rfl ?_
    refine AtL.appendS (l := x.l) (news := [13, 10]) 0 tf_el22 Tryz.underlying9 rfl x.own (by first | omega | (simp only [List.length_append, List.length_cons, List.length_nil]; omega) | (simp; done) | (simp; omega)) (.inl rfl) rfl rfl rfl ?_
    intro A65 C66 s67 o68
    refine AtL.assign (.inl rfl) rfl rfl ?_
    refine AtL.done ?_
    exact At.ret Tryz.func87 rfl rfl (⟨⟨A65, C66, x.l ++ [13, 10], s67, o68⟩, by rw [List.take_of_length_le (show fs.length ≤ k by omega)] at hx; rw [headB, fieldsB_p]; simp only [hx]; simp, rfl, rfl⟩)
def writeE (h : HeadV) : Int := if writeOk h = true then 0 else 2
def writeL (h : HeadV) : List UInt8 := if writeOk h = true then headB h else []
theorem ok_minor {m t : List UInt8} {minor : Int} {fs : List Fld} (h : okF ⟨m, t, minor, fs⟩ = true) : ∃ n : Nat, n < 2 ∧ minor = (n : Int) := by
  simp only [okF, Bool.and_eq_true, decide_eq_true_eq] at h
  obtain ⟨⟨⟨⟨⟨⟨_, _⟩, _⟩, h2⟩, _⟩, _⟩, _⟩ := h
  exact ⟨minor.toNat, by omega, by omega⟩
set_option maxHeartbeats 400000 in
theorem write_ok {w0 : World} {base : Nat} {H : List Seg} {m t : List UInt8} {minor : Int} {A : Option Addr} {C : Nat} {fs : List (List UInt8 × List UInt8)} (h : Rd tyField w0 base H A C fs) (hfl : fs.length ≤ 1000) (htot : m.length + t.length + szF fs ≤ 140737488354000) :
    SCalls Tryz.prog 52 [.agg #[str m, str t, .int .i64 minor, .slice A fs.length C]] w0 base (H) (fun v H' => ∃ x : Sl tyB 5, x.l = writeL ⟨m, t, minor, fs⟩ ∧ v = .tuple #[.slice x.A x.l.length x.C, int (writeE ⟨m, t, minor, fs⟩)] ∧ H' = x.s :: H) := by
  have hb : ∀ f ∈ fs, f.1.length ≤ 140737488355000 ∧ f.2.length ≤ 140737488355000 := fun f hf => by have := szF_mem hf; omega
  refine SCalls.of_walk (n := 14) Tryz.func52 rfl rfl rfl fun cs => ?_
  refine At.seq ?_
  refine At.region ?_
  refine AtL.box (cs := #[str m, str t, .int .i64 minor, .slice A fs.length C]) rfl (.inl rfl) rfl rfl ?_
  intro b1
  refine AtL.assign (.inl rfl) rfl rfl ?_
  refine AtL.assign (.inl rfl) rfl rfl ?_
  refine AtL.done ?_
  refine At.seq ?_
  refine At.seq ?_
  refine At.region ?_
  refine AtL.loadN (cs := [str m, str t, .int .i64 minor, .slice A fs.length C]) tf_agg47 (.inl rfl) rfl rfl rfl (cellsOwn 0 0 0 rfl rfl rfl) ?_
  refine AtL.call tf_body86 (.inl rfl) rfl rfl (fine_ok (fs := fs) (Rd.skip 1 h) hfl hb (by omega) (by omega)) ?_
  rintro _ _ ⟨rfl, rfl⟩
  refine AtL.not (.inl rfl) rfl rfl ?_
  refine AtL.done ?_
  refine At.cond rfl ?_ ?_
  · intro hc1
    have hc1 : (okF ⟨m, t, minor, fs⟩) = false := bnot_true hc1
    refine At.seq ?_
    refine At.region ?_
    refine AtL.assign (.inl rfl) rfl rfl ?_
    refine AtL.assign (.inl rfl) rfl rfl ?_
    refine AtL.done ?_
    refine At.nil ?_
    refine At.pick (H' := [] :: H) [0] 2 rfl rfl ?_
    have hw : ¬ writeOk ⟨m, t, minor, fs⟩ = true := by rw [writeOk, hc1]; simp
    exact At.ret Tryz.func52 rfl rfl (⟨Sl.nil, by rw [writeL, if_neg hw]; rfl, by rw [writeE, if_neg hw]; rfl, rfl⟩)
  · intro hc1
    have hc1 : (okF ⟨m, t, minor, fs⟩) = true := bnot_false hc1
    have hok : okF ⟨m, t, minor, fs⟩ = true := by simpa using hc1
    obtain ⟨n, hn, hmn⟩ := ok_minor hok
    subst hmn
    refine At.skip ?_
    refine At.seq ?_
    refine At.region ?_
    refine AtL.loadN (cs := [str m, str t, .int .i64 (n : Int), .slice A fs.length C]) tf_agg47 (.inl rfl) rfl rfl rfl (cellsOwn 0 0 0 rfl rfl rfl) ?_
    refine AtL.call tf_body87 (.inl rfl) rfl rfl (bytes_ok (fs := fs) (Rd.skip 1 h) hfl htot n (by omega)) ?_
    rintro _ _ ⟨⟨A2, C3, l4, s5, o6⟩, hx7, rfl, rfl⟩
    obtain rfl : headB ⟨m, t, (n : Int), fs⟩ = l4 := hx7.symm
    refine AtL.assign (.inl rfl) rfl rfl ?_
    refine AtL.done ?_
    refine At.seq ?_
    refine At.seq ?_
    refine At.region ?_
    refine AtL.move (.inl rfl) rfl rfl ?_
    refine AtL.lenL Tryz.underlying22 (.inl rfl) rfl rfl ?_
    refine AtL.gtr (.inl rfl) rfl rfl rfl ?_
    refine AtL.done ?_
    refine At.cond rfl ?_ ?_
    · intro hc2
      have hc2 : 4096 < ((headB ⟨m, t, (n : Int), fs⟩).length : Int) := of_decide_eq_true hc2
      refine At.seq ?_
      refine At.region ?_
      refine AtL.assign (.inl rfl) rfl rfl ?_
      refine AtL.assign (.inl rfl) rfl rfl ?_
      refine AtL.done ?_
      refine At.nil ?_
      refine At.pick (H' := [] :: H) [0] 3 rfl rfl ?_
      have hw : ¬ writeOk ⟨m, t, (n : Int), fs⟩ = true := by rw [writeOk, hok, decide_eq_false (show ¬ (headB ⟨m, t, (n : Int), fs⟩).length ≤ 4096 by omega)]; simp
      exact At.ret Tryz.func52 rfl rfl (⟨Sl.nil, by rw [writeL, if_neg hw]; rfl, by rw [writeE, if_neg hw]; rfl, rfl⟩)
    · intro hc2
      have hc2 : ¬ (4096 < ((headB ⟨m, t, (n : Int), fs⟩).length : Int)) := of_decide_eq_false hc2
      refine At.skip ?_
      refine At.seq ?_
      refine At.region ?_
      refine AtL.move (.inl rfl) rfl rfl ?_
      refine AtL.assign (.inl rfl) rfl rfl ?_
      refine AtL.assign (.inl rfl) rfl rfl ?_
      refine AtL.done ?_
      refine At.pick (H' := s5 :: H) [0] 2 rfl rfl ?_
      have hw : writeOk ⟨m, t, (n : Int), fs⟩ = true := by rw [writeOk, hok, decide_eq_true (show (headB ⟨m, t, (n : Int), fs⟩).length ≤ 4096 by omega)]; rfl
      exact At.ret Tryz.func52 rfl rfl (⟨⟨A2, C3, headB ⟨m, t, (n : Int), fs⟩, s5, o6⟩, by rw [writeL, if_pos hw], by rw [writeE, if_pos hw]; rfl, rfl⟩)
set_option maxHeartbeats 400000 in
theorem check_ok {w0 : World} {base : Nat} {H : List Seg} {m t : List UInt8} {minor : Int} {A : Option Addr} {C : Nat} {fs : List (List UInt8 × List UInt8)} (h : Rd tyField w0 base H A C fs) (hfl : fs.length ≤ 1000) (htot : m.length + t.length + szF fs ≤ 140737488354000) :
    SCalls Tryz.prog 155 [.agg #[str m, str t, .int .i64 minor, .slice A fs.length C]] w0 base (H) (fun v H' => v = int (writeE ⟨m, t, minor, fs⟩) ∧ H' = H) := by
  refine SCalls.of_walk (n := 11) Tryz.func155 rfl rfl rfl fun cs => ?_
  refine At.seq ?_
  refine At.region ?_
  refine AtL.box (cs := #[str m, str t, .int .i64 minor, .slice A fs.length C]) rfl (.inl rfl) rfl rfl ?_
  intro b1
  refine AtL.assign (.inl rfl) rfl rfl ?_
  refine AtL.done ?_
  refine At.seq ?_
  refine At.region ?_
  refine AtL.loadN (cs := [str m, str t, .int .i64 minor, .slice A fs.length C]) tf_agg47 (.inl rfl) rfl rfl rfl (cellsOwn 0 0 0 rfl rfl rfl) ?_
  refine AtL.call tf_body52 (.inl rfl) rfl rfl (write_ok (m := m) (t := t) (minor := minor) (fs := fs) (Rd.skip 1 h) hfl htot) ?_
  rintro _ _ ⟨⟨A2, C3, l4, s5, o6⟩, hx7, rfl, rfl⟩
  obtain rfl : writeL ⟨m, t, minor, fs⟩ = l4 := hx7.symm
  refine AtL.move (.inl rfl) rfl rfl ?_
  refine AtL.extract (.inl rfl) rfl rfl rfl ?_
  refine AtL.extract (.inl rfl) rfl rfl rfl ?_
  refine AtL.assign (.inl rfl) rfl rfl ?_
  refine AtL.assign (.inl rfl) rfl rfl ?_
  refine AtL.done ?_
  refine At.seq ?_
  refine At.region ?_
  refine AtL.move (.inl rfl) rfl rfl ?_
  refine AtL.assign (.inl rfl) rfl rfl ?_
  refine AtL.done ?_
  refine At.pick (H' := H) [] 2 rfl rfl ?_
  exact At.ret Tryz.func155 rfl rfl (⟨rfl, rfl⟩)
end Go.Proofs.YtlkdmbpbjhjkfaaGreatDoor
namespace Go.Proofs.YtlkdmbpbjhjkfaaGreatDoor
open Go.RowKit (Below)
set_option linter.unusedVariables false
set_option linter.unusedSimpArgs false
theorem Sep.drewN {w0 : World} {base : Nat} {w : World} {H : List Seg} (S : Sep w0 base w H) (n : Nat) : Sep w0 base (w.drewN n) H := S.same rfl rfl rfl rfl
theorem Sep.kept {w0 : World} {base : Nat} {w w' : World} {H : List Seg} (S : Sep w0 base w H) (h : Below w.heap.size w w') : Sep w0 base w' H := by
  refine ⟨⟨h.os.trans S.below.os, h.tape.trans S.below.tape, h.output.trans S.below.output, Nat.le_trans S.below.size h.size, fun k hk => (h.block k (Nat.lt_of_lt_of_le hk S.base_le)).trans (S.below.block k hk)⟩, S.le, fun p hp => ⟨(S.mem p hp).1, (h.block p.1 (S.lt hp)).trans (S.mem p hp).2⟩, S.nodup⟩
section calls
variable {P : Program} {f : FuncId} {args : List Value} {w0 : World} {base : Nat} {H : List Seg}
theorem SCalls.of_draws {v : Value} (h : ∀ w, Sep w0 base w H → Calls P f args.toArray w fun e w' => e = .returned v ∧ ∃ n, w' = w.drewN n) : SCalls P f args w0 base H (fun u H' => u = v ∧ H' = H) :=
  fun w S => (h w S).mono fun e w' ⟨he, n, hw⟩ => ⟨v, H, he, ⟨rfl, rfl⟩, hw ▸ S.drewN n⟩
theorem SCalls.of_same {v : Value} (h : ∀ w, Sep w0 base w H → Calls P f args.toArray w fun e w' => e = .returned v ∧ w' = w) : SCalls P f args w0 base H (fun u H' => u = v ∧ H' = H) :=
  fun w S => (h w S).mono fun e w' ⟨he, hw⟩ => ⟨v, H, he, ⟨rfl, rfl⟩, hw ▸ S⟩
theorem SCalls.of_below {v : Value} (h : ∀ w, Sep w0 base w H → Calls P f args.toArray w fun e w' => e = .returned v ∧ Below w.heap.size w w') : SCalls P f args w0 base H (fun u H' => u = v ∧ H' = H) :=
  fun w S => (h w S).mono fun e w' ⟨he, hw⟩ => ⟨v, H, he, ⟨rfl, rfl⟩, S.kept hw⟩
theorem SCalls.of_alloc {v : Nat → Value} {o : Obj} (h : ∀ w, Sep w0 base w H → Calls P f args.toArray w fun e w' => e = .returned (v w.heap.size) ∧ ∃ n, w' = (w.alloc o).drewN n) : SCalls P f args w0 base H (fun u H' => ∃ b, u = v b ∧ H' = [(b, o)] :: H) :=
  fun w S => (h w S).mono fun e w' ⟨he, n, hw⟩ => ⟨_, _, he, ⟨w.heap.size, rfl, rfl⟩, hw ▸ (S.alloc o).drewN n⟩
theorem Sep.cellBelow {w : World} (S : Sep w0 base w H) {b o : Nat} {v : Value} (hb : b < base) (h : w0.cell? ⟨b, o, none⟩ = some v) : w.cell? ⟨b, o, none⟩ = some v := by
  have h2 := S.below.block b hb
  rw [← h]
  simp only [World.cell?, h2]
end calls
end Go.Proofs.YtlkdmbpbjhjkfaaGreatDoor
namespace Go.Proofs.YtlkdmbpbjhjkfaaGreatDoor
open Go.RowKit (Below)
set_option linter.unusedVariables false
set_option linter.unusedSimpArgs false
section
variable {X : Pt} {k : List Item} {E : Env} {ds : List Deferred} {H : List Seg} {ops : Array Oper} {os : List Oper}
  {d : Nat} {ty : TypeId} {pos : String} {after : Array Edge} {g : Option (Nat × Bool)}
theorem Do.rangeS {t : TypeId} {x : Operand} {l : List UInt8} (hu : X.P.underlying t = some .string) (hx : ev E x = some (str l)) : Does X E H (.range t x) (fun v H' => ∃ b, v = .pointer (some ⟨b, 0, none⟩) ∧ H' = [(b, .stringIter ⟨⟨l⟩⟩ 0)] :: H) :=
  Does.core rfl fun dst ty pos after g ρ w hρ S => ⟨.pointer (some ⟨w.heap.size, 0, none⟩), w.alloc (.stringIter ⟨⟨l⟩⟩ 0), _, by
    simp only [execOp, hρ _ _ hx, Instr.range, str, Sem.run_bind, run_underlying hu, Result.andThen_ok, Sem.run_pure, run_newObj_alloc], S.alloc _, _, rfl, rfl⟩
theorem AtL.rangeS {t : TypeId} {x : Operand} {l : List UInt8} (hu : X.P.underlying t = some .string) (hg : Wd X ops E g) (hd : Nat.blt d X.n = true) (hx : ev E x = some (str l)) (hk : ∀ b, AtL X ops os k ((d, .pointer (some ⟨b, 0, none⟩)) :: E) ds ([(b, .stringIter ⟨⟨l⟩⟩ 0)] :: H)) :
    AtL X ops (⟨some d, .range t x, ty, pos, after, g⟩ :: os) k E ds H := AtL.of (Do.rangeS hu hx) hg hd fun _ _ ⟨b, hv, hH⟩ => by subst hv; subst hH; exact hk b
theorem getObj_at {P : Program} {w : World} {b : Nat} {o : Obj} (h : w.heap[b]? = some o) (hc : isCellsO o = false) : (getObj b).run P w = .ok o w := by
  cases o <;> first | (cases hc; done) | simp [getObj, Sem.run, h]
theorem Do.nextS {x : Operand} {l : List UInt8} {b p i j c n : Nat} {s : Seg} {H' : List Seg} (hx : ev E x = some (.pointer (some ⟨b, 0, none⟩))) (hi : H[i]? = some s) (hj : s[j]? = some (b, .stringIter ⟨⟨l⟩⟩ p)) (hp : Nat.blt p l.length = true)
    (hc : Utf8.decode ⟨⟨l⟩⟩ p = (c, n)) (hH : H.set i (s.set j (b, .stringIter ⟨⟨l⟩⟩ (p + n))) = H') : Does X E H (.next x true) (Is (.tuple #[.bool true, int (p : Int), .int .i32 (c : Int)]) H') :=
  Does.core rfl fun dst ty pos after g ρ w hρ S => by
    have hb := (S.at_ hi hj).1
    have hp' : p < (ByteArray.mk ⟨l⟩).size := blt_lt hp
    refine ⟨_, { w with heap := w.heap.setIfInBounds b (.stringIter ⟨⟨l⟩⟩ (p + n)) }, H', ?_, hH ▸ S.setObj hi hj _, rfl, rfl⟩
    simp only [execOp, hρ _ _ hx, Instr.next, Sem.run_bind, getObj_at hb rfl, Result.andThen_ok, if_pos hp', hc]
    rw [setObj_run hb rfl]
    rfl
theorem AtL.nextS {x : Operand} {l : List UInt8} {b p c n : Nat} {s : Seg} {H' : List Seg} (i j : Nat) (hg : Wd X ops E g) (hd : Nat.blt d X.n = true) (hx : ev E x = some (.pointer (some ⟨b, 0, none⟩))) (hi : H[i]? = some s) (hj : s[j]? = some (b, .stringIter ⟨⟨l⟩⟩ p)) (hp : Nat.blt p l.length = true)
    (hc : Utf8.decode ⟨⟨l⟩⟩ p = (c, n)) (hH : H.set i (s.set j (b, .stringIter ⟨⟨l⟩⟩ (p + n))) = H') (hk : AtL X ops os k ((d, .tuple #[.bool true, int (p : Int), .int .i32 (c : Int)]) :: E) ds H') :
    AtL X ops (⟨some d, .next x true, ty, pos, after, g⟩ :: os) k E ds H := AtL.of (Do.nextS hx hi hj hp hc hH) hg hd fun _ _ ⟨hv, hH⟩ => by subst hv; subst hH; exact hk
theorem Do.nextOver {x : Operand} {l : List UInt8} {b p i j : Nat} {s : Seg} (hx : ev E x = some (.pointer (some ⟨b, 0, none⟩))) (hi : H[i]? = some s) (hj : s[j]? = some (b, .stringIter ⟨⟨l⟩⟩ p)) (hp : Nat.ble l.length p = true) :
    Does X E H (.next x true) (Is (.tuple #[.bool false]) H) :=
  Does.core rfl fun dst ty pos after g ρ w hρ S => by
    have hb := (S.at_ hi hj).1
    have hp' : ¬ p < (ByteArray.mk ⟨l⟩).size := by have := Nat.le_of_ble_eq_true hp; show ¬ p < l.length; omega
    refine ⟨_, w, H, ?_, S, rfl, rfl⟩
    simp only [execOp, hρ _ _ hx, Instr.next, Sem.run_bind, getObj_at hb rfl, Result.andThen_ok, if_neg hp', Sem.run_pure]
theorem AtL.nextOver {x : Operand} {l : List UInt8} {b p : Nat} {s : Seg} (i j : Nat) (hg : Wd X ops E g) (hd : Nat.blt d X.n = true) (hx : ev E x = some (.pointer (some ⟨b, 0, none⟩))) (hi : H[i]? = some s) (hj : s[j]? = some (b, .stringIter ⟨⟨l⟩⟩ p)) (hp : Nat.ble l.length p = true)
    (hk : AtL X ops os k ((d, .tuple #[.bool false]) :: E) ds H) : AtL X ops (⟨some d, .next x true, ty, pos, after, g⟩ :: os) k E ds H := AtL.ofIs (Do.nextOver hx hi hj hp) hg hd hk
def encL (r : Int) : List UInt8 := (Utf8.encode r).data.toList
theorem enc_no (r : Int) : encL r ≠ [13, 10] := by
  unfold encL Utf8.encode
  simp only []
  generalize (if Utf8.valid r then r.toNat else Utf8.runeError) = c
  split
  · intro h; simpa using congrArg List.length h
  · split
    · rename_i h1 h2
      intro h
      simp only [List.cons.injEq] at h
      have := congrArg UInt8.toNat h.1
      rw [UInt8.toNat_ofNat'] at this
      have h3 : (192 + c / 64) % 2 ^ 8 = 192 + c / 64 := Nat.mod_eq_of_lt (by omega)
      rw [h3] at this
      have h4 : (13 : UInt8).toNat = 13 := rfl
      omega
    · split <;> (intro h; simpa using congrArg List.length h)
theorem enc_long {r : Int} (h : 2048 ≤ r) : 3 ≤ (encL r).length ∧ (encL r).length ≤ 4 := by
  unfold encL Utf8.encode
  simp only []
  have hc : 2048 ≤ (if Utf8.valid r then r.toNat else Utf8.runeError) := by
    split
    · omega
    · decide
  revert hc
  generalize (if Utf8.valid r then r.toNat else Utf8.runeError) = c
  intro hc
  rw [if_neg (by omega), if_neg (by omega)]
  split <;> simp
theorem enc3 {r : Int} (h : 2048 ≤ r) (h2 : r ≤ 65535) : (encL r).length = 3 := by
  unfold encL Utf8.encode
  simp only []
  have hc : 2048 ≤ (if Utf8.valid r then r.toNat else Utf8.runeError) ∧ (if Utf8.valid r then r.toNat else Utf8.runeError) < 65536 := by
    split
    · omega
    · decide
  revert hc
  generalize (if Utf8.valid r then r.toNat else Utf8.runeError) = c
  intro hc
  rw [if_neg (by omega), if_neg (by omega), if_pos (by omega)]
  rfl
theorem Do.convRune {src dst : TypeId} {x : Operand} {kk : IntKind} {r : Int} (h1 : X.P.underlying src = some (.int kk)) (h2 : X.P.underlying dst = some .string) (hx : ev E x = some (.int kk r)) : Does X E H (.convert src dst x) (Is (str (encL r)) H) :=
  Does.pureOp rfl fun d ty pos after g ρ w hρ => by
    have e : Value.string (Utf8.encode r) = str (encL r) := rfl
    simp only [execOp, hρ _ _ hx, convert, Sem.run_bind, run_underlying h1, run_underlying h2, Result.andThen_ok]
    simp [Conv.intToString, e]
theorem AtL.convRune {src dst : TypeId} {x : Operand} {kk : IntKind} {r : Int} (h1 : X.P.underlying src = some (.int kk)) (h2 : X.P.underlying dst = some .string) (hg : Wd X ops E g) (hd : Nat.blt d X.n = true) (hx : ev E x = some (.int kk r))
    (hk : AtL X ops os k ((d, str (encL r)) :: E) ds H) : AtL X ops (⟨some d, .convert src dst x, ty, pos, after, g⟩ :: os) k E ds H := AtL.ofIs (Do.convRune h1 h2 hx) hg hd hk
theorem Do.callX {f : FuncId} {xs : Array Operand} {ts : Array TypeId} {args : List Value} {v : Value} (hx : evs E xs.toList = some args) (hr : ∀ w, Sep X.w0 X.base w H → (callFunc f args.toArray).run X.P w = .ok (.value v) w) : Does X E H (.call ⟨.value (.func f), xs, ts⟩) (Is v H) :=
  Does.core rfl fun dst ty pos after g ρ w hρ S => ⟨v, w, H, by
    have hf : ρ (.func f) = .func (.func f) #[] #[] := hρ _ _ rfl
    simp only [execOp, resolve, hf, Deferred.ofValue, evs_arr hρ hx, invoke, Sem.run_bind, Sem.run_pure, Result.andThen_ok]
    simpa using hr w S, S, rfl, rfl⟩
theorem AtL.callX {f : FuncId} {xs : Array Operand} {ts : Array TypeId} {args : List Value} {v : Value} (hr : ∀ w, Sep X.w0 X.base w H → (callFunc f args.toArray).run X.P w = .ok (.value v) w) (hg : Wd X ops E g) (hd : Nat.blt d X.n = true) (hx : evs E xs.toList = some args) 
    (hk : AtL X ops os k ((d, v) :: E) ds H) : AtL X ops (⟨some d, .call ⟨.value (.func f), xs, ts⟩, ty, pos, after, g⟩ :: os) k E ds H := AtL.ofIs (Do.callX hx hr) hg hd hk
theorem AtL.convSl1 {t e : TypeId} {x : Operand} {b n : Nat} {cs : Array Value} {l : List UInt8} (i : Nat) (ht : X.P.underlying t = some (.slice e)) (he : X.P.underlying e = some (.int .u8)) (hi : H[i]? = some [(b, .cells cs e (0, 0))]) (hcs : cs = (tyB.cells l).toArray) (hn : n = l.length) (hle : l.length ≤ 9223372036854775807)
    (hg : Wd X ops E g) (hd : Nat.blt d X.n = true) (hx : ev E x = some (.slice (some ⟨b, 0, none⟩) n n)) 
    (hk : ∀ s, Own tyB e (some ⟨b, 0, none⟩) n l s → AtL X ops os k ((d, .slice (some ⟨b, 0, none⟩) n n) :: E) ds (H.set i s)) : AtL X ops (⟨some d, .convert t t x, ty, pos, after, g⟩ :: os) k E ds H := by
  refine AtL.of (R := fun v H' => v = .slice (some ⟨b, 0, none⟩) n n ∧ H' = H.set i [(b, .cells cs e (cs.size, cs.size + 1))]) (Does.core rfl fun dst ty pos after g ρ w hρ S => ?_) hg hd ?_
  · have hb := (S.at_ hi (j := 0) rfl).1
    have hw := S.write hi (j := 0) rfl (.cells cs e (cs.size, cs.size + 1)) (w' := w.freeze ⟨b, cs.size, none⟩ 1) rfl rfl rfl (by simp [World.freeze]) (by simp only [World.freeze]; rw [if_neg (by omega), Array.getElem?_modify, hb]; simp) (fun k hk => by
      simp only [World.freeze]
      rw [if_neg (by omega)]
      simp [Array.getElem?_modify, Ne.symm hk])
    refine ⟨_, w.freeze ⟨b, cs.size, none⟩ 1, _, ?_, hw, rfl, rfl⟩
    have hsh : w.shape? b = some (e, cs.size) := by simp only [World.shape?, hb]
    simp [execOp, hρ _ _ hx, convert, run_underlying ht, run_underlying he, markStringish, hsh]
  · rintro v H' ⟨rfl, rfl⟩
    refine hk _ ⟨[], by simp [hn], .inr ⟨b, [], [], (cs.size, cs.size + 1), by simp, by rw [hcs]; simp, ?_, by simpa using hle⟩⟩
    intro j hj
    rw [Bool.and_eq_false_iff, decide_eq_false_iff_not]
    left
    rw [hcs]
    simp [Ty.cells_len] at hj ⊢
    omega
theorem Cell.below {w0 : World} {base b o : Nat} {v : Value} (hb : b < base) (h : w0.cell? ⟨b, o, none⟩ = some v) : Cell w0 base H ⟨b, o, none⟩ v := fun w S => S.cellBelow hb h
theorem Cell.tab {w0 : World} {base b j : Nat} {v : Value} (hb : b < base) (h : w0.cell? ⟨b, j, none⟩ = some v) : Cell w0 base H (eaddr (some ⟨b, 0, none⟩) (j * 1)) v := by
  have e : eaddr (some ⟨b, 0, none⟩) (j * 1) = ⟨b, j, none⟩ := by simp [eaddr, addr_add]
  rw [e]
  exact Cell.below hb h
theorem w32i {z : Int} (h1 : -2147483648 ≤ z) (h2 : z ≤ 2147483647) : IntKind.i32.wrap z = z := by
  simp only [IntKind.wrap, IntKind.bits, IntKind.signed]
  simp
  omega
theorem and8 {a b : Int} (k : Nat) (hb : b = 2 ^ k - 1) (h1 : 0 ≤ a) (h2 : a < 256) : IntKind.u8.wrap ((BitVec.ofInt IntKind.u8.bits a &&& BitVec.ofInt IntKind.u8.bits b).toNat : Int) = a % 2 ^ k := by
  subst hb
  obtain ⟨n, rfl⟩ := Int.eq_ofNat_of_zero_le h1
  have h3 : (2 : Int) ^ k - 1 = ((2 ^ k - 1 : Nat) : Int) := by
    have : 0 < (2 : Nat) ^ k := Nat.pow_pos (by omega)
    rw [Int.natCast_sub (by omega)]
    push_cast
    rfl
  rw [h3]
  show IntKind.u8.wrap ((BitVec.ofInt 8 _ &&& BitVec.ofInt 8 _).toNat : Int) = _
  rw [BitVec.toNat_and, BitVec.toNat_ofInt, BitVec.toNat_ofInt]
  have h4 : (((n : Int) % (2 ^ 8 : Nat)).toNat) = n := by
    rw [Int.emod_eq_of_lt (by omega) (by omega)]; omega
  have h5 : ((((2 ^ k - 1 : Nat) : Int) % (2 ^ 8 : Nat)).toNat) = (2 ^ k - 1) % 2 ^ 8 := by omega
  rw [h4, h5]
  have h6 : n &&& (2 ^ k - 1) % 2 ^ 8 = n % 2 ^ k := by
    rw [← Nat.and_two_pow_sub_one_eq_mod n k]
    apply Nat.eq_of_testBit_eq
    intro i
    simp only [Nat.testBit_and, Nat.testBit_mod_two_pow, Nat.testBit_two_pow_sub_one]
    by_cases hi : i < 8
    · simp [hi]
    · have : n.testBit i = false := Nat.testBit_lt_two_pow (Nat.lt_of_lt_of_le (show n < 2 ^ 8 by omega) (Nat.pow_le_pow_right (by omega) (by omega)))
      simp [this]
  rw [h6]
  have h7 : n % 2 ^ k ≤ n := Nat.mod_le _ _
  rw [w8 (by omega) (by omega)]
  push_cast
  rfl
theorem or32 {a b : Int} (k : Nat) (hk : k ≤ 31) (h1 : 0 ≤ a) (h2 : a < 2 ^ k) (h3 : 0 ≤ b) (h4 : b < 2 ^ k) : ∃ z : Int, IntKind.i32.wrap ((BitVec.ofInt IntKind.i32.bits a ||| BitVec.ofInt IntKind.i32.bits b).toNat : Int) = z ∧ a ≤ z ∧ b ≤ z ∧ z < 2 ^ k := by
  have hk2 : (2 : Nat) ^ k ≤ 2 ^ 31 := Nat.pow_le_pow_right (by omega) hk
  obtain ⟨n, rfl⟩ := Int.eq_ofNat_of_zero_le h1
  obtain ⟨m, rfl⟩ := Int.eq_ofNat_of_zero_le h3
  have e : (BitVec.ofInt IntKind.i32.bits (n : Int) ||| BitVec.ofInt IntKind.i32.bits (m : Int)).toNat = n ||| m := by
    show (BitVec.ofInt 32 _ ||| BitVec.ofInt 32 _).toNat = _
    have h2' : n < 2 ^ k := by exact_mod_cast h2
    have h4' : m < 2 ^ k := by exact_mod_cast h4
    rw [BitVec.toNat_or, BitVec.toNat_ofInt, BitVec.toNat_ofInt]
    congr 1 <;> omega
  rw [e]
  have h5' : n ||| m < 2 ^ k := Nat.or_lt_two_pow (by exact_mod_cast h2) (by exact_mod_cast h4)
  have h5 : n ||| m < 2 ^ 31 := by omega
  have h6 : n ≤ n ||| m := Nat.left_le_or
  have h7 : m ≤ n ||| m := Nat.right_le_or
  exact ⟨((n ||| m : Nat) : Int), w32i (by omega) (by omega), by omega, by omega, by exact_mod_cast h5'⟩
theorem shl_eq32 (a b : Int) (c : Nat) (hb : b = (c : Int)) (hc : c ≤ 31) (d : Int) (hd : (2 : Int) ^ c = d) (h1 : -2147483648 ≤ a * d) (h2 : a * d ≤ 2147483647) : IntKind.i32.wrap (a * 2 ^ (min b.toNat IntKind.i32.bits)) = a * d := by
  subst hb
  rw [show min ((c : Int).toNat) IntKind.i32.bits = c from by simp [IntKind.bits]; omega, hd]
  exact w32i h1 h2
theorem Do.bandnot {kk : IntKind} {tx tz : TypeId} {x y : Operand} {a b z : Int} (hx : ev E x = some (.int kk a)) (hy : ev E y = some (.int kk b)) (hz : kk.wrap ((BitVec.ofInt kk.bits a &&& ~~~ BitVec.ofInt kk.bits b).toNat : Int) = z) : Does X E H (.binOp .andNot tx x y tz) (Is (.int kk z) H) :=
  Do.bin hx hy (fun w => by rw [← hz]; simp [eqGuard, binOp, Op.intBits])
theorem AtL.bandnot {kk : IntKind} {tx tz : TypeId} {x y : Operand} {a b z : Int} (hg : Wd X ops E g) (hd : Nat.blt d X.n = true) (hx : ev E x = some (.int kk a)) (hy : ev E y = some (.int kk b)) (hz : kk.wrap ((BitVec.ofInt kk.bits a &&& ~~~ BitVec.ofInt kk.bits b).toNat : Int) = z) (hk : AtL X ops os k ((d, .int kk z) :: E) ds H) :
    AtL X ops (⟨some d, .binOp .andNot tx x y tz, ty, pos, after, g⟩ :: os) k E ds H :=
  AtL.ofIs (Do.bandnot hx hy hz) hg hd hk
theorem andnot_ones (a : Int) : IntKind.i32.wrap ((BitVec.ofInt IntKind.i32.bits a &&& ~~~ BitVec.ofInt IntKind.i32.bits (-1)).toNat : Int) = 0 := by
  have : (~~~ BitVec.ofInt IntKind.i32.bits (-1)) = 0#IntKind.i32.bits := by decide
  rw [this]
  simp
  rfl
end
end Go.Proofs.YtlkdmbpbjhjkfaaGreatDoor
namespace Go.Proofs.YtlkdmbpbjhjkfaaGreatDoor
set_option linter.unusedVariables false
set_option linter.unusedSimpArgs false
set_option maxRecDepth 100000
structure Tabs (w0 : World) (base : Nat) : Prop where
  lt : 4 < base
  lt2 : 5 < base
  first : ∀ c, c < 256 → w0.cell? ⟨4, c, none⟩ = some (.int .u8 (Lib.firstT c))
  lt0 : 0 < base
  max : ∃ m : Int, w0.cell? ⟨0, 0, none⟩ = some (int m)
  acc : ∀ i, i < 16 → w0.cell? ⟨5, 2 * i, none⟩ = some (.int .u8 (Lib.accLo i)) ∧ w0.cell? ⟨5, 2 * i + 1, none⟩ = some (.int .u8 (Lib.accHi i))
theorem Tabs.two {w0 : World} {base : Nat} {H : List Seg} (T : Tabs w0 base) (i : Nat) (hi : i < 16) {lo hi' : Int} (h1 : (Lib.accLo i : Int) = lo) (h2 : (Lib.accHi i : Int) = hi') : ∀ j v, ([.int .u8 lo, .int .u8 hi'] : List Value)[j]? = some v → Cell w0 base H ((eaddr (some ⟨5, 0, none⟩) (i * 2)).add j) v := by
  intro j v hj
  obtain ⟨a1, a2⟩ := T.acc i hi
  have e : eaddr (some ⟨5, 0, none⟩) (i * 2) = ⟨5, 2 * i, none⟩ := by simp [eaddr, addr_add]; omega
  rw [e, addr_add]
  match j, hj with
  | 0, hj => cases hj; rw [← h1]; exact Cell.below T.lt2 a1
  | 1, hj => cases hj; rw [← h2]; exact Cell.below T.lt2 a2
theorem Tabs.one {w0 : World} {base : Nat} {H : List Seg} (T : Tabs w0 base) (u : UInt8) {x : Int} (h : (Lib.firstT u.toNat : Int) = x) : Cell w0 base H (eaddr (some ⟨4, 0, none⟩) (u.toNat * 1)) (.int .u8 x) := by
  rw [← h]
  exact Cell.tab T.lt (T.first _ u.toNat_lt)
def decOk (l : List UInt8) (r : Int) (n : Nat) : Prop := 1 ≤ n ∧ n ≤ l.length ∧ (∀ i, 1 ≤ i → i < n → 128 ≤ (l.getD i 0).toNat) ∧ (r = 65533 ∨ n = 2 ∨ (n = 3 ∧ 2048 ≤ r ∧ r ≤ 65535) ∨ (n = 4 ∧ 2048 ≤ r ∧ r ≤ 2147483647))
end Go.Proofs.YtlkdmbpbjhjkfaaGreatDoor
namespace Go.Proofs.YtlkdmbpbjhjkfaaGreatDoor
open Go.RowKit (Below)
set_option linter.unusedVariables false
set_option linter.unusedSimpArgs false
section
variable {X : Pt} {k : List Item} {E : Env} {ds : List Deferred} {H : List Seg}
end
theorem Do.own1 {X : Pt} {E : Env} {H : List Seg} {op : Op} {α : Type} (T : Ty α) {e n : Nat} {l : List α} {cs : Array Value} (hd : Does X E H op (fun v H' => ∃ b, v = .slice (some ⟨b, 0, none⟩) n n ∧ H' = [(b, .cells cs e (0, 0))] :: H)) (hcs : cs = (T.cells l).toArray) (hn : n = l.length) (hle : l.length ≤ 9223372036854775807) :
    Does X E H op (fun v H' => ∃ b s, Own T e (some ⟨b, 0, none⟩) n l s ∧ v = .slice (some ⟨b, 0, none⟩) n n ∧ H' = s :: H) := by
  refine hd.mono ?_
  rintro v H' ⟨b, rfl, rfl⟩
  obtain ⟨s, hs, ho⟩ := own_new T e b l n _ rfl hn hle
  exact ⟨b, s, ho, rfl, by rw [hs, hcs]⟩
section fields
variable {X : Pt} {k : List Item} {E : Env} {ds : List Deferred} {H : List Seg} {ops : Array Oper} {os : List Oper}
  {d : Nat} {ty : TypeId} {pos : String} {after : Array Edge} {g : Option (Nat × Bool)}
end fields
end Go.Proofs.YtlkdmbpbjhjkfaaGreatDoor
namespace Go.Proofs.YtlkdmbpbjhjkfaaGreatDoor
open Go.RowKit (Below)
set_option linter.unusedVariables false
set_option linter.unusedSimpArgs false
set_option linter.unusedSectionVars false
section
variable {X : Pt} {k : List Item} {E : Env} {ds : List Deferred} {H : List Seg} {ops : Array Oper} {os : List Oper}
  {d : Nat} {ty : TypeId} {pos : String} {after : Array Edge} {g : Option (Nat × Bool)}
theorem shape_row {w : World} {b : Nat} {cs : Array Value} {e : TypeId} {fr : Nat × Nat} (h : w.heap[b]? = some (.cells cs e fr)) : w.shape? b = some (e, cs.size) := by simp [World.shape?, h]
theorem Do.toUnsafe {src dst t e n : TypeId} {x : Operand} {b o : Nat} {cs : Array Value} {fr : Nat × Nat} {s : Seg} (i j : Nat) (hs : X.P.underlying src = some (.pointer t)) (hd : X.P.underlying dst = some .unsafePointer) (hn : sizeN X.P t n = true) (h0 : n ≠ 0) (hi : H[i]? = some s) (hj : s[j]? = some (b, .cells cs e fr)) (ho : o < cs.size) (hx : ev E x = some (.pointer (some ⟨b, o, none⟩))) : Does X E H (.convert src dst x) (Is (.pointer (some ⟨b, o, none⟩)) H) :=
  Does.core rfl fun dst ty pos after g ρ w hρ S => ⟨_, w, H, by
    obtain ⟨jt, hj1, hj2⟩ : ∃ jt, X.P.info? t = some jt ∧ jt.size = n := by
      unfold sizeN at hn
      cases hq : X.P.info? t with
      | none => rw [hq] at hn; cases hn
      | some jt => rw [hq] at hn; exact ⟨jt, rfl, Nat.eq_of_beq_eq_true hn⟩
    have := Lib.run_to_unsafe (P := X.P) w ⟨b, o, none⟩ hs hd hj1 (by rw [hj2]; exact h0) (shape_row (S.at_ hi hj).1) ho
    simp [execOp, hρ _ _ hx, this], S, rfl, rfl⟩
theorem AtL.toUnsafe {src dst t e n : TypeId} {x : Operand} {b o : Nat} {cs : Array Value} {fr : Nat × Nat} {s : Seg} (i j : Nat) (hs : X.P.underlying src = some (.pointer t)) (hd : X.P.underlying dst = some .unsafePointer) (hn : sizeN X.P t n = true) (h0 : n ≠ 0) (hg : Wd X ops E g) (hd2 : Nat.blt d X.n = true) (hi : H[i]? = some s) (hj : s[j]? = some (b, .cells cs e fr)) (ho : o < cs.size) (hx : ev E x = some (.pointer (some ⟨b, o, none⟩)))
    (hk : AtL X ops os k ((d, .pointer (some ⟨b, o, none⟩)) :: E) ds H) : AtL X ops (⟨some d, .convert src dst x, ty, pos, after, g⟩ :: os) k E ds H := AtL.ofIs (Do.toUnsafe i j hs hd hn h0 hi hj ho hx) hg hd2 hk
theorem AtL.fromUnsafe {src dst u e n : TypeId} {x : Operand} {b o : Nat} {cs : Array Value} {fr : Nat × Nat} {s : Seg} (i j : Nat) (hs : X.P.underlying src = some .unsafePointer) (hd : X.P.underlying dst = some (.pointer u)) (hn : sizeN X.P u n = true) (hg : Wd X ops E g) (hd2 : Nat.blt d X.n = true) (hi : H[i]? = some s) (hj : s[j]? = some (b, .cells cs e fr)) (hl : liesAt X.P X.P.depth e (cs.size / X.P.cellsOf e) o u 1 = true) (hx : ev E x = some (.pointer (some ⟨b, o, none⟩)))
    (hk : AtL X ops os k ((d, .pointer (some ⟨b, o, none⟩)) :: E) ds H) : AtL X ops (⟨some d, .convert src dst x, ty, pos, after, g⟩ :: os) k E ds H :=
  AtL.ofIs (Does.core rfl fun dst ty pos after g ρ w hρ S => ⟨_, w, H, by
    obtain ⟨jt, hj1, hj2⟩ : ∃ jt, X.P.info? u = some jt ∧ jt.size = n := by
      unfold sizeN at hn
      cases hq : X.P.info? u with
      | none => rw [hq] at hn; cases hn
      | some jt => rw [hq] at hn; exact ⟨jt, rfl, Nat.eq_of_beq_eq_true hn⟩
    have := Lib.run_from_unsafe (P := X.P) w ⟨b, o, none⟩ hs hd hj1 (shape_row (S.at_ hi hj).1) hl
    simp [execOp, hρ _ _ hx, this], S, rfl, rfl⟩) hg hd2 hk
theorem eqIn_same {P : Program} {w : World} {q t e n : Nat} {p : Addr} (hu : P.underlying t = some (.pointer e)) (hn : sizeN P e n = true) (h0 : n ≠ 0) : (Op.equalIn (q + 1) t (.pointer (some p)) (.pointer (some p))).run P w = .ok true w := by
  simp [Op.equalIn, run_underlying hu, sizeN_run hn, h0, sameAddr]
theorem Do.nePtrSame {tx tz e n : TypeId} {x y : Operand} {p : Addr} (hu : X.P.underlying tx = some (.pointer e)) (hn : sizeN X.P e n = true) (h0 : n ≠ 0) (hx : ev E x = some (.pointer (some p))) (hy : ev E y = some (.pointer (some p))) : Does X E H (.binOp .neq tx x y tz) (Is (.bool false) H) :=
  Do.neBy rfl rfl hx hy (fun w => eqIn_same hu hn h0)
theorem AtL.nePtrSame {tx tz e n : TypeId} {x y : Operand} {p : Addr} (hu : X.P.underlying tx = some (.pointer e)) (hn : sizeN X.P e n = true) (h0 : n ≠ 0) (hg : Wd X ops E g) (hd : Nat.blt d X.n = true) (hx : ev E x = some (.pointer (some p))) (hy : ev E y = some (.pointer (some p))) (hk : AtL X ops os k ((d, .bool false) :: E) ds H) :
    AtL X ops (⟨some d, .binOp .neq tx x y tz, ty, pos, after, g⟩ :: os) k E ds H := AtL.ofIs (Do.nePtrSame hu hn h0 hx hy) hg hd hk
theorem Do.sliceData {x : Operand} {t : TypeId} {a : Addr} {n C : Nat} (hC : C ≠ 0) (hx : ev E x = some (.slice (some a) n C)) : Does X E H (.call ⟨.builtin .unsafeSliceData, #[x], #[t]⟩) (Is (.pointer (some a)) H) :=
  Does.core rfl fun dst ty pos after g ρ w hρ S => ⟨_, w, H, by
    have := Lib.run_unsafeSliceData_row (P := X.P) w #[t] ty a n C hC
    simp [execOp, resolve, invoke, builtin, hρ _ _ hx, this], S, rfl, rfl⟩
theorem liesAt_bytes {P : Program} {e : TypeId} (hc : P.cellsOf e = 1) (count off n : Nat) (hn : off + n ≤ count) : liesAt P P.depth e count off e n = true := by
  have hd : P.depth = (2 * (P.types.size + Made.depth) + 1) + 1 := rfl
  rw [hd]
  simp only [liesAt, Bool.or_eq_true]
  left
  rw [hd]
  simp [rowAt, hc, hn, sameLayout, Nat.mod_one]
theorem run_unsafeStr {P : Program} {w : World} (pt it ty e : TypeId) (hp : P.underlying pt = some (.pointer e)) (hc : P.cellsOf e = 1) (g o cells : Nat) (hsh : w.shape? g = some (e, cells)) (l : List UInt8) (h0 : l ≠ []) (hn : o + l.length ≤ cells) (h63 : l.length ≤ 9223372036854775807)
    (hcell : ∀ j x, l[j]? = some x → w.cell? ((⟨g, o, none⟩ : Addr).add j) = some (.int .u8 x.toNat)) :
    (Builtin.unsafeString_ #[pt, it] ty #[.pointer (some ⟨g, o, none⟩), .int .i64 l.length]).run P w = .ok (str l) (w.freeze ⟨g, o, none⟩ l.length) := by
  have hl : l.length ≠ 0 := by simpa using h0
  have hlb := Lib.run_loadBytes (P := P) w l ⟨g, o, none⟩ .empty hcell
  have hlies := liesAt_bytes (P := P) hc (cells / P.cellsOf e) o l.length (by rw [hc]; simpa using hn)
  have h63' : ¬ (9223372036854775807 : Int) < (l.length : Int) := by omega
  have hdef : Builtin.unsafeString_ #[pt, it] ty #[.pointer (some ⟨g, o, none⟩), .int .i64 l.length] =
      (do
        let n ← asInt (.int .i64 l.length)
        if n < 0 then runtimePanic (.error "unsafe.String: len out of range")
        if n > IntKind.i64.max then unsupported (.unsafePointer "String: a length above the largest int")
        if n = 0 then pure (.string .empty)
        else if ← variablesAt ⟨g, o, none⟩ (← elemOf pt) n.toNat then do
          let s ← loadBytes ⟨g, o, none⟩ .empty n.toNat
          freeze ⟨g, o, none⟩ n.toNat
          pure (.string s)
        else unsupported (.unsafePointer "String: not so many bytes at ptr")) := rfl
  rw [hdef]
  have hmax : IntKind.i64.max = 9223372036854775807 := rfl
  have hneg : ¬ (l.length : Int) < 0 := by omega
  simp [asInt, asIntOf, hmax, h63', hneg, hl, variablesAt, hsh, elemOf, run_underlying hp, hlies, hlb, str]
theorem Do.unsafeStr {pt it e : TypeId} {x y : Operand} {a : Addr} {C : Nat} {l : List UInt8} {s : Seg} (i : Nat) (hp : X.P.underlying pt = some (.pointer e)) (hc : X.P.cellsOf e = 1) (hi : H[i]? = some s) (ho : Own tyB e (some a) C l s) (h0 : l ≠ []) (hx : ev E x = some (.pointer (some a))) (hy : ev E y = some (.int .i64 (l.length : Int))) :
    Does X E H (.call ⟨.builtin .unsafeString, #[x, y], #[pt, it]⟩) (fun v H' => ∃ s', v = str l ∧ H' = H.set i s') :=
  Does.core rfl fun dst ty pos after g ρ w hρ S => by
    have hle := ho.le_cap
    have hcap := ho.cap_le
    have hrd : Rd tyB X.w0 X.base H (some a) C l := ho.rd hi
    obtain ⟨r, rfl, h⟩ := ho
    rcases h with ⟨h, _⟩ | ⟨gb, pre, post, fr, h, rfl, hfo, hcc⟩
    · cases h
    · cases h
      have hblk := (S.at_ hi (j := 0) rfl).1
      have hlen : pre.length * tyB.sz + l.length ≤ (tyB.cells (pre ++ l ++ r ++ post)).toArray.size := by

        rw [List.size_toArray, Ty.cells_len]
        simp only [List.length_append]
        show pre.length * 1 + l.length ≤ (pre.length + l.length + r.length + post.length) * 1
        omega
      have hrun := run_unsafeStr (P := X.P) (w := w) pt it ty e hp hc gb (pre.length * tyB.sz) _ (shape_row hblk) l h0 hlen (by omega) (fun j x hx => by
        obtain ⟨b', off', hA, hcell⟩ := hrd.cells h0
        cases hA
        rw [addr_add]
        exact hcell w S j _ (by rw [tyB_cells]; simp [hx, byt]))
      have hl0 : l.length ≠ 0 := by simpa using h0
      refine ⟨_, w.freeze ⟨gb, pre.length * tyB.sz, none⟩ l.length, H.set i [(gb, .cells (tyB.cells (pre ++ l ++ r ++ post)).toArray e (if fr.1 == fr.2 then (pre.length * tyB.sz, pre.length * tyB.sz + l.length) else (min fr.1 (pre.length * tyB.sz), max fr.2 (pre.length * tyB.sz + l.length))))], ?_, ?_, [(gb, .cells (tyB.cells (pre ++ l ++ r ++ post)).toArray e (if fr.1 == fr.2 then (pre.length * tyB.sz, pre.length * tyB.sz + l.length) else (min fr.1 (pre.length * tyB.sz), max fr.2 (pre.length * tyB.sz + l.length))))], rfl, rfl⟩
      · simp [execOp, resolve, invoke, builtin, hρ _ _ hx, hρ _ _ hy, hrun]
      · have hlt := (Array.getElem?_eq_some_iff.1 hblk).1
        refine S.write (j := 0) hi rfl _ ?_ ?_ ?_ ?_ ?_ ?_
        · simp [World.freeze, hl0]
        · simp [World.freeze, hl0]
        · simp [World.freeze, hl0]
        · simp [World.freeze, hl0]
        · simp only [World.freeze, hl0, if_false, Array.getElem?_modify, if_true]
          rw [hblk]
          obtain ⟨f1, f2⟩ := fr
          rfl
        · intro q hq
          simp only [World.freeze, hl0, if_false, Array.getElem?_modify]
          rw [if_neg (fun h => hq h.symm)]
end
end Go.Proofs.YtlkdmbpbjhjkfaaGreatDoor
namespace Go.Proofs.YtlkdmbpbjhjkfaaGreatDoor
open Go.RowKit (Below)
set_option linter.unusedVariables false
set_option linter.unusedSimpArgs false
def waitsM (os : List Oper) (val : Env) (fs : List Nat) : Bool := os.zipIdx.all fun (o, i) => isKnown val i || (fs.any fun e => Nat.beq i e) || (depsL o).any fun j => !isKnown val j
def AllM : List Nat → (Nat → Prop) → Prop
  | [], _ => True
  | e :: es, p => p e ∧ AllM es p
theorem AllM.get {p : Nat → Prop} : ∀ {fs : List Nat}, AllM fs p → ∀ e ∈ fs, p e
  | _ :: _, h, e, he => by
    rcases List.mem_cons.1 he with rfl | he
    · exact h.1
    · exact AllM.get h.2 e he
def PhM (X : Pt) (os : List Oper) (k : List Item) (E0 : Env) (ds : List Deferred) : Nat → List Nat → Env → Env → List Seg → Prop
  | 0, _, pv, xv, H => PureL X os E0 (pv ++ xv) xv H pv ∧ (os.zipIdx.all fun (_, i) => isKnown (pv ++ xv) i) = true ∧ At X k (finE os 0 (pv ++ xv) E0) ds H
  | n + 1, fs, pv, xv, H => PureL X os E0 (pv ++ xv) xv H pv ∧ fs ≠ [] ∧ (fs.all fun x => !isKnown (pv ++ xv) x) = true ∧ waitsM os (pv ++ xv) fs = true ∧
    AllM fs fun e => ∃ o, os[e]? = some o ∧ dstOk X.n o.dst = true ∧ wantsB os (pre os E0 (pv ++ xv) e) o.guard true ∧ ∃ R, Does X (pre os E0 (pv ++ xv) e) H o.op R ∧
      ∀ v H', R v H' → ∃ pv' fs', (pv'.all fun p => !isKnown (pv ++ xv) p.1 && !Nat.beq p.1 e) = true ∧ PhM X os k E0 ds n fs' (pv' ++ pv) ((e, v) :: xv) H'
section
variable {X : Pt} {k : List Item} {E0 : Env} {ds : List Deferred} {ops : Array Oper}
theorem draw_goM (hok : okTmps ops.toList = true) (hdl : okDeps ops.toList = true) (hrd : (ops.toList.all fun o => (readsOf ops.toList o).all fun t => Nat.blt t X.n) = true) :
    ∀ (fuel t : Nat) (l : Array Bool) (n : Nat) (fs : List Nat) (pv xv : Env) (H : List Seg) (a : Array Value) (w : World), l.size = ops.size → (∀ i o, ops.toList[i]? = some o → Dn l i → ∀ j ∈ depsL o, Dn l j) →
      (∀ i o, ops.toList[i]? = some o → Dn l i → isKnown (pv ++ xv) i = true) → (∀ p ∈ xv, Dn l p.1) →
      (ops.size ≤ fuel + ((List.range ops.size).filter fun i => l.getD i false).length) → PhM X ops.toList k E0 ds n fs pv xv H → AgD X.n ops.toList E0 (pv ++ xv) (Dn l) a → Sep X.w0 X.base w H →
      Ev X.P (lone (X.c.fr a ds (.inRegion ops (Region.linearise.go .any ops fuel t l []) :: k)) X.cs w) X.G := by
  intro fuel
  induction fuel with
  | zero =>
    intro t l n fs pv xv H a w hs hcl hkn hxv hf hp ha S
    have hall : ∀ i o, ops.toList[i]? = some o → Dn l i := by
      intro i o ho
      have hlt : i < ops.size := by have := (List.getElem?_eq_some_iff.1 ho).1; simpa using this
      have hle : ((List.range ops.size).filter fun i => l.getD i false).length ≤ ops.size := by
        have := List.length_filter_le (fun i => l.getD i false) (List.range ops.size)
        simpa using this
      have heq : ((List.range ops.size).filter fun i => l.getD i false).length = (List.range ops.size).length := by rw [List.length_range]; omega
      have := List.length_filter_eq_length_iff.1 heq i (List.mem_range.2 hlt)
      exact this
    cases n with
    | succ n =>
      obtain ⟨_, hne, hun, _, hall2⟩ := hp
      cases fs with
      | nil => exact absurd rfl hne
      | cons e es =>
        obtain ⟨o, ho, _⟩ := hall2.1
        have h1 := hkn e o ho (hall e o ho)
        have h2 := List.all_eq_true.1 hun e (by simp)
        rw [h1] at h2; cases h2
    | zero =>
      obtain ⟨_, hkn2, hat⟩ := hp
      simp only [Region.linearise.go, List.reverse_nil]
      refine .step go_region_end (hat a w (ha.fin hall (fun i o ho => ?_)) S)
      exact hkn i o ho (hall i o ho)
  | succ fuel ih =>
    intro t l n fs pv xv H a w hs hcl hkn hxv hf hp ha S
    simp only [Region.linearise.go]
    split
    · rename_i i hi
      rw [linearise_go_acc]
      simp only [List.reverse_cons, List.reverse_nil, List.nil_append, List.singleton_append]
      have hmem : i ∈ Region.ready .any ops l := List.mem_iff_getElem?.2 ⟨_, hi⟩
      obtain ⟨o, ho, hnl, hdeps⟩ := ready_mem hmem
      have hnd := not_dn hnl
      have hoL : ops.toList[i]? = some o := by rw [Array.getElem?_toList]; exact ho
      have hlt : i < ops.size := (Array.getElem?_eq_some_iff.1 ho).1
      have hAg := ha.pre hok hdl hcl hoL hnd hdeps
      have hprelt : ∀ t v, Env.get (pre ops.toList E0 (pv ++ xv) i) t = some v → t < X.n := by
        have h1 := List.all_eq_true.1 hrd o (List.mem_iff_getElem?.2 ⟨i, hoL⟩)
        have key : ∀ ts : List Nat, (∀ t ∈ ts, t < X.n) → ∀ t v, Env.get (preL ops.toList E0 (pv ++ xv) i ts) t = some v → t < X.n := by
          intro ts
          induction ts with
          | nil => intro _ t v hv; simp [preL, Env.get] at hv
          | cons t0 ts ih =>
            intro hts t v hv
            simp only [preL] at hv
            split at hv
            · simp only [Env.get] at hv
              by_cases e : t0 = t
              · subst e; exact hts t0 (by simp)
              · rw [beq_no e] at hv
                exact ih (fun t ht => hts t (by simp [ht])) t v hv
            · exact ih (fun t ht => hts t (by simp [ht])) t v hv
        intro t v hv
        unfold pre at hv
        rw [hoL] at hv
        exact key _ (fun t ht => blt_lt (List.all_eq_true.1 h1 t ht)) t v hv
      -- what is the same in each case behind the operation
      have after : ∀ (n' : Nat) (fs' : List Nat) (pv' xv' : Env) (H' : List Seg) (v : Value) (w' : World), PhM X ops.toList k E0 ds n' fs' pv' xv' H' → Sep X.w0 X.base w' H' → dstOk X.n o.dst = true → Env.get (pv' ++ xv') i = some v →
          (∀ j, isKnown (pv ++ xv) j = true → Env.get (pv' ++ xv') j = Env.get (pv ++ xv) j) → (∀ p ∈ xv', Dn l p.1 ∨ p.1 = i) →
          Ev X.P (lone (X.c.fr (putA a o.dst v) ds (.inRegion ops (Region.linearise.go .any ops fuel (t / (Region.ready .any ops l).length) (l.setIfInBounds i true) []) :: k)) X.cs w') X.G := by
        intro n' fs' pv' xv' H' v w' hp' S' hd hv hsame hxv'
        have hds := dn_set (l := l) (i := i) (by omega)
        have hAgD : AgD X.n ops.toList E0 (pv' ++ xv') (Dn l) a := by
          refine ⟨ha.size, fun j p t u hDj hp hpd hlast hu => ?_, ha.old⟩
          refine ha.done j p t u hDj hp hpd hlast ?_
          rw [← hsame j (hkn j p hp hDj)]
          exact hu
        have hst := hAgD.step hok hdl hcl hoL hnd hd hv
        refine ih _ _ n' fs' pv' xv' H' _ w' (by simpa using hs) ?_ ?_ ?_ ?_ hp' ?_ S'
        · intro j p hj hDj m hm
          rw [hds] at hDj ⊢
          rcases hDj with hDj | rfl
          · exact .inl (hcl j p hj hDj m hm)
          · rw [hoL] at hj; cases hj
            exact .inl (hdeps m hm)
        · intro j p hj hDj
          rw [hds] at hDj
          rcases hDj with hDj | rfl
          · have := hkn j p hj hDj
            unfold isKnown at this ⊢
            rw [hsame j this]; exact this
          · unfold isKnown; rw [hv]; rfl
        · intro p hp
          rw [hds]; exact hxv' p hp
        · have hcount : ((List.range ops.size).filter fun j => (l.setIfInBounds i true).getD j false).length = ((List.range ops.size).filter fun j => l.getD j false).length + 1 := by
            have hp : ∀ j, (l.setIfInBounds i true).getD j false = (l.getD j false || Nat.beq j i) := by
              intro j
              have : (l.setIfInBounds i true).getD j false = true ↔ l.getD j false = true ∨ j = i := hds j
              rw [Bool.eq_iff_iff, Bool.or_eq_true, this]
              constructor
              · rintro (h | h)
                · exact .inl h
                · exact .inr (by subst h; simp)
              · rintro (h | h)
                · exact .inl h
                · exact .inr (Nat.eq_of_beq_eq_true h)
            have hif : l.getD i false = false := by
              cases hb : l.getD i false with
              | false => rfl
              | true => exact absurd hb hnd
            have hset : (List.range ops.size).filter (fun j => (l.setIfInBounds i true).getD j false) = (List.range ops.size).filter fun j => ((fun j => l.getD j false) j || Nat.beq j i) := List.filter_congr fun j _ => hp j
            rw [hset]
            exact count_more _ i hif _ List.nodup_range (List.mem_range.2 hlt)
          omega
        · refine ⟨hst.size, ?_, ?_⟩
          · intro j p t u hDj hp hpd hlast hu
            exact hst.done j p t u ((hds j).1 hDj) hp hpd (fun m hm hDm q hq => hlast m hm ((hds m).2 hDm) q hq) hu
          · intro t u hno hu
            exact hst.old t u (fun m hDm p hp => hno m ((hds m).2 hDm) p hp) hu
      -- an operation whose value is known in this phase
      have pureCase : ∀ v, Env.get pv i = some v → PureL X ops.toList E0 (pv ++ xv) xv H pv →
          Ev X.P (lone (X.c.fr a ds (.inRegion ops (i :: Region.linearise.go .any ops fuel (t / (Region.ready .any ops l).length) (l.setIfInBounds i true) []) :: k)) X.cs w) X.G := by
        intro v hv hpl
        have hone : PureOne X ops.toList E0 (pv ++ xv) H i v := by
          rcases hpl.get hv with h | h
          · obtain ⟨p, hp1, hp2⟩ := List.any_eq_true.1 h
            have hDp := hxv p hp1
            cases hop : ops.toList[p.1]? with
            | none =>
              exfalso
              have hlen : (masks ops.toList []).length = ops.toList.length := by have := masks_len ops.toList []; simpa using this
              have hnone : (masks ops.toList []).getD p.1 0 = 0 := by
                rw [List.getElem?_eq_none_iff] at hop
                simp [List.getD, List.getElem?_eq_none (show (masks ops.toList []).length ≤ p.1 by omega)]
              unfold befB at hp2
              rw [hnone] at hp2
              simp at hp2
            | some q => exact absurd (bef_done hcl hdl p.1 q hop (hcl p.1 q hop hDp) i hp2) hnd
          · exact h
        obtain ⟨o', ho', hd, hor⟩ := hone
        rw [hoL] at ho'; cases ho'
        have hget : Env.get (pv ++ xv) i = some v := by rw [get_app, hv]
        have hcont := fun (w' : World) (S' : Sep X.w0 X.base w' H) => after n fs pv xv H v w' hp S' hd hget (fun j _ => rfl) (fun p hp => .inl (hxv p hp))
        rcases hor with ⟨hw, hdo⟩ | ⟨hw, rfl⟩
        · obtain ⟨v', H', w', ⟨rfl, rfl⟩, S', hst⟩ := hdo o.dst o.type o.pos o.after o.guard ops i _ k ds a w ho (wants_true hAg hprelt hw) (fun x u hx => hAg.ev hx) S
          exact .steps hst (hcont w' S')
        · exact .step (go_op_skip ho (wants_false hAg hprelt hw)) (hcont w S)
      cases n with
      | zero =>
        obtain ⟨hpl, hall, hat⟩ := hp
        have hk1 := List.all_eq_true.1 hall (o, i) (List.mem_iff_getElem?.2 ⟨i, by simp [List.getElem?_zipIdx, hoL]⟩)
        have hk1 : isKnown (pv ++ xv) i = true := hk1
        cases hv : Env.get pv i with
        | some v => exact pureCase v hv hpl
        | none =>
          unfold isKnown at hk1
          rw [get_app, hv] at hk1
          cases hx : Env.get xv i with
          | none => rw [hx] at hk1; cases hk1
          | some u => exact absurd (hxv _ (get_mem hx)) hnd
      | succ n =>
        have hp0 := hp
        obtain ⟨hpl, hne, hek, hwt, hAll⟩ := hp
        have hunk : ∀ x ∈ fs, Env.get (pv ++ xv) x = none := by
          intro x hx
          have := List.all_eq_true.1 hek x hx
          unfold isKnown at this
          cases hg : Env.get (pv ++ xv) x with
          | none => rfl
          | some u => rw [hg] at this; cases this
        by_cases hie : i ∈ fs
        · obtain ⟨oe, hoe, hd, hw, R, hdo, hR⟩ := hAll.get i hie
          rw [hoL] at hoe; cases hoe
          obtain ⟨v, H', w', hRv, S', hst⟩ := hdo o.dst o.type o.pos o.after o.guard ops i (Region.linearise.go .any ops fuel (t / (Region.ready .any ops l).length) (l.setIfInBounds i true) []) k ds a w ho (wants_true hAg hprelt hw) (fun x u hx => hAg.ev hx) S
          obtain ⟨pv', fs', hpv', hp'⟩ := hR v H' hRv
          refine .steps hst ?_
          have hfresh : ∀ j u, Env.get pv' j = some u → Env.get (pv ++ xv) j = none ∧ j ≠ i := by
            intro j u hj
            have hm : ∃ p ∈ pv', p.1 = j := by
              clear hp' hpv'
              induction pv' with
              | nil => simp [Env.get] at hj
              | cons p pv' ihp =>
                simp only [Env.get] at hj
                by_cases e : p.1 = j
                · exact ⟨p, by simp, e⟩
                · rw [beq_no e] at hj
                  obtain ⟨q, hq, hq2⟩ := ihp hj
                  exact ⟨q, by simp [hq], hq2⟩
            obtain ⟨p, hp1, rfl⟩ := hm
            have := List.all_eq_true.1 hpv' p hp1
            rw [Bool.and_eq_true, Bool.not_eq_true', Bool.not_eq_true'] at this
            refine ⟨?_, ?_⟩
            · have h1 := this.1
              unfold isKnown at h1
              cases hg : Env.get (pv ++ xv) p.1 with
              | none => rfl
              | some u => rw [hg] at h1; cases h1
            · intro e
              have h2 := this.2
              rw [e] at h2
              simp at h2
          have hi0 := hunk i hie
          have hpi : Env.get pv i = none := by
            rw [get_app] at hi0
            cases hg : Env.get pv i with
            | none => rfl
            | some u => rw [hg] at hi0; cases hi0
          have hget : Env.get ((pv' ++ pv) ++ ((i, v) :: xv)) i = some v := by
            rw [get_app, get_app]
            cases hg : Env.get pv' i with
            | some u => exact absurd rfl (hfresh i u hg).2
            | none => simp [hpi, Env.get]
          refine after n fs' _ _ H' v w' hp' S' hd hget ?_ ?_
          · intro j hj
            have hj0 : Env.get (pv ++ xv) j ≠ none := by
              unfold isKnown at hj
              intro h; rw [h] at hj; cases hj
            have hji : j ≠ i := by rintro rfl; exact hj0 hi0
            rw [get_app, get_app, get_app]
            cases hg : Env.get pv' j with
            | some u => exact absurd (hfresh j u hg).1 hj0
            | none =>
              cases hg2 : Env.get pv j with
              | some u => rfl
              | none => simp only [Env.get, beq_no (Ne.symm hji)]
          · intro p hp
            rcases List.mem_cons.1 hp with rfl | hp
            · exact .inr rfl
            · exact .inl (hxv p hp)
        · have hk1 := List.all_eq_true.1 hwt (o, i) (List.mem_iff_getElem?.2 ⟨i, by simp [List.getElem?_zipIdx, hoL]⟩)
          have hk1 : (isKnown (pv ++ xv) i || (fs.any fun e => Nat.beq i e) || (depsL o).any fun j => !isKnown (pv ++ xv) j) = true := hk1
          have hany : ((depsL o).any fun j => !isKnown (pv ++ xv) j) = false := by
            cases hb : ((depsL o).any fun j => !isKnown (pv ++ xv) j) with
            | false => rfl
            | true =>
              obtain ⟨j, hj, hjk⟩ := List.any_eq_true.1 hb
              have hDj := hdeps j hj
              have hjlt : j < i := by
                have h1 := List.all_eq_true.1 hdl (o, i) (List.mem_iff_getElem?.2 ⟨i, by simp [List.getElem?_zipIdx, hoL]⟩)
                exact blt_lt (List.all_eq_true.1 h1 j hj)
              have hjl : j < ops.toList.length := by simpa using (show j < ops.size by omega)
              have := hkn j _ (List.getElem?_eq_getElem hjl) hDj
              rw [this] at hjk; cases hjk
          have hfs : (fs.any fun e => Nat.beq i e) = false := by
            cases hb : (fs.any fun e => Nat.beq i e) with
            | false => rfl
            | true =>
              obtain ⟨e, he, he2⟩ := List.any_eq_true.1 hb
              exact absurd (Nat.eq_of_beq_eq_true he2 ▸ he) hie
          rw [hfs, hany, Bool.or_false, Bool.or_false] at hk1
          cases hv : Env.get pv i with
          | some v => exact pureCase v hv hpl
          | none =>
            unfold isKnown at hk1
            rw [get_app, hv] at hk1
            cases hx : Env.get xv i with
            | none => rw [hx] at hk1; cases hk1
            | some u => exact absurd (hxv _ (get_mem hx)) hnd
    · rename_i hnone
      have hempty : Region.ready .any ops l = [] := by
        cases hr : Region.ready .any ops l with
        | nil => rfl
        | cons b r =>
          have hlen : t % (Region.ready .any ops l).length < (Region.ready .any ops l).length := Nat.mod_lt _ (by rw [hr]; simp)
          exact absurd hnone (by
            show ¬ (Region.ready .any ops l)[t % (Region.ready .any ops l).length]? = none
            rw [List.getElem?_eq_getElem hlen]; simp)
      have hall := all_done hdl hs hempty
      cases n with
      | succ n =>
        obtain ⟨_, hne, hun, _, hall2⟩ := hp
        cases fs with
        | nil => exact absurd rfl hne
        | cons e es =>
          obtain ⟨o, ho, _⟩ := hall2.1
          have h1 := hkn e o ho (hall e o ho)
          have h2 := List.all_eq_true.1 hun e (by simp)
          rw [h1] at h2; cases h2
      | zero =>
        obtain ⟨_, hkn2, hat⟩ := hp
        simp only [List.reverse_nil]
        refine .step go_region_end (hat a w (ha.fin hall (fun i o ho => ?_)) S)
        exact hkn i o ho (hall i o ho)
theorem At.drawM {id : Nat} {n : Nat} {fs : List Nat} {pv : Env} {H : List Seg} (hm : X.P.follows .mixedOrders = true) (hok : okTmps ops.toList = true) (hdl : okDeps ops.toList = true) (hrd : (ops.toList.all fun o => (readsOf ops.toList o).all fun t => Nat.blt t X.n) = true)
    (hp : PhM X ops.toList k E0 ds n fs pv [] H) : At X (.code (.region id ops true) :: k) E0 ds H := by
  intro a w ha S
  refine .step go_region_draw ?_
  have hno : ∀ i, ¬ Dn (Array.replicate ops.size false) i := by
    intro i hi
    unfold Dn at hi
    rw [Array.getD_eq_getD_getElem?, Array.getElem?_replicate] at hi
    split at hi <;> simp at hi
  unfold Region.schedule Region.linearise
  rw [hm, Bool.true_or, if_pos rfl]
  refine draw_goM hok hdl hrd ops.size _ _ n fs pv [] H a _ (by simp) ?_ ?_ ?_ (Nat.le_add_right _ _) hp ⟨ha.size, ?_, ?_⟩ (S.drawn _)
  · exact fun i o _ h => absurd h (hno i)
  · exact fun i o _ h => absurd h (hno i)
  · intro p h; cases h
  · exact fun j o t v h => absurd h (hno j)
  · exact fun t v _ h => ha.get t v h
end
section
variable {X : Pt} {k : List Item} {E : Env} {ds : List Deferred} {H : List Seg} {id : Nat} {rops : Array Oper}
theorem At.joinQ (Q : Env → List Seg → Prop) (h : (∀ E2 H2, Q E2 H2 → At X k E2 ds H2) → At X (.code (.region id rops true) :: k) E ds H) (K : ∀ E2 H2, Q E2 H2 → At X k E2 ds H2) : At X (.code (.region id rops true) :: k) E ds H := h K
end
end Go.Proofs.YtlkdmbpbjhjkfaaGreatDoor
namespace Go.Proofs.YtlkdmbpbjhjkfaaGreatDoor
set_option linter.unusedVariables false
set_option linter.unusedSimpArgs false
set_option maxRecDepth 100000
def bv (l : List Bool) : Nat := l.foldl (fun a b => 2 * a + b.toNat) 0
theorem bv_acc (l : List Bool) (a : Nat) : l.foldl (fun a b => 2 * a + b.toNat) a = a * 2 ^ l.length + bv l := by
  induction l generalizing a with
  | nil => simp [bv]
  | cons b l ih =>
    have h1 := ih (2 * a + b.toNat)
    have h2 := ih (2 * 0 + b.toNat)
    show l.foldl (fun a b => 2 * a + b.toNat) (2 * a + b.toNat) = a * 2 ^ (l.length + 1) + l.foldl (fun a b => 2 * a + b.toNat) (2 * 0 + b.toNat)
    have e : (2 * a + b.toNat) * 2 ^ l.length = a * (2 ^ l.length * 2) + b.toNat * 2 ^ l.length := by
      rw [Nat.add_mul, Nat.mul_comm 2 a, Nat.mul_assoc a 2, Nat.mul_comm 2 (2 ^ l.length)]
    rw [h1, h2, Nat.pow_succ, e]; simp only [Nat.mul_zero, Nat.zero_add]; omega
theorem bv_app (a b : List Bool) : bv (a ++ b) = bv a * 2 ^ b.length + bv b := by
  rw [bv, List.foldl_append, bv_acc]; rfl
theorem bv_lt (l : List Bool) : bv l < 2 ^ l.length := by
  induction l with
  | nil => simp [bv]
  | cons b l ih =>
    have e : b :: l = [b] ++ l := rfl
    rw [e, bv_app, List.length_append, Nat.pow_add]
    have h1 : bv [b] ≤ 1 := by cases b <;> decide
    have h2 : bv [b] * 2 ^ l.length ≤ 1 * 2 ^ l.length := Nat.mul_le_mul_right _ h1
    simp only [List.length_cons, List.length_nil]; omega
theorem bv_div (p q : List Bool) : bv (p ++ q) / 2 ^ q.length = bv p := by
  rw [bv_app, Nat.mul_comm, Nat.mul_add_div (Nat.two_pow_pos _), Nat.div_eq_of_lt (bv_lt q), Nat.add_zero]
theorem bv_mod (p q : List Bool) : bv (p ++ q) % 2 ^ q.length = bv q := by
  rw [bv_app, Nat.mul_comm, Nat.mul_add_mod, Nat.mod_eq_of_lt (bv_lt q)]
theorem bv_inj : ∀ {a b : List Bool}, a.length = b.length → bv a = bv b → a = b
  | [], [], _, _ => rfl
  | x :: a, y :: b, hl, h => by
    have hl2 : a.length = b.length := by simpa using hl
    have e1 : x :: a = [x] ++ a := rfl
    have e2 : y :: b = [y] ++ b := rfl
    have h1 := bv_mod [x] a
    have h2 := bv_mod [y] b
    have d1 := bv_div [x] a
    have d2 := bv_div [y] b
    rw [← e1] at h1 d1
    rw [← e2] at h2 d2
    rw [h, hl2] at h1 d1
    have ha := bv_inj hl2 (h1.symm.trans h2)
    have hx : bv [x] = bv [y] := d1.symm.trans d2
    have : x = y := by cases x <;> cases y <;> first | rfl | cases hx
    rw [this, ha]
def b6 (n : Nat) : List Bool := [n.testBit 5, n.testBit 4, n.testBit 3, n.testBit 2, n.testBit 1, n.testBit 0]
def b8 (c : UInt8) : List Bool := [c.toNat.testBit 7, c.toNat.testBit 6, c.toNat.testBit 5, c.toNat.testBit 4, c.toNat.testBit 3, c.toNat.testBit 2, c.toNat.testBit 1, c.toNat.testBit 0]
theorem bv_b6 {n : Nat} (h : n < 64) : bv (b6 n) = n := (by decide +kernel : ∀ n : Fin 64, bv (b6 n.val) = n.val) ⟨n, h⟩
theorem bv_b8 (c : UInt8) : bv (b8 c) = c.toNat := by
  have h := (by decide +kernel : ∀ n : Fin 256, bv (b8 (UInt8.ofNat n.val)) = n.val) ⟨c.toNat, c.toNat_lt⟩
  simpa using h
theorem b6_len (n : Nat) : (b6 n).length = 6 := rfl
theorem b8_len (c : UInt8) : (b8 c).length = 8 := rfl
theorem bv_256 {l : List Bool} (h : l.length = 8) : bv l < 256 := by have := bv_lt l; rw [h] at this; exact this
theorem bv_64 {l : List Bool} (h : l.length = 6) : bv l < 64 := by have := bv_lt l; rw [h] at this; exact this
theorem b8_bv {l : List Bool} (h : l.length = 8) : b8 (UInt8.ofNat (bv l)) = l := by
  have h2 := bv_256 h
  refine bv_inj (by rw [b8_len, h]) ?_
  rw [bv_b8]
  simp; omega
theorem b6_bv {l : List Bool} (h : l.length = 6) : b6 (bv l) = l := bv_inj (by rw [b6_len, h]) (bv_b6 (bv_64 h))
def letB : List UInt8 := [65, 66, 67, 68, 69, 70, 71, 72, 73, 74, 75, 76, 77, 78, 79, 80, 81, 82, 83, 84, 85, 86, 87, 88, 89, 90, 97, 98, 99, 100, 101, 102, 103, 104, 105, 106, 107, 108, 109, 110, 111, 112, 113, 114, 115, 116, 117, 118, 119, 120, 121, 122, 48, 49, 50, 51, 52, 53, 54, 55, 56, 57, 45, 95]
theorem letB_len : letB.length = 64 := rfl
def num64 (c : UInt8) : Nat := letB.idxOf c
def numB (c : UInt8) : UInt8 := if num64 c < 64 then UInt8.ofNat (num64 c) else 255
theorem let_num {n : Nat} (h : n < 64) : num64 (letB.getD n 0) = n := (by decide +kernel : ∀ n : Fin 64, num64 (letB.getD n.val 0) = n.val) ⟨n, h⟩
theorem num_let {c : UInt8} (h : num64 c < 64) : letB.getD (num64 c) 0 = c := by
  have h1 : letB.idxOf c < letB.length := h
  have h2 := List.getElem_idxOf h1
  simp only [num64, List.getD, List.getElem?_eq_getElem h1, Option.getD_some]
  exact h2
def fillF (j : Nat) : List UInt8 := (List.range 256).map fun n => if num64 (UInt8.ofNat n) < j then UInt8.ofNat (num64 (UInt8.ofNat n)) else 255
theorem fillF_len (j : Nat) : (fillF j).length = 256 := by simp [fillF]
theorem fillF_step {j : Nat} (hj : j < 64) : (fillF j).set (letB.getD j 0).toNat (UInt8.ofNat j) = fillF (j + 1) := by
  apply List.ext_getElem (by simp [fillF])
  intro n h1 h2
  have hn : n < 256 := by simpa [fillF] using h2
  rw [List.getElem_set]
  simp only [fillF, List.getElem_map, List.getElem_range]
  by_cases h : (letB.getD j 0).toNat = n
  · have e : UInt8.ofNat n = letB.getD j 0 := by rw [← h]; simp
    rw [if_pos h, e, let_num hj, if_pos (by omega)]
  · rw [if_neg h]
    have h3 : ¬ num64 (UInt8.ofNat n) = j := fun e => h (by
      have := num_let (c := UInt8.ofNat n) (by omega)
      rw [e] at this
      rw [this]; simp; omega)
    by_cases h4 : num64 (UInt8.ofNat n) < j
    · rw [if_pos h4, if_pos (by omega)]
    · rw [if_neg h4, if_neg (by omega)]
theorem fillF_zero : List.replicate 256 255 = fillF 0 := by
  unfold fillF
  apply List.ext_getElem (by rw [List.length_replicate, List.length_map, List.length_range])
  intro n h1 h2
  rw [List.getElem_replicate, List.getElem_map, if_neg (Nat.not_lt_zero _)]
theorem fillF_get (c : UInt8) : (fillF 64).getD c.toNat 0 = numB c := by
  have h := c.toNat_lt
  simp only [fillF, List.getD, List.getElem?_map, List.getElem?_range h, Option.map_some, Option.getD_some, UInt8.ofNat_toNat]
  rfl
theorem numB_no (c : UInt8) : numB c = 255 ↔ 64 ≤ num64 c := by
  unfold numB
  by_cases h : num64 c < 64
  · rw [if_pos h]
    constructor
    · intro e
      have := congrArg UInt8.toNat e
      simp at this; omega
    · intro h2; omega
  · rw [if_neg h]; exact ⟨fun _ => by omega, fun _ => rfl⟩
theorem numB_yes {c : UInt8} (h : num64 c < 64) : (numB c).toNat = num64 c := by
  rw [numB, if_pos h]; simp; omega
def bitsS (s : List UInt8) : List Bool := s.flatMap fun c => b6 (num64 c)
def bits8 (l : List UInt8) : List Bool := l.flatMap b8
theorem bitsS_len (s : List UInt8) : (bitsS s).length = 6 * s.length := by
  induction s with
  | nil => rfl
  | cons c s ih => simp only [bitsS, List.flatMap_cons, List.length_append, b6_len, List.length_cons] at ih ⊢; omega
theorem bits8_len (s : List UInt8) : (bits8 s).length = 8 * s.length := by
  induction s with
  | nil => rfl
  | cons c s ih => simp only [bits8, List.flatMap_cons, List.length_append, b8_len, List.length_cons] at ih ⊢; omega
theorem bitsS_app (a b : List UInt8) : bitsS (a ++ b) = bitsS a ++ bitsS b := by simp [bitsS]
theorem bits8_app (a b : List UInt8) : bits8 (a ++ b) = bits8 a ++ bits8 b := by simp [bits8]
theorem bits8_inj : ∀ {a b : List UInt8}, bits8 a = bits8 b → a = b
  | [], [], _ => rfl
  | [], y :: b, h => by have := congrArg List.length h; simp only [bits8_len, List.length_cons, List.length_nil] at this; omega
  | x :: a, [], h => by have := congrArg List.length h; simp only [bits8_len, List.length_cons, List.length_nil] at this; omega
  | x :: a, y :: b, h => by
    have h2 : b8 x ++ bits8 a = b8 y ++ bits8 b := h
    obtain ⟨h3, h4⟩ := List.append_inj h2 rfl
    have h5 : x.toNat = y.toNat := by rw [← bv_b8, ← bv_b8, h3]
    rw [UInt8.toNat_inj.1 h5, bits8_inj h4]
def decB (s : List UInt8) : Option (List UInt8) :=
  if (s.all fun c => decide (num64 c < 64)) = true ∧ s.length % 4 ≠ 1 ∧ ((bitsS s).drop (8 * (6 * s.length / 8))).any id = false then some ((List.range (6 * s.length / 8)).map fun j => UInt8.ofNat (bv (((bitsS s).drop (8 * j)).take 8))) else none
theorem bits_of (B : List Bool) (n : Nat) (h : 8 * n ≤ B.length) : bits8 ((List.range n).map fun j => UInt8.ofNat (bv ((B.drop (8 * j)).take 8))) = B.take (8 * n) := by
  induction n with
  | zero => simp [bits8]
  | succ n ih =>
    rw [List.range_succ, List.map_append, bits8_app, ih (by omega)]
    have e : ((B.drop (8 * n)).take 8).length = 8 := by rw [List.length_take, List.length_drop]; omega
    simp only [List.map_cons, List.map_nil, bits8, List.flatMap_cons, List.flatMap_nil, List.append_nil]
    rw [b8_bv e, show 8 * (n + 1) = 8 * n + 8 by omega, List.take_add]
theorem decB_of {s out : List UInt8} {p : List Bool} (hs : (s.all fun c => decide (num64 c < 64)) = true) (hp : p.length < 8) (h : bits8 out ++ p = bitsS s) : decB s = if s.length % 4 = 1 ∨ p.any id = true then none else some out := by
  have hl := congrArg List.length h
  rw [List.length_append, bits8_len, bitsS_len] at hl
  have hn : 6 * s.length / 8 = out.length := by omega
  have hd : (bitsS s).drop (8 * out.length) = p := by rw [← h, ← bits8_len out, List.drop_left]
  have ho : (List.range out.length).map (fun j => UInt8.ofNat (bv (((bitsS s).drop (8 * j)).take 8))) = out := by
    apply bits8_inj
    rw [bits_of _ _ (by rw [bitsS_len]; omega), ← h, ← bits8_len out, List.take_left]
  unfold decB
  rw [hn, hd, ho, hs]
  by_cases h1 : s.length % 4 = 1
  · simp [h1]
  · by_cases h2 : p.any id = true
    · rw [if_neg (by rw [h2]; simp), if_pos (.inr h2)]
    · rw [if_pos ⟨rfl, h1, by simpa using h2⟩, if_neg (by rintro (h3 | h3); exact h1 h3; exact h2 h3)]
theorem decB_bad {s : List UInt8} {k : Nat} (hk : k < s.length) (h : 64 ≤ num64 (s.getD k 0)) : decB s = none := by
  unfold decB
  rw [if_neg]
  rintro ⟨h1, _⟩
  have := List.all_eq_true.1 h1 (s.getD k 0) (by simp [List.getD, hk])
  have := of_decide_eq_true this
  omega
theorem bv_zero (p : List Bool) : bv p = 0 ↔ p.any id = false := by
  induction p with
  | nil => simp [bv]
  | cons b p ih =>
    have e : b :: p = [b] ++ p := rfl
    rw [e, bv_app, List.any_append]
    have h2 := Nat.two_pow_pos p.length
    cases b with
    | true =>
      have e3 : bv [true] = 1 := rfl
      rw [e3]; simp
    | false =>
      have e2 : bv [false] = 0 := rfl
      rw [e2]; simpa using ih
def encB (b : List UInt8) : List UInt8 := (List.range ((8 * b.length + 5) / 6)).map fun j => letB.getD (bv (((bits8 b ++ List.replicate 6 false).drop (6 * j)).take 6)) 0
theorem encB_len (b : List UInt8) : (encB b).length = (8 * b.length + 5) / 6 := by simp [encB]
theorem pow62 {k : Nat} (hk : k ≤ 40) : (2 : Nat) ^ k ≤ 1099511627776 := Nat.le_trans (Nat.pow_le_pow_right (by omega) hk) (by decide)
theorem minK {k : Nat} (hk : k ≤ 40) : min ((k : Int)).toNat IntKind.i64.bits = k := by show min ((k : Int)).toNat 64 = k; rw [Int.toNat_natCast]; omega
theorem cast_pow (k : Nat) : (2 : Int) ^ k = ((2 ^ k : Nat) : Int) := by rw [Int.natCast_pow]; rfl
theorem shlN {a k : Nat} (hk : k ≤ 40) (h : a * 2 ^ k ≤ 4611686018427387904) : IntKind.i64.wrap ((a : Int) * 2 ^ (min ((k : Int)).toNat IntKind.i64.bits)) = ((a * 2 ^ k : Nat) : Int) := by
  rw [minK hk, cast_pow, ← Int.natCast_mul]
  exact w64 (by omega) (by omega)
theorem ofInt_nat64 {a : Nat} (h : a ≤ 4611686018427387904) : (BitVec.ofInt IntKind.i64.bits (a : Int)).toNat = a := by
  show (BitVec.ofInt 64 (a : Int)).toNat = a
  rw [BitVec.toNat_ofInt]; omega
theorem orN {a n k : Nat} (hn : n < 2 ^ k) (h : a * 2 ^ k + n ≤ 4611686018427387904) : IntKind.i64.wrap ((BitVec.ofInt IntKind.i64.bits ((a * 2 ^ k : Nat) : Int) ||| BitVec.ofInt IntKind.i64.bits (n : Int)).toNat : Int) = ((a * 2 ^ k + n : Nat) : Int) := by
  rw [BitVec.toNat_or, ofInt_nat64 (by omega), ofInt_nat64 (by omega), ← Nat.shiftLeft_eq, ← Nat.shiftLeft_add_eq_or_of_lt hn, Nat.shiftLeft_eq]
  exact w64 (by omega) (by omega)
theorem shrN {a k : Nat} (hk : k ≤ 40) : ((a : Int)).fdiv (2 ^ (min ((k : Int)).toNat IntKind.i64.bits)) = ((a / 2 ^ k : Nat) : Int) := by
  rw [minK hk, cast_pow, Int.fdiv_eq_ediv_of_nonneg _ (Int.natCast_nonneg _)]
  exact (Int.natCast_ediv a (2 ^ k)).symm
theorem andN {a k : Nat} (h : a ≤ 4611686018427387904) (hk : k ≤ 40) : IntKind.i64.wrap ((BitVec.ofInt IntKind.i64.bits (a : Int) &&& BitVec.ofInt IntKind.i64.bits ((2 ^ k - 1 : Nat) : Int)).toNat : Int) = ((a % 2 ^ k : Nat) : Int) := by
  have hp := pow62 hk
  rw [BitVec.toNat_and, ofInt_nat64 h, ofInt_nat64 (by omega), Nat.and_two_pow_sub_one_eq_mod]
  have := Nat.mod_le a (2 ^ k)
  exact w64 (by omega) (by omega)
theorem u8_nat (k : Nat) : IntKind.u8.wrap (k : Int) = ((UInt8.ofNat k).toNat : Int) := by
  rw [u8_conv, ofInt_nat]
theorem let_dec {k : Nat} (h : k < 64) : Utf8.decode ⟨⟨letB⟩⟩ k = ((letB.getD k 0).toNat, 1) := (by decide +kernel : ∀ k : Fin 64, Utf8.decode ⟨⟨letB⟩⟩ k.val = ((letB.getD k.val 0).toNat, 1)) ⟨k, h⟩
theorem fill_step {k : Nat} (h : k < 256) : (List.replicate k 255 ++ List.replicate (256 - k) (0 : UInt8)).set k 255 = List.replicate (k + 1) 255 ++ List.replicate (256 - (k + 1)) 0 := by
  rw [show 256 - k = (256 - (k + 1)) + 1 by omega, List.replicate_succ, List.set_append_right _ _ (by rw [List.length_replicate]; omega), List.length_replicate, Nat.sub_self, List.set_cons_zero, List.replicate_succ', List.append_assoc]
  rfl
theorem fill_end : List.replicate 256 255 ++ List.replicate (256 - 256) (0 : UInt8) = fillF 0 := by rw [Nat.sub_self, List.replicate_zero, List.append_nil, fillF_zero]
set_option maxHeartbeats 400000 in
theorem numbers_ok {w0 : World} {base : Nat} {H : List Seg}  :
    SCalls Tryz.prog 130 [] w0 base (H) (fun v H' => v = .agg (tyB.cells (fillF 64)).toArray ∧ H' = H) := by
  refine SCalls.of_walk (n := 22) Tryz.func130 rfl rfl rfl fun cs => ?_
  refine At.seq ?_
  refine At.region ?_
  refine AtL.allocArr tyB (l := List.replicate 256 (0 : UInt8)) tf_zero166 tf_zarr166 (by simp) (.inl rfl) rfl ?_
  intro b1 s2 o3
  rw [List.length_replicate] at o3
  refine AtL.done ?_
  refine At.seq ?_
  refine At.region ?_
  refine AtL.allocArr tyB (l := List.replicate 256 (0 : UInt8)) tf_zero166 tf_zarr166 (by simp) (.inl rfl) rfl ?_
  intro b4 s5 o6
  rw [List.length_replicate] at o6
  refine AtL.done ?_
  refine At.seq ?_
  refine At.seq ?_
  refine At.region ?_
  refine AtL.move (.inl rfl) rfl rfl ?_
  refine AtL.done ?_
  refine At.block ?_
  refine At.loop3 (fun (k : Nat) (L : List UInt8) (sL : Seg) => [(0, .pointer (some ⟨b1, 0, none⟩)), (1, .pointer (some ⟨b4, 0, none⟩)), (5, .int .i64 (k : Int))]) (fun (k : Nat) (L : List UInt8) (sL : Seg) => sL :: s2 :: H) (fun (k : Nat) (L : List UInt8) (sL : Seg) => k ≤ 256 ∧ L = List.replicate k 255 ++ List.replicate (256 - k) 0 ∧ Own tyB 166 (some ⟨b4, 0, none⟩) 256 L sL) (fun (k : Nat) (L : List UInt8) (sL : Seg) => 256 - k) 0 (List.replicate 256 (0 : UInt8)) s5 (⟨Nat.zero_le _, rfl, o6⟩) ⟨rfl, rfl, rfl, trivial⟩ rfl ?_
  rintro k L sL ⟨hk, hL, ho⟩ ihL1
  have hLl : L.length = 256 := by rw [hL, List.length_append, List.length_replicate, List.length_replicate]; omega
  refine At.seq ?_
  refine At.region ?_
  refine AtL.lss (.inl rfl) rfl rfl rfl ?_
  refine AtL.done ?_
  refine At.seq ?_
  refine At.cond rfl ?_ ?_
  · intro hc1
    have hc1 : (k : Int) < 256 := of_decide_eq_true hc1
    refine At.skip ?_
    refine At.seq ?_
    refine At.block ?_
    refine At.seq ?_
    refine At.region ?_
    refine AtL.move (.inl rfl) rfl rfl ?_
    refine AtL.assign (.inl rfl) rfl rfl ?_
    refine AtL.done ?_
    refine At.region ?_
    refine AtL.move (.inl rfl) rfl rfl ?_
    refine AtL.indexArr k Tryz.underlying166 tf_sz5 (.inl rfl) rfl rfl rfl rfl (by omega) ?_
    refine AtL.setIdx (u := 255) 0 k tf_sz5 rfl ho (by omega) (.inl rfl) rfl rfl ?_
    intro s7 o8
    refine AtL.done ?_
    refine At.inBlock ?_
    refine At.region ?_
    refine AtL.add (z := (k : Int) + 1) (.inl rfl) rfl rfl rfl (w64 (by omega) (by omega)) ?_
    refine AtL.move (.inl rfl) rfl rfl ?_
    refine AtL.done ?_
    refine ihL1 (k + 1) (L.set k 255) s7 (⟨by omega, by rw [hL]; exact fill_step (by omega), o8⟩) (by omega) _ ?_
    exact ⟨rfl, (by first | rfl | exact slLen (by simp []) | exact intEq (by omega) | exact intEq (by simp []) | exact slLen (by simp []; omega)), (by first | rfl | exact slLen (by simp []) | exact intEq (by omega) | exact intEq (by simp []) | exact slLen (by simp []; omega)), trivial⟩
  · intro hc1
    have hc1 : ¬ ((k : Int) < 256) := of_decide_eq_false hc1
    refine At.exit rfl ?_
    refine At.seq ?_
    refine At.seq ?_
    refine At.region ?_
    refine AtL.rangeS (l := letB) Tryz.underlying9 (.inl rfl) rfl rfl ?_
    intro b9
    refine AtL.done ?_
    refine At.block ?_
    refine At.loop3 (fun (k : Nat) (L : List UInt8) (sL : Seg) => [(0, .pointer (some ⟨b1, 0, none⟩)), (1, .pointer (some ⟨b4, 0, none⟩)), (11, .pointer (some ⟨b9, 0, none⟩))]) (fun (k : Nat) (L : List UInt8) (sL : Seg) => [(b9, .stringIter ⟨⟨letB⟩⟩ k)] :: sL :: s2 :: H) (fun (k : Nat) (L : List UInt8) (sL : Seg) => k ≤ 64 ∧ L = fillF k ∧ Own tyB 166 (some ⟨b4, 0, none⟩) 256 L sL) (fun (k : Nat) (L : List UInt8) (sL : Seg) => 64 - k) 0 L sL (⟨Nat.zero_le _, by rw [hL, show k = 256 by omega]; exact fill_end, ho⟩) ⟨rfl, rfl, rfl, trivial⟩ rfl ?_
    rintro k L sL ⟨hk, hL, ho⟩ ihL2
    have hLl : L.length = 256 := by rw [hL, fillF_len]
    refine At.seq ?_
    refine At.region ?_
    rcases Nat.lt_or_ge k 64 with hk64 | hk64
    · skip
      have hcb := (letB.getD k 0).toNat_lt
      refine AtL.nextS (p := k) (n := 1) (c := (letB.getD k 0).toNat) (l := letB) (H' := [(b9, .stringIter ⟨⟨letB⟩⟩ (k + 1))] :: sL :: s2 :: H) 0 0 (.inl rfl) rfl rfl rfl rfl (by rw [Nat.blt_eq]; exact hk64) (let_dec hk64) rfl ?_
      refine AtL.extract (.inl rfl) rfl rfl rfl ?_
      refine AtL.done ?_
      refine At.seq ?_
      refine At.condT rfl ?_
      refine At.skip ?_
      refine At.block ?_
      refine At.seq ?_
      refine At.region ?_
      refine AtL.extract (.inl rfl) rfl rfl rfl ?_
      refine AtL.extract (.inl rfl) rfl rfl rfl ?_
      refine AtL.assign (.inl rfl) rfl rfl ?_
      refine AtL.assign (.inl rfl) rfl rfl ?_
      refine AtL.done ?_
      refine At.region ?_
      refine AtL.move (.inl rfl) rfl rfl ?_
      refine AtL.convInt (z := ((letB.getD k 0).toNat : Int)) Tryz.underlying21 Tryz.underlying5 (.inl rfl) rfl rfl (w8 (by omega) (by omega)) ?_
      refine AtL.move (.inl rfl) rfl rfl ?_
      refine AtL.convInt (z := ((UInt8.ofNat k).toNat : Int)) Tryz.underlying3 Tryz.underlying5 (.inl rfl) rfl rfl (u8_nat k) ?_
      refine AtL.indexArr ((letB.getD k 0).toNat) Tryz.underlying166 tf_sz5 (.inl rfl) rfl rfl rfl rfl (by omega) ?_
      refine AtL.setIdx (u := (UInt8.ofNat k)) 1 ((letB.getD k 0).toNat) tf_sz5 rfl ho (by omega) (.inl rfl) rfl rfl ?_
      intro s10 o11
      refine AtL.done ?_
      refine At.inBlock ?_
      refine ihL2 (k + 1) (L.set ((letB.getD k 0).toNat) (UInt8.ofNat k)) s10 (⟨by omega, by rw [hL]; exact fillF_step (by omega), o11⟩) (by omega) _ ?_
      exact ⟨rfl, (by first | rfl | exact slLen (by simp []) | exact intEq (by omega) | exact intEq (by simp []) | exact slLen (by simp []; omega)), rfl, trivial⟩
    · skip
      refine AtL.nextOver (p := k) (l := letB) 0 0 (.inl rfl) rfl rfl rfl rfl (Nat.ble_eq_true_of_le hk64) ?_
      refine AtL.extract (.inl rfl) rfl rfl rfl ?_
      refine AtL.done ?_
      refine At.seq ?_
      refine At.condF rfl ?_
      refine At.exit rfl ?_
      refine At.seq ?_
      refine At.region ?_
      refine AtL.loadArr (ho.rd (i := 1) rfl) tf_agg166 (by simp [Ty.cells_len, tyB, hLl]) (.inl rfl) rfl rfl ?_
      refine AtL.storeArr (T := tyB) (l' := L) 2 tf_sz166 rfl o3 (by simp [hLl]) rfl (by simp [Ty.cells_len, tyB, hLl]) (.inl rfl) rfl rfl ?_
      intro s12 o13
      refine AtL.done ?_
      exact At.retMP (vs := [.agg (tyB.cells L).toArray]) (H2 := H) [] 3 rfl rfl Tryz.func130 rfl ⟨⟨_, rfl, LoadsTo.arr (o13.rd (i := 2) rfl) tf_agg166 (by simp [Ty.cells_len, tyB, hLl])⟩, trivial⟩ (⟨by rw [hL, show k = 64 by omega]; rfl, rfl⟩)
set_option maxHeartbeats 400000 in
theorem put_ok {w0 : World} {base : Nat} {H : List Seg} {b : Nat} {p q : List Bool} {n k : Int} (hn : n = (bv q : Int)) (hk : k = (q.length : Int)) (hp : p.length ≤ 16) (hq : q.length ≤ 8) :
    SCalls Tryz.prog 69 [.pointer (some ⟨b, 0, none⟩), .int .i64 n, .int .i64 k] w0 base ([(b, .cells #[.int .i64 (bv p : Int), .int .i64 (p.length : Int)] 117 (0, 0))] :: H) (fun v H' => v = .tuple #[] ∧ H' = [(b, .cells #[.int .i64 (bv (p ++ q) : Int), .int .i64 ((p ++ q).length : Int)] 117 (0, 0))] :: H) := by
  have hbp := bv_lt p
  have hbq := bv_lt q
  have h16 : (2 : Nat) ^ p.length ≤ 2 ^ 16 := Nat.pow_le_pow_right (by omega) hp
  have h8 : (2 : Nat) ^ q.length ≤ 2 ^ 8 := Nat.pow_le_pow_right (by omega) hq
  have hm : bv p * 2 ^ q.length ≤ 2 ^ 16 * 2 ^ 8 := Nat.mul_le_mul (by omega) h8
  have e24 : (2 : Nat) ^ 16 * 2 ^ 8 = 16777216 := by decide
  have e8 : (2 : Nat) ^ 8 = 256 := by decide
  refine SCalls.of_walk (n := 25) Tryz.func69 rfl rfl rfl fun cs => ?_
  refine At.seq ?_
  refine At.region ?_
  refine AtL.move (.inl rfl) rfl rfl ?_
  refine AtL.move (.inl rfl) rfl rfl ?_
  refine AtL.nilCheck (.inl rfl) rfl rfl ?_
  refine AtL.fieldAddrB tf_fo117_0 (.inl rfl) rfl rfl rfl ?_
  refine AtL.load tf_flat3 (.inl rfl) rfl rfl (Cell.own 0 0 rfl rfl rfl) ?_
  refine AtL.move (.inl rfl) rfl rfl ?_
  refine AtL.shl (z := ((bv p * 2 ^ q.length : Nat) : Int)) (.inl rfl) rfl rfl rfl (by omega) (by rw [hk]; exact shlN (by omega) (by omega)) ?_
  refine AtL.move (.inl rfl) rfl rfl ?_
  refine AtL.bor (z := ((bv p * 2 ^ q.length + bv q : Nat) : Int)) (.inl rfl) rfl rfl rfl (by rw [hn]; exact orN hbq (by omega)) ?_
  refine AtL.nilCheck (.inl rfl) rfl rfl ?_
  refine AtL.fieldAddrB tf_fo117_0 (.inl rfl) rfl rfl rfl ?_
  refine AtL.store (H' := [(b, .cells #[.int .i64 ((bv p * 2 ^ q.length + bv q : Nat) : Int), .int .i64 (p.length : Int)] 117 (0, 0))] :: H) 0 0 tf_sz3 (.inl rfl) rfl rfl rfl rfl rfl rfl rfl rfl rfl ?_
  refine AtL.done ?_
  refine At.region ?_
  refine AtL.move (.inl rfl) rfl rfl ?_
  refine AtL.nilCheck (.inl rfl) rfl rfl ?_
  refine AtL.fieldAddrB tf_fo117_1 (.inl rfl) rfl rfl rfl ?_
  refine AtL.load tf_flat3 (.inl rfl) rfl rfl (Cell.own 0 0 rfl rfl rfl) ?_
  refine AtL.move (.inl rfl) rfl rfl ?_
  refine AtL.add (z := ((p.length + q.length : Nat) : Int)) (.inl rfl) rfl rfl rfl (by rw [hk]; exact w64 (by omega) (by omega)) ?_
  refine AtL.nilCheck (.inl rfl) rfl rfl ?_
  refine AtL.fieldAddrB tf_fo117_1 (.inl rfl) rfl rfl rfl ?_
  refine AtL.store (H' := [(b, .cells #[.int .i64 ((bv p * 2 ^ q.length + bv q : Nat) : Int), .int .i64 ((p.length + q.length : Nat) : Int)] 117 (0, 0))] :: H) 0 0 tf_sz3 (.inl rfl) rfl rfl rfl rfl rfl rfl rfl rfl rfl ?_
  refine AtL.done ?_
  exact At.end_ Tryz.func69 rfl rfl (⟨rfl, by rw [bv_app, List.length_append, Int.natCast_add]⟩)
set_option maxHeartbeats 400000 in
theorem get_ok {w0 : World} {base : Nat} {H : List Seg} {b : Nat} {p : List Bool} {n : Int} (k : Nat) (hn : n = (k : Int)) (hk : k ≤ p.length) (hp : p.length ≤ 16) :
    SCalls Tryz.prog 71 [.pointer (some ⟨b, 0, none⟩), .int .i64 n] w0 base ([(b, .cells #[.int .i64 (bv p : Int), .int .i64 (p.length : Int)] 117 (0, 0))] :: H) (fun v H' => v = int (bv (p.take k) : Int) ∧ H' = [(b, .cells #[.int .i64 (bv (p.drop k) : Int), .int .i64 ((p.drop k).length : Int)] 117 (0, 0))] :: H) := by
  have hdk : (p.drop k).length = p.length - k := List.length_drop
  have htd : p.take k ++ p.drop k = p := List.take_append_drop k p
  have hbp := bv_lt p
  have h16 : (2 : Nat) ^ p.length ≤ 2 ^ 16 := Nat.pow_le_pow_right (by omega) hp
  have e16 : (2 : Nat) ^ 16 = 65536 := by decide
  have hdv := bv_div (p.take k) (p.drop k)
  have hmd := bv_mod (p.take k) (p.drop k)
  rw [htd, hdk] at hdv hmd
  refine SCalls.of_walk (n := 37) Tryz.func71 rfl rfl rfl fun cs => ?_
  refine At.seq ?_
  refine At.region ?_
  refine AtL.assign (.inl rfl) rfl rfl ?_
  refine AtL.done ?_
  refine At.seq ?_
  refine At.region ?_
  refine AtL.move (.inl rfl) rfl rfl ?_
  refine AtL.nilCheck (.inl rfl) rfl rfl ?_
  refine AtL.fieldAddrB tf_fo117_1 (.inl rfl) rfl rfl rfl ?_
  refine AtL.load tf_flat3 (.inl rfl) rfl rfl (Cell.own 0 0 rfl rfl rfl) ?_
  refine AtL.move (.inl rfl) rfl rfl ?_
  refine AtL.sub (z := ((p.length - k : Nat) : Int)) (.inl rfl) rfl rfl rfl (by rw [hn, show (p.length : Int) - (k : Int) = ((p.length - k : Nat) : Int) by omega]; exact w64 (by omega) (by omega)) ?_
  refine AtL.nilCheck (.inl rfl) rfl rfl ?_
  refine AtL.fieldAddrB tf_fo117_1 (.inl rfl) rfl rfl rfl ?_
  refine AtL.store (H' := [(b, .cells #[.int .i64 (bv p : Int), .int .i64 ((p.length - k : Nat) : Int)] 117 (0, 0))] :: H) 0 0 tf_sz3 (.inl rfl) rfl rfl rfl rfl rfl rfl rfl rfl rfl ?_
  refine AtL.done ?_
  refine At.seq ?_
  refine At.draw (es := []) (pv := [(0, .pointer (some ⟨b, 0, none⟩)), (1, .pointer (some ⟨b, 0, none⟩)), (2, .pointer (some ⟨b, 0, none⟩)), (3, .int .i64 (bv p : Int)), (4, .pointer (some ⟨b, 0, none⟩)), (5, .pointer (some ⟨b, 0, none⟩)), (6, .pointer (some ⟨b, 1, none⟩)), (7, .int .i64 ((p.length - k : Nat) : Int)), (8, .int .i64 ((bv p / 2 ^ (p.length - k) : Nat) : Int)), (9, .int .i64 ((bv p / 2 ^ (p.length - k) : Nat) : Int))]) tf_mixed (by kernel_rfl) (by kernel_rfl) (by kernel_rfl) ?_
  refine ⟨⟨.inr ⟨_, rfl, rfl, .inl ⟨rfl, Do.move rfl⟩⟩, .inr ⟨_, rfl, rfl, .inl ⟨rfl, Do.nilCheck rfl⟩⟩, .inr ⟨_, rfl, rfl, .inl ⟨rfl, Do.fieldAddrB tf_fo117_0 rfl rfl⟩⟩, .inr ⟨_, rfl, rfl, .inl ⟨rfl, Do.load tf_flat3 rfl (Cell.own 0 0 rfl rfl rfl)⟩⟩, .inr ⟨_, rfl, rfl, .inl ⟨rfl, Do.move rfl⟩⟩, .inr ⟨_, rfl, rfl, .inl ⟨rfl, Do.nilCheck rfl⟩⟩, .inr ⟨_, rfl, rfl, .inl ⟨rfl, Do.fieldAddrB tf_fo117_1 rfl rfl⟩⟩, .inr ⟨_, rfl, rfl, .inl ⟨rfl, Do.load tf_flat3 rfl (Cell.own 0 0 rfl rfl rfl)⟩⟩, .inr ⟨_, rfl, rfl, .inl ⟨rfl, Do.shr (z := ((bv p / 2 ^ (p.length - k) : Nat) : Int)) rfl rfl (by omega) (shrN (by omega))⟩⟩, .inr ⟨_, rfl, rfl, .inl ⟨rfl, Do.assign rfl⟩⟩, trivial⟩, by kernel_rfl, ?_⟩
  refine At.mono (E' := [(0, .pointer (some ⟨b, 0, none⟩)), (5, .int .i64 ((bv p / 2 ^ (p.length - k) : Nat) : Int))]) ⟨rfl, rfl, trivial⟩ ?_
  refine At.seq ?_
  refine At.draw (es := [13]) (pv := [(0, .pointer (some ⟨b, 0, none⟩)), (1, .pointer (some ⟨b, 0, none⟩)), (2, .pointer (some ⟨b, 0, none⟩)), (3, .int .i64 (bv p : Int)), (4, .pointer (some ⟨b, 0, none⟩)), (5, .pointer (some ⟨b, 0, none⟩)), (6, .pointer (some ⟨b, 1, none⟩)), (7, .int .i64 ((p.length - k : Nat) : Int)), (8, .int .i64 ((1 * 2 ^ (p.length - k) : Nat) : Int)), (9, .int .i64 ((2 ^ (p.length - k) - 1 : Nat) : Int)), (10, .int .i64 ((bv p % 2 ^ (p.length - k) : Nat) : Int)), (11, .pointer (some ⟨b, 0, none⟩)), (12, .pointer (some ⟨b, 0, none⟩))]) tf_mixed (by kernel_rfl) (by kernel_rfl) (by kernel_rfl) ?_
  refine ⟨⟨.inr ⟨_, rfl, rfl, .inl ⟨rfl, Do.move rfl⟩⟩, .inr ⟨_, rfl, rfl, .inl ⟨rfl, Do.nilCheck rfl⟩⟩, .inr ⟨_, rfl, rfl, .inl ⟨rfl, Do.fieldAddrB tf_fo117_0 rfl rfl⟩⟩, .inr ⟨_, rfl, rfl, .inl ⟨rfl, Do.load tf_flat3 rfl (Cell.own 0 0 rfl rfl rfl)⟩⟩, .inr ⟨_, rfl, rfl, .inl ⟨rfl, Do.move rfl⟩⟩, .inr ⟨_, rfl, rfl, .inl ⟨rfl, Do.nilCheck rfl⟩⟩, .inr ⟨_, rfl, rfl, .inl ⟨rfl, Do.fieldAddrB tf_fo117_1 rfl rfl⟩⟩, .inr ⟨_, rfl, rfl, .inl ⟨rfl, Do.load tf_flat3 rfl (Cell.own 0 0 rfl rfl rfl)⟩⟩, .inr ⟨_, rfl, rfl, .inl ⟨rfl, Do.shl (z := ((1 * 2 ^ (p.length - k) : Nat) : Int)) rfl rfl (by omega) (shlN (a := 1) (by omega) (by have := pow62 (k := p.length - k) (by omega); omega))⟩⟩, .inr ⟨_, rfl, rfl, .inl ⟨rfl, Do.sub (z := ((2 ^ (p.length - k) - 1 : Nat) : Int)) rfl rfl (by have := pow62 (k := p.length - k) (by omega); have h0 := Nat.two_pow_pos (p.length - k); rw [show ((1 * 2 ^ (p.length - k) : Nat) : Int) - 1 = ((2 ^ (p.length - k) - 1 : Nat) : Int) by omega]; exact w64 (by omega) (by omega))⟩⟩, .inr ⟨_, rfl, rfl, .inl ⟨rfl, Do.band (z := ((bv p % 2 ^ (p.length - k) : Nat) : Int)) rfl rfl (andN (by omega) (by omega))⟩⟩, .inr ⟨_, rfl, rfl, .inl ⟨rfl, Do.nilCheck rfl⟩⟩, .inr ⟨_, rfl, rfl, .inl ⟨rfl, Do.fieldAddrB tf_fo117_0 rfl rfl⟩⟩, trivial⟩, rfl, rfl, by kernel_rfl, _, rfl, rfl, rfl, _, Do.store (H' := [(b, .cells #[.int .i64 ((bv p % 2 ^ (p.length - k) : Nat) : Int), .int .i64 ((p.length - k : Nat) : Int)] 117 (0, 0))] :: H) 0 0 tf_sz3 rfl rfl rfl rfl rfl rfl rfl rfl rfl, ?_⟩
  rintro _ _ ⟨rfl, rfl⟩
  refine ⟨[], rfl, ?_⟩
  refine ⟨⟨.inl (by kernel_rfl), .inl (by kernel_rfl), .inl (by kernel_rfl), .inl (by kernel_rfl), .inl (by kernel_rfl), .inl (by kernel_rfl), .inl (by kernel_rfl), .inl (by kernel_rfl), .inl (by kernel_rfl), .inl (by kernel_rfl), .inl (by kernel_rfl), .inl (by kernel_rfl), .inl (by kernel_rfl), trivial⟩, by kernel_rfl, ?_⟩
  refine At.mono (E' := [(5, .int .i64 ((bv p / 2 ^ (p.length - k) : Nat) : Int))]) ⟨rfl, trivial⟩ ?_
  refine At.seq ?_
  refine At.region ?_
  refine AtL.move (.inl rfl) rfl rfl ?_
  refine AtL.assign (.inl rfl) rfl rfl ?_
  refine AtL.done ?_
  exact At.ret Tryz.func71 rfl rfl (⟨by rw [hdv]; rfl, by rw [hmd, hdk]⟩)
end Go.Proofs.YtlkdmbpbjhjkfaaGreatDoor
namespace Go.Proofs.YtlkdmbpbjhjkfaaGreatDoor
set_option linter.unusedVariables false
set_option linter.unusedSimpArgs false
set_option maxRecDepth 100000
theorem u8_same {c d : UInt8} (h : (c.toNat : Int) = (d.toNat : Int)) : c = d := UInt8.toNat_inj.1 (by omega)
theorem take_all {s : List UInt8} {k : Nat} (h : k < s.length) (ha : (s.take k).all (fun c => decide (num64 c < 64)) = true) (hc : num64 (s.getD k 0) < 64) : (s.take (k + 1)).all (fun c => decide (num64 c < 64)) = true := by
  rw [List.take_succ_eq_append_getElem h, List.all_append, ha]
  have : s[k] = s.getD k 0 := by simp [List.getD, h]
  rw [List.all_cons, List.all_nil, this, decide_eq_true hc]; rfl
theorem bits_take {s : List UInt8} {k : Nat} (h : k < s.length) : bitsS (s.take (k + 1)) = bitsS (s.take k) ++ b6 (num64 (s.getD k 0)) := by
  rw [List.take_succ_eq_append_getElem h, bitsS_app]
  have : s[k] = s.getD k 0 := by simp [List.getD, h]
  rw [this]; simp [bitsS]
theorem byte_bits {q : List Bool} (h : 8 ≤ q.length) : bits8 [UInt8.ofNat (bv (q.take 8))] = q.take 8 := by
  have : (q.take 8).length = 8 := by rw [List.length_take]; omega
  simp only [bits8, List.flatMap_cons, List.flatMap_nil, List.append_nil]
  exact b8_bv this
theorem dec_push {s x : List UInt8} {p : List Bool} {k : Nat} (hk : k < s.length) (h : bits8 x ++ p = bitsS (s.take k)) (h8 : 8 ≤ (p ++ b6 (num64 (s.getD k 0))).length) : bits8 (x ++ [UInt8.ofNat (bv ((p ++ b6 (num64 (s.getD k 0))).take 8))]) ++ (p ++ b6 (num64 (s.getD k 0))).drop 8 = bitsS (s.take (k + 1)) := by
  rw [bits8_app, byte_bits h8, List.append_assoc, List.take_append_drop, bits_take hk, ← h, List.append_assoc]
theorem dec_keep {s x : List UInt8} {p : List Bool} {k : Nat} (hk : k < s.length) (h : bits8 x ++ p = bitsS (s.take k)) : bits8 x ++ (p ++ b6 (num64 (s.getD k 0))) = bitsS (s.take (k + 1)) := by
  rw [bits_take hk, ← h, List.append_assoc]
set_option maxHeartbeats 400000 in
theorem size_ok {w0 : World} {base : Nat} {H : List Seg} (n : Nat) (hn : n ≤ 4294967280) :
    SCalls Tryz.prog 131 [.int .i64 (n : Int)] w0 base (H) (fun v H' => ∃ z : Int, v = .tuple #[int z, .bool (decide (n % 4 ≠ 1))] ∧ H' = H) := by
  refine SCalls.of_walk (n := 19) Tryz.func131 rfl rfl rfl fun cs => ?_
  refine At.seq ?_
  refine At.region ?_
  refine AtL.assign (.inl rfl) rfl rfl ?_
  refine AtL.assign (.inl rfl) rfl rfl ?_
  refine AtL.done ?_
  refine At.seq ?_
  refine At.seq ?_
  refine At.region ?_
  refine AtL.move (.inl rfl) rfl rfl ?_
  refine AtL.lss (.inl rfl) rfl rfl rfl ?_
  refine AtL.move (.inl rfl) rfl rfl ?_
  refine AtL.join 4 (E' := [(10, .bool (decide (((n : Int) < 0) ∨ (((n % 4 : Nat) : Int) = 1)))), (0, .int .i64 (n : Int))]) (H' := H) (fun J => ?_) ?_
  · refine AtL.split (t := 6) rfl ?_ ?_
    · intro hs6
      have hs6 : (n : Int) < 0 := of_decide_eq_true hs6
      refine AtL.skipped rfl rfl rfl rfl rfl rfl ?_
      refine AtL.skipped rfl rfl rfl rfl rfl rfl ?_
      refine AtL.skipped rfl rfl rfl rfl rfl rfl ?_
      refine AtL.pickT (.inl rfl) rfl rfl rfl ?_
      exact J _ (by exact ⟨(boolIs (by clear J; first | (simp [hs6]; done) | (simp_all; done) | grind)), rfl, trivial⟩)
    · intro hs6
      have hs6 : ¬ ((n : Int) < 0) := of_decide_eq_false hs6
      refine AtL.move (.inr ⟨_, _, _, rfl, rfl, rfl, rfl⟩) rfl rfl ?_
      refine AtL.rem (z := ((n % 4 : Nat) : Int)) (.inr ⟨_, _, _, rfl, rfl, rfl, rfl⟩) rfl rfl rfl (by omega) (by rw [Int.natCast_emod]; exact rem_eq (by omega)) ?_
      refine AtL.eqi (.inr ⟨_, _, _, rfl, rfl, rfl, rfl⟩) rfl rfl rfl ?_
      refine AtL.pickF (.inl rfl) rfl rfl rfl ?_
      exact J _ (by exact ⟨(boolIs (by clear J; first | (simp [hs6]; done) | (simp_all; done) | grind)), rfl, trivial⟩)
  · skip
    refine AtL.done ?_
    refine At.cond rfl ?_ ?_
    · intro hc1
      have hc1 : ((n : Int) < 0) ∨ (((n % 4 : Nat) : Int) = 1) := of_decide_eq_true hc1
      refine At.seq ?_
      refine At.region ?_
      refine AtL.assign (.inl rfl) rfl rfl ?_
      refine AtL.assign (.inl rfl) rfl rfl ?_
      refine AtL.done ?_
      exact At.ret Tryz.func131 rfl rfl (⟨_, by simp only [oneOf]; congr 3; simp; omega, rfl⟩)
    · intro hc1
      have hc1 : ¬ (((n : Int) < 0) ∨ (((n % 4 : Nat) : Int) = 1)) := of_decide_eq_false hc1
      refine At.skip ?_
      refine At.seq ?_
      refine At.region ?_
      refine AtL.move (.inl rfl) rfl rfl ?_
      refine AtL.quo (z := (n : Int) / 4) (.inl rfl) rfl rfl rfl (by omega) (quo_eq (by omega) (by omega) (by omega)) ?_
      refine AtL.mul (z := ((n : Int) / 4) * 3) (.inl rfl) rfl rfl rfl (w64 (by omega) (by omega)) ?_
      refine AtL.move (.inl rfl) rfl rfl ?_
      refine AtL.rem (z := (n : Int) % 4) (.inl rfl) rfl rfl rfl (by omega) (rem_eq (by omega)) ?_
      refine AtL.sub (z := ((n : Int) % 4) - 1) (.inl rfl) rfl rfl rfl (w64 (by omega) (by omega)) ?_
      refine AtL.maxZ (z := max (((n : Int) % 4) - 1) 0) (.inl rfl) rfl rfl rfl (by omega) ?_
      refine AtL.add (z := (((n : Int) / 4) * 3) + (max (((n : Int) % 4) - 1) 0)) (.inl rfl) rfl rfl rfl (w64 (by omega) (by omega)) ?_
      refine AtL.assign (.inl rfl) rfl rfl ?_
      refine AtL.assign (.inl rfl) rfl rfl ?_
      refine AtL.done ?_
      exact At.ret Tryz.func131 rfl rfl (⟨_, by simp only [oneOf]; congr 3; simp; omega, rfl⟩)
set_option maxHeartbeats 400000 in
theorem b64dec_ok {w0 : World} {base : Nat} {H : List Seg} {s : List UInt8} (hs : s.length ≤ 4294967280) :
    SCalls Tryz.prog 90 [str s] w0 base (H) (fun v H' => ∃ (x : Sl tyB 5) (at_ : Int), x.l = (decB s).getD [] ∧ v = .tuple #[.slice x.A x.l.length x.C, .agg #[int (if (decB s).isSome = true then 0 else 4), int at_]] ∧ H' = x.s :: H) := by
  refine SCalls.of_walk (n := 58) Tryz.func90 rfl rfl rfl fun cs => ?_
  refine At.seq ?_
  refine At.region ?_
  refine AtL.assign (.inl rfl) rfl rfl ?_
  refine AtL.alloc tf_zero133 (cs := #[.int .i64 0, .int .i64 0]) rfl (.inl rfl) rfl ?_
  intro b1
  refine AtL.done ?_
  refine At.seq ?_
  refine At.region ?_
  refine AtL.call tf_body130 (.inl rfl) rfl rfl numbers_ok ?_
  rintro _ _ ⟨rfl, rfl⟩
  refine AtL.allocArr tyB (l := List.replicate 256 (0 : UInt8)) tf_zero166 tf_zarr166 (by simp) (.inl rfl) rfl ?_
  intro b2 s3 o4
  rw [List.length_replicate] at o4
  refine AtL.storeArr (T := tyB) (l' := fillF 64) 0 tf_sz166 rfl o4 (by simp [fillF_len]) rfl (by simp [Ty.cells_len, tyB, fillF_len]) (.inl rfl) rfl rfl ?_
  intro s5 o6
  refine AtL.done ?_
  refine At.seq ?_
  refine At.region ?_
  refine AtL.assign (.inl rfl) rfl rfl ?_
  refine AtL.done ?_
  refine At.seq ?_
  refine At.region ?_
  refine AtL.alloc tf_zero117 (cs := #[.int .i64 0, .int .i64 0]) rfl (.inl rfl) rfl ?_
  intro b7
  refine AtL.done ?_
  refine At.seq ?_
  refine At.seq ?_
  refine At.region ?_
  refine AtL.move (.inl rfl) rfl rfl ?_
  refine AtL.lenS (l := s) Tryz.underlying9 (.inl rfl) rfl rfl ?_
  refine AtL.move (.inl rfl) rfl rfl ?_
  refine AtL.done ?_
  refine At.block ?_
  refine At.nil ?_
  refine At.loop3 (fun (k : Nat) (p : List Bool) (x : Sl tyB 5) => [(0, str s), (3, .pointer (some ⟨b1, 0, none⟩)), (4, .pointer (some ⟨b2, 0, none⟩)), (5, .slice x.A x.l.length x.C), (6, .pointer (some ⟨b7, 0, none⟩)), (13, .int .i64 (s.length : Int)), (14, .int .i64 (k : Int))]) (fun (k : Nat) (p : List Bool) (x : Sl tyB 5) => x.s :: [(b7, .cells #[.int .i64 (bv p : Int), .int .i64 (p.length : Int)] 117 (0, 0))] :: s5 :: [(b1, .cells #[.int .i64 0, .int .i64 0] 133 (0, 0))] :: H) (fun (k : Nat) (p : List Bool) (x : Sl tyB 5) => k ≤ s.length ∧ (s.take k).all (fun c => decide (num64 c < 64)) = true ∧ p.length < 8 ∧ bits8 x.l ++ p = bitsS (s.take k) ∧ x.l.length ≤ k) (fun (k : Nat) (p : List Bool) (x : Sl tyB 5) => s.length - k) 0 [] Sl.nil (⟨Nat.zero_le _, rfl, by decide, rfl, Nat.zero_le _⟩) ⟨rfl, rfl, rfl, rfl, rfl, rfl, rfl, trivial⟩ rfl ?_
  rintro k p x ⟨hk, hall, hpl, hbits, hxk⟩ ihL1
  have hcap := Own.cap_le x.own
  refine At.seq ?_
  refine At.region ?_
  refine AtL.lss (.inl rfl) rfl rfl rfl ?_
  refine AtL.done ?_
  refine At.seq ?_
  refine At.cond rfl ?_ ?_
  · intro hc1
    have hc1 : (k : Int) < (s.length : Int) := of_decide_eq_true hc1
    refine At.skip ?_
    refine At.seq ?_
    refine At.block ?_
    refine At.seq ?_
    refine At.region ?_
    refine AtL.move (.inl rfl) rfl rfl ?_
    refine AtL.assign (.inl rfl) rfl rfl ?_
    refine AtL.done ?_
    refine At.seq ?_
    refine At.region ?_
    refine AtL.move (.inl rfl) rfl rfl ?_
    refine AtL.move (.inl rfl) rfl rfl ?_
    refine AtL.indexS (l := s) k rfl (by omega) Tryz.underlying9 (.inl rfl) rfl rfl rfl ?_
    refine AtL.indexArr ((s.getD k 0).toNat) Tryz.underlying166 tf_sz5 (.inl rfl) rfl rfl rfl rfl (UInt8.toNat_lt _) ?_
    refine AtL.load (v := .int .u8 (((fillF 64).getD ((s.getD k 0).toNat) 0).toNat : Int)) tf_flat5 (.inl rfl) rfl rfl (Rd.cell0 (o6.rd (i := 2) rfl) (getD_some 0 (by rw [fillF_len]; exact (UInt8.toNat_lt _))) rfl) ?_
    refine AtL.assign (.inl rfl) rfl rfl ?_
    refine AtL.done ?_
    refine At.seq ?_
    refine At.seq ?_
    refine At.region ?_
    refine AtL.move (.inl rfl) rfl rfl ?_
    refine AtL.eqi (.inl rfl) rfl rfl rfl ?_
    refine AtL.done ?_
    refine At.cond rfl ?_ ?_
    · intro hc2
      have hc2 : (((fillF 64).getD ((s.getD k 0).toNat) 0).toNat : Int) = 255 := of_decide_eq_true hc2
      have hg : ((fillF 64).getD (s.getD k 0).toNat 0) = 255 := u8_same (d := 255) (by rw [hc2]; rfl)
      rw [fillF_get, numB_no] at hg
      have hd := decB_bad (k := k) (by omega) hg
      refine At.seq ?_
      refine At.region ?_
      refine AtL.move (.inl rfl) rfl rfl ?_
      refine AtL.build (cs := [.int .i64 4, .int .i64 (k : Int)]) tf_lay133 (.inl rfl) rfl rfl rfl ?_
      refine AtL.assign (.inl rfl) rfl rfl ?_
      refine AtL.store (H' := x.s :: [(b7, .cells #[.int .i64 (bv p : Int), .int .i64 (p.length : Int)] 117 (0, 0))] :: s5 :: [(b1, .cells #[.int .i64 4, .int .i64 (k : Int)] 133 (0, 0))] :: H) 3 0 tf_sz133 (.inl rfl) rfl rfl rfl rfl rfl rfl rfl rfl rfl ?_
      refine AtL.done ?_
      refine At.nil ?_
      have hd2 : decB s = none := hd
      exact At.retMP (vs := [.slice none 0 0, .agg #[.int .i64 4, .int .i64 (k : Int)]]) (H2 := [] :: H) [0] 5 rfl rfl Tryz.func90 rfl ⟨rfl, ⟨_, rfl, LoadsTo.agg (cs := [.int .i64 4, .int .i64 (k : Int)]) tf_agg133 rfl (cellsOwn 4 0 0 rfl rfl rfl)⟩, trivial⟩ (⟨Sl.nil, _, by rw [hd2]; rfl, by rw [hd2]; rfl, rfl⟩)
    · intro hc2
      have hc2 : ¬ ((((fillF 64).getD ((s.getD k 0).toNat) 0).toNat : Int) = 255) := of_decide_eq_false hc2
      have hcn : num64 (s.getD k 0) < 64 := by rcases Nat.lt_or_ge (num64 (s.getD k 0)) 64 with h1 | h1; exact h1; exact absurd (by rw [fillF_get, (numB_no _).2 h1]; rfl) hc2
      have hql : (p ++ (b6 (num64 (s.getD k 0)))).length = p.length + 6 := by rw [List.length_append, b6_len]
      refine At.skip ?_
      refine At.seq ?_
      refine At.region ?_
      refine AtL.move (.inl rfl) rfl rfl ?_
      have hB8 := u8_le (((fillF 64).getD ((s.getD k 0).toNat) 0))
      refine AtL.convInt (z := (((fillF 64).getD ((s.getD k 0).toNat) 0).toNat : Int)) Tryz.underlying5 Tryz.underlying3 (.inl rfl) rfl rfl (u8_i64 _) ?_
      refine AtL.pick (H' := [(b7, .cells #[.int .i64 (bv p : Int), .int .i64 (p.length : Int)] 117 (0, 0))] :: x.s :: s5 :: [(b1, .cells #[.int .i64 0, .int .i64 0] 133 (0, 0))] :: H) [1, 0, 2, 3] 4 rfl rfl ?_
      refine AtL.call tf_body69 (.inl rfl) rfl rfl (put_ok (p := p) (q := (b6 (num64 (s.getD k 0)))) (by rw [fillF_get, numB_yes hcn, bv_b6 hcn]) rfl (by omega) (by first | decide | (rw [b6_len]; decide) | (rw [b8_len]; decide) | (rw [List.length_replicate]; omega))) ?_
      rintro _ _ ⟨rfl, rfl⟩
      refine AtL.done ?_
      refine At.seq ?_
      refine At.region ?_
      refine AtL.fieldAddrB tf_fo117_1 (.inl rfl) rfl rfl rfl ?_
      refine AtL.load tf_flat3 (.inl rfl) rfl rfl (Cell.own 0 0 rfl rfl rfl) ?_
      refine AtL.geq (.inl rfl) rfl rfl rfl ?_
      refine AtL.done ?_
      refine At.cond rfl ?_ ?_
      · intro hc3
        have hc3 : 8 ≤ ((p ++ (b6 (num64 (s.getD k 0)))).length : Int) := of_decide_eq_true hc3
        refine At.region ?_
        refine AtL.move (.inl rfl) rfl rfl ?_
        refine AtL.call tf_body71 (.inl rfl) rfl rfl (get_ok (p := (p ++ (b6 (num64 (s.getD k 0))))) 8 rfl (by omega) (by omega)) ?_
        rintro _ _ ⟨rfl, rfl⟩
        refine AtL.convInt (z := ((UInt8.ofNat (bv ((p ++ (b6 (num64 (s.getD k 0)))).take 8))).toNat : Int)) Tryz.underlying3 Tryz.underlying5 (.inl rfl) rfl rfl (u8_nat _) ?_
        refine AtL.buildSlice (cs := [.int .u8 ((UInt8.ofNat (bv ((p ++ (b6 (num64 (s.getD k 0)))).take 8))).toNat : Int)]) Tryz.underlying22 tf_zero5 tf_sz5 rfl rfl (.inl rfl) rfl rfl rfl ?_
        intro b9
        refine AtL.own1 tyB (l := ([(UInt8.ofNat (bv ((p ++ (b6 (num64 (s.getD k 0)))).take 8)))] : List UInt8)) rfl rfl (by first | decide | simp) ?_
        intro s10 o11
        refine AtL.append (l := x.l) (news := [(UInt8.ofNat (bv ((p ++ (b6 (num64 (s.getD k 0)))).take 8)))]) 2 tf_el22 rfl x.own (o11.rd (i := 0) rfl) (by first | omega | (simp only [List.length_append, List.length_cons, List.length_nil]; omega) | (simp; done) | (simp; omega)) (.inl rfl) rfl rfl rfl ?_
        intro A12 C13 s14 o15
        refine AtL.assign (.inl rfl) rfl rfl ?_
        refine AtL.done ?_
        refine At.inBlock ?_
        refine At.region ?_
        refine AtL.add (z := (k : Int) + 1) (.inl rfl) rfl rfl rfl (w64 (by omega) (by omega)) ?_
        refine AtL.move (.inl rfl) rfl rfl ?_
        refine AtL.done ?_
        refine At.pick (H' := s14 :: [(b7, .cells #[.int .i64 (bv ((p ++ (b6 (num64 (s.getD k 0)))).drop 8) : Int), .int .i64 (((p ++ (b6 (num64 (s.getD k 0)))).drop 8).length : Int)] 117 (0, 0))] :: s5 :: [(b1, .cells #[.int .i64 0, .int .i64 0] 133 (0, 0))] :: H) [2, 1, 3, 4] 5 rfl rfl ?_
        refine ihL1 (k + 1) ((p ++ (b6 (num64 (s.getD k 0)))).drop 8) (⟨A12, C13, x.l ++ [(UInt8.ofNat (bv ((p ++ (b6 (num64 (s.getD k 0)))).take 8)))], s14, o15⟩) (⟨by omega, take_all (by omega) hall hcn, by have := hpl; first | (rw [List.length_drop]; omega) | omega, dec_push (by omega) hbits (by omega), by first | omega | (dsimp only; rw [List.length_append]; simp only [List.length_cons, List.length_nil]; omega)⟩) (by omega) _ ?_
        exact ⟨rfl, rfl, rfl, (by first | rfl | exact slLen (by simp []) | exact intEq (by omega) | exact intEq (by simp []) | exact slLen (by simp []; omega)), rfl, rfl, (by first | rfl | exact slLen (by simp []) | exact intEq (by omega) | exact intEq (by simp []) | exact slLen (by simp []; omega)), trivial⟩
      · intro hc3
        have hc3 : ¬ (8 ≤ ((p ++ (b6 (num64 (s.getD k 0)))).length : Int)) := of_decide_eq_false hc3
        refine At.skip ?_
        refine At.inBlock ?_
        refine At.region ?_
        refine AtL.add (z := (k : Int) + 1) (.inl rfl) rfl rfl rfl (w64 (by omega) (by omega)) ?_
        refine AtL.move (.inl rfl) rfl rfl ?_
        refine AtL.done ?_
        refine At.pick (H' := x.s :: [(b7, .cells #[.int .i64 (bv (p ++ (b6 (num64 (s.getD k 0)))) : Int), .int .i64 ((p ++ (b6 (num64 (s.getD k 0)))).length : Int)] 117 (0, 0))] :: s5 :: [(b1, .cells #[.int .i64 0, .int .i64 0] 133 (0, 0))] :: H) [1, 0, 2, 3] 4 rfl rfl ?_
        refine ihL1 (k + 1) (p ++ (b6 (num64 (s.getD k 0)))) x (⟨by omega, take_all (by omega) hall hcn, by have := hpl; first | (rw [List.length_drop]; omega) | omega, dec_keep (by omega) hbits, by first | omega | (dsimp only; rw [List.length_append]; simp only [List.length_cons, List.length_nil]; omega)⟩) (by omega) _ ?_
        exact ⟨rfl, rfl, rfl, (by first | rfl | exact slLen (by simp []) | exact intEq (by omega) | exact intEq (by simp []) | exact slLen (by simp []; omega)), rfl, rfl, (by first | rfl | exact slLen (by simp []) | exact intEq (by omega) | exact intEq (by simp []) | exact slLen (by simp []; omega)), trivial⟩
  · intro hc1
    have hc1 : ¬ ((k : Int) < (s.length : Int)) := of_decide_eq_false hc1
    rw [List.take_of_length_le (by omega)] at hall hbits
    have hd := decB_of hall hpl hbits
    have hz := bv_zero p
    refine At.exit rfl ?_
    refine At.seq ?_
    refine At.seq ?_
    refine At.region ?_
    refine AtL.move (.inl rfl) rfl rfl ?_
    refine AtL.lenS (l := s) Tryz.underlying9 (.inl rfl) rfl rfl ?_
    refine AtL.call tf_body131 (.inl rfl) rfl rfl (size_ok s.length (by omega)) ?_
    rintro _ _ ⟨z16, rfl, rfl⟩
    refine AtL.move (.inl rfl) rfl rfl ?_
    refine AtL.extract (.inl rfl) rfl rfl rfl ?_
    refine AtL.extract (.inl rfl) rfl rfl rfl ?_
    refine AtL.assign (.inl rfl) rfl rfl ?_
    refine AtL.assign (.inl rfl) rfl rfl ?_
    refine AtL.done ?_
    refine At.seq ?_
    refine At.region ?_
    refine AtL.move (.inl rfl) rfl rfl ?_
    refine AtL.not (.inl rfl) rfl rfl ?_
    refine AtL.done ?_
    refine At.cond rfl ?_ ?_
    · intro hc4
      have hc4 : ¬ (s.length % 4 ≠ 1) := of_decide_eq_false (bnot_true hc4)
      refine At.seq ?_
      refine At.region ?_
      refine AtL.move (.inl rfl) rfl rfl ?_
      refine AtL.lenS (l := s) Tryz.underlying9 (.inl rfl) rfl rfl ?_
      refine AtL.build (cs := [.int .i64 4, .int .i64 (s.length : Int)]) tf_lay133 (.inl rfl) rfl rfl rfl ?_
      refine AtL.assign (.inl rfl) rfl rfl ?_
      refine AtL.store (H' := x.s :: [(b7, .cells #[.int .i64 (bv p : Int), .int .i64 (p.length : Int)] 117 (0, 0))] :: s5 :: [(b1, .cells #[.int .i64 4, .int .i64 (s.length : Int)] 133 (0, 0))] :: H) 3 0 tf_sz133 (.inl rfl) rfl rfl rfl rfl rfl rfl rfl rfl rfl ?_
      refine AtL.done ?_
      refine At.nil ?_
      have hd2 : decB s = none := by rw [hd, if_pos (.inl (by omega))]
      exact At.retMP (vs := [.slice none 0 0, .agg #[.int .i64 4, .int .i64 (s.length : Int)]]) (H2 := [] :: H) [0] 5 rfl rfl Tryz.func90 rfl ⟨rfl, ⟨_, rfl, LoadsTo.agg (cs := [.int .i64 4, .int .i64 (s.length : Int)]) tf_agg133 rfl (cellsOwn 4 0 0 rfl rfl rfl)⟩, trivial⟩ (⟨Sl.nil, _, by rw [hd2]; rfl, by rw [hd2]; rfl, rfl⟩)
    · intro hc4
      have hc4 : s.length % 4 ≠ 1 := of_decide_eq_true (bnot_false hc4)
      refine At.skip ?_
      refine At.seq ?_
      refine At.seq ?_
      refine At.region ?_
      refine AtL.fieldAddrB tf_fo117_0 (.inl rfl) rfl rfl rfl ?_
      refine AtL.load tf_flat3 (.inl rfl) rfl rfl (Cell.own 1 0 rfl rfl rfl) ?_
      refine AtL.nei (.inl rfl) rfl rfl rfl ?_
      refine AtL.done ?_
      refine At.cond rfl ?_ ?_
      · intro hc5
        have hc5 : ¬ ((bv p : Int) = 0) := of_decide_eq_false (bnot_true hc5)
        refine At.seq ?_
        refine At.region ?_
        refine AtL.move (.inl rfl) rfl rfl ?_
        refine AtL.lenS (l := s) Tryz.underlying9 (.inl rfl) rfl rfl ?_
        refine AtL.sub (z := (s.length : Int) - 1) (.inl rfl) rfl rfl rfl (w64 (by omega) (by omega)) ?_
        refine AtL.build (cs := [.int .i64 4, .int .i64 ((s.length : Int) - 1)]) tf_lay133 (.inl rfl) rfl rfl rfl ?_
        refine AtL.assign (.inl rfl) rfl rfl ?_
        refine AtL.store (H' := x.s :: [(b7, .cells #[.int .i64 (bv p : Int), .int .i64 (p.length : Int)] 117 (0, 0))] :: s5 :: [(b1, .cells #[.int .i64 4, .int .i64 ((s.length : Int) - 1)] 133 (0, 0))] :: H) 3 0 tf_sz133 (.inl rfl) rfl rfl rfl rfl rfl rfl rfl rfl rfl ?_
        refine AtL.done ?_
        refine At.nil ?_
        have hd2 : decB s = none := by rw [hd, if_pos (.inr (by rcases Bool.eq_false_or_eq_true (p.any id) with h1 | h1; exact h1; exact absurd (by rw [hz.2 h1]; rfl) hc5))]
        exact At.retMP (vs := [.slice none 0 0, .agg #[.int .i64 4, .int .i64 ((s.length : Int) - 1)]]) (H2 := [] :: H) [0] 5 rfl rfl Tryz.func90 rfl ⟨rfl, ⟨_, rfl, LoadsTo.agg (cs := [.int .i64 4, .int .i64 ((s.length : Int) - 1)]) tf_agg133 rfl (cellsOwn 4 0 0 rfl rfl rfl)⟩, trivial⟩ (⟨Sl.nil, _, by rw [hd2]; rfl, by rw [hd2]; rfl, rfl⟩)
      · intro hc5
        have hc5 : (bv p : Int) = 0 := of_decide_eq_true (bnot_false hc5)
        refine At.skip ?_
        refine At.seq ?_
        refine At.region ?_
        refine AtL.move (.inl rfl) rfl rfl ?_
        refine AtL.build (cs := [.int .i64 0, .int .i64 0]) tf_lay133 (.inl rfl) rfl rfl rfl ?_
        refine AtL.assign (.inl rfl) rfl rfl ?_
        refine AtL.store (H' := x.s :: [(b7, .cells #[.int .i64 (bv p : Int), .int .i64 (p.length : Int)] 117 (0, 0))] :: s5 :: [(b1, .cells #[.int .i64 0, .int .i64 0] 133 (0, 0))] :: H) 3 0 tf_sz133 (.inl rfl) rfl rfl rfl rfl rfl rfl rfl rfl rfl ?_
        refine AtL.done ?_
        have hd2 : decB s = some x.l := by rw [hd, if_neg (by rintro (h1 | h1); omega; rw [hz.1 (by omega)] at h1; cases h1)]
        exact At.retMP (vs := [.slice x.A x.l.length x.C, .agg #[.int .i64 0, .int .i64 0]]) (H2 := x.s :: H) [0] 4 rfl rfl Tryz.func90 rfl ⟨rfl, ⟨_, rfl, LoadsTo.agg (cs := [.int .i64 0, .int .i64 0]) tf_agg133 rfl (cellsOwn 3 0 0 rfl rfl rfl)⟩, trivial⟩ (⟨x, _, by rw [hd2]; rfl, by rw [hd2]; rfl, rfl⟩)
end Go.Proofs.YtlkdmbpbjhjkfaaGreatDoor
