/- What the walks need of the types and functions of this program, each a closed fact. -/
import Derived.Test.YtllfgcekebafhaaDoorProg
import Derived.Test.YtllfgcekebafhaaDoorLgT
namespace Go.Proofs.YtllfgcekebafhaaDoor
set_option maxRecDepth 100000
theorem tf_flat1 : flatB Tryd.prog 1 = true := by kernel_rfl
theorem tf_sz1 : sizeN Tryd.prog 1 1 = true := by kernel_rfl
theorem tf_zero1 : zeroV Tryd.prog 1 = some (.nilFunc) := by kernel_rfl
theorem tf_flat2 : flatB Tryd.prog 2 = true := by kernel_rfl
theorem tf_sz2 : sizeN Tryd.prog 2 1 = true := by kernel_rfl
theorem tf_zero2 : zeroV Tryd.prog 2 = some (.int .i64 0) := by kernel_rfl
theorem tf_flat3 : flatB Tryd.prog 3 = true := by kernel_rfl
theorem tf_sz3 : sizeN Tryd.prog 3 1 = true := by kernel_rfl
theorem tf_zero3 : zeroV Tryd.prog 3 = some (.int .i64 0) := by kernel_rfl
theorem tf_flat4 : flatB Tryd.prog 4 = true := by kernel_rfl
theorem tf_sz4 : sizeN Tryd.prog 4 1 = true := by kernel_rfl
theorem tf_zero4 : zeroV Tryd.prog 4 = some (.bool false) := by kernel_rfl
theorem tf_flat5 : flatB Tryd.prog 5 = true := by kernel_rfl
theorem tf_sz5 : sizeN Tryd.prog 5 1 = true := by kernel_rfl
theorem tf_zero5 : zeroV Tryd.prog 5 = some (.int .u8 0) := by kernel_rfl
theorem tf_flat6 : flatB Tryd.prog 6 = true := by kernel_rfl
theorem tf_sz6 : sizeN Tryd.prog 6 1 = true := by kernel_rfl
theorem tf_zero6 : zeroV Tryd.prog 6 = some (.int .u8 0) := by kernel_rfl
theorem tf_sz7 : sizeN Tryd.prog 7 4 = true := by kernel_rfl
theorem tf_agg7 : aggN Tryd.prog 7 = some 4 := by kernel_rfl
theorem tf_zero7 : zeroV Tryd.prog 7 = some (.agg #[.int .i64 0, .int .i64 0, .bool false, .int .u8 0]) := by kernel_rfl
theorem tf_lay7 : layOf Tryd.prog 7 = some ([(0, 1), (1, 1), (2, 1), (3, 1)], [.int .i64 0, .int .i64 0, .bool false, .int .u8 0]) := by kernel_rfl
theorem tf_fo7_0 : fieldOff Tryd.prog 7 0 = some 0 := by kernel_rfl
theorem tf_fo7_1 : fieldOff Tryd.prog 7 1 = some 1 := by kernel_rfl
theorem tf_fo7_2 : fieldOff Tryd.prog 7 2 = some 2 := by kernel_rfl
theorem tf_fo7_3 : fieldOff Tryd.prog 7 3 = some 3 := by kernel_rfl
theorem tf_sz8 : sizeN Tryd.prog 8 4 = true := by kernel_rfl
theorem tf_agg8 : aggN Tryd.prog 8 = some 4 := by kernel_rfl
theorem tf_zero8 : zeroV Tryd.prog 8 = some (.agg #[.int .i64 0, .int .i64 0, .bool false, .int .u8 0]) := by kernel_rfl
theorem tf_lay8 : layOf Tryd.prog 8 = some ([(0, 1), (1, 1), (2, 1), (3, 1)], [.int .i64 0, .int .i64 0, .bool false, .int .u8 0]) := by kernel_rfl
theorem tf_fo8_0 : fieldOff Tryd.prog 8 0 = some 0 := by kernel_rfl
theorem tf_fo8_1 : fieldOff Tryd.prog 8 1 = some 1 := by kernel_rfl
theorem tf_fo8_2 : fieldOff Tryd.prog 8 2 = some 2 := by kernel_rfl
theorem tf_fo8_3 : fieldOff Tryd.prog 8 3 = some 3 := by kernel_rfl
theorem tf_flat9 : flatB Tryd.prog 9 = true := by kernel_rfl
theorem tf_sz9 : sizeN Tryd.prog 9 1 = true := by kernel_rfl
theorem tf_zero9 : zeroV Tryd.prog 9 = some (str []) := by kernel_rfl
theorem tf_flat10 : flatB Tryd.prog 10 = true := by kernel_rfl
theorem tf_sz10 : sizeN Tryd.prog 10 1 = true := by kernel_rfl
theorem tf_zero10 : zeroV Tryd.prog 10 = some (str []) := by kernel_rfl
theorem tf_flat11 : flatB Tryd.prog 11 = true := by kernel_rfl
theorem tf_sz11 : sizeN Tryd.prog 11 1 = true := by kernel_rfl
theorem tf_zero11 : zeroV Tryd.prog 11 = some (str []) := by kernel_rfl
theorem tf_flat12 : flatB Tryd.prog 12 = true := by kernel_rfl
theorem tf_sz12 : sizeN Tryd.prog 12 1 = true := by kernel_rfl
theorem tf_zero12 : zeroV Tryd.prog 12 = some (.int .u64 0) := by kernel_rfl
theorem tf_sz13 : sizeN Tryd.prog 13 2 = true := by kernel_rfl
theorem tf_agg13 : aggN Tryd.prog 13 = some 2 := by kernel_rfl
theorem tf_zero13 : zeroV Tryd.prog 13 = some (.agg #[str [], .int .u64 0]) := by kernel_rfl
theorem tf_lay13 : layOf Tryd.prog 13 = some ([(0, 1), (1, 1)], [str [], .int .u64 0]) := by kernel_rfl
theorem tf_fo13_0 : fieldOff Tryd.prog 13 0 = some 0 := by kernel_rfl
theorem tf_fo13_1 : fieldOff Tryd.prog 13 1 = some 1 := by kernel_rfl
theorem tf_sz14 : sizeN Tryd.prog 14 2 = true := by kernel_rfl
theorem tf_agg14 : aggN Tryd.prog 14 = some 2 := by kernel_rfl
theorem tf_zero14 : zeroV Tryd.prog 14 = some (.agg #[str [], .int .u64 0]) := by kernel_rfl
theorem tf_lay14 : layOf Tryd.prog 14 = some ([(0, 1), (1, 1)], [str [], .int .u64 0]) := by kernel_rfl
theorem tf_fo14_0 : fieldOff Tryd.prog 14 0 = some 0 := by kernel_rfl
theorem tf_fo14_1 : fieldOff Tryd.prog 14 1 = some 1 := by kernel_rfl
theorem tf_flat15 : flatB Tryd.prog 15 = true := by kernel_rfl
theorem tf_sz15 : sizeN Tryd.prog 15 1 = true := by kernel_rfl
theorem tf_zero15 : zeroV Tryd.prog 15 = some (.pointer none) := by kernel_rfl
theorem tf_flat16 : flatB Tryd.prog 16 = true := by kernel_rfl
theorem tf_sz16 : sizeN Tryd.prog 16 1 = true := by kernel_rfl
theorem tf_zero16 : zeroV Tryd.prog 16 = some (.pointer none) := by kernel_rfl
theorem tf_flat17 : flatB Tryd.prog 17 = true := by kernel_rfl
theorem tf_sz17 : sizeN Tryd.prog 17 1 = true := by kernel_rfl
theorem tf_zero17 : zeroV Tryd.prog 17 = some (.pointer none) := by kernel_rfl
theorem tf_sz18 : sizeN Tryd.prog 18 1 = true := by kernel_rfl
theorem tf_agg18 : aggN Tryd.prog 18 = some 1 := by kernel_rfl
theorem tf_zero18 : zeroV Tryd.prog 18 = some (.agg #[.pointer none]) := by kernel_rfl
theorem tf_lay18 : layOf Tryd.prog 18 = some ([(0, 1)], [.pointer none]) := by kernel_rfl
theorem tf_fo18_0 : fieldOff Tryd.prog 18 0 = some 0 := by kernel_rfl
theorem tf_sz19 : sizeN Tryd.prog 19 1 = true := by kernel_rfl
theorem tf_agg19 : aggN Tryd.prog 19 = some 1 := by kernel_rfl
theorem tf_zero19 : zeroV Tryd.prog 19 = some (.agg #[.pointer none]) := by kernel_rfl
theorem tf_lay19 : layOf Tryd.prog 19 = some ([(0, 1)], [.pointer none]) := by kernel_rfl
theorem tf_fo19_0 : fieldOff Tryd.prog 19 0 = some 0 := by kernel_rfl
theorem tf_flat20 : flatB Tryd.prog 20 = true := by kernel_rfl
theorem tf_sz20 : sizeN Tryd.prog 20 1 = true := by kernel_rfl
theorem tf_zero20 : zeroV Tryd.prog 20 = some (.nilIface) := by kernel_rfl
theorem tf_flat21 : flatB Tryd.prog 21 = true := by kernel_rfl
theorem tf_sz21 : sizeN Tryd.prog 21 1 = true := by kernel_rfl
theorem tf_zero21 : zeroV Tryd.prog 21 = some (.int .i32 0) := by kernel_rfl
theorem tf_flat22 : flatB Tryd.prog 22 = true := by kernel_rfl
theorem tf_sz22 : sizeN Tryd.prog 22 1 = true := by kernel_rfl
theorem tf_zero22 : zeroV Tryd.prog 22 = some (.slice none 0 0) := by kernel_rfl
theorem tf_el22 : ElemOk Tryd.prog 22 5 tyB (0 : UInt8) 1 := ElemOk.of Tryd.underlying22 (by kernel_rfl) (by kernel_rfl) rfl
theorem tf_flat23 : flatB Tryd.prog 23 = true := by kernel_rfl
theorem tf_sz23 : sizeN Tryd.prog 23 1 = true := by kernel_rfl
theorem tf_zero23 : zeroV Tryd.prog 23 = some (.nilFunc) := by kernel_rfl
theorem tf_flat24 : flatB Tryd.prog 24 = true := by kernel_rfl
theorem tf_sz24 : sizeN Tryd.prog 24 1 = true := by kernel_rfl
theorem tf_zero24 : zeroV Tryd.prog 24 = some (.nilFunc) := by kernel_rfl
theorem tf_flat25 : flatB Tryd.prog 25 = true := by kernel_rfl
theorem tf_sz25 : sizeN Tryd.prog 25 1 = true := by kernel_rfl
theorem tf_zero25 : zeroV Tryd.prog 25 = some (.int .i64 0) := by kernel_rfl
theorem tf_flat27 : flatB Tryd.prog 27 = true := by kernel_rfl
theorem tf_sz27 : sizeN Tryd.prog 27 1 = true := by kernel_rfl
theorem tf_zero27 : zeroV Tryd.prog 27 = some (.nilFunc) := by kernel_rfl
theorem tf_flat28 : flatB Tryd.prog 28 = true := by kernel_rfl
theorem tf_sz28 : sizeN Tryd.prog 28 1 = true := by kernel_rfl
theorem tf_zero28 : zeroV Tryd.prog 28 = some (.nilFunc) := by kernel_rfl
theorem tf_flat29 : flatB Tryd.prog 29 = true := by kernel_rfl
theorem tf_sz29 : sizeN Tryd.prog 29 1 = true := by kernel_rfl
theorem tf_zero29 : zeroV Tryd.prog 29 = some (.nilFunc) := by kernel_rfl
theorem tf_flat30 : flatB Tryd.prog 30 = true := by kernel_rfl
theorem tf_sz30 : sizeN Tryd.prog 30 1 = true := by kernel_rfl
theorem tf_zero30 : zeroV Tryd.prog 30 = some (.nilFunc) := by kernel_rfl
theorem tf_flat31 : flatB Tryd.prog 31 = true := by kernel_rfl
theorem tf_sz31 : sizeN Tryd.prog 31 1 = true := by kernel_rfl
theorem tf_zero31 : zeroV Tryd.prog 31 = some (.slice none 0 0) := by kernel_rfl
theorem tf_el31 : ElemOk Tryd.prog 31 22 tyL (⟨none, 0, []⟩ : Bs) 24 := ElemOk.of Tryd.underlying31 (by kernel_rfl) (by kernel_rfl) rfl
theorem tf_flat32 : flatB Tryd.prog 32 = true := by kernel_rfl
theorem tf_sz32 : sizeN Tryd.prog 32 1 = true := by kernel_rfl
theorem tf_zero32 : zeroV Tryd.prog 32 = some (.slice none 0 0) := by kernel_rfl
theorem tf_el32 : ElemOk Tryd.prog 32 3 tyI (0 : Int) 8 := ElemOk.of Tryd.underlying32 (by kernel_rfl) (by kernel_rfl) rfl
theorem tf_flat34 : flatB Tryd.prog 34 = true := by kernel_rfl
theorem tf_sz34 : sizeN Tryd.prog 34 1 = true := by kernel_rfl
theorem tf_zero34 : zeroV Tryd.prog 34 = some (.nilFunc) := by kernel_rfl
theorem tf_flat35 : flatB Tryd.prog 35 = true := by kernel_rfl
theorem tf_sz35 : sizeN Tryd.prog 35 1 = true := by kernel_rfl
theorem tf_zero35 : zeroV Tryd.prog 35 = some (.nilFunc) := by kernel_rfl
theorem tf_flat36 : flatB Tryd.prog 36 = true := by kernel_rfl
theorem tf_sz36 : sizeN Tryd.prog 36 1 = true := by kernel_rfl
theorem tf_zero36 : zeroV Tryd.prog 36 = some (.nilFunc) := by kernel_rfl
theorem tf_flat37 : flatB Tryd.prog 37 = true := by kernel_rfl
theorem tf_sz37 : sizeN Tryd.prog 37 1 = true := by kernel_rfl
theorem tf_zero37 : zeroV Tryd.prog 37 = some (.nilFunc) := by kernel_rfl
theorem tf_flat38 : flatB Tryd.prog 38 = true := by kernel_rfl
theorem tf_sz38 : sizeN Tryd.prog 38 1 = true := by kernel_rfl
theorem tf_zero38 : zeroV Tryd.prog 38 = some (.nilFunc) := by kernel_rfl
theorem tf_flat39 : flatB Tryd.prog 39 = true := by kernel_rfl
theorem tf_sz39 : sizeN Tryd.prog 39 1 = true := by kernel_rfl
theorem tf_zero39 : zeroV Tryd.prog 39 = some (.pointer none) := by kernel_rfl
theorem tf_flat41 : flatB Tryd.prog 41 = true := by kernel_rfl
theorem tf_sz41 : sizeN Tryd.prog 41 1 = true := by kernel_rfl
theorem tf_zero41 : zeroV Tryd.prog 41 = some (.nilFunc) := by kernel_rfl
theorem tf_flat42 : flatB Tryd.prog 42 = true := by kernel_rfl
theorem tf_sz42 : sizeN Tryd.prog 42 1 = true := by kernel_rfl
theorem tf_zero42 : zeroV Tryd.prog 42 = some (.pointer none) := by kernel_rfl
theorem tf_flat44 : flatB Tryd.prog 44 = true := by kernel_rfl
theorem tf_sz44 : sizeN Tryd.prog 44 1 = true := by kernel_rfl
theorem tf_zero44 : zeroV Tryd.prog 44 = some (.nilFunc) := by kernel_rfl
theorem tf_flat46 : flatB Tryd.prog 46 = true := by kernel_rfl
theorem tf_sz46 : sizeN Tryd.prog 46 1 = true := by kernel_rfl
theorem tf_zero46 : zeroV Tryd.prog 46 = some (.nilFunc) := by kernel_rfl
theorem tf_flat47 : flatB Tryd.prog 47 = true := by kernel_rfl
theorem tf_sz47 : sizeN Tryd.prog 47 1 = true := by kernel_rfl
theorem tf_zero47 : zeroV Tryd.prog 47 = some (.nilFunc) := by kernel_rfl
theorem tf_sz48 : sizeN Tryd.prog 48 3 = true := by kernel_rfl
theorem tf_agg48 : aggN Tryd.prog 48 = some 3 := by kernel_rfl
theorem tf_zero48 : zeroV Tryd.prog 48 = some (.agg #[.int .i64 0, .slice none 0 0, .bool false]) := by kernel_rfl
theorem tf_lay48 : layOf Tryd.prog 48 = some ([(0, 1), (1, 1), (2, 1)], [.int .i64 0, .slice none 0 0, .bool false]) := by kernel_rfl
theorem tf_fo48_0 : fieldOff Tryd.prog 48 0 = some 0 := by kernel_rfl
theorem tf_fo48_1 : fieldOff Tryd.prog 48 1 = some 1 := by kernel_rfl
theorem tf_fo48_2 : fieldOff Tryd.prog 48 2 = some 2 := by kernel_rfl
theorem tf_sz49 : sizeN Tryd.prog 49 3 = true := by kernel_rfl
theorem tf_agg49 : aggN Tryd.prog 49 = some 3 := by kernel_rfl
theorem tf_zero49 : zeroV Tryd.prog 49 = some (.agg #[.int .i64 0, .slice none 0 0, .bool false]) := by kernel_rfl
theorem tf_lay49 : layOf Tryd.prog 49 = some ([(0, 1), (1, 1), (2, 1)], [.int .i64 0, .slice none 0 0, .bool false]) := by kernel_rfl
theorem tf_fo49_0 : fieldOff Tryd.prog 49 0 = some 0 := by kernel_rfl
theorem tf_fo49_1 : fieldOff Tryd.prog 49 1 = some 1 := by kernel_rfl
theorem tf_fo49_2 : fieldOff Tryd.prog 49 2 = some 2 := by kernel_rfl
theorem tf_flat50 : flatB Tryd.prog 50 = true := by kernel_rfl
theorem tf_sz50 : sizeN Tryd.prog 50 1 = true := by kernel_rfl
theorem tf_zero50 : zeroV Tryd.prog 50 = some (.nilFunc) := by kernel_rfl
theorem tf_flat51 : flatB Tryd.prog 51 = true := by kernel_rfl
theorem tf_sz51 : sizeN Tryd.prog 51 1 = true := by kernel_rfl
theorem tf_zero51 : zeroV Tryd.prog 51 = some (.int .i8 0) := by kernel_rfl
theorem tf_flat52 : flatB Tryd.prog 52 = true := by kernel_rfl
theorem tf_sz52 : sizeN Tryd.prog 52 1 = true := by kernel_rfl
theorem tf_zero52 : zeroV Tryd.prog 52 = some (.int .i8 0) := by kernel_rfl
theorem tf_sz53 : sizeN Tryd.prog 53 3 = true := by kernel_rfl
theorem tf_agg53 : aggN Tryd.prog 53 = some 3 := by kernel_rfl
theorem tf_zero53 : zeroV Tryd.prog 53 = some (.agg #[.slice none 0 0, .int .i64 0, .int .i8 0]) := by kernel_rfl
theorem tf_lay53 : layOf Tryd.prog 53 = some ([(0, 1), (1, 1), (2, 1)], [.slice none 0 0, .int .i64 0, .int .i8 0]) := by kernel_rfl
theorem tf_fo53_0 : fieldOff Tryd.prog 53 0 = some 0 := by kernel_rfl
theorem tf_fo53_1 : fieldOff Tryd.prog 53 1 = some 1 := by kernel_rfl
theorem tf_fo53_2 : fieldOff Tryd.prog 53 2 = some 2 := by kernel_rfl
theorem tf_sz54 : sizeN Tryd.prog 54 3 = true := by kernel_rfl
theorem tf_agg54 : aggN Tryd.prog 54 = some 3 := by kernel_rfl
theorem tf_zero54 : zeroV Tryd.prog 54 = some (.agg #[.slice none 0 0, .int .i64 0, .int .i8 0]) := by kernel_rfl
theorem tf_lay54 : layOf Tryd.prog 54 = some ([(0, 1), (1, 1), (2, 1)], [.slice none 0 0, .int .i64 0, .int .i8 0]) := by kernel_rfl
theorem tf_fo54_0 : fieldOff Tryd.prog 54 0 = some 0 := by kernel_rfl
theorem tf_fo54_1 : fieldOff Tryd.prog 54 1 = some 1 := by kernel_rfl
theorem tf_fo54_2 : fieldOff Tryd.prog 54 2 = some 2 := by kernel_rfl
theorem tf_sz55 : sizeN Tryd.prog 55 6 = true := by kernel_rfl
theorem tf_agg55 : aggN Tryd.prog 55 = some 6 := by kernel_rfl
theorem tf_zero55 : zeroV Tryd.prog 55 = some (.agg #[.int .i64 0, .bool false, .slice none 0 0, .int .i64 0, .int .i8 0, .int .i64 0]) := by kernel_rfl
theorem tf_lay55 : layOf Tryd.prog 55 = some ([(0, 1), (1, 1), (2, 3), (5, 1)], [.int .i64 0, .bool false, .slice none 0 0, .int .i64 0, .int .i8 0, .int .i64 0]) := by kernel_rfl
theorem tf_fo55_0 : fieldOff Tryd.prog 55 0 = some 0 := by kernel_rfl
theorem tf_fo55_1 : fieldOff Tryd.prog 55 1 = some 1 := by kernel_rfl
theorem tf_fo55_2 : fieldOff Tryd.prog 55 2 = some 2 := by kernel_rfl
theorem tf_fo55_3 : fieldOff Tryd.prog 55 3 = some 5 := by kernel_rfl
theorem tf_sz56 : sizeN Tryd.prog 56 6 = true := by kernel_rfl
theorem tf_agg56 : aggN Tryd.prog 56 = some 6 := by kernel_rfl
theorem tf_zero56 : zeroV Tryd.prog 56 = some (.agg #[.int .i64 0, .bool false, .slice none 0 0, .int .i64 0, .int .i8 0, .int .i64 0]) := by kernel_rfl
theorem tf_lay56 : layOf Tryd.prog 56 = some ([(0, 1), (1, 1), (2, 3), (5, 1)], [.int .i64 0, .bool false, .slice none 0 0, .int .i64 0, .int .i8 0, .int .i64 0]) := by kernel_rfl
theorem tf_fo56_0 : fieldOff Tryd.prog 56 0 = some 0 := by kernel_rfl
theorem tf_fo56_1 : fieldOff Tryd.prog 56 1 = some 1 := by kernel_rfl
theorem tf_fo56_2 : fieldOff Tryd.prog 56 2 = some 2 := by kernel_rfl
theorem tf_fo56_3 : fieldOff Tryd.prog 56 3 = some 5 := by kernel_rfl
theorem tf_flat57 : flatB Tryd.prog 57 = true := by kernel_rfl
theorem tf_sz57 : sizeN Tryd.prog 57 1 = true := by kernel_rfl
theorem tf_zero57 : zeroV Tryd.prog 57 = some (.slice none 0 0) := by kernel_rfl
theorem tf_flat58 : flatB Tryd.prog 58 = true := by kernel_rfl
theorem tf_sz58 : sizeN Tryd.prog 58 1 = true := by kernel_rfl
theorem tf_zero58 : zeroV Tryd.prog 58 = some (.nilFunc) := by kernel_rfl
theorem tf_flat59 : flatB Tryd.prog 59 = true := by kernel_rfl
theorem tf_sz59 : sizeN Tryd.prog 59 1 = true := by kernel_rfl
theorem tf_zero59 : zeroV Tryd.prog 59 = some (.nilFunc) := by kernel_rfl
theorem tf_flat60 : flatB Tryd.prog 60 = true := by kernel_rfl
theorem tf_sz60 : sizeN Tryd.prog 60 1 = true := by kernel_rfl
theorem tf_zero60 : zeroV Tryd.prog 60 = some (.int .u64 0) := by kernel_rfl
theorem tf_flat61 : flatB Tryd.prog 61 = true := by kernel_rfl
theorem tf_sz61 : sizeN Tryd.prog 61 1 = true := by kernel_rfl
theorem tf_zero61 : zeroV Tryd.prog 61 = some (.nilFunc) := by kernel_rfl
theorem tf_flat62 : flatB Tryd.prog 62 = true := by kernel_rfl
theorem tf_sz62 : sizeN Tryd.prog 62 1 = true := by kernel_rfl
theorem tf_zero62 : zeroV Tryd.prog 62 = some (.nilIface) := by kernel_rfl
theorem tf_flat63 : flatB Tryd.prog 63 = true := by kernel_rfl
theorem tf_sz63 : sizeN Tryd.prog 63 1 = true := by kernel_rfl
theorem tf_zero63 : zeroV Tryd.prog 63 = some (.nilIface) := by kernel_rfl
theorem tf_flat65 : flatB Tryd.prog 65 = true := by kernel_rfl
theorem tf_sz65 : sizeN Tryd.prog 65 1 = true := by kernel_rfl
theorem tf_zero65 : zeroV Tryd.prog 65 = some (.nilFunc) := by kernel_rfl
theorem tf_flat66 : flatB Tryd.prog 66 = true := by kernel_rfl
theorem tf_sz66 : sizeN Tryd.prog 66 1 = true := by kernel_rfl
theorem tf_zero66 : zeroV Tryd.prog 66 = some (.nilFunc) := by kernel_rfl
theorem tf_flat67 : flatB Tryd.prog 67 = true := by kernel_rfl
theorem tf_sz67 : sizeN Tryd.prog 67 1 = true := by kernel_rfl
theorem tf_zero67 : zeroV Tryd.prog 67 = some (.nilFunc) := by kernel_rfl
theorem tf_flat68 : flatB Tryd.prog 68 = true := by kernel_rfl
theorem tf_sz68 : sizeN Tryd.prog 68 1 = true := by kernel_rfl
theorem tf_zero68 : zeroV Tryd.prog 68 = some (.nilFunc) := by kernel_rfl
theorem tf_flat70 : flatB Tryd.prog 70 = true := by kernel_rfl
theorem tf_sz70 : sizeN Tryd.prog 70 1 = true := by kernel_rfl
theorem tf_zero70 : zeroV Tryd.prog 70 = some (.nilFunc) := by kernel_rfl
theorem tf_flat71 : flatB Tryd.prog 71 = true := by kernel_rfl
theorem tf_sz71 : sizeN Tryd.prog 71 1 = true := by kernel_rfl
theorem tf_zero71 : zeroV Tryd.prog 71 = some (.pointer none) := by kernel_rfl
theorem tf_flat72 : flatB Tryd.prog 72 = true := by kernel_rfl
theorem tf_sz72 : sizeN Tryd.prog 72 1 = true := by kernel_rfl
theorem tf_zero72 : zeroV Tryd.prog 72 = some (.nilFunc) := by kernel_rfl
theorem tf_flat73 : flatB Tryd.prog 73 = true := by kernel_rfl
theorem tf_sz73 : sizeN Tryd.prog 73 1 = true := by kernel_rfl
theorem tf_zero73 : zeroV Tryd.prog 73 = some (.nilFunc) := by kernel_rfl
theorem tf_flat74 : flatB Tryd.prog 74 = true := by kernel_rfl
theorem tf_sz74 : sizeN Tryd.prog 74 1 = true := by kernel_rfl
theorem tf_zero74 : zeroV Tryd.prog 74 = some (.nilFunc) := by kernel_rfl
theorem tf_flat75 : flatB Tryd.prog 75 = true := by kernel_rfl
theorem tf_sz75 : sizeN Tryd.prog 75 1 = true := by kernel_rfl
theorem tf_zero75 : zeroV Tryd.prog 75 = some (.nilFunc) := by kernel_rfl
theorem tf_flat76 : flatB Tryd.prog 76 = true := by kernel_rfl
theorem tf_sz76 : sizeN Tryd.prog 76 1 = true := by kernel_rfl
theorem tf_zero76 : zeroV Tryd.prog 76 = some (.pointer none) := by kernel_rfl
theorem tf_flat77 : flatB Tryd.prog 77 = true := by kernel_rfl
theorem tf_sz77 : sizeN Tryd.prog 77 1 = true := by kernel_rfl
theorem tf_zero77 : zeroV Tryd.prog 77 = some (.nilFunc) := by kernel_rfl
theorem tf_sz78 : sizeN Tryd.prog 78 4 = true := by kernel_rfl
theorem tf_agg78 : aggN Tryd.prog 78 = some 4 := by kernel_rfl
theorem tf_zero78 : zeroV Tryd.prog 78 = some (.agg #[.pointer none, .pointer none, .pointer none, str []]) := by kernel_rfl
theorem tf_lay78 : layOf Tryd.prog 78 = some ([(0, 1), (1, 1), (2, 1), (3, 1)], [.pointer none, .pointer none, .pointer none, str []]) := by kernel_rfl
theorem tf_fo78_0 : fieldOff Tryd.prog 78 0 = some 0 := by kernel_rfl
theorem tf_fo78_1 : fieldOff Tryd.prog 78 1 = some 1 := by kernel_rfl
theorem tf_fo78_2 : fieldOff Tryd.prog 78 2 = some 2 := by kernel_rfl
theorem tf_fo78_3 : fieldOff Tryd.prog 78 3 = some 3 := by kernel_rfl
theorem tf_sz79 : sizeN Tryd.prog 79 4 = true := by kernel_rfl
theorem tf_agg79 : aggN Tryd.prog 79 = some 4 := by kernel_rfl
theorem tf_zero79 : zeroV Tryd.prog 79 = some (.agg #[.pointer none, .pointer none, .pointer none, str []]) := by kernel_rfl
theorem tf_lay79 : layOf Tryd.prog 79 = some ([(0, 1), (1, 1), (2, 1), (3, 1)], [.pointer none, .pointer none, .pointer none, str []]) := by kernel_rfl
theorem tf_fo79_0 : fieldOff Tryd.prog 79 0 = some 0 := by kernel_rfl
theorem tf_fo79_1 : fieldOff Tryd.prog 79 1 = some 1 := by kernel_rfl
theorem tf_fo79_2 : fieldOff Tryd.prog 79 2 = some 2 := by kernel_rfl
theorem tf_fo79_3 : fieldOff Tryd.prog 79 3 = some 3 := by kernel_rfl
theorem tf_sz80 : sizeN Tryd.prog 80 0 = true := by kernel_rfl
theorem tf_agg80 : aggN Tryd.prog 80 = some 0 := by kernel_rfl
theorem tf_zero80 : zeroV Tryd.prog 80 = some (.agg #[]) := by kernel_rfl
theorem tf_sz81 : sizeN Tryd.prog 81 0 = true := by kernel_rfl
theorem tf_agg81 : aggN Tryd.prog 81 = some 0 := by kernel_rfl
theorem tf_zero81 : zeroV Tryd.prog 81 = some (.agg #[]) := by kernel_rfl
theorem tf_lay81 : layOf Tryd.prog 81 = some ([(0, 0)], []) := by kernel_rfl
theorem tf_sz82 : sizeN Tryd.prog 82 0 = true := by kernel_rfl
theorem tf_agg82 : aggN Tryd.prog 82 = some 0 := by kernel_rfl
theorem tf_zero82 : zeroV Tryd.prog 82 = some (.agg #[]) := by kernel_rfl
theorem tf_lay82 : layOf Tryd.prog 82 = some ([(0, 0)], []) := by kernel_rfl
theorem tf_flat83 : flatB Tryd.prog 83 = true := by kernel_rfl
theorem tf_sz83 : sizeN Tryd.prog 83 1 = true := by kernel_rfl
theorem tf_zero83 : zeroV Tryd.prog 83 = some (.int .u32 0) := by kernel_rfl
theorem tf_flat84 : flatB Tryd.prog 84 = true := by kernel_rfl
theorem tf_sz84 : sizeN Tryd.prog 84 1 = true := by kernel_rfl
theorem tf_zero84 : zeroV Tryd.prog 84 = some (.int .u8 0) := by kernel_rfl
theorem tf_flat85 : flatB Tryd.prog 85 = true := by kernel_rfl
theorem tf_sz85 : sizeN Tryd.prog 85 1 = true := by kernel_rfl
theorem tf_zero85 : zeroV Tryd.prog 85 = some (.int .u8 0) := by kernel_rfl
theorem tf_flat86 : flatB Tryd.prog 86 = true := by kernel_rfl
theorem tf_sz86 : sizeN Tryd.prog 86 1 = true := by kernel_rfl
theorem tf_zero86 : zeroV Tryd.prog 86 = some (.nilFunc) := by kernel_rfl
theorem tf_flat87 : flatB Tryd.prog 87 = true := by kernel_rfl
theorem tf_sz87 : sizeN Tryd.prog 87 1 = true := by kernel_rfl
theorem tf_zero87 : zeroV Tryd.prog 87 = some (.pointer none) := by kernel_rfl
theorem tf_flat88 : flatB Tryd.prog 88 = true := by kernel_rfl
theorem tf_sz88 : sizeN Tryd.prog 88 1 = true := by kernel_rfl
theorem tf_zero88 : zeroV Tryd.prog 88 = some (.int .i32 0) := by kernel_rfl
theorem tf_flat89 : flatB Tryd.prog 89 = true := by kernel_rfl
theorem tf_sz89 : sizeN Tryd.prog 89 1 = true := by kernel_rfl
theorem tf_zero89 : zeroV Tryd.prog 89 = some (.int .i32 0) := by kernel_rfl
theorem tf_sz90 : sizeN Tryd.prog 90 11 = true := by kernel_rfl
theorem tf_agg90 : aggN Tryd.prog 90 = some 11 := by kernel_rfl
theorem tf_zero90 : zeroV Tryd.prog 90 = some (.agg #[.int .u64 0, .int .u64 0, .int .u32 0, .int .u8 0, .int .u8 0, .int .u8 0, .int .u8 0, .nilFunc, .pointer none, .int .i32 0, .int .i32 0]) := by kernel_rfl
theorem tf_lay90 : layOf Tryd.prog 90 = some ([(0, 1), (1, 1), (2, 1), (3, 1), (4, 1), (5, 1), (6, 1), (7, 1), (8, 1), (9, 1), (10, 1)], [.int .u64 0, .int .u64 0, .int .u32 0, .int .u8 0, .int .u8 0, .int .u8 0, .int .u8 0, .nilFunc, .pointer none, .int .i32 0, .int .i32 0]) := by kernel_rfl
theorem tf_fo90_0 : fieldOff Tryd.prog 90 0 = some 0 := by kernel_rfl
theorem tf_fo90_1 : fieldOff Tryd.prog 90 1 = some 1 := by kernel_rfl
theorem tf_fo90_2 : fieldOff Tryd.prog 90 2 = some 2 := by kernel_rfl
theorem tf_fo90_3 : fieldOff Tryd.prog 90 3 = some 3 := by kernel_rfl
theorem tf_fo90_4 : fieldOff Tryd.prog 90 4 = some 4 := by kernel_rfl
theorem tf_fo90_5 : fieldOff Tryd.prog 90 5 = some 5 := by kernel_rfl
theorem tf_fo90_6 : fieldOff Tryd.prog 90 6 = some 6 := by kernel_rfl
theorem tf_fo90_7 : fieldOff Tryd.prog 90 7 = some 7 := by kernel_rfl
theorem tf_fo90_8 : fieldOff Tryd.prog 90 8 = some 8 := by kernel_rfl
theorem tf_fo90_9 : fieldOff Tryd.prog 90 9 = some 9 := by kernel_rfl
theorem tf_fo90_10 : fieldOff Tryd.prog 90 10 = some 10 := by kernel_rfl
theorem tf_sz91 : sizeN Tryd.prog 91 11 = true := by kernel_rfl
theorem tf_agg91 : aggN Tryd.prog 91 = some 11 := by kernel_rfl
theorem tf_zero91 : zeroV Tryd.prog 91 = some (.agg #[.int .u64 0, .int .u64 0, .int .u32 0, .int .u8 0, .int .u8 0, .int .u8 0, .int .u8 0, .nilFunc, .pointer none, .int .i32 0, .int .i32 0]) := by kernel_rfl
theorem tf_lay91 : layOf Tryd.prog 91 = some ([(0, 1), (1, 1), (2, 1), (3, 1), (4, 1), (5, 1), (6, 1), (7, 1), (8, 1), (9, 1), (10, 1)], [.int .u64 0, .int .u64 0, .int .u32 0, .int .u8 0, .int .u8 0, .int .u8 0, .int .u8 0, .nilFunc, .pointer none, .int .i32 0, .int .i32 0]) := by kernel_rfl
theorem tf_fo91_0 : fieldOff Tryd.prog 91 0 = some 0 := by kernel_rfl
theorem tf_fo91_1 : fieldOff Tryd.prog 91 1 = some 1 := by kernel_rfl
theorem tf_fo91_2 : fieldOff Tryd.prog 91 2 = some 2 := by kernel_rfl
theorem tf_fo91_3 : fieldOff Tryd.prog 91 3 = some 3 := by kernel_rfl
theorem tf_fo91_4 : fieldOff Tryd.prog 91 4 = some 4 := by kernel_rfl
theorem tf_fo91_5 : fieldOff Tryd.prog 91 5 = some 5 := by kernel_rfl
theorem tf_fo91_6 : fieldOff Tryd.prog 91 6 = some 6 := by kernel_rfl
theorem tf_fo91_7 : fieldOff Tryd.prog 91 7 = some 7 := by kernel_rfl
theorem tf_fo91_8 : fieldOff Tryd.prog 91 8 = some 8 := by kernel_rfl
theorem tf_fo91_9 : fieldOff Tryd.prog 91 9 = some 9 := by kernel_rfl
theorem tf_fo91_10 : fieldOff Tryd.prog 91 10 = some 10 := by kernel_rfl
theorem tf_sz92 : sizeN Tryd.prog 92 1 = true := by kernel_rfl
theorem tf_agg92 : aggN Tryd.prog 92 = some 1 := by kernel_rfl
theorem tf_zero92 : zeroV Tryd.prog 92 = some (.agg #[str []]) := by kernel_rfl
theorem tf_lay92 : layOf Tryd.prog 92 = some ([(0, 1)], [str []]) := by kernel_rfl
theorem tf_fo92_0 : fieldOff Tryd.prog 92 0 = some 0 := by kernel_rfl
theorem tf_sz93 : sizeN Tryd.prog 93 1 = true := by kernel_rfl
theorem tf_agg93 : aggN Tryd.prog 93 = some 1 := by kernel_rfl
theorem tf_zero93 : zeroV Tryd.prog 93 = some (.agg #[str []]) := by kernel_rfl
theorem tf_lay93 : layOf Tryd.prog 93 = some ([(0, 1)], [str []]) := by kernel_rfl
theorem tf_fo93_0 : fieldOff Tryd.prog 93 0 = some 0 := by kernel_rfl
theorem tf_flat94 : flatB Tryd.prog 94 = true := by kernel_rfl
theorem tf_sz94 : sizeN Tryd.prog 94 1 = true := by kernel_rfl
theorem tf_zero94 : zeroV Tryd.prog 94 = some (.pointer none) := by kernel_rfl
theorem tf_flat95 : flatB Tryd.prog 95 = true := by kernel_rfl
theorem tf_sz95 : sizeN Tryd.prog 95 1 = true := by kernel_rfl
theorem tf_zero95 : zeroV Tryd.prog 95 = some (.nilFunc) := by kernel_rfl
theorem tf_mixed : Tryd.prog.follows .mixedOrders = true := by kernel_rfl
theorem tf_body2 : Body Tryd.prog 2 := Body.of (by kernel_rfl)
theorem tf_body3 : Body Tryd.prog 3 := Body.of (by kernel_rfl)
theorem tf_body4 : Body Tryd.prog 4 := Body.of (by kernel_rfl)
theorem tf_body5 : Body Tryd.prog 5 := Body.of (by kernel_rfl)
theorem tf_body6 : Body Tryd.prog 6 := Body.of (by kernel_rfl)
theorem tf_body7 : Body Tryd.prog 7 := Body.of (by kernel_rfl)
theorem tf_body8 : Body Tryd.prog 8 := Body.of (by kernel_rfl)
theorem tf_body9 : Body Tryd.prog 9 := Body.of (by kernel_rfl)
theorem tf_body10 : Body Tryd.prog 10 := Body.of (by kernel_rfl)
theorem tf_body11 : Body Tryd.prog 11 := Body.of (by kernel_rfl)
theorem tf_body12 : Body Tryd.prog 12 := Body.of (by kernel_rfl)
theorem tf_body13 : Body Tryd.prog 13 := Body.of (by kernel_rfl)
theorem tf_body14 : Body Tryd.prog 14 := Body.of (by kernel_rfl)
theorem tf_body15 : Body Tryd.prog 15 := Body.of (by kernel_rfl)
theorem tf_body16 : Body Tryd.prog 16 := Body.of (by kernel_rfl)
theorem tf_body17 : Body Tryd.prog 17 := Body.of (by kernel_rfl)
theorem tf_body18 : Body Tryd.prog 18 := Body.of (by kernel_rfl)
theorem tf_body19 : Body Tryd.prog 19 := Body.of (by kernel_rfl)
theorem tf_body20 : Body Tryd.prog 20 := Body.of (by kernel_rfl)
theorem tf_body21 : Body Tryd.prog 21 := Body.of (by kernel_rfl)
theorem tf_body22 : Body Tryd.prog 22 := Body.of (by kernel_rfl)
theorem tf_body23 : Body Tryd.prog 23 := Body.of (by kernel_rfl)
theorem tf_body24 : Body Tryd.prog 24 := Body.of (by kernel_rfl)
theorem tf_body25 : Body Tryd.prog 25 := Body.of (by kernel_rfl)
theorem tf_body26 : Body Tryd.prog 26 := Body.of (by kernel_rfl)
theorem tf_body27 : Body Tryd.prog 27 := Body.of (by kernel_rfl)
theorem tf_body28 : Body Tryd.prog 28 := Body.of (by kernel_rfl)
theorem tf_body29 : Body Tryd.prog 29 := Body.of (by kernel_rfl)
theorem tf_body30 : Body Tryd.prog 30 := Body.of (by kernel_rfl)
theorem tf_body31 : Body Tryd.prog 31 := Body.of (by kernel_rfl)
theorem tf_body32 : Body Tryd.prog 32 := Body.of (by kernel_rfl)
theorem tf_body33 : Body Tryd.prog 33 := Body.of (by kernel_rfl)
theorem tf_body34 : Body Tryd.prog 34 := Body.of (by kernel_rfl)
theorem tf_body35 : Body Tryd.prog 35 := Body.of (by kernel_rfl)
theorem tf_body36 : Body Tryd.prog 36 := Body.of (by kernel_rfl)
theorem tf_body37 : Body Tryd.prog 37 := Body.of (by kernel_rfl)
theorem tf_body38 : Body Tryd.prog 38 := Body.of (by kernel_rfl)
theorem tf_body39 : Body Tryd.prog 39 := Body.of (by kernel_rfl)
theorem tf_body40 : Body Tryd.prog 40 := Body.of (by kernel_rfl)
theorem tf_body41 : Body Tryd.prog 41 := Body.of (by kernel_rfl)
theorem tf_body42 : Body Tryd.prog 42 := Body.of (by kernel_rfl)
theorem tf_body43 : Body Tryd.prog 43 := Body.of (by kernel_rfl)
theorem tf_body44 : Body Tryd.prog 44 := Body.of (by kernel_rfl)
theorem tf_body64 : Body Tryd.prog 64 := Body.of (by kernel_rfl)
theorem tf_body68 : Body Tryd.prog 68 := Body.of (by kernel_rfl)
end Go.Proofs.YtllfgcekebafhaaDoor
