/- What the walks need of the types and functions of this program, each a closed fact. -/
import Derived.Test.YtlkdmbpbjhjkfaaGreatDoorProg
import Derived.Test.YtlkdmbpbjhjkfaaGreatDoorLgR
namespace Go.Proofs.YtlkdmbpbjhjkfaaGreatDoor
set_option maxRecDepth 100000
theorem tf_flat1 : flatB Tryz.prog 1 = true := by kernel_rfl
theorem tf_sz1 : sizeN Tryz.prog 1 1 = true := by kernel_rfl
theorem tf_zero1 : zeroV Tryz.prog 1 = some (.nilFunc) := by kernel_rfl
theorem tf_flat2 : flatB Tryz.prog 2 = true := by kernel_rfl
theorem tf_sz2 : sizeN Tryz.prog 2 1 = true := by kernel_rfl
theorem tf_zero2 : zeroV Tryz.prog 2 = some (.int .i64 0) := by kernel_rfl
theorem tf_flat3 : flatB Tryz.prog 3 = true := by kernel_rfl
theorem tf_sz3 : sizeN Tryz.prog 3 1 = true := by kernel_rfl
theorem tf_zero3 : zeroV Tryz.prog 3 = some (.int .i64 0) := by kernel_rfl
theorem tf_flat4 : flatB Tryz.prog 4 = true := by kernel_rfl
theorem tf_sz4 : sizeN Tryz.prog 4 1 = true := by kernel_rfl
theorem tf_zero4 : zeroV Tryz.prog 4 = some (.bool false) := by kernel_rfl
theorem tf_flat5 : flatB Tryz.prog 5 = true := by kernel_rfl
theorem tf_sz5 : sizeN Tryz.prog 5 1 = true := by kernel_rfl
theorem tf_zero5 : zeroV Tryz.prog 5 = some (.int .u8 0) := by kernel_rfl
theorem tf_flat6 : flatB Tryz.prog 6 = true := by kernel_rfl
theorem tf_sz6 : sizeN Tryz.prog 6 1 = true := by kernel_rfl
theorem tf_zero6 : zeroV Tryz.prog 6 = some (.int .u8 0) := by kernel_rfl
theorem tf_sz7 : sizeN Tryz.prog 7 4 = true := by kernel_rfl
theorem tf_agg7 : aggN Tryz.prog 7 = some 4 := by kernel_rfl
theorem tf_zero7 : zeroV Tryz.prog 7 = some (.agg #[.int .i64 0, .int .i64 0, .bool false, .int .u8 0]) := by kernel_rfl
theorem tf_lay7 : layOf Tryz.prog 7 = some ([(0, 1), (1, 1), (2, 1), (3, 1)], [.int .i64 0, .int .i64 0, .bool false, .int .u8 0]) := by kernel_rfl
theorem tf_fo7_0 : fieldOff Tryz.prog 7 0 = some 0 := by kernel_rfl
theorem tf_fo7_1 : fieldOff Tryz.prog 7 1 = some 1 := by kernel_rfl
theorem tf_fo7_2 : fieldOff Tryz.prog 7 2 = some 2 := by kernel_rfl
theorem tf_fo7_3 : fieldOff Tryz.prog 7 3 = some 3 := by kernel_rfl
theorem tf_sz8 : sizeN Tryz.prog 8 4 = true := by kernel_rfl
theorem tf_agg8 : aggN Tryz.prog 8 = some 4 := by kernel_rfl
theorem tf_zero8 : zeroV Tryz.prog 8 = some (.agg #[.int .i64 0, .int .i64 0, .bool false, .int .u8 0]) := by kernel_rfl
theorem tf_lay8 : layOf Tryz.prog 8 = some ([(0, 1), (1, 1), (2, 1), (3, 1)], [.int .i64 0, .int .i64 0, .bool false, .int .u8 0]) := by kernel_rfl
theorem tf_fo8_0 : fieldOff Tryz.prog 8 0 = some 0 := by kernel_rfl
theorem tf_fo8_1 : fieldOff Tryz.prog 8 1 = some 1 := by kernel_rfl
theorem tf_fo8_2 : fieldOff Tryz.prog 8 2 = some 2 := by kernel_rfl
theorem tf_fo8_3 : fieldOff Tryz.prog 8 3 = some 3 := by kernel_rfl
theorem tf_flat9 : flatB Tryz.prog 9 = true := by kernel_rfl
theorem tf_sz9 : sizeN Tryz.prog 9 1 = true := by kernel_rfl
theorem tf_zero9 : zeroV Tryz.prog 9 = some (str []) := by kernel_rfl
theorem tf_flat10 : flatB Tryz.prog 10 = true := by kernel_rfl
theorem tf_sz10 : sizeN Tryz.prog 10 1 = true := by kernel_rfl
theorem tf_zero10 : zeroV Tryz.prog 10 = some (str []) := by kernel_rfl
theorem tf_flat11 : flatB Tryz.prog 11 = true := by kernel_rfl
theorem tf_sz11 : sizeN Tryz.prog 11 1 = true := by kernel_rfl
theorem tf_zero11 : zeroV Tryz.prog 11 = some (str []) := by kernel_rfl
theorem tf_flat12 : flatB Tryz.prog 12 = true := by kernel_rfl
theorem tf_sz12 : sizeN Tryz.prog 12 1 = true := by kernel_rfl
theorem tf_zero12 : zeroV Tryz.prog 12 = some (.int .u64 0) := by kernel_rfl
theorem tf_sz13 : sizeN Tryz.prog 13 2 = true := by kernel_rfl
theorem tf_agg13 : aggN Tryz.prog 13 = some 2 := by kernel_rfl
theorem tf_zero13 : zeroV Tryz.prog 13 = some (.agg #[str [], .int .u64 0]) := by kernel_rfl
theorem tf_lay13 : layOf Tryz.prog 13 = some ([(0, 1), (1, 1)], [str [], .int .u64 0]) := by kernel_rfl
theorem tf_fo13_0 : fieldOff Tryz.prog 13 0 = some 0 := by kernel_rfl
theorem tf_fo13_1 : fieldOff Tryz.prog 13 1 = some 1 := by kernel_rfl
theorem tf_sz14 : sizeN Tryz.prog 14 2 = true := by kernel_rfl
theorem tf_agg14 : aggN Tryz.prog 14 = some 2 := by kernel_rfl
theorem tf_zero14 : zeroV Tryz.prog 14 = some (.agg #[str [], .int .u64 0]) := by kernel_rfl
theorem tf_lay14 : layOf Tryz.prog 14 = some ([(0, 1), (1, 1)], [str [], .int .u64 0]) := by kernel_rfl
theorem tf_fo14_0 : fieldOff Tryz.prog 14 0 = some 0 := by kernel_rfl
theorem tf_fo14_1 : fieldOff Tryz.prog 14 1 = some 1 := by kernel_rfl
theorem tf_flat15 : flatB Tryz.prog 15 = true := by kernel_rfl
theorem tf_sz15 : sizeN Tryz.prog 15 1 = true := by kernel_rfl
theorem tf_zero15 : zeroV Tryz.prog 15 = some (.pointer none) := by kernel_rfl
theorem tf_flat16 : flatB Tryz.prog 16 = true := by kernel_rfl
theorem tf_sz16 : sizeN Tryz.prog 16 1 = true := by kernel_rfl
theorem tf_zero16 : zeroV Tryz.prog 16 = some (.pointer none) := by kernel_rfl
theorem tf_flat17 : flatB Tryz.prog 17 = true := by kernel_rfl
theorem tf_sz17 : sizeN Tryz.prog 17 1 = true := by kernel_rfl
theorem tf_zero17 : zeroV Tryz.prog 17 = some (.pointer none) := by kernel_rfl
theorem tf_sz18 : sizeN Tryz.prog 18 1 = true := by kernel_rfl
theorem tf_agg18 : aggN Tryz.prog 18 = some 1 := by kernel_rfl
theorem tf_zero18 : zeroV Tryz.prog 18 = some (.agg #[.pointer none]) := by kernel_rfl
theorem tf_lay18 : layOf Tryz.prog 18 = some ([(0, 1)], [.pointer none]) := by kernel_rfl
theorem tf_fo18_0 : fieldOff Tryz.prog 18 0 = some 0 := by kernel_rfl
theorem tf_sz19 : sizeN Tryz.prog 19 1 = true := by kernel_rfl
theorem tf_agg19 : aggN Tryz.prog 19 = some 1 := by kernel_rfl
theorem tf_zero19 : zeroV Tryz.prog 19 = some (.agg #[.pointer none]) := by kernel_rfl
theorem tf_lay19 : layOf Tryz.prog 19 = some ([(0, 1)], [.pointer none]) := by kernel_rfl
theorem tf_fo19_0 : fieldOff Tryz.prog 19 0 = some 0 := by kernel_rfl
theorem tf_flat20 : flatB Tryz.prog 20 = true := by kernel_rfl
theorem tf_sz20 : sizeN Tryz.prog 20 1 = true := by kernel_rfl
theorem tf_zero20 : zeroV Tryz.prog 20 = some (.nilIface) := by kernel_rfl
theorem tf_flat21 : flatB Tryz.prog 21 = true := by kernel_rfl
theorem tf_sz21 : sizeN Tryz.prog 21 1 = true := by kernel_rfl
theorem tf_zero21 : zeroV Tryz.prog 21 = some (.int .i32 0) := by kernel_rfl
theorem tf_flat22 : flatB Tryz.prog 22 = true := by kernel_rfl
theorem tf_sz22 : sizeN Tryz.prog 22 1 = true := by kernel_rfl
theorem tf_zero22 : zeroV Tryz.prog 22 = some (.slice none 0 0) := by kernel_rfl
theorem tf_el22 : ElemOk Tryz.prog 22 5 tyB (0 : UInt8) 1 := ElemOk.of Tryz.underlying22 (by kernel_rfl) (by kernel_rfl) rfl
theorem tf_flat23 : flatB Tryz.prog 23 = true := by kernel_rfl
theorem tf_sz23 : sizeN Tryz.prog 23 1 = true := by kernel_rfl
theorem tf_zero23 : zeroV Tryz.prog 23 = some (.nilFunc) := by kernel_rfl
theorem tf_flat24 : flatB Tryz.prog 24 = true := by kernel_rfl
theorem tf_sz24 : sizeN Tryz.prog 24 1 = true := by kernel_rfl
theorem tf_zero24 : zeroV Tryz.prog 24 = some (.nilFunc) := by kernel_rfl
theorem tf_flat25 : flatB Tryz.prog 25 = true := by kernel_rfl
theorem tf_sz25 : sizeN Tryz.prog 25 1 = true := by kernel_rfl
theorem tf_zero25 : zeroV Tryz.prog 25 = some (.int .i64 0) := by kernel_rfl
theorem tf_flat27 : flatB Tryz.prog 27 = true := by kernel_rfl
theorem tf_sz27 : sizeN Tryz.prog 27 1 = true := by kernel_rfl
theorem tf_zero27 : zeroV Tryz.prog 27 = some (.nilFunc) := by kernel_rfl
theorem tf_flat29 : flatB Tryz.prog 29 = true := by kernel_rfl
theorem tf_sz29 : sizeN Tryz.prog 29 1 = true := by kernel_rfl
theorem tf_zero29 : zeroV Tryz.prog 29 = some (.nilFunc) := by kernel_rfl
theorem tf_flat30 : flatB Tryz.prog 30 = true := by kernel_rfl
theorem tf_sz30 : sizeN Tryz.prog 30 1 = true := by kernel_rfl
theorem tf_zero30 : zeroV Tryz.prog 30 = some (.nilFunc) := by kernel_rfl
theorem tf_flat31 : flatB Tryz.prog 31 = true := by kernel_rfl
theorem tf_sz31 : sizeN Tryz.prog 31 1 = true := by kernel_rfl
theorem tf_zero31 : zeroV Tryz.prog 31 = some (.nilFunc) := by kernel_rfl
theorem tf_flat32 : flatB Tryz.prog 32 = true := by kernel_rfl
theorem tf_sz32 : sizeN Tryz.prog 32 1 = true := by kernel_rfl
theorem tf_zero32 : zeroV Tryz.prog 32 = some (.nilFunc) := by kernel_rfl
theorem tf_flat33 : flatB Tryz.prog 33 = true := by kernel_rfl
theorem tf_sz33 : sizeN Tryz.prog 33 1 = true := by kernel_rfl
theorem tf_zero33 : zeroV Tryz.prog 33 = some (.slice none 0 0) := by kernel_rfl
theorem tf_el33 : ElemOk Tryz.prog 33 22 tyL (⟨none, 0, []⟩ : Bs) 24 := ElemOk.of Tryz.underlying33 (by kernel_rfl) (by kernel_rfl) rfl
theorem tf_flat34 : flatB Tryz.prog 34 = true := by kernel_rfl
theorem tf_sz34 : sizeN Tryz.prog 34 1 = true := by kernel_rfl
theorem tf_zero34 : zeroV Tryz.prog 34 = some (.pointer none) := by kernel_rfl
theorem tf_flat35 : flatB Tryz.prog 35 = true := by kernel_rfl
theorem tf_sz35 : sizeN Tryz.prog 35 1 = true := by kernel_rfl
theorem tf_zero35 : zeroV Tryz.prog 35 = some (.nilFunc) := by kernel_rfl
theorem tf_flat36 : flatB Tryz.prog 36 = true := by kernel_rfl
theorem tf_sz36 : sizeN Tryz.prog 36 1 = true := by kernel_rfl
theorem tf_zero36 : zeroV Tryz.prog 36 = some (.nilFunc) := by kernel_rfl
theorem tf_flat37 : flatB Tryz.prog 37 = true := by kernel_rfl
theorem tf_sz37 : sizeN Tryz.prog 37 1 = true := by kernel_rfl
theorem tf_zero37 : zeroV Tryz.prog 37 = some (.pointer none) := by kernel_rfl
theorem tf_sz38 : sizeN Tryz.prog 38 2 = true := by kernel_rfl
theorem tf_agg38 : aggN Tryz.prog 38 = some 2 := by kernel_rfl
theorem tf_zero38 : zeroV Tryz.prog 38 = some (.agg #[.slice none 0 0, .bool false]) := by kernel_rfl
theorem tf_lay38 : layOf Tryz.prog 38 = some ([(0, 1), (1, 1)], [.slice none 0 0, .bool false]) := by kernel_rfl
theorem tf_fo38_0 : fieldOff Tryz.prog 38 0 = some 0 := by kernel_rfl
theorem tf_fo38_1 : fieldOff Tryz.prog 38 1 = some 1 := by kernel_rfl
theorem tf_sz39 : sizeN Tryz.prog 39 2 = true := by kernel_rfl
theorem tf_agg39 : aggN Tryz.prog 39 = some 2 := by kernel_rfl
theorem tf_zero39 : zeroV Tryz.prog 39 = some (.agg #[.slice none 0 0, .bool false]) := by kernel_rfl
theorem tf_lay39 : layOf Tryz.prog 39 = some ([(0, 1), (1, 1)], [.slice none 0 0, .bool false]) := by kernel_rfl
theorem tf_fo39_0 : fieldOff Tryz.prog 39 0 = some 0 := by kernel_rfl
theorem tf_fo39_1 : fieldOff Tryz.prog 39 1 = some 1 := by kernel_rfl
theorem tf_flat40 : flatB Tryz.prog 40 = true := by kernel_rfl
theorem tf_sz40 : sizeN Tryz.prog 40 1 = true := by kernel_rfl
theorem tf_zero40 : zeroV Tryz.prog 40 = some (.slice none 0 0) := by kernel_rfl
theorem tf_flat42 : flatB Tryz.prog 42 = true := by kernel_rfl
theorem tf_sz42 : sizeN Tryz.prog 42 1 = true := by kernel_rfl
theorem tf_zero42 : zeroV Tryz.prog 42 = some (.nilFunc) := by kernel_rfl
theorem tf_flat43 : flatB Tryz.prog 43 = true := by kernel_rfl
theorem tf_sz43 : sizeN Tryz.prog 43 1 = true := by kernel_rfl
theorem tf_zero43 : zeroV Tryz.prog 43 = some (.nilFunc) := by kernel_rfl
theorem tf_flat44 : flatB Tryz.prog 44 = true := by kernel_rfl
theorem tf_sz44 : sizeN Tryz.prog 44 1 = true := by kernel_rfl
theorem tf_zero44 : zeroV Tryz.prog 44 = some (.nilFunc) := by kernel_rfl
theorem tf_flat45 : flatB Tryz.prog 45 = true := by kernel_rfl
theorem tf_sz45 : sizeN Tryz.prog 45 1 = true := by kernel_rfl
theorem tf_zero45 : zeroV Tryz.prog 45 = some (.slice none 0 0) := by kernel_rfl
theorem tf_el45 : ElemOk Tryz.prog 45 78 tyField (([], []) : List UInt8 × List UInt8) 32 := ElemOk.of Tryz.underlying45 (by kernel_rfl) (by kernel_rfl) rfl
theorem tf_sz46 : sizeN Tryz.prog 46 4 = true := by kernel_rfl
theorem tf_agg46 : aggN Tryz.prog 46 = some 4 := by kernel_rfl
theorem tf_zero46 : zeroV Tryz.prog 46 = some (.agg #[str [], str [], .int .i64 0, .slice none 0 0]) := by kernel_rfl
theorem tf_lay46 : layOf Tryz.prog 46 = some ([(0, 1), (1, 1), (2, 1), (3, 1)], [str [], str [], .int .i64 0, .slice none 0 0]) := by kernel_rfl
theorem tf_fo46_0 : fieldOff Tryz.prog 46 0 = some 0 := by kernel_rfl
theorem tf_fo46_1 : fieldOff Tryz.prog 46 1 = some 1 := by kernel_rfl
theorem tf_fo46_2 : fieldOff Tryz.prog 46 2 = some 2 := by kernel_rfl
theorem tf_fo46_3 : fieldOff Tryz.prog 46 3 = some 3 := by kernel_rfl
theorem tf_sz47 : sizeN Tryz.prog 47 4 = true := by kernel_rfl
theorem tf_agg47 : aggN Tryz.prog 47 = some 4 := by kernel_rfl
theorem tf_zero47 : zeroV Tryz.prog 47 = some (.agg #[str [], str [], .int .i64 0, .slice none 0 0]) := by kernel_rfl
theorem tf_lay47 : layOf Tryz.prog 47 = some ([(0, 1), (1, 1), (2, 1), (3, 1)], [str [], str [], .int .i64 0, .slice none 0 0]) := by kernel_rfl
theorem tf_fo47_0 : fieldOff Tryz.prog 47 0 = some 0 := by kernel_rfl
theorem tf_fo47_1 : fieldOff Tryz.prog 47 1 = some 1 := by kernel_rfl
theorem tf_fo47_2 : fieldOff Tryz.prog 47 2 = some 2 := by kernel_rfl
theorem tf_fo47_3 : fieldOff Tryz.prog 47 3 = some 3 := by kernel_rfl
theorem tf_sz48 : sizeN Tryz.prog 48 7 = true := by kernel_rfl
theorem tf_agg48 : aggN Tryz.prog 48 = some 7 := by kernel_rfl
theorem tf_zero48 : zeroV Tryz.prog 48 = some (.agg #[.int .i64 0, str [], str [], .int .i64 0, .slice none 0 0, .slice none 0 0, .bool false]) := by kernel_rfl
theorem tf_lay48 : layOf Tryz.prog 48 = some ([(0, 1), (1, 4), (5, 1), (6, 1)], [.int .i64 0, str [], str [], .int .i64 0, .slice none 0 0, .slice none 0 0, .bool false]) := by kernel_rfl
theorem tf_fo48_0 : fieldOff Tryz.prog 48 0 = some 0 := by kernel_rfl
theorem tf_fo48_1 : fieldOff Tryz.prog 48 1 = some 1 := by kernel_rfl
theorem tf_fo48_2 : fieldOff Tryz.prog 48 2 = some 5 := by kernel_rfl
theorem tf_fo48_3 : fieldOff Tryz.prog 48 3 = some 6 := by kernel_rfl
theorem tf_sz49 : sizeN Tryz.prog 49 7 = true := by kernel_rfl
theorem tf_agg49 : aggN Tryz.prog 49 = some 7 := by kernel_rfl
theorem tf_zero49 : zeroV Tryz.prog 49 = some (.agg #[.int .i64 0, str [], str [], .int .i64 0, .slice none 0 0, .slice none 0 0, .bool false]) := by kernel_rfl
theorem tf_lay49 : layOf Tryz.prog 49 = some ([(0, 1), (1, 4), (5, 1), (6, 1)], [.int .i64 0, str [], str [], .int .i64 0, .slice none 0 0, .slice none 0 0, .bool false]) := by kernel_rfl
theorem tf_fo49_0 : fieldOff Tryz.prog 49 0 = some 0 := by kernel_rfl
theorem tf_fo49_1 : fieldOff Tryz.prog 49 1 = some 1 := by kernel_rfl
theorem tf_fo49_2 : fieldOff Tryz.prog 49 2 = some 5 := by kernel_rfl
theorem tf_fo49_3 : fieldOff Tryz.prog 49 3 = some 6 := by kernel_rfl
theorem tf_sz50 : sizeN Tryz.prog 50 13 = true := by kernel_rfl
theorem tf_agg50 : aggN Tryz.prog 50 = some 13 := by kernel_rfl
theorem tf_zero50 : zeroV Tryz.prog 50 = some (.agg #[.bool false, .slice none 0 0, .nilFunc, .int .i64 0, str [], str [], .int .i64 0, .slice none 0 0, .slice none 0 0, .bool false, .int .i64 0, .int .i64 0, .slice none 0 0]) := by kernel_rfl
theorem tf_lay50 : layOf Tryz.prog 50 = some ([(0, 1), (1, 1), (2, 1), (3, 7), (10, 1), (11, 1), (12, 1)], [.bool false, .slice none 0 0, .nilFunc, .int .i64 0, str [], str [], .int .i64 0, .slice none 0 0, .slice none 0 0, .bool false, .int .i64 0, .int .i64 0, .slice none 0 0]) := by kernel_rfl
theorem tf_fo50_0 : fieldOff Tryz.prog 50 0 = some 0 := by kernel_rfl
theorem tf_fo50_1 : fieldOff Tryz.prog 50 1 = some 1 := by kernel_rfl
theorem tf_fo50_2 : fieldOff Tryz.prog 50 2 = some 2 := by kernel_rfl
theorem tf_fo50_3 : fieldOff Tryz.prog 50 3 = some 3 := by kernel_rfl
theorem tf_fo50_4 : fieldOff Tryz.prog 50 4 = some 10 := by kernel_rfl
theorem tf_fo50_5 : fieldOff Tryz.prog 50 5 = some 11 := by kernel_rfl
theorem tf_fo50_6 : fieldOff Tryz.prog 50 6 = some 12 := by kernel_rfl
theorem tf_sz51 : sizeN Tryz.prog 51 13 = true := by kernel_rfl
theorem tf_agg51 : aggN Tryz.prog 51 = some 13 := by kernel_rfl
theorem tf_zero51 : zeroV Tryz.prog 51 = some (.agg #[.bool false, .slice none 0 0, .nilFunc, .int .i64 0, str [], str [], .int .i64 0, .slice none 0 0, .slice none 0 0, .bool false, .int .i64 0, .int .i64 0, .slice none 0 0]) := by kernel_rfl
theorem tf_lay51 : layOf Tryz.prog 51 = some ([(0, 1), (1, 1), (2, 1), (3, 7), (10, 1), (11, 1), (12, 1)], [.bool false, .slice none 0 0, .nilFunc, .int .i64 0, str [], str [], .int .i64 0, .slice none 0 0, .slice none 0 0, .bool false, .int .i64 0, .int .i64 0, .slice none 0 0]) := by kernel_rfl
theorem tf_fo51_0 : fieldOff Tryz.prog 51 0 = some 0 := by kernel_rfl
theorem tf_fo51_1 : fieldOff Tryz.prog 51 1 = some 1 := by kernel_rfl
theorem tf_fo51_2 : fieldOff Tryz.prog 51 2 = some 2 := by kernel_rfl
theorem tf_fo51_3 : fieldOff Tryz.prog 51 3 = some 3 := by kernel_rfl
theorem tf_fo51_4 : fieldOff Tryz.prog 51 4 = some 10 := by kernel_rfl
theorem tf_fo51_5 : fieldOff Tryz.prog 51 5 = some 11 := by kernel_rfl
theorem tf_fo51_6 : fieldOff Tryz.prog 51 6 = some 12 := by kernel_rfl
theorem tf_flat52 : flatB Tryz.prog 52 = true := by kernel_rfl
theorem tf_sz52 : sizeN Tryz.prog 52 1 = true := by kernel_rfl
theorem tf_zero52 : zeroV Tryz.prog 52 = some (.slice none 0 0) := by kernel_rfl
theorem tf_flat53 : flatB Tryz.prog 53 = true := by kernel_rfl
theorem tf_sz53 : sizeN Tryz.prog 53 1 = true := by kernel_rfl
theorem tf_zero53 : zeroV Tryz.prog 53 = some (.nilFunc) := by kernel_rfl
theorem tf_flat54 : flatB Tryz.prog 54 = true := by kernel_rfl
theorem tf_sz54 : sizeN Tryz.prog 54 1 = true := by kernel_rfl
theorem tf_zero54 : zeroV Tryz.prog 54 = some (.nilFunc) := by kernel_rfl
theorem tf_flat55 : flatB Tryz.prog 55 = true := by kernel_rfl
theorem tf_sz55 : sizeN Tryz.prog 55 1 = true := by kernel_rfl
theorem tf_zero55 : zeroV Tryz.prog 55 = some (.slice none 0 0) := by kernel_rfl
theorem tf_el55 : ElemOk Tryz.prog 55 3 tyI (0 : Int) 8 := ElemOk.of Tryz.underlying55 (by kernel_rfl) (by kernel_rfl) rfl
theorem tf_flat57 : flatB Tryz.prog 57 = true := by kernel_rfl
theorem tf_sz57 : sizeN Tryz.prog 57 1 = true := by kernel_rfl
theorem tf_zero57 : zeroV Tryz.prog 57 = some (.nilFunc) := by kernel_rfl
theorem tf_flat58 : flatB Tryz.prog 58 = true := by kernel_rfl
theorem tf_sz58 : sizeN Tryz.prog 58 1 = true := by kernel_rfl
theorem tf_zero58 : zeroV Tryz.prog 58 = some (.nilFunc) := by kernel_rfl
theorem tf_flat59 : flatB Tryz.prog 59 = true := by kernel_rfl
theorem tf_sz59 : sizeN Tryz.prog 59 1 = true := by kernel_rfl
theorem tf_zero59 : zeroV Tryz.prog 59 = some (.nilFunc) := by kernel_rfl
theorem tf_flat60 : flatB Tryz.prog 60 = true := by kernel_rfl
theorem tf_sz60 : sizeN Tryz.prog 60 1 = true := by kernel_rfl
theorem tf_zero60 : zeroV Tryz.prog 60 = some (.nilFunc) := by kernel_rfl
theorem tf_flat61 : flatB Tryz.prog 61 = true := by kernel_rfl
theorem tf_sz61 : sizeN Tryz.prog 61 1 = true := by kernel_rfl
theorem tf_zero61 : zeroV Tryz.prog 61 = some (.slice none 0 0) := by kernel_rfl
theorem tf_sz62 : sizeN Tryz.prog 62 4 = true := by kernel_rfl
theorem tf_agg62 : aggN Tryz.prog 62 = some 4 := by kernel_rfl
theorem tf_zero62 : zeroV Tryz.prog 62 = some (.agg #[.bool false, .slice none 0 0, str [], .bool false]) := by kernel_rfl
theorem tf_lay62 : layOf Tryz.prog 62 = some ([(0, 1), (1, 1), (2, 1), (3, 1)], [.bool false, .slice none 0 0, str [], .bool false]) := by kernel_rfl
theorem tf_fo62_0 : fieldOff Tryz.prog 62 0 = some 0 := by kernel_rfl
theorem tf_fo62_1 : fieldOff Tryz.prog 62 1 = some 1 := by kernel_rfl
theorem tf_fo62_2 : fieldOff Tryz.prog 62 2 = some 2 := by kernel_rfl
theorem tf_fo62_3 : fieldOff Tryz.prog 62 3 = some 3 := by kernel_rfl
theorem tf_sz63 : sizeN Tryz.prog 63 4 = true := by kernel_rfl
theorem tf_agg63 : aggN Tryz.prog 63 = some 4 := by kernel_rfl
theorem tf_zero63 : zeroV Tryz.prog 63 = some (.agg #[.bool false, .slice none 0 0, str [], .bool false]) := by kernel_rfl
theorem tf_lay63 : layOf Tryz.prog 63 = some ([(0, 1), (1, 1), (2, 1), (3, 1)], [.bool false, .slice none 0 0, str [], .bool false]) := by kernel_rfl
theorem tf_fo63_0 : fieldOff Tryz.prog 63 0 = some 0 := by kernel_rfl
theorem tf_fo63_1 : fieldOff Tryz.prog 63 1 = some 1 := by kernel_rfl
theorem tf_fo63_2 : fieldOff Tryz.prog 63 2 = some 2 := by kernel_rfl
theorem tf_fo63_3 : fieldOff Tryz.prog 63 3 = some 3 := by kernel_rfl
theorem tf_flat65 : flatB Tryz.prog 65 = true := by kernel_rfl
theorem tf_sz65 : sizeN Tryz.prog 65 1 = true := by kernel_rfl
theorem tf_zero65 : zeroV Tryz.prog 65 = some (.nilFunc) := by kernel_rfl
theorem tf_flat66 : flatB Tryz.prog 66 = true := by kernel_rfl
theorem tf_sz66 : sizeN Tryz.prog 66 1 = true := by kernel_rfl
theorem tf_zero66 : zeroV Tryz.prog 66 = some (.nilFunc) := by kernel_rfl
theorem tf_flat68 : flatB Tryz.prog 68 = true := by kernel_rfl
theorem tf_sz68 : sizeN Tryz.prog 68 1 = true := by kernel_rfl
theorem tf_zero68 : zeroV Tryz.prog 68 = some (.nilFunc) := by kernel_rfl
theorem tf_flat70 : flatB Tryz.prog 70 = true := by kernel_rfl
theorem tf_sz70 : sizeN Tryz.prog 70 1 = true := by kernel_rfl
theorem tf_zero70 : zeroV Tryz.prog 70 = some (.nilFunc) := by kernel_rfl
theorem tf_flat71 : flatB Tryz.prog 71 = true := by kernel_rfl
theorem tf_sz71 : sizeN Tryz.prog 71 1 = true := by kernel_rfl
theorem tf_zero71 : zeroV Tryz.prog 71 = some (.nilFunc) := by kernel_rfl
theorem tf_flat72 : flatB Tryz.prog 72 = true := by kernel_rfl
theorem tf_sz72 : sizeN Tryz.prog 72 1 = true := by kernel_rfl
theorem tf_zero72 : zeroV Tryz.prog 72 = some (.nilFunc) := by kernel_rfl
theorem tf_sz73 : sizeN Tryz.prog 73 4 = true := by kernel_rfl
theorem tf_agg73 : aggN Tryz.prog 73 = some 4 := by kernel_rfl
theorem tf_zero73 : zeroV Tryz.prog 73 = some (.agg #[.int .i64 0, .slice none 0 0, .slice none 0 0, .bool false]) := by kernel_rfl
theorem tf_lay73 : layOf Tryz.prog 73 = some ([(0, 1), (1, 1), (2, 1), (3, 1)], [.int .i64 0, .slice none 0 0, .slice none 0 0, .bool false]) := by kernel_rfl
theorem tf_fo73_0 : fieldOff Tryz.prog 73 0 = some 0 := by kernel_rfl
theorem tf_fo73_1 : fieldOff Tryz.prog 73 1 = some 1 := by kernel_rfl
theorem tf_fo73_2 : fieldOff Tryz.prog 73 2 = some 2 := by kernel_rfl
theorem tf_fo73_3 : fieldOff Tryz.prog 73 3 = some 3 := by kernel_rfl
theorem tf_sz74 : sizeN Tryz.prog 74 4 = true := by kernel_rfl
theorem tf_agg74 : aggN Tryz.prog 74 = some 4 := by kernel_rfl
theorem tf_zero74 : zeroV Tryz.prog 74 = some (.agg #[.int .i64 0, .slice none 0 0, .slice none 0 0, .bool false]) := by kernel_rfl
theorem tf_lay74 : layOf Tryz.prog 74 = some ([(0, 1), (1, 1), (2, 1), (3, 1)], [.int .i64 0, .slice none 0 0, .slice none 0 0, .bool false]) := by kernel_rfl
theorem tf_fo74_0 : fieldOff Tryz.prog 74 0 = some 0 := by kernel_rfl
theorem tf_fo74_1 : fieldOff Tryz.prog 74 1 = some 1 := by kernel_rfl
theorem tf_fo74_2 : fieldOff Tryz.prog 74 2 = some 2 := by kernel_rfl
theorem tf_fo74_3 : fieldOff Tryz.prog 74 3 = some 3 := by kernel_rfl
theorem tf_flat76 : flatB Tryz.prog 76 = true := by kernel_rfl
theorem tf_sz76 : sizeN Tryz.prog 76 1 = true := by kernel_rfl
theorem tf_zero76 : zeroV Tryz.prog 76 = some (.nilFunc) := by kernel_rfl
theorem tf_sz77 : sizeN Tryz.prog 77 2 = true := by kernel_rfl
theorem tf_agg77 : aggN Tryz.prog 77 = some 2 := by kernel_rfl
theorem tf_zero77 : zeroV Tryz.prog 77 = some (.agg #[str [], str []]) := by kernel_rfl
theorem tf_lay77 : layOf Tryz.prog 77 = some ([(0, 1), (1, 1)], [str [], str []]) := by kernel_rfl
theorem tf_fo77_0 : fieldOff Tryz.prog 77 0 = some 0 := by kernel_rfl
theorem tf_fo77_1 : fieldOff Tryz.prog 77 1 = some 1 := by kernel_rfl
theorem tf_sz78 : sizeN Tryz.prog 78 2 = true := by kernel_rfl
theorem tf_agg78 : aggN Tryz.prog 78 = some 2 := by kernel_rfl
theorem tf_zero78 : zeroV Tryz.prog 78 = some (.agg #[str [], str []]) := by kernel_rfl
theorem tf_lay78 : layOf Tryz.prog 78 = some ([(0, 1), (1, 1)], [str [], str []]) := by kernel_rfl
theorem tf_fo78_0 : fieldOff Tryz.prog 78 0 = some 0 := by kernel_rfl
theorem tf_fo78_1 : fieldOff Tryz.prog 78 1 = some 1 := by kernel_rfl
theorem tf_sz79 : sizeN Tryz.prog 79 5 = true := by kernel_rfl
theorem tf_agg79 : aggN Tryz.prog 79 = some 5 := by kernel_rfl
theorem tf_zero79 : zeroV Tryz.prog 79 = some (.agg #[str [], .int .i64 0, .int .i64 0, .int .i64 0, str []]) := by kernel_rfl
theorem tf_lay79 : layOf Tryz.prog 79 = some ([(0, 1), (1, 1), (2, 1), (3, 1), (4, 1)], [str [], .int .i64 0, .int .i64 0, .int .i64 0, str []]) := by kernel_rfl
theorem tf_fo79_0 : fieldOff Tryz.prog 79 0 = some 0 := by kernel_rfl
theorem tf_fo79_1 : fieldOff Tryz.prog 79 1 = some 1 := by kernel_rfl
theorem tf_fo79_2 : fieldOff Tryz.prog 79 2 = some 2 := by kernel_rfl
theorem tf_fo79_3 : fieldOff Tryz.prog 79 3 = some 3 := by kernel_rfl
theorem tf_fo79_4 : fieldOff Tryz.prog 79 4 = some 4 := by kernel_rfl
theorem tf_sz80 : sizeN Tryz.prog 80 5 = true := by kernel_rfl
theorem tf_agg80 : aggN Tryz.prog 80 = some 5 := by kernel_rfl
theorem tf_zero80 : zeroV Tryz.prog 80 = some (.agg #[str [], .int .i64 0, .int .i64 0, .int .i64 0, str []]) := by kernel_rfl
theorem tf_lay80 : layOf Tryz.prog 80 = some ([(0, 1), (1, 1), (2, 1), (3, 1), (4, 1)], [str [], .int .i64 0, .int .i64 0, .int .i64 0, str []]) := by kernel_rfl
theorem tf_fo80_0 : fieldOff Tryz.prog 80 0 = some 0 := by kernel_rfl
theorem tf_fo80_1 : fieldOff Tryz.prog 80 1 = some 1 := by kernel_rfl
theorem tf_fo80_2 : fieldOff Tryz.prog 80 2 = some 2 := by kernel_rfl
theorem tf_fo80_3 : fieldOff Tryz.prog 80 3 = some 3 := by kernel_rfl
theorem tf_fo80_4 : fieldOff Tryz.prog 80 4 = some 4 := by kernel_rfl
theorem tf_flat81 : flatB Tryz.prog 81 = true := by kernel_rfl
theorem tf_sz81 : sizeN Tryz.prog 81 1 = true := by kernel_rfl
theorem tf_zero81 : zeroV Tryz.prog 81 = some (.slice none 0 0) := by kernel_rfl
theorem tf_el81 : ElemOk Tryz.prog 81 80 tyRec (([], 0, 0, 0, []) : List UInt8 × Int × Int × Int × List UInt8) 56 := ElemOk.of Tryz.underlying81 (by kernel_rfl) (by kernel_rfl) rfl
theorem tf_flat82 : flatB Tryz.prog 82 = true := by kernel_rfl
theorem tf_sz82 : sizeN Tryz.prog 82 1 = true := by kernel_rfl
theorem tf_zero82 : zeroV Tryz.prog 82 = some (.slice none 0 0) := by kernel_rfl
theorem tf_el82 : ElemOk Tryz.prog 82 287 tyQn (([], 0, 0) : List UInt8 × Int × Int) 32 := ElemOk.of Tryz.underlying82 (by kernel_rfl) (by kernel_rfl) rfl
theorem tf_sz83 : sizeN Tryz.prog 83 6 = true := by kernel_rfl
theorem tf_agg83 : aggN Tryz.prog 83 = some 6 := by kernel_rfl
theorem tf_zero83 : zeroV Tryz.prog 83 = some (.agg #[.int .i64 0, .int .i64 0, .slice none 0 0, .slice none 0 0, .slice none 0 0, .slice none 0 0]) := by kernel_rfl
theorem tf_lay83 : layOf Tryz.prog 83 = some ([(0, 1), (1, 1), (2, 1), (3, 1), (4, 1), (5, 1)], [.int .i64 0, .int .i64 0, .slice none 0 0, .slice none 0 0, .slice none 0 0, .slice none 0 0]) := by kernel_rfl
theorem tf_fo83_0 : fieldOff Tryz.prog 83 0 = some 0 := by kernel_rfl
theorem tf_fo83_1 : fieldOff Tryz.prog 83 1 = some 1 := by kernel_rfl
theorem tf_fo83_2 : fieldOff Tryz.prog 83 2 = some 2 := by kernel_rfl
theorem tf_fo83_3 : fieldOff Tryz.prog 83 3 = some 3 := by kernel_rfl
theorem tf_fo83_4 : fieldOff Tryz.prog 83 4 = some 4 := by kernel_rfl
theorem tf_fo83_5 : fieldOff Tryz.prog 83 5 = some 5 := by kernel_rfl
theorem tf_sz84 : sizeN Tryz.prog 84 6 = true := by kernel_rfl
theorem tf_agg84 : aggN Tryz.prog 84 = some 6 := by kernel_rfl
theorem tf_zero84 : zeroV Tryz.prog 84 = some (.agg #[.int .i64 0, .int .i64 0, .slice none 0 0, .slice none 0 0, .slice none 0 0, .slice none 0 0]) := by kernel_rfl
theorem tf_lay84 : layOf Tryz.prog 84 = some ([(0, 1), (1, 1), (2, 1), (3, 1), (4, 1), (5, 1)], [.int .i64 0, .int .i64 0, .slice none 0 0, .slice none 0 0, .slice none 0 0, .slice none 0 0]) := by kernel_rfl
theorem tf_fo84_0 : fieldOff Tryz.prog 84 0 = some 0 := by kernel_rfl
theorem tf_fo84_1 : fieldOff Tryz.prog 84 1 = some 1 := by kernel_rfl
theorem tf_fo84_2 : fieldOff Tryz.prog 84 2 = some 2 := by kernel_rfl
theorem tf_fo84_3 : fieldOff Tryz.prog 84 3 = some 3 := by kernel_rfl
theorem tf_fo84_4 : fieldOff Tryz.prog 84 4 = some 4 := by kernel_rfl
theorem tf_fo84_5 : fieldOff Tryz.prog 84 5 = some 5 := by kernel_rfl
theorem tf_flat85 : flatB Tryz.prog 85 = true := by kernel_rfl
theorem tf_sz85 : sizeN Tryz.prog 85 1 = true := by kernel_rfl
theorem tf_zero85 : zeroV Tryz.prog 85 = some (.nilFunc) := by kernel_rfl
theorem tf_flat87 : flatB Tryz.prog 87 = true := by kernel_rfl
theorem tf_sz87 : sizeN Tryz.prog 87 1 = true := by kernel_rfl
theorem tf_zero87 : zeroV Tryz.prog 87 = some (.nilFunc) := by kernel_rfl
theorem tf_flat88 : flatB Tryz.prog 88 = true := by kernel_rfl
theorem tf_sz88 : sizeN Tryz.prog 88 1 = true := by kernel_rfl
theorem tf_zero88 : zeroV Tryz.prog 88 = some (.nilFunc) := by kernel_rfl
theorem tf_flat89 : flatB Tryz.prog 89 = true := by kernel_rfl
theorem tf_sz89 : sizeN Tryz.prog 89 1 = true := by kernel_rfl
theorem tf_zero89 : zeroV Tryz.prog 89 = some (.nilFunc) := by kernel_rfl
theorem tf_flat90 : flatB Tryz.prog 90 = true := by kernel_rfl
theorem tf_sz90 : sizeN Tryz.prog 90 1 = true := by kernel_rfl
theorem tf_zero90 : zeroV Tryz.prog 90 = some (.nilFunc) := by kernel_rfl
theorem tf_flat92 : flatB Tryz.prog 92 = true := by kernel_rfl
theorem tf_sz92 : sizeN Tryz.prog 92 1 = true := by kernel_rfl
theorem tf_zero92 : zeroV Tryz.prog 92 = some (.nilFunc) := by kernel_rfl
theorem tf_flat93 : flatB Tryz.prog 93 = true := by kernel_rfl
theorem tf_sz93 : sizeN Tryz.prog 93 1 = true := by kernel_rfl
theorem tf_zero93 : zeroV Tryz.prog 93 = some (.nilFunc) := by kernel_rfl
theorem tf_flat94 : flatB Tryz.prog 94 = true := by kernel_rfl
theorem tf_sz94 : sizeN Tryz.prog 94 1 = true := by kernel_rfl
theorem tf_zero94 : zeroV Tryz.prog 94 = some (.nilFunc) := by kernel_rfl
theorem tf_flat95 : flatB Tryz.prog 95 = true := by kernel_rfl
theorem tf_sz95 : sizeN Tryz.prog 95 1 = true := by kernel_rfl
theorem tf_zero95 : zeroV Tryz.prog 95 = some (.nilFunc) := by kernel_rfl
theorem tf_flat97 : flatB Tryz.prog 97 = true := by kernel_rfl
theorem tf_sz97 : sizeN Tryz.prog 97 1 = true := by kernel_rfl
theorem tf_zero97 : zeroV Tryz.prog 97 = some (.nilFunc) := by kernel_rfl
theorem tf_flat99 : flatB Tryz.prog 99 = true := by kernel_rfl
theorem tf_sz99 : sizeN Tryz.prog 99 1 = true := by kernel_rfl
theorem tf_zero99 : zeroV Tryz.prog 99 = some (.map none) := by kernel_rfl
theorem tf_flat101 : flatB Tryz.prog 101 = true := by kernel_rfl
theorem tf_sz101 : sizeN Tryz.prog 101 1 = true := by kernel_rfl
theorem tf_zero101 : zeroV Tryz.prog 101 = some (.nilFunc) := by kernel_rfl
theorem tf_flat102 : flatB Tryz.prog 102 = true := by kernel_rfl
theorem tf_sz102 : sizeN Tryz.prog 102 1 = true := by kernel_rfl
theorem tf_zero102 : zeroV Tryz.prog 102 = some (.nilFunc) := by kernel_rfl
theorem tf_flat104 : flatB Tryz.prog 104 = true := by kernel_rfl
theorem tf_sz104 : sizeN Tryz.prog 104 1 = true := by kernel_rfl
theorem tf_zero104 : zeroV Tryz.prog 104 = some (.nilFunc) := by kernel_rfl
theorem tf_flat105 : flatB Tryz.prog 105 = true := by kernel_rfl
theorem tf_sz105 : sizeN Tryz.prog 105 1 = true := by kernel_rfl
theorem tf_zero105 : zeroV Tryz.prog 105 = some (.nilFunc) := by kernel_rfl
theorem tf_flat106 : flatB Tryz.prog 106 = true := by kernel_rfl
theorem tf_sz106 : sizeN Tryz.prog 106 1 = true := by kernel_rfl
theorem tf_zero106 : zeroV Tryz.prog 106 = some (.pointer none) := by kernel_rfl
theorem tf_sz107 : sizeN Tryz.prog 107 2 = true := by kernel_rfl
theorem tf_agg107 : aggN Tryz.prog 107 = some 2 := by kernel_rfl
theorem tf_zero107 : zeroV Tryz.prog 107 = some (.agg #[.pointer none, .slice none 0 0]) := by kernel_rfl
theorem tf_lay107 : layOf Tryz.prog 107 = some ([(0, 1), (1, 1)], [.pointer none, .slice none 0 0]) := by kernel_rfl
theorem tf_fo107_0 : fieldOff Tryz.prog 107 0 = some 0 := by kernel_rfl
theorem tf_fo107_1 : fieldOff Tryz.prog 107 1 = some 1 := by kernel_rfl
theorem tf_sz108 : sizeN Tryz.prog 108 2 = true := by kernel_rfl
theorem tf_agg108 : aggN Tryz.prog 108 = some 2 := by kernel_rfl
theorem tf_zero108 : zeroV Tryz.prog 108 = some (.agg #[.pointer none, .slice none 0 0]) := by kernel_rfl
theorem tf_lay108 : layOf Tryz.prog 108 = some ([(0, 1), (1, 1)], [.pointer none, .slice none 0 0]) := by kernel_rfl
theorem tf_fo108_0 : fieldOff Tryz.prog 108 0 = some 0 := by kernel_rfl
theorem tf_fo108_1 : fieldOff Tryz.prog 108 1 = some 1 := by kernel_rfl
theorem tf_flat109 : flatB Tryz.prog 109 = true := by kernel_rfl
theorem tf_sz109 : sizeN Tryz.prog 109 1 = true := by kernel_rfl
theorem tf_zero109 : zeroV Tryz.prog 109 = some (.slice none 0 0) := by kernel_rfl
theorem tf_el109 : ElemOk Tryz.prog 109 9 tyS ([] : List UInt8) 16 := ElemOk.of Tryz.underlying109 (by kernel_rfl) (by kernel_rfl) rfl
theorem tf_flat110 : flatB Tryz.prog 110 = true := by kernel_rfl
theorem tf_sz110 : sizeN Tryz.prog 110 1 = true := by kernel_rfl
theorem tf_zero110 : zeroV Tryz.prog 110 = some (.nilIface) := by kernel_rfl
theorem tf_flat111 : flatB Tryz.prog 111 = true := by kernel_rfl
theorem tf_sz111 : sizeN Tryz.prog 111 1 = true := by kernel_rfl
theorem tf_zero111 : zeroV Tryz.prog 111 = some (.nilIface) := by kernel_rfl
theorem tf_flat113 : flatB Tryz.prog 113 = true := by kernel_rfl
theorem tf_sz113 : sizeN Tryz.prog 113 1 = true := by kernel_rfl
theorem tf_zero113 : zeroV Tryz.prog 113 = some (.nilFunc) := by kernel_rfl
theorem tf_flat114 : flatB Tryz.prog 114 = true := by kernel_rfl
theorem tf_sz114 : sizeN Tryz.prog 114 1 = true := by kernel_rfl
theorem tf_zero114 : zeroV Tryz.prog 114 = some (.nilFunc) := by kernel_rfl
theorem tf_flat115 : flatB Tryz.prog 115 = true := by kernel_rfl
theorem tf_sz115 : sizeN Tryz.prog 115 1 = true := by kernel_rfl
theorem tf_zero115 : zeroV Tryz.prog 115 = some (.nilFunc) := by kernel_rfl
theorem tf_sz116 : sizeN Tryz.prog 116 2 = true := by kernel_rfl
theorem tf_agg116 : aggN Tryz.prog 116 = some 2 := by kernel_rfl
theorem tf_zero116 : zeroV Tryz.prog 116 = some (.agg #[.int .i64 0, .int .i64 0]) := by kernel_rfl
theorem tf_lay116 : layOf Tryz.prog 116 = some ([(0, 1), (1, 1)], [.int .i64 0, .int .i64 0]) := by kernel_rfl
theorem tf_fo116_0 : fieldOff Tryz.prog 116 0 = some 0 := by kernel_rfl
theorem tf_fo116_1 : fieldOff Tryz.prog 116 1 = some 1 := by kernel_rfl
theorem tf_sz117 : sizeN Tryz.prog 117 2 = true := by kernel_rfl
theorem tf_agg117 : aggN Tryz.prog 117 = some 2 := by kernel_rfl
theorem tf_zero117 : zeroV Tryz.prog 117 = some (.agg #[.int .i64 0, .int .i64 0]) := by kernel_rfl
theorem tf_lay117 : layOf Tryz.prog 117 = some ([(0, 1), (1, 1)], [.int .i64 0, .int .i64 0]) := by kernel_rfl
theorem tf_fo117_0 : fieldOff Tryz.prog 117 0 = some 0 := by kernel_rfl
theorem tf_fo117_1 : fieldOff Tryz.prog 117 1 = some 1 := by kernel_rfl
theorem tf_flat118 : flatB Tryz.prog 118 = true := by kernel_rfl
theorem tf_sz118 : sizeN Tryz.prog 118 1 = true := by kernel_rfl
theorem tf_zero118 : zeroV Tryz.prog 118 = some (.nilFunc) := by kernel_rfl
theorem tf_flat119 : flatB Tryz.prog 119 = true := by kernel_rfl
theorem tf_sz119 : sizeN Tryz.prog 119 1 = true := by kernel_rfl
theorem tf_zero119 : zeroV Tryz.prog 119 = some (.nilFunc) := by kernel_rfl
theorem tf_flat120 : flatB Tryz.prog 120 = true := by kernel_rfl
theorem tf_sz120 : sizeN Tryz.prog 120 1 = true := by kernel_rfl
theorem tf_zero120 : zeroV Tryz.prog 120 = some (.nilFunc) := by kernel_rfl
theorem tf_flat121 : flatB Tryz.prog 121 = true := by kernel_rfl
theorem tf_sz121 : sizeN Tryz.prog 121 1 = true := by kernel_rfl
theorem tf_zero121 : zeroV Tryz.prog 121 = some (.nilFunc) := by kernel_rfl
theorem tf_flat122 : flatB Tryz.prog 122 = true := by kernel_rfl
theorem tf_sz122 : sizeN Tryz.prog 122 1 = true := by kernel_rfl
theorem tf_zero122 : zeroV Tryz.prog 122 = some (.nilFunc) := by kernel_rfl
theorem tf_flat124 : flatB Tryz.prog 124 = true := by kernel_rfl
theorem tf_sz124 : sizeN Tryz.prog 124 1 = true := by kernel_rfl
theorem tf_zero124 : zeroV Tryz.prog 124 = some (.nilFunc) := by kernel_rfl
theorem tf_flat126 : flatB Tryz.prog 126 = true := by kernel_rfl
theorem tf_sz126 : sizeN Tryz.prog 126 1 = true := by kernel_rfl
theorem tf_zero126 : zeroV Tryz.prog 126 = some (.nilFunc) := by kernel_rfl
theorem tf_flat127 : flatB Tryz.prog 127 = true := by kernel_rfl
theorem tf_sz127 : sizeN Tryz.prog 127 1 = true := by kernel_rfl
theorem tf_zero127 : zeroV Tryz.prog 127 = some (.nilFunc) := by kernel_rfl
theorem tf_flat128 : flatB Tryz.prog 128 = true := by kernel_rfl
theorem tf_sz128 : sizeN Tryz.prog 128 1 = true := by kernel_rfl
theorem tf_zero128 : zeroV Tryz.prog 128 = some (.nilFunc) := by kernel_rfl
theorem tf_flat129 : flatB Tryz.prog 129 = true := by kernel_rfl
theorem tf_sz129 : sizeN Tryz.prog 129 1 = true := by kernel_rfl
theorem tf_zero129 : zeroV Tryz.prog 129 = some (.nilFunc) := by kernel_rfl
theorem tf_flat130 : flatB Tryz.prog 130 = true := by kernel_rfl
theorem tf_sz130 : sizeN Tryz.prog 130 1 = true := by kernel_rfl
theorem tf_zero130 : zeroV Tryz.prog 130 = some (.nilFunc) := by kernel_rfl
theorem tf_flat131 : flatB Tryz.prog 131 = true := by kernel_rfl
theorem tf_sz131 : sizeN Tryz.prog 131 1 = true := by kernel_rfl
theorem tf_zero131 : zeroV Tryz.prog 131 = some (.nilFunc) := by kernel_rfl
theorem tf_sz132 : sizeN Tryz.prog 132 2 = true := by kernel_rfl
theorem tf_agg132 : aggN Tryz.prog 132 = some 2 := by kernel_rfl
theorem tf_zero132 : zeroV Tryz.prog 132 = some (.agg #[.int .i64 0, .int .i64 0]) := by kernel_rfl
theorem tf_lay132 : layOf Tryz.prog 132 = some ([(0, 1), (1, 1)], [.int .i64 0, .int .i64 0]) := by kernel_rfl
theorem tf_fo132_0 : fieldOff Tryz.prog 132 0 = some 0 := by kernel_rfl
theorem tf_fo132_1 : fieldOff Tryz.prog 132 1 = some 1 := by kernel_rfl
theorem tf_sz133 : sizeN Tryz.prog 133 2 = true := by kernel_rfl
theorem tf_agg133 : aggN Tryz.prog 133 = some 2 := by kernel_rfl
theorem tf_zero133 : zeroV Tryz.prog 133 = some (.agg #[.int .i64 0, .int .i64 0]) := by kernel_rfl
theorem tf_lay133 : layOf Tryz.prog 133 = some ([(0, 1), (1, 1)], [.int .i64 0, .int .i64 0]) := by kernel_rfl
theorem tf_fo133_0 : fieldOff Tryz.prog 133 0 = some 0 := by kernel_rfl
theorem tf_fo133_1 : fieldOff Tryz.prog 133 1 = some 1 := by kernel_rfl
theorem tf_flat135 : flatB Tryz.prog 135 = true := by kernel_rfl
theorem tf_sz135 : sizeN Tryz.prog 135 1 = true := by kernel_rfl
theorem tf_zero135 : zeroV Tryz.prog 135 = some (.nilFunc) := by kernel_rfl
theorem tf_flat136 : flatB Tryz.prog 136 = true := by kernel_rfl
theorem tf_sz136 : sizeN Tryz.prog 136 1 = true := by kernel_rfl
theorem tf_zero136 : zeroV Tryz.prog 136 = some (.nilFunc) := by kernel_rfl
theorem tf_flat137 : flatB Tryz.prog 137 = true := by kernel_rfl
theorem tf_sz137 : sizeN Tryz.prog 137 1 = true := by kernel_rfl
theorem tf_zero137 : zeroV Tryz.prog 137 = some (.nilFunc) := by kernel_rfl
theorem tf_flat138 : flatB Tryz.prog 138 = true := by kernel_rfl
theorem tf_sz138 : sizeN Tryz.prog 138 1 = true := by kernel_rfl
theorem tf_zero138 : zeroV Tryz.prog 138 = some (.nilFunc) := by kernel_rfl
theorem tf_flat140 : flatB Tryz.prog 140 = true := by kernel_rfl
theorem tf_sz140 : sizeN Tryz.prog 140 1 = true := by kernel_rfl
theorem tf_zero140 : zeroV Tryz.prog 140 = some (.nilFunc) := by kernel_rfl
theorem tf_flat142 : flatB Tryz.prog 142 = true := by kernel_rfl
theorem tf_sz142 : sizeN Tryz.prog 142 1 = true := by kernel_rfl
theorem tf_zero142 : zeroV Tryz.prog 142 = some (.nilFunc) := by kernel_rfl
theorem tf_flat143 : flatB Tryz.prog 143 = true := by kernel_rfl
theorem tf_sz143 : sizeN Tryz.prog 143 1 = true := by kernel_rfl
theorem tf_zero143 : zeroV Tryz.prog 143 = some (.nilFunc) := by kernel_rfl
theorem tf_flat145 : flatB Tryz.prog 145 = true := by kernel_rfl
theorem tf_sz145 : sizeN Tryz.prog 145 1 = true := by kernel_rfl
theorem tf_zero145 : zeroV Tryz.prog 145 = some (.nilFunc) := by kernel_rfl
theorem tf_flat146 : flatB Tryz.prog 146 = true := by kernel_rfl
theorem tf_sz146 : sizeN Tryz.prog 146 1 = true := by kernel_rfl
theorem tf_zero146 : zeroV Tryz.prog 146 = some (.nilFunc) := by kernel_rfl
theorem tf_flat147 : flatB Tryz.prog 147 = true := by kernel_rfl
theorem tf_sz147 : sizeN Tryz.prog 147 1 = true := by kernel_rfl
theorem tf_zero147 : zeroV Tryz.prog 147 = some (.nilFunc) := by kernel_rfl
theorem tf_flat148 : flatB Tryz.prog 148 = true := by kernel_rfl
theorem tf_sz148 : sizeN Tryz.prog 148 1 = true := by kernel_rfl
theorem tf_zero148 : zeroV Tryz.prog 148 = some (.nilFunc) := by kernel_rfl
theorem tf_flat149 : flatB Tryz.prog 149 = true := by kernel_rfl
theorem tf_sz149 : sizeN Tryz.prog 149 1 = true := by kernel_rfl
theorem tf_zero149 : zeroV Tryz.prog 149 = some (.nilFunc) := by kernel_rfl
theorem tf_sz150 : sizeN Tryz.prog 150 1 = true := by kernel_rfl
theorem tf_agg150 : aggN Tryz.prog 150 = some 1 := by kernel_rfl
theorem tf_zero150 : zeroV Tryz.prog 150 = some (.agg #[str []]) := by kernel_rfl
theorem tf_lay150 : layOf Tryz.prog 150 = some ([(0, 1)], [str []]) := by kernel_rfl
theorem tf_fo150_0 : fieldOff Tryz.prog 150 0 = some 0 := by kernel_rfl
theorem tf_sz151 : sizeN Tryz.prog 151 1 = true := by kernel_rfl
theorem tf_agg151 : aggN Tryz.prog 151 = some 1 := by kernel_rfl
theorem tf_zero151 : zeroV Tryz.prog 151 = some (.agg #[str []]) := by kernel_rfl
theorem tf_lay151 : layOf Tryz.prog 151 = some ([(0, 1)], [str []]) := by kernel_rfl
theorem tf_fo151_0 : fieldOff Tryz.prog 151 0 = some 0 := by kernel_rfl
theorem tf_flat152 : flatB Tryz.prog 152 = true := by kernel_rfl
theorem tf_sz152 : sizeN Tryz.prog 152 1 = true := by kernel_rfl
theorem tf_zero152 : zeroV Tryz.prog 152 = some (.map none) := by kernel_rfl
theorem tf_flat153 : flatB Tryz.prog 153 = true := by kernel_rfl
theorem tf_sz153 : sizeN Tryz.prog 153 1 = true := by kernel_rfl
theorem tf_zero153 : zeroV Tryz.prog 153 = some (.pointer none) := by kernel_rfl
theorem tf_flat154 : flatB Tryz.prog 154 = true := by kernel_rfl
theorem tf_sz154 : sizeN Tryz.prog 154 1 = true := by kernel_rfl
theorem tf_zero154 : zeroV Tryz.prog 154 = some (.pointer none) := by kernel_rfl
theorem tf_flat155 : flatB Tryz.prog 155 = true := by kernel_rfl
theorem tf_sz155 : sizeN Tryz.prog 155 1 = true := by kernel_rfl
theorem tf_zero155 : zeroV Tryz.prog 155 = some (.nilFunc) := by kernel_rfl
theorem tf_flat156 : flatB Tryz.prog 156 = true := by kernel_rfl
theorem tf_sz156 : sizeN Tryz.prog 156 1 = true := by kernel_rfl
theorem tf_zero156 : zeroV Tryz.prog 156 = some (.int .u64 0) := by kernel_rfl
theorem tf_flat157 : flatB Tryz.prog 157 = true := by kernel_rfl
theorem tf_sz157 : sizeN Tryz.prog 157 1 = true := by kernel_rfl
theorem tf_zero157 : zeroV Tryz.prog 157 = some (.nilFunc) := by kernel_rfl
theorem tf_flat158 : flatB Tryz.prog 158 = true := by kernel_rfl
theorem tf_sz158 : sizeN Tryz.prog 158 1 = true := by kernel_rfl
theorem tf_zero158 : zeroV Tryz.prog 158 = some (.nilFunc) := by kernel_rfl
theorem tf_flat159 : flatB Tryz.prog 159 = true := by kernel_rfl
theorem tf_sz159 : sizeN Tryz.prog 159 1 = true := by kernel_rfl
theorem tf_zero159 : zeroV Tryz.prog 159 = some (.nilFunc) := by kernel_rfl
theorem tf_flat160 : flatB Tryz.prog 160 = true := by kernel_rfl
theorem tf_sz160 : sizeN Tryz.prog 160 1 = true := by kernel_rfl
theorem tf_zero160 : zeroV Tryz.prog 160 = some (.nilFunc) := by kernel_rfl
theorem tf_flat161 : flatB Tryz.prog 161 = true := by kernel_rfl
theorem tf_sz161 : sizeN Tryz.prog 161 1 = true := by kernel_rfl
theorem tf_zero161 : zeroV Tryz.prog 161 = some (.nilFunc) := by kernel_rfl
theorem tf_flat162 : flatB Tryz.prog 162 = true := by kernel_rfl
theorem tf_sz162 : sizeN Tryz.prog 162 1 = true := by kernel_rfl
theorem tf_zero162 : zeroV Tryz.prog 162 = some (.nilFunc) := by kernel_rfl
theorem tf_flat163 : flatB Tryz.prog 163 = true := by kernel_rfl
theorem tf_sz163 : sizeN Tryz.prog 163 1 = true := by kernel_rfl
theorem tf_zero163 : zeroV Tryz.prog 163 = some (.nilFunc) := by kernel_rfl
theorem tf_flat164 : flatB Tryz.prog 164 = true := by kernel_rfl
theorem tf_sz164 : sizeN Tryz.prog 164 1 = true := by kernel_rfl
theorem tf_zero164 : zeroV Tryz.prog 164 = some (.nilFunc) := by kernel_rfl
theorem tf_flat165 : flatB Tryz.prog 165 = true := by kernel_rfl
theorem tf_sz165 : sizeN Tryz.prog 165 1 = true := by kernel_rfl
theorem tf_zero165 : zeroV Tryz.prog 165 = some (.nilFunc) := by kernel_rfl
theorem tf_sz166 : sizeN Tryz.prog 166 256 = true := by kernel_rfl
theorem tf_agg166 : aggN Tryz.prog 166 = some 256 := by kernel_rfl
theorem tf_zero166 : zeroV Tryz.prog 166 = some (.agg (tyB.cells (List.replicate 256 (0 : UInt8))).toArray) := by kernel_rfl
theorem tf_zarr166 : (Value.agg (tyB.cells (List.replicate 256 (0 : UInt8))).toArray).cells = (tyB.cells (List.replicate 256 (0 : UInt8))).toArray := rfl
theorem tf_flat167 : flatB Tryz.prog 167 = true := by kernel_rfl
theorem tf_sz167 : sizeN Tryz.prog 167 1 = true := by kernel_rfl
theorem tf_zero167 : zeroV Tryz.prog 167 = some (.nilFunc) := by kernel_rfl
theorem tf_flat168 : flatB Tryz.prog 168 = true := by kernel_rfl
theorem tf_sz168 : sizeN Tryz.prog 168 1 = true := by kernel_rfl
theorem tf_zero168 : zeroV Tryz.prog 168 = some (.nilFunc) := by kernel_rfl
theorem tf_flat169 : flatB Tryz.prog 169 = true := by kernel_rfl
theorem tf_sz169 : sizeN Tryz.prog 169 1 = true := by kernel_rfl
theorem tf_zero169 : zeroV Tryz.prog 169 = some (.nilFunc) := by kernel_rfl
theorem tf_flat170 : flatB Tryz.prog 170 = true := by kernel_rfl
theorem tf_sz170 : sizeN Tryz.prog 170 1 = true := by kernel_rfl
theorem tf_zero170 : zeroV Tryz.prog 170 = some (.nilFunc) := by kernel_rfl
theorem tf_flat171 : flatB Tryz.prog 171 = true := by kernel_rfl
theorem tf_sz171 : sizeN Tryz.prog 171 1 = true := by kernel_rfl
theorem tf_zero171 : zeroV Tryz.prog 171 = some (.nilFunc) := by kernel_rfl
theorem tf_flat172 : flatB Tryz.prog 172 = true := by kernel_rfl
theorem tf_sz172 : sizeN Tryz.prog 172 1 = true := by kernel_rfl
theorem tf_zero172 : zeroV Tryz.prog 172 = some (.nilFunc) := by kernel_rfl
theorem tf_flat173 : flatB Tryz.prog 173 = true := by kernel_rfl
theorem tf_sz173 : sizeN Tryz.prog 173 1 = true := by kernel_rfl
theorem tf_zero173 : zeroV Tryz.prog 173 = some (.nilFunc) := by kernel_rfl
theorem tf_flat175 : flatB Tryz.prog 175 = true := by kernel_rfl
theorem tf_sz175 : sizeN Tryz.prog 175 1 = true := by kernel_rfl
theorem tf_zero175 : zeroV Tryz.prog 175 = some (.nilFunc) := by kernel_rfl
theorem tf_flat177 : flatB Tryz.prog 177 = true := by kernel_rfl
theorem tf_sz177 : sizeN Tryz.prog 177 1 = true := by kernel_rfl
theorem tf_zero177 : zeroV Tryz.prog 177 = some (.nilFunc) := by kernel_rfl
theorem tf_flat178 : flatB Tryz.prog 178 = true := by kernel_rfl
theorem tf_sz178 : sizeN Tryz.prog 178 1 = true := by kernel_rfl
theorem tf_zero178 : zeroV Tryz.prog 178 = some (.nilFunc) := by kernel_rfl
theorem tf_sz179 : sizeN Tryz.prog 179 256 = true := by kernel_rfl
theorem tf_agg179 : aggN Tryz.prog 179 = some 256 := by kernel_rfl
theorem tf_zero179 : zeroV Tryz.prog 179 = some (.agg (tyBool.cells (List.replicate 256 false)).toArray) := by kernel_rfl
theorem tf_zarr179 : (Value.agg (tyBool.cells (List.replicate 256 false)).toArray).cells = (tyBool.cells (List.replicate 256 false)).toArray := rfl
theorem tf_flat180 : flatB Tryz.prog 180 = true := by kernel_rfl
theorem tf_sz180 : sizeN Tryz.prog 180 1 = true := by kernel_rfl
theorem tf_zero180 : zeroV Tryz.prog 180 = some (.nilFunc) := by kernel_rfl
theorem tf_flat181 : flatB Tryz.prog 181 = true := by kernel_rfl
theorem tf_sz181 : sizeN Tryz.prog 181 1 = true := by kernel_rfl
theorem tf_zero181 : zeroV Tryz.prog 181 = some (.nilFunc) := by kernel_rfl
theorem tf_sz182 : sizeN Tryz.prog 182 256 = true := by kernel_rfl
theorem tf_agg182 : aggN Tryz.prog 182 = some 256 := by kernel_rfl
theorem tf_zero182 : zeroV Tryz.prog 182 = some (.agg (tyBool.cells (List.replicate 256 false)).toArray) := by kernel_rfl
theorem tf_zarr182 : (Value.agg (tyBool.cells (List.replicate 256 false)).toArray).cells = (tyBool.cells (List.replicate 256 false)).toArray := rfl
theorem tf_flat184 : flatB Tryz.prog 184 = true := by kernel_rfl
theorem tf_sz184 : sizeN Tryz.prog 184 1 = true := by kernel_rfl
theorem tf_zero184 : zeroV Tryz.prog 184 = some (.nilFunc) := by kernel_rfl
theorem tf_flat185 : flatB Tryz.prog 185 = true := by kernel_rfl
theorem tf_sz185 : sizeN Tryz.prog 185 1 = true := by kernel_rfl
theorem tf_zero185 : zeroV Tryz.prog 185 = some (.nilFunc) := by kernel_rfl
theorem tf_flat186 : flatB Tryz.prog 186 = true := by kernel_rfl
theorem tf_sz186 : sizeN Tryz.prog 186 1 = true := by kernel_rfl
theorem tf_zero186 : zeroV Tryz.prog 186 = some (.pointer none) := by kernel_rfl
theorem tf_sz187 : sizeN Tryz.prog 187 24 = true := by kernel_rfl
theorem tf_agg187 : aggN Tryz.prog 187 = some 24 := by kernel_rfl
theorem tf_zero187 : zeroV Tryz.prog 187 = some (.agg #[.int .u8 0, .int .u8 0, .int .u8 0, .int .u8 0, .int .u8 0, .int .u8 0, .int .u8 0, .int .u8 0, .int .u8 0, .int .u8 0, .int .u8 0, .int .u8 0, .int .u8 0, .int .u8 0, .int .u8 0, .int .u8 0, .int .u8 0, .int .u8 0, .int .u8 0, .int .u8 0, .int .u8 0, .int .u8 0, .int .u8 0, .int .u8 0]) := by kernel_rfl
theorem tf_flat188 : flatB Tryz.prog 188 = true := by kernel_rfl
theorem tf_sz188 : sizeN Tryz.prog 188 1 = true := by kernel_rfl
theorem tf_zero188 : zeroV Tryz.prog 188 = some (.int .u64 0) := by kernel_rfl
theorem tf_flat189 : flatB Tryz.prog 189 = true := by kernel_rfl
theorem tf_sz189 : sizeN Tryz.prog 189 1 = true := by kernel_rfl
theorem tf_zero189 : zeroV Tryz.prog 189 = some (.nilFunc) := by kernel_rfl
theorem tf_flat190 : flatB Tryz.prog 190 = true := by kernel_rfl
theorem tf_sz190 : sizeN Tryz.prog 190 1 = true := by kernel_rfl
theorem tf_zero190 : zeroV Tryz.prog 190 = some (.nilFunc) := by kernel_rfl
theorem tf_flat192 : flatB Tryz.prog 192 = true := by kernel_rfl
theorem tf_sz192 : sizeN Tryz.prog 192 1 = true := by kernel_rfl
theorem tf_zero192 : zeroV Tryz.prog 192 = some (.nilFunc) := by kernel_rfl
theorem tf_flat193 : flatB Tryz.prog 193 = true := by kernel_rfl
theorem tf_sz193 : sizeN Tryz.prog 193 1 = true := by kernel_rfl
theorem tf_zero193 : zeroV Tryz.prog 193 = some (.nilFunc) := by kernel_rfl
theorem tf_flat194 : flatB Tryz.prog 194 = true := by kernel_rfl
theorem tf_sz194 : sizeN Tryz.prog 194 1 = true := by kernel_rfl
theorem tf_zero194 : zeroV Tryz.prog 194 = some (.pointer none) := by kernel_rfl
theorem tf_flat195 : flatB Tryz.prog 195 = true := by kernel_rfl
theorem tf_sz195 : sizeN Tryz.prog 195 1 = true := by kernel_rfl
theorem tf_zero195 : zeroV Tryz.prog 195 = some (.nilFunc) := by kernel_rfl
theorem tf_flat196 : flatB Tryz.prog 196 = true := by kernel_rfl
theorem tf_sz196 : sizeN Tryz.prog 196 1 = true := by kernel_rfl
theorem tf_zero196 : zeroV Tryz.prog 196 = some (.int .u32 0) := by kernel_rfl
theorem tf_flat198 : flatB Tryz.prog 198 = true := by kernel_rfl
theorem tf_sz198 : sizeN Tryz.prog 198 1 = true := by kernel_rfl
theorem tf_zero198 : zeroV Tryz.prog 198 = some (.nilFunc) := by kernel_rfl
theorem tf_flat199 : flatB Tryz.prog 199 = true := by kernel_rfl
theorem tf_sz199 : sizeN Tryz.prog 199 1 = true := by kernel_rfl
theorem tf_zero199 : zeroV Tryz.prog 199 = some (.nilFunc) := by kernel_rfl
theorem tf_flat200 : flatB Tryz.prog 200 = true := by kernel_rfl
theorem tf_sz200 : sizeN Tryz.prog 200 1 = true := by kernel_rfl
theorem tf_zero200 : zeroV Tryz.prog 200 = some (.nilFunc) := by kernel_rfl
theorem tf_flat202 : flatB Tryz.prog 202 = true := by kernel_rfl
theorem tf_sz202 : sizeN Tryz.prog 202 1 = true := by kernel_rfl
theorem tf_zero202 : zeroV Tryz.prog 202 = some (.nilFunc) := by kernel_rfl
theorem tf_flat203 : flatB Tryz.prog 203 = true := by kernel_rfl
theorem tf_sz203 : sizeN Tryz.prog 203 1 = true := by kernel_rfl
theorem tf_zero203 : zeroV Tryz.prog 203 = some (.nilFunc) := by kernel_rfl
theorem tf_flat204 : flatB Tryz.prog 204 = true := by kernel_rfl
theorem tf_sz204 : sizeN Tryz.prog 204 1 = true := by kernel_rfl
theorem tf_zero204 : zeroV Tryz.prog 204 = some (.nilFunc) := by kernel_rfl
theorem tf_flat205 : flatB Tryz.prog 205 = true := by kernel_rfl
theorem tf_sz205 : sizeN Tryz.prog 205 1 = true := by kernel_rfl
theorem tf_zero205 : zeroV Tryz.prog 205 = some (.nilFunc) := by kernel_rfl
theorem tf_flat206 : flatB Tryz.prog 206 = true := by kernel_rfl
theorem tf_sz206 : sizeN Tryz.prog 206 1 = true := by kernel_rfl
theorem tf_zero206 : zeroV Tryz.prog 206 = some (.nilFunc) := by kernel_rfl
theorem tf_flat207 : flatB Tryz.prog 207 = true := by kernel_rfl
theorem tf_sz207 : sizeN Tryz.prog 207 1 = true := by kernel_rfl
theorem tf_zero207 : zeroV Tryz.prog 207 = some (.int .i64 0) := by kernel_rfl
theorem tf_flat209 : flatB Tryz.prog 209 = true := by kernel_rfl
theorem tf_sz209 : sizeN Tryz.prog 209 1 = true := by kernel_rfl
theorem tf_zero209 : zeroV Tryz.prog 209 = some (.nilFunc) := by kernel_rfl
theorem tf_flat210 : flatB Tryz.prog 210 = true := by kernel_rfl
theorem tf_sz210 : sizeN Tryz.prog 210 1 = true := by kernel_rfl
theorem tf_zero210 : zeroV Tryz.prog 210 = some (.pointer none) := by kernel_rfl
theorem tf_flat211 : flatB Tryz.prog 211 = true := by kernel_rfl
theorem tf_sz211 : sizeN Tryz.prog 211 1 = true := by kernel_rfl
theorem tf_zero211 : zeroV Tryz.prog 211 = some (.nilFunc) := by kernel_rfl
theorem tf_flat212 : flatB Tryz.prog 212 = true := by kernel_rfl
theorem tf_sz212 : sizeN Tryz.prog 212 1 = true := by kernel_rfl
theorem tf_zero212 : zeroV Tryz.prog 212 = some (.nilFunc) := by kernel_rfl
theorem tf_flat213 : flatB Tryz.prog 213 = true := by kernel_rfl
theorem tf_sz213 : sizeN Tryz.prog 213 1 = true := by kernel_rfl
theorem tf_zero213 : zeroV Tryz.prog 213 = some (.slice none 0 0) := by kernel_rfl
theorem tf_el213 : ElemOk Tryz.prog 213 236 tyPiece (([], false) : List UInt8 × Bool) 24 := ElemOk.of Tryz.underlying213 (by kernel_rfl) (by kernel_rfl) rfl
theorem tf_flat215 : flatB Tryz.prog 215 = true := by kernel_rfl
theorem tf_sz215 : sizeN Tryz.prog 215 1 = true := by kernel_rfl
theorem tf_zero215 : zeroV Tryz.prog 215 = some (.nilFunc) := by kernel_rfl
theorem tf_flat216 : flatB Tryz.prog 216 = true := by kernel_rfl
theorem tf_sz216 : sizeN Tryz.prog 216 1 = true := by kernel_rfl
theorem tf_zero216 : zeroV Tryz.prog 216 = some (.nilFunc) := by kernel_rfl
theorem tf_flat217 : flatB Tryz.prog 217 = true := by kernel_rfl
theorem tf_sz217 : sizeN Tryz.prog 217 1 = true := by kernel_rfl
theorem tf_zero217 : zeroV Tryz.prog 217 = some (.nilFunc) := by kernel_rfl
theorem tf_flat218 : flatB Tryz.prog 218 = true := by kernel_rfl
theorem tf_sz218 : sizeN Tryz.prog 218 1 = true := by kernel_rfl
theorem tf_zero218 : zeroV Tryz.prog 218 = some (.nilFunc) := by kernel_rfl
theorem tf_flat219 : flatB Tryz.prog 219 = true := by kernel_rfl
theorem tf_sz219 : sizeN Tryz.prog 219 1 = true := by kernel_rfl
theorem tf_zero219 : zeroV Tryz.prog 219 = some (.nilFunc) := by kernel_rfl
theorem tf_sz220 : sizeN Tryz.prog 220 20 = true := by kernel_rfl
theorem tf_agg220 : aggN Tryz.prog 220 = some 20 := by kernel_rfl
theorem tf_zero220 : zeroV Tryz.prog 220 = some (.agg #[.int .u64 0, .int .u64 0, .int .u64 0, .int .u64 0, .int .u64 0, .int .u64 0, .int .u64 0, .int .u64 0, .int .u64 0, .int .u64 0, .int .u64 0, .int .u64 0, .int .u64 0, .int .u64 0, .int .u64 0, .int .u64 0, .int .u64 0, .int .u64 0, .int .u64 0, .int .u64 0]) := by kernel_rfl
theorem tf_sz221 : sizeN Tryz.prog 221 65 = true := by kernel_rfl
theorem tf_agg221 : aggN Tryz.prog 221 = some 65 := by kernel_rfl
theorem tf_zero221 : zeroV Tryz.prog 221 = some (.agg (tyB.cells (List.replicate 65 (0 : UInt8))).toArray) := by kernel_rfl
theorem tf_zarr221 : (Value.agg (tyB.cells (List.replicate 65 (0 : UInt8))).toArray).cells = (tyB.cells (List.replicate 65 (0 : UInt8))).toArray := rfl
theorem tf_flat222 : flatB Tryz.prog 222 = true := by kernel_rfl
theorem tf_sz222 : sizeN Tryz.prog 222 1 = true := by kernel_rfl
theorem tf_zero222 : zeroV Tryz.prog 222 = some (.nilFunc) := by kernel_rfl
theorem tf_flat223 : flatB Tryz.prog 223 = true := by kernel_rfl
theorem tf_sz223 : sizeN Tryz.prog 223 1 = true := by kernel_rfl
theorem tf_zero223 : zeroV Tryz.prog 223 = some (.nilFunc) := by kernel_rfl
theorem tf_flat224 : flatB Tryz.prog 224 = true := by kernel_rfl
theorem tf_sz224 : sizeN Tryz.prog 224 1 = true := by kernel_rfl
theorem tf_zero224 : zeroV Tryz.prog 224 = some (.nilFunc) := by kernel_rfl
theorem tf_flat225 : flatB Tryz.prog 225 = true := by kernel_rfl
theorem tf_sz225 : sizeN Tryz.prog 225 1 = true := by kernel_rfl
theorem tf_zero225 : zeroV Tryz.prog 225 = some (.nilFunc) := by kernel_rfl
theorem tf_flat226 : flatB Tryz.prog 226 = true := by kernel_rfl
theorem tf_sz226 : sizeN Tryz.prog 226 1 = true := by kernel_rfl
theorem tf_zero226 : zeroV Tryz.prog 226 = some (.nilFunc) := by kernel_rfl
theorem tf_flat228 : flatB Tryz.prog 228 = true := by kernel_rfl
theorem tf_sz228 : sizeN Tryz.prog 228 1 = true := by kernel_rfl
theorem tf_zero228 : zeroV Tryz.prog 228 = some (.nilFunc) := by kernel_rfl
theorem tf_sz229 : sizeN Tryz.prog 229 3 = true := by kernel_rfl
theorem tf_agg229 : aggN Tryz.prog 229 = some 3 := by kernel_rfl
theorem tf_zero229 : zeroV Tryz.prog 229 = some (.agg #[str [], str [], .nilIface]) := by kernel_rfl
theorem tf_lay229 : layOf Tryz.prog 229 = some ([(0, 1), (1, 1), (2, 1)], [str [], str [], .nilIface]) := by kernel_rfl
theorem tf_fo229_0 : fieldOff Tryz.prog 229 0 = some 0 := by kernel_rfl
theorem tf_fo229_1 : fieldOff Tryz.prog 229 1 = some 1 := by kernel_rfl
theorem tf_fo229_2 : fieldOff Tryz.prog 229 2 = some 2 := by kernel_rfl
theorem tf_sz230 : sizeN Tryz.prog 230 3 = true := by kernel_rfl
theorem tf_agg230 : aggN Tryz.prog 230 = some 3 := by kernel_rfl
theorem tf_zero230 : zeroV Tryz.prog 230 = some (.agg #[str [], str [], .nilIface]) := by kernel_rfl
theorem tf_lay230 : layOf Tryz.prog 230 = some ([(0, 1), (1, 1), (2, 1)], [str [], str [], .nilIface]) := by kernel_rfl
theorem tf_fo230_0 : fieldOff Tryz.prog 230 0 = some 0 := by kernel_rfl
theorem tf_fo230_1 : fieldOff Tryz.prog 230 1 = some 1 := by kernel_rfl
theorem tf_fo230_2 : fieldOff Tryz.prog 230 2 = some 2 := by kernel_rfl
theorem tf_flat231 : flatB Tryz.prog 231 = true := by kernel_rfl
theorem tf_sz231 : sizeN Tryz.prog 231 1 = true := by kernel_rfl
theorem tf_zero231 : zeroV Tryz.prog 231 = some (.nilFunc) := by kernel_rfl
theorem tf_flat232 : flatB Tryz.prog 232 = true := by kernel_rfl
theorem tf_sz232 : sizeN Tryz.prog 232 1 = true := by kernel_rfl
theorem tf_zero232 : zeroV Tryz.prog 232 = some (.slice none 0 0) := by kernel_rfl
theorem tf_flat234 : flatB Tryz.prog 234 = true := by kernel_rfl
theorem tf_sz234 : sizeN Tryz.prog 234 1 = true := by kernel_rfl
theorem tf_zero234 : zeroV Tryz.prog 234 = some (.nilFunc) := by kernel_rfl
theorem tf_sz235 : sizeN Tryz.prog 235 2 = true := by kernel_rfl
theorem tf_agg235 : aggN Tryz.prog 235 = some 2 := by kernel_rfl
theorem tf_zero235 : zeroV Tryz.prog 235 = some (.agg #[str [], .bool false]) := by kernel_rfl
theorem tf_lay235 : layOf Tryz.prog 235 = some ([(0, 1), (1, 1)], [str [], .bool false]) := by kernel_rfl
theorem tf_fo235_0 : fieldOff Tryz.prog 235 0 = some 0 := by kernel_rfl
theorem tf_fo235_1 : fieldOff Tryz.prog 235 1 = some 1 := by kernel_rfl
theorem tf_sz236 : sizeN Tryz.prog 236 2 = true := by kernel_rfl
theorem tf_agg236 : aggN Tryz.prog 236 = some 2 := by kernel_rfl
theorem tf_zero236 : zeroV Tryz.prog 236 = some (.agg #[str [], .bool false]) := by kernel_rfl
theorem tf_lay236 : layOf Tryz.prog 236 = some ([(0, 1), (1, 1)], [str [], .bool false]) := by kernel_rfl
theorem tf_fo236_0 : fieldOff Tryz.prog 236 0 = some 0 := by kernel_rfl
theorem tf_fo236_1 : fieldOff Tryz.prog 236 1 = some 1 := by kernel_rfl
theorem tf_sz237 : sizeN Tryz.prog 237 0 = true := by kernel_rfl
theorem tf_agg237 : aggN Tryz.prog 237 = some 0 := by kernel_rfl
theorem tf_zero237 : zeroV Tryz.prog 237 = some (.agg #[]) := by kernel_rfl
theorem tf_lay237 : layOf Tryz.prog 237 = some ([], []) := by kernel_rfl
theorem tf_sz238 : sizeN Tryz.prog 238 0 = true := by kernel_rfl
theorem tf_agg238 : aggN Tryz.prog 238 = some 0 := by kernel_rfl
theorem tf_zero238 : zeroV Tryz.prog 238 = some (.agg #[]) := by kernel_rfl
theorem tf_lay238 : layOf Tryz.prog 238 = some ([], []) := by kernel_rfl
theorem tf_sz240 : sizeN Tryz.prog 240 3 = true := by kernel_rfl
theorem tf_agg240 : aggN Tryz.prog 240 = some 3 := by kernel_rfl
theorem tf_zero240 : zeroV Tryz.prog 240 = some (.agg #[.int .i64 0, .bool false, .bool false]) := by kernel_rfl
theorem tf_lay240 : layOf Tryz.prog 240 = some ([(0, 1), (1, 1), (2, 1)], [.int .i64 0, .bool false, .bool false]) := by kernel_rfl
theorem tf_fo240_0 : fieldOff Tryz.prog 240 0 = some 0 := by kernel_rfl
theorem tf_fo240_1 : fieldOff Tryz.prog 240 1 = some 1 := by kernel_rfl
theorem tf_fo240_2 : fieldOff Tryz.prog 240 2 = some 2 := by kernel_rfl
theorem tf_sz241 : sizeN Tryz.prog 241 3 = true := by kernel_rfl
theorem tf_agg241 : aggN Tryz.prog 241 = some 3 := by kernel_rfl
theorem tf_zero241 : zeroV Tryz.prog 241 = some (.agg #[.int .i64 0, .bool false, .bool false]) := by kernel_rfl
theorem tf_lay241 : layOf Tryz.prog 241 = some ([(0, 1), (1, 1), (2, 1)], [.int .i64 0, .bool false, .bool false]) := by kernel_rfl
theorem tf_fo241_0 : fieldOff Tryz.prog 241 0 = some 0 := by kernel_rfl
theorem tf_fo241_1 : fieldOff Tryz.prog 241 1 = some 1 := by kernel_rfl
theorem tf_fo241_2 : fieldOff Tryz.prog 241 2 = some 2 := by kernel_rfl
theorem tf_flat243 : flatB Tryz.prog 243 = true := by kernel_rfl
theorem tf_sz243 : sizeN Tryz.prog 243 1 = true := by kernel_rfl
theorem tf_zero243 : zeroV Tryz.prog 243 = some (.nilFunc) := by kernel_rfl
theorem tf_flat244 : flatB Tryz.prog 244 = true := by kernel_rfl
theorem tf_sz244 : sizeN Tryz.prog 244 1 = true := by kernel_rfl
theorem tf_zero244 : zeroV Tryz.prog 244 = some (.nilFunc) := by kernel_rfl
theorem tf_sz245 : sizeN Tryz.prog 245 256 = true := by kernel_rfl
theorem tf_agg245 : aggN Tryz.prog 245 = some 256 := by kernel_rfl
theorem tf_zero245 : zeroV Tryz.prog 245 = some (.agg (tyBool.cells (List.replicate 256 false)).toArray) := by kernel_rfl
theorem tf_zarr245 : (Value.agg (tyBool.cells (List.replicate 256 false)).toArray).cells = (tyBool.cells (List.replicate 256 false)).toArray := rfl
theorem tf_flat247 : flatB Tryz.prog 247 = true := by kernel_rfl
theorem tf_sz247 : sizeN Tryz.prog 247 1 = true := by kernel_rfl
theorem tf_zero247 : zeroV Tryz.prog 247 = some (.nilFunc) := by kernel_rfl
theorem tf_flat248 : flatB Tryz.prog 248 = true := by kernel_rfl
theorem tf_sz248 : sizeN Tryz.prog 248 1 = true := by kernel_rfl
theorem tf_zero248 : zeroV Tryz.prog 248 = some (.nilFunc) := by kernel_rfl
theorem tf_flat249 : flatB Tryz.prog 249 = true := by kernel_rfl
theorem tf_sz249 : sizeN Tryz.prog 249 1 = true := by kernel_rfl
theorem tf_zero249 : zeroV Tryz.prog 249 = some (.nilFunc) := by kernel_rfl
theorem tf_flat250 : flatB Tryz.prog 250 = true := by kernel_rfl
theorem tf_sz250 : sizeN Tryz.prog 250 1 = true := by kernel_rfl
theorem tf_zero250 : zeroV Tryz.prog 250 = some (.nilFunc) := by kernel_rfl
theorem tf_sz251 : sizeN Tryz.prog 251 2 = true := by kernel_rfl
theorem tf_agg251 : aggN Tryz.prog 251 = some 2 := by kernel_rfl
theorem tf_zero251 : zeroV Tryz.prog 251 = some (.agg #[.int .u8 0, .int .u8 0]) := by kernel_rfl
theorem tf_lay251 : layOf Tryz.prog 251 = some ([(0, 1), (1, 1)], [.int .u8 0, .int .u8 0]) := by kernel_rfl
theorem tf_fo251_0 : fieldOff Tryz.prog 251 0 = some 0 := by kernel_rfl
theorem tf_fo251_1 : fieldOff Tryz.prog 251 1 = some 1 := by kernel_rfl
theorem tf_sz252 : sizeN Tryz.prog 252 2 = true := by kernel_rfl
theorem tf_agg252 : aggN Tryz.prog 252 = some 2 := by kernel_rfl
theorem tf_zero252 : zeroV Tryz.prog 252 = some (.agg #[.int .u8 0, .int .u8 0]) := by kernel_rfl
theorem tf_lay252 : layOf Tryz.prog 252 = some ([(0, 1), (1, 1)], [.int .u8 0, .int .u8 0]) := by kernel_rfl
theorem tf_fo252_0 : fieldOff Tryz.prog 252 0 = some 0 := by kernel_rfl
theorem tf_fo252_1 : fieldOff Tryz.prog 252 1 = some 1 := by kernel_rfl
theorem tf_sz253 : sizeN Tryz.prog 253 32 = true := by kernel_rfl
theorem tf_agg253 : aggN Tryz.prog 253 = some 32 := by kernel_rfl
theorem tf_zero253 : zeroV Tryz.prog 253 = some (.agg #[.int .u8 0, .int .u8 0, .int .u8 0, .int .u8 0, .int .u8 0, .int .u8 0, .int .u8 0, .int .u8 0, .int .u8 0, .int .u8 0, .int .u8 0, .int .u8 0, .int .u8 0, .int .u8 0, .int .u8 0, .int .u8 0, .int .u8 0, .int .u8 0, .int .u8 0, .int .u8 0, .int .u8 0, .int .u8 0, .int .u8 0, .int .u8 0, .int .u8 0, .int .u8 0, .int .u8 0, .int .u8 0, .int .u8 0, .int .u8 0, .int .u8 0, .int .u8 0]) := by kernel_rfl
theorem tf_flat254 : flatB Tryz.prog 254 = true := by kernel_rfl
theorem tf_sz254 : sizeN Tryz.prog 254 1 = true := by kernel_rfl
theorem tf_zero254 : zeroV Tryz.prog 254 = some (.nilFunc) := by kernel_rfl
theorem tf_flat255 : flatB Tryz.prog 255 = true := by kernel_rfl
theorem tf_sz255 : sizeN Tryz.prog 255 1 = true := by kernel_rfl
theorem tf_zero255 : zeroV Tryz.prog 255 = some (.nilFunc) := by kernel_rfl
theorem tf_flat256 : flatB Tryz.prog 256 = true := by kernel_rfl
theorem tf_sz256 : sizeN Tryz.prog 256 1 = true := by kernel_rfl
theorem tf_zero256 : zeroV Tryz.prog 256 = some (.pointer none) := by kernel_rfl
theorem tf_sz257 : sizeN Tryz.prog 257 1 = true := by kernel_rfl
theorem tf_agg257 : aggN Tryz.prog 257 = some 1 := by kernel_rfl
theorem tf_zero257 : zeroV Tryz.prog 257 = some (.agg #[str []]) := by kernel_rfl
theorem tf_lay257 : layOf Tryz.prog 257 = some ([(0, 1)], [str []]) := by kernel_rfl
theorem tf_fo257_0 : fieldOff Tryz.prog 257 0 = some 0 := by kernel_rfl
theorem tf_sz258 : sizeN Tryz.prog 258 1 = true := by kernel_rfl
theorem tf_agg258 : aggN Tryz.prog 258 = some 1 := by kernel_rfl
theorem tf_zero258 : zeroV Tryz.prog 258 = some (.agg #[str []]) := by kernel_rfl
theorem tf_lay258 : layOf Tryz.prog 258 = some ([(0, 1)], [str []]) := by kernel_rfl
theorem tf_fo258_0 : fieldOff Tryz.prog 258 0 = some 0 := by kernel_rfl
theorem tf_flat259 : flatB Tryz.prog 259 = true := by kernel_rfl
theorem tf_sz259 : sizeN Tryz.prog 259 1 = true := by kernel_rfl
theorem tf_zero259 : zeroV Tryz.prog 259 = some (.map none) := by kernel_rfl
theorem tf_flat260 : flatB Tryz.prog 260 = true := by kernel_rfl
theorem tf_sz260 : sizeN Tryz.prog 260 1 = true := by kernel_rfl
theorem tf_zero260 : zeroV Tryz.prog 260 = some (.nilFunc) := by kernel_rfl
theorem tf_flat261 : flatB Tryz.prog 261 = true := by kernel_rfl
theorem tf_sz261 : sizeN Tryz.prog 261 1 = true := by kernel_rfl
theorem tf_zero261 : zeroV Tryz.prog 261 = some (.nilIface) := by kernel_rfl
theorem tf_flat263 : flatB Tryz.prog 263 = true := by kernel_rfl
theorem tf_sz263 : sizeN Tryz.prog 263 1 = true := by kernel_rfl
theorem tf_zero263 : zeroV Tryz.prog 263 = some (.nilFunc) := by kernel_rfl
theorem tf_sz264 : sizeN Tryz.prog 264 4 = true := by kernel_rfl
theorem tf_agg264 : aggN Tryz.prog 264 = some 4 := by kernel_rfl
theorem tf_zero264 : zeroV Tryz.prog 264 = some (.agg #[.int .u8 0, .int .u8 0, .int .u8 0, .int .u8 0]) := by kernel_rfl
theorem tf_flat265 : flatB Tryz.prog 265 = true := by kernel_rfl
theorem tf_sz265 : sizeN Tryz.prog 265 1 = true := by kernel_rfl
theorem tf_zero265 : zeroV Tryz.prog 265 = some (.pointer none) := by kernel_rfl
theorem tf_sz266 : sizeN Tryz.prog 266 32 = true := by kernel_rfl
theorem tf_agg266 : aggN Tryz.prog 266 = some 32 := by kernel_rfl
theorem tf_zero266 : zeroV Tryz.prog 266 = some (.agg (tyB.cells (List.replicate 32 (0 : UInt8))).toArray) := by kernel_rfl
theorem tf_zarr266 : (Value.agg (tyB.cells (List.replicate 32 (0 : UInt8))).toArray).cells = (tyB.cells (List.replicate 32 (0 : UInt8))).toArray := rfl
theorem tf_sz267 : sizeN Tryz.prog 267 64 = true := by kernel_rfl
theorem tf_agg267 : aggN Tryz.prog 267 = some 64 := by kernel_rfl
theorem tf_zero267 : zeroV Tryz.prog 267 = some (.agg (tyB.cells (List.replicate 64 (0 : UInt8))).toArray) := by kernel_rfl
theorem tf_zarr267 : (Value.agg (tyB.cells (List.replicate 64 (0 : UInt8))).toArray).cells = (tyB.cells (List.replicate 64 (0 : UInt8))).toArray := rfl
theorem tf_flat269 : flatB Tryz.prog 269 = true := by kernel_rfl
theorem tf_sz269 : sizeN Tryz.prog 269 1 = true := by kernel_rfl
theorem tf_zero269 : zeroV Tryz.prog 269 = some (.nilFunc) := by kernel_rfl
theorem tf_flat270 : flatB Tryz.prog 270 = true := by kernel_rfl
theorem tf_sz270 : sizeN Tryz.prog 270 1 = true := by kernel_rfl
theorem tf_zero270 : zeroV Tryz.prog 270 = some (.nilFunc) := by kernel_rfl
theorem tf_flat271 : flatB Tryz.prog 271 = true := by kernel_rfl
theorem tf_sz271 : sizeN Tryz.prog 271 1 = true := by kernel_rfl
theorem tf_zero271 : zeroV Tryz.prog 271 = some (.nilFunc) := by kernel_rfl
theorem tf_flat272 : flatB Tryz.prog 272 = true := by kernel_rfl
theorem tf_sz272 : sizeN Tryz.prog 272 1 = true := by kernel_rfl
theorem tf_zero272 : zeroV Tryz.prog 272 = some (.nilFunc) := by kernel_rfl
theorem tf_flat273 : flatB Tryz.prog 273 = true := by kernel_rfl
theorem tf_sz273 : sizeN Tryz.prog 273 1 = true := by kernel_rfl
theorem tf_zero273 : zeroV Tryz.prog 273 = some (.nilFunc) := by kernel_rfl
theorem tf_sz274 : sizeN Tryz.prog 274 4 = true := by kernel_rfl
theorem tf_agg274 : aggN Tryz.prog 274 = some 4 := by kernel_rfl
theorem tf_zero274 : zeroV Tryz.prog 274 = some (.agg #[.pointer none, .pointer none, .pointer none, str []]) := by kernel_rfl
theorem tf_lay274 : layOf Tryz.prog 274 = some ([(0, 1), (1, 1), (2, 1), (3, 1)], [.pointer none, .pointer none, .pointer none, str []]) := by kernel_rfl
theorem tf_fo274_0 : fieldOff Tryz.prog 274 0 = some 0 := by kernel_rfl
theorem tf_fo274_1 : fieldOff Tryz.prog 274 1 = some 1 := by kernel_rfl
theorem tf_fo274_2 : fieldOff Tryz.prog 274 2 = some 2 := by kernel_rfl
theorem tf_fo274_3 : fieldOff Tryz.prog 274 3 = some 3 := by kernel_rfl
theorem tf_sz275 : sizeN Tryz.prog 275 4 = true := by kernel_rfl
theorem tf_agg275 : aggN Tryz.prog 275 = some 4 := by kernel_rfl
theorem tf_zero275 : zeroV Tryz.prog 275 = some (.agg #[.pointer none, .pointer none, .pointer none, str []]) := by kernel_rfl
theorem tf_lay275 : layOf Tryz.prog 275 = some ([(0, 1), (1, 1), (2, 1), (3, 1)], [.pointer none, .pointer none, .pointer none, str []]) := by kernel_rfl
theorem tf_fo275_0 : fieldOff Tryz.prog 275 0 = some 0 := by kernel_rfl
theorem tf_fo275_1 : fieldOff Tryz.prog 275 1 = some 1 := by kernel_rfl
theorem tf_fo275_2 : fieldOff Tryz.prog 275 2 = some 2 := by kernel_rfl
theorem tf_fo275_3 : fieldOff Tryz.prog 275 3 = some 3 := by kernel_rfl
theorem tf_sz276 : sizeN Tryz.prog 276 0 = true := by kernel_rfl
theorem tf_agg276 : aggN Tryz.prog 276 = some 0 := by kernel_rfl
theorem tf_zero276 : zeroV Tryz.prog 276 = some (.agg #[]) := by kernel_rfl
theorem tf_sz277 : sizeN Tryz.prog 277 0 = true := by kernel_rfl
theorem tf_agg277 : aggN Tryz.prog 277 = some 0 := by kernel_rfl
theorem tf_zero277 : zeroV Tryz.prog 277 = some (.agg #[]) := by kernel_rfl
theorem tf_lay277 : layOf Tryz.prog 277 = some ([(0, 0)], []) := by kernel_rfl
theorem tf_sz278 : sizeN Tryz.prog 278 0 = true := by kernel_rfl
theorem tf_agg278 : aggN Tryz.prog 278 = some 0 := by kernel_rfl
theorem tf_zero278 : zeroV Tryz.prog 278 = some (.agg #[]) := by kernel_rfl
theorem tf_lay278 : layOf Tryz.prog 278 = some ([(0, 0)], []) := by kernel_rfl
theorem tf_flat279 : flatB Tryz.prog 279 = true := by kernel_rfl
theorem tf_sz279 : sizeN Tryz.prog 279 1 = true := by kernel_rfl
theorem tf_zero279 : zeroV Tryz.prog 279 = some (.int .u8 0) := by kernel_rfl
theorem tf_flat280 : flatB Tryz.prog 280 = true := by kernel_rfl
theorem tf_sz280 : sizeN Tryz.prog 280 1 = true := by kernel_rfl
theorem tf_zero280 : zeroV Tryz.prog 280 = some (.int .u8 0) := by kernel_rfl
theorem tf_flat281 : flatB Tryz.prog 281 = true := by kernel_rfl
theorem tf_sz281 : sizeN Tryz.prog 281 1 = true := by kernel_rfl
theorem tf_zero281 : zeroV Tryz.prog 281 = some (.nilFunc) := by kernel_rfl
theorem tf_flat282 : flatB Tryz.prog 282 = true := by kernel_rfl
theorem tf_sz282 : sizeN Tryz.prog 282 1 = true := by kernel_rfl
theorem tf_zero282 : zeroV Tryz.prog 282 = some (.int .i32 0) := by kernel_rfl
theorem tf_flat283 : flatB Tryz.prog 283 = true := by kernel_rfl
theorem tf_sz283 : sizeN Tryz.prog 283 1 = true := by kernel_rfl
theorem tf_zero283 : zeroV Tryz.prog 283 = some (.int .i32 0) := by kernel_rfl
theorem tf_sz284 : sizeN Tryz.prog 284 11 = true := by kernel_rfl
theorem tf_agg284 : aggN Tryz.prog 284 = some 11 := by kernel_rfl
theorem tf_zero284 : zeroV Tryz.prog 284 = some (.agg #[.int .u64 0, .int .u64 0, .int .u32 0, .int .u8 0, .int .u8 0, .int .u8 0, .int .u8 0, .nilFunc, .pointer none, .int .i32 0, .int .i32 0]) := by kernel_rfl
theorem tf_lay284 : layOf Tryz.prog 284 = some ([(0, 1), (1, 1), (2, 1), (3, 1), (4, 1), (5, 1), (6, 1), (7, 1), (8, 1), (9, 1), (10, 1)], [.int .u64 0, .int .u64 0, .int .u32 0, .int .u8 0, .int .u8 0, .int .u8 0, .int .u8 0, .nilFunc, .pointer none, .int .i32 0, .int .i32 0]) := by kernel_rfl
theorem tf_fo284_0 : fieldOff Tryz.prog 284 0 = some 0 := by kernel_rfl
theorem tf_fo284_1 : fieldOff Tryz.prog 284 1 = some 1 := by kernel_rfl
theorem tf_fo284_2 : fieldOff Tryz.prog 284 2 = some 2 := by kernel_rfl
theorem tf_fo284_3 : fieldOff Tryz.prog 284 3 = some 3 := by kernel_rfl
theorem tf_fo284_4 : fieldOff Tryz.prog 284 4 = some 4 := by kernel_rfl
theorem tf_fo284_5 : fieldOff Tryz.prog 284 5 = some 5 := by kernel_rfl
theorem tf_fo284_6 : fieldOff Tryz.prog 284 6 = some 6 := by kernel_rfl
theorem tf_fo284_7 : fieldOff Tryz.prog 284 7 = some 7 := by kernel_rfl
theorem tf_fo284_8 : fieldOff Tryz.prog 284 8 = some 8 := by kernel_rfl
theorem tf_fo284_9 : fieldOff Tryz.prog 284 9 = some 9 := by kernel_rfl
theorem tf_fo284_10 : fieldOff Tryz.prog 284 10 = some 10 := by kernel_rfl
theorem tf_sz285 : sizeN Tryz.prog 285 11 = true := by kernel_rfl
theorem tf_agg285 : aggN Tryz.prog 285 = some 11 := by kernel_rfl
theorem tf_zero285 : zeroV Tryz.prog 285 = some (.agg #[.int .u64 0, .int .u64 0, .int .u32 0, .int .u8 0, .int .u8 0, .int .u8 0, .int .u8 0, .nilFunc, .pointer none, .int .i32 0, .int .i32 0]) := by kernel_rfl
theorem tf_lay285 : layOf Tryz.prog 285 = some ([(0, 1), (1, 1), (2, 1), (3, 1), (4, 1), (5, 1), (6, 1), (7, 1), (8, 1), (9, 1), (10, 1)], [.int .u64 0, .int .u64 0, .int .u32 0, .int .u8 0, .int .u8 0, .int .u8 0, .int .u8 0, .nilFunc, .pointer none, .int .i32 0, .int .i32 0]) := by kernel_rfl
theorem tf_fo285_0 : fieldOff Tryz.prog 285 0 = some 0 := by kernel_rfl
theorem tf_fo285_1 : fieldOff Tryz.prog 285 1 = some 1 := by kernel_rfl
theorem tf_fo285_2 : fieldOff Tryz.prog 285 2 = some 2 := by kernel_rfl
theorem tf_fo285_3 : fieldOff Tryz.prog 285 3 = some 3 := by kernel_rfl
theorem tf_fo285_4 : fieldOff Tryz.prog 285 4 = some 4 := by kernel_rfl
theorem tf_fo285_5 : fieldOff Tryz.prog 285 5 = some 5 := by kernel_rfl
theorem tf_fo285_6 : fieldOff Tryz.prog 285 6 = some 6 := by kernel_rfl
theorem tf_fo285_7 : fieldOff Tryz.prog 285 7 = some 7 := by kernel_rfl
theorem tf_fo285_8 : fieldOff Tryz.prog 285 8 = some 8 := by kernel_rfl
theorem tf_fo285_9 : fieldOff Tryz.prog 285 9 = some 9 := by kernel_rfl
theorem tf_fo285_10 : fieldOff Tryz.prog 285 10 = some 10 := by kernel_rfl
theorem tf_sz286 : sizeN Tryz.prog 286 3 = true := by kernel_rfl
theorem tf_agg286 : aggN Tryz.prog 286 = some 3 := by kernel_rfl
theorem tf_zero286 : zeroV Tryz.prog 286 = some (.agg #[str [], .int .i64 0, .int .i64 0]) := by kernel_rfl
theorem tf_lay286 : layOf Tryz.prog 286 = some ([(0, 1), (1, 1), (2, 1)], [str [], .int .i64 0, .int .i64 0]) := by kernel_rfl
theorem tf_fo286_0 : fieldOff Tryz.prog 286 0 = some 0 := by kernel_rfl
theorem tf_fo286_1 : fieldOff Tryz.prog 286 1 = some 1 := by kernel_rfl
theorem tf_fo286_2 : fieldOff Tryz.prog 286 2 = some 2 := by kernel_rfl
theorem tf_sz287 : sizeN Tryz.prog 287 3 = true := by kernel_rfl
theorem tf_agg287 : aggN Tryz.prog 287 = some 3 := by kernel_rfl
theorem tf_zero287 : zeroV Tryz.prog 287 = some (.agg #[str [], .int .i64 0, .int .i64 0]) := by kernel_rfl
theorem tf_lay287 : layOf Tryz.prog 287 = some ([(0, 1), (1, 1), (2, 1)], [str [], .int .i64 0, .int .i64 0]) := by kernel_rfl
theorem tf_fo287_0 : fieldOff Tryz.prog 287 0 = some 0 := by kernel_rfl
theorem tf_fo287_1 : fieldOff Tryz.prog 287 1 = some 1 := by kernel_rfl
theorem tf_fo287_2 : fieldOff Tryz.prog 287 2 = some 2 := by kernel_rfl
theorem tf_mixed : Tryz.prog.follows .mixedOrders = true := by kernel_rfl
theorem tf_body2 : Body Tryz.prog 2 := Body.of (by kernel_rfl)
theorem tf_body3 : Body Tryz.prog 3 := Body.of (by kernel_rfl)
theorem tf_body4 : Body Tryz.prog 4 := Body.of (by kernel_rfl)
theorem tf_body5 : Body Tryz.prog 5 := Body.of (by kernel_rfl)
theorem tf_body6 : Body Tryz.prog 6 := Body.of (by kernel_rfl)
theorem tf_body7 : Body Tryz.prog 7 := Body.of (by kernel_rfl)
theorem tf_body8 : Body Tryz.prog 8 := Body.of (by kernel_rfl)
theorem tf_body9 : Body Tryz.prog 9 := Body.of (by kernel_rfl)
theorem tf_body10 : Body Tryz.prog 10 := Body.of (by kernel_rfl)
theorem tf_body11 : Body Tryz.prog 11 := Body.of (by kernel_rfl)
theorem tf_body12 : Body Tryz.prog 12 := Body.of (by kernel_rfl)
theorem tf_body13 : Body Tryz.prog 13 := Body.of (by kernel_rfl)
theorem tf_body14 : Body Tryz.prog 14 := Body.of (by kernel_rfl)
theorem tf_body15 : Body Tryz.prog 15 := Body.of (by kernel_rfl)
theorem tf_body16 : Body Tryz.prog 16 := Body.of (by kernel_rfl)
theorem tf_body17 : Body Tryz.prog 17 := Body.of (by kernel_rfl)
theorem tf_body18 : Body Tryz.prog 18 := Body.of (by kernel_rfl)
theorem tf_body19 : Body Tryz.prog 19 := Body.of (by kernel_rfl)
theorem tf_body20 : Body Tryz.prog 20 := Body.of (by kernel_rfl)
theorem tf_body21 : Body Tryz.prog 21 := Body.of (by kernel_rfl)
theorem tf_body22 : Body Tryz.prog 22 := Body.of (by kernel_rfl)
theorem tf_body23 : Body Tryz.prog 23 := Body.of (by kernel_rfl)
theorem tf_body24 : Body Tryz.prog 24 := Body.of (by kernel_rfl)
theorem tf_body25 : Body Tryz.prog 25 := Body.of (by kernel_rfl)
theorem tf_body26 : Body Tryz.prog 26 := Body.of (by kernel_rfl)
theorem tf_body27 : Body Tryz.prog 27 := Body.of (by kernel_rfl)
theorem tf_body28 : Body Tryz.prog 28 := Body.of (by kernel_rfl)
theorem tf_body29 : Body Tryz.prog 29 := Body.of (by kernel_rfl)
theorem tf_body30 : Body Tryz.prog 30 := Body.of (by kernel_rfl)
theorem tf_body31 : Body Tryz.prog 31 := Body.of (by kernel_rfl)
theorem tf_body32 : Body Tryz.prog 32 := Body.of (by kernel_rfl)
theorem tf_body33 : Body Tryz.prog 33 := Body.of (by kernel_rfl)
theorem tf_body34 : Body Tryz.prog 34 := Body.of (by kernel_rfl)
theorem tf_body35 : Body Tryz.prog 35 := Body.of (by kernel_rfl)
theorem tf_body36 : Body Tryz.prog 36 := Body.of (by kernel_rfl)
theorem tf_body37 : Body Tryz.prog 37 := Body.of (by kernel_rfl)
theorem tf_body38 : Body Tryz.prog 38 := Body.of (by kernel_rfl)
theorem tf_body39 : Body Tryz.prog 39 := Body.of (by kernel_rfl)
theorem tf_body40 : Body Tryz.prog 40 := Body.of (by kernel_rfl)
theorem tf_body41 : Body Tryz.prog 41 := Body.of (by kernel_rfl)
theorem tf_body42 : Body Tryz.prog 42 := Body.of (by kernel_rfl)
theorem tf_body43 : Body Tryz.prog 43 := Body.of (by kernel_rfl)
theorem tf_body44 : Body Tryz.prog 44 := Body.of (by kernel_rfl)
theorem tf_body45 : Body Tryz.prog 45 := Body.of (by kernel_rfl)
theorem tf_body46 : Body Tryz.prog 46 := Body.of (by kernel_rfl)
theorem tf_body47 : Body Tryz.prog 47 := Body.of (by kernel_rfl)
theorem tf_body48 : Body Tryz.prog 48 := Body.of (by kernel_rfl)
theorem tf_body49 : Body Tryz.prog 49 := Body.of (by kernel_rfl)
theorem tf_body50 : Body Tryz.prog 50 := Body.of (by kernel_rfl)
theorem tf_body51 : Body Tryz.prog 51 := Body.of (by kernel_rfl)
theorem tf_body52 : Body Tryz.prog 52 := Body.of (by kernel_rfl)
theorem tf_body53 : Body Tryz.prog 53 := Body.of (by kernel_rfl)
theorem tf_body54 : Body Tryz.prog 54 := Body.of (by kernel_rfl)
theorem tf_body55 : Body Tryz.prog 55 := Body.of (by kernel_rfl)
theorem tf_body56 : Body Tryz.prog 56 := Body.of (by kernel_rfl)
theorem tf_body57 : Body Tryz.prog 57 := Body.of (by kernel_rfl)
theorem tf_body58 : Body Tryz.prog 58 := Body.of (by kernel_rfl)
theorem tf_body59 : Body Tryz.prog 59 := Body.of (by kernel_rfl)
theorem tf_body60 : Body Tryz.prog 60 := Body.of (by kernel_rfl)
theorem tf_body61 : Body Tryz.prog 61 := Body.of (by kernel_rfl)
theorem tf_body62 : Body Tryz.prog 62 := Body.of (by kernel_rfl)
theorem tf_body63 : Body Tryz.prog 63 := Body.of (by kernel_rfl)
theorem tf_body64 : Body Tryz.prog 64 := Body.of (by kernel_rfl)
theorem tf_body65 : Body Tryz.prog 65 := Body.of (by kernel_rfl)
theorem tf_body66 : Body Tryz.prog 66 := Body.of (by kernel_rfl)
theorem tf_body67 : Body Tryz.prog 67 := Body.of (by kernel_rfl)
theorem tf_body68 : Body Tryz.prog 68 := Body.of (by kernel_rfl)
theorem tf_body69 : Body Tryz.prog 69 := Body.of (by kernel_rfl)
theorem tf_body70 : Body Tryz.prog 70 := Body.of (by kernel_rfl)
theorem tf_body71 : Body Tryz.prog 71 := Body.of (by kernel_rfl)
theorem tf_body72 : Body Tryz.prog 72 := Body.of (by kernel_rfl)
theorem tf_body73 : Body Tryz.prog 73 := Body.of (by kernel_rfl)
theorem tf_body74 : Body Tryz.prog 74 := Body.of (by kernel_rfl)
theorem tf_body75 : Body Tryz.prog 75 := Body.of (by kernel_rfl)
theorem tf_body76 : Body Tryz.prog 76 := Body.of (by kernel_rfl)
theorem tf_body77 : Body Tryz.prog 77 := Body.of (by kernel_rfl)
theorem tf_body78 : Body Tryz.prog 78 := Body.of (by kernel_rfl)
theorem tf_body79 : Body Tryz.prog 79 := Body.of (by kernel_rfl)
theorem tf_body80 : Body Tryz.prog 80 := Body.of (by kernel_rfl)
theorem tf_body81 : Body Tryz.prog 81 := Body.of (by kernel_rfl)
theorem tf_body82 : Body Tryz.prog 82 := Body.of (by kernel_rfl)
theorem tf_body83 : Body Tryz.prog 83 := Body.of (by kernel_rfl)
theorem tf_body84 : Body Tryz.prog 84 := Body.of (by kernel_rfl)
theorem tf_body85 : Body Tryz.prog 85 := Body.of (by kernel_rfl)
theorem tf_body86 : Body Tryz.prog 86 := Body.of (by kernel_rfl)
theorem tf_body87 : Body Tryz.prog 87 := Body.of (by kernel_rfl)
theorem tf_body88 : Body Tryz.prog 88 := Body.of (by kernel_rfl)
theorem tf_body89 : Body Tryz.prog 89 := Body.of (by kernel_rfl)
theorem tf_body90 : Body Tryz.prog 90 := Body.of (by kernel_rfl)
theorem tf_body91 : Body Tryz.prog 91 := Body.of (by kernel_rfl)
theorem tf_body92 : Body Tryz.prog 92 := Body.of (by kernel_rfl)
theorem tf_body93 : Body Tryz.prog 93 := Body.of (by kernel_rfl)
theorem tf_body94 : Body Tryz.prog 94 := Body.of (by kernel_rfl)
theorem tf_body95 : Body Tryz.prog 95 := Body.of (by kernel_rfl)
theorem tf_body96 : Body Tryz.prog 96 := Body.of (by kernel_rfl)
theorem tf_body97 : Body Tryz.prog 97 := Body.of (by kernel_rfl)
theorem tf_body98 : Body Tryz.prog 98 := Body.of (by kernel_rfl)
theorem tf_body99 : Body Tryz.prog 99 := Body.of (by kernel_rfl)
theorem tf_body100 : Body Tryz.prog 100 := Body.of (by kernel_rfl)
theorem tf_body101 : Body Tryz.prog 101 := Body.of (by kernel_rfl)
theorem tf_body102 : Body Tryz.prog 102 := Body.of (by kernel_rfl)
theorem tf_body103 : Body Tryz.prog 103 := Body.of (by kernel_rfl)
theorem tf_body104 : Body Tryz.prog 104 := Body.of (by kernel_rfl)
theorem tf_body105 : Body Tryz.prog 105 := Body.of (by kernel_rfl)
theorem tf_body106 : Body Tryz.prog 106 := Body.of (by kernel_rfl)
theorem tf_body107 : Body Tryz.prog 107 := Body.of (by kernel_rfl)
theorem tf_body108 : Body Tryz.prog 108 := Body.of (by kernel_rfl)
theorem tf_body109 : Body Tryz.prog 109 := Body.of (by kernel_rfl)
theorem tf_body110 : Body Tryz.prog 110 := Body.of (by kernel_rfl)
theorem tf_body111 : Body Tryz.prog 111 := Body.of (by kernel_rfl)
theorem tf_body112 : Body Tryz.prog 112 := Body.of (by kernel_rfl)
theorem tf_body114 : Body Tryz.prog 114 := Body.of (by kernel_rfl)
theorem tf_body115 : Body Tryz.prog 115 := Body.of (by kernel_rfl)
theorem tf_body116 : Body Tryz.prog 116 := Body.of (by kernel_rfl)
theorem tf_body117 : Body Tryz.prog 117 := Body.of (by kernel_rfl)
theorem tf_body118 : Body Tryz.prog 118 := Body.of (by kernel_rfl)
theorem tf_body119 : Body Tryz.prog 119 := Body.of (by kernel_rfl)
theorem tf_body120 : Body Tryz.prog 120 := Body.of (by kernel_rfl)
theorem tf_body121 : Body Tryz.prog 121 := Body.of (by kernel_rfl)
theorem tf_body122 : Body Tryz.prog 122 := Body.of (by kernel_rfl)
theorem tf_body123 : Body Tryz.prog 123 := Body.of (by kernel_rfl)
theorem tf_body124 : Body Tryz.prog 124 := Body.of (by kernel_rfl)
theorem tf_body125 : Body Tryz.prog 125 := Body.of (by kernel_rfl)
theorem tf_body126 : Body Tryz.prog 126 := Body.of (by kernel_rfl)
theorem tf_body127 : Body Tryz.prog 127 := Body.of (by kernel_rfl)
theorem tf_body128 : Body Tryz.prog 128 := Body.of (by kernel_rfl)
theorem tf_body129 : Body Tryz.prog 129 := Body.of (by kernel_rfl)
theorem tf_body130 : Body Tryz.prog 130 := Body.of (by kernel_rfl)
theorem tf_body131 : Body Tryz.prog 131 := Body.of (by kernel_rfl)
theorem tf_body132 : Body Tryz.prog 132 := Body.of (by kernel_rfl)
theorem tf_body133 : Body Tryz.prog 133 := Body.of (by kernel_rfl)
theorem tf_body134 : Body Tryz.prog 134 := Body.of (by kernel_rfl)
theorem tf_body135 : Body Tryz.prog 135 := Body.of (by kernel_rfl)
theorem tf_body136 : Body Tryz.prog 136 := Body.of (by kernel_rfl)
theorem tf_body137 : Body Tryz.prog 137 := Body.of (by kernel_rfl)
theorem tf_body138 : Body Tryz.prog 138 := Body.of (by kernel_rfl)
theorem tf_body139 : Body Tryz.prog 139 := Body.of (by kernel_rfl)
theorem tf_body140 : Body Tryz.prog 140 := Body.of (by kernel_rfl)
theorem tf_body141 : Body Tryz.prog 141 := Body.of (by kernel_rfl)
theorem tf_body142 : Body Tryz.prog 142 := Body.of (by kernel_rfl)
theorem tf_body143 : Body Tryz.prog 143 := Body.of (by kernel_rfl)
theorem tf_body144 : Body Tryz.prog 144 := Body.of (by kernel_rfl)
theorem tf_body145 : Body Tryz.prog 145 := Body.of (by kernel_rfl)
theorem tf_body146 : Body Tryz.prog 146 := Body.of (by kernel_rfl)
theorem tf_body147 : Body Tryz.prog 147 := Body.of (by kernel_rfl)
theorem tf_body148 : Body Tryz.prog 148 := Body.of (by kernel_rfl)
theorem tf_body149 : Body Tryz.prog 149 := Body.of (by kernel_rfl)
theorem tf_body150 : Body Tryz.prog 150 := Body.of (by kernel_rfl)
theorem tf_body151 : Body Tryz.prog 151 := Body.of (by kernel_rfl)
theorem tf_body152 : Body Tryz.prog 152 := Body.of (by kernel_rfl)
theorem tf_body153 : Body Tryz.prog 153 := Body.of (by kernel_rfl)
theorem tf_body154 : Body Tryz.prog 154 := Body.of (by kernel_rfl)
theorem tf_body155 : Body Tryz.prog 155 := Body.of (by kernel_rfl)
theorem tf_body157 : Body Tryz.prog 157 := Body.of (by kernel_rfl)
theorem tf_body159 : Body Tryz.prog 159 := Body.of (by kernel_rfl)
theorem tf_body160 : Body Tryz.prog 160 := Body.of (by kernel_rfl)
theorem tf_body161 : Body Tryz.prog 161 := Body.of (by kernel_rfl)
theorem tf_body162 : Body Tryz.prog 162 := Body.of (by kernel_rfl)
theorem tf_body163 : Body Tryz.prog 163 := Body.of (by kernel_rfl)
theorem tf_body165 : Body Tryz.prog 165 := Body.of (by kernel_rfl)
theorem tf_body166 : Body Tryz.prog 166 := Body.of (by kernel_rfl)
theorem tf_body167 : Body Tryz.prog 167 := Body.of (by kernel_rfl)
theorem tf_body168 : Body Tryz.prog 168 := Body.of (by kernel_rfl)
theorem tf_body169 : Body Tryz.prog 169 := Body.of (by kernel_rfl)
theorem tf_body170 : Body Tryz.prog 170 := Body.of (by kernel_rfl)
theorem tf_body171 : Body Tryz.prog 171 := Body.of (by kernel_rfl)
theorem tf_body172 : Body Tryz.prog 172 := Body.of (by kernel_rfl)
theorem tf_body173 : Body Tryz.prog 173 := Body.of (by kernel_rfl)
theorem tf_body174 : Body Tryz.prog 174 := Body.of (by kernel_rfl)
theorem tf_body175 : Body Tryz.prog 175 := Body.of (by kernel_rfl)
theorem tf_body176 : Body Tryz.prog 176 := Body.of (by kernel_rfl)
theorem tf_body177 : Body Tryz.prog 177 := Body.of (by kernel_rfl)
theorem tf_body178 : Body Tryz.prog 178 := Body.of (by kernel_rfl)
theorem tf_body179 : Body Tryz.prog 179 := Body.of (by kernel_rfl)
theorem tf_body180 : Body Tryz.prog 180 := Body.of (by kernel_rfl)
theorem tf_body181 : Body Tryz.prog 181 := Body.of (by kernel_rfl)
theorem tf_body182 : Body Tryz.prog 182 := Body.of (by kernel_rfl)
theorem tf_body183 : Body Tryz.prog 183 := Body.of (by kernel_rfl)
theorem tf_body184 : Body Tryz.prog 184 := Body.of (by kernel_rfl)
theorem tf_body185 : Body Tryz.prog 185 := Body.of (by kernel_rfl)
theorem tf_body186 : Body Tryz.prog 186 := Body.of (by kernel_rfl)
theorem tf_body187 : Body Tryz.prog 187 := Body.of (by kernel_rfl)
theorem tf_body188 : Body Tryz.prog 188 := Body.of (by kernel_rfl)
theorem tf_body189 : Body Tryz.prog 189 := Body.of (by kernel_rfl)
theorem tf_body190 : Body Tryz.prog 190 := Body.of (by kernel_rfl)
theorem tf_body191 : Body Tryz.prog 191 := Body.of (by kernel_rfl)
theorem tf_body192 : Body Tryz.prog 192 := Body.of (by kernel_rfl)
theorem tf_body194 : Body Tryz.prog 194 := Body.of (by kernel_rfl)
theorem tf_body195 : Body Tryz.prog 195 := Body.of (by kernel_rfl)
theorem tf_body196 : Body Tryz.prog 196 := Body.of (by kernel_rfl)
theorem tf_body197 : Body Tryz.prog 197 := Body.of (by kernel_rfl)
theorem tf_body198 : Body Tryz.prog 198 := Body.of (by kernel_rfl)
theorem tf_body200 : Body Tryz.prog 200 := Body.of (by kernel_rfl)
theorem tf_body201 : Body Tryz.prog 201 := Body.of (by kernel_rfl)
theorem tf_body202 : Body Tryz.prog 202 := Body.of (by kernel_rfl)
theorem tf_body203 : Body Tryz.prog 203 := Body.of (by kernel_rfl)
theorem tf_body204 : Body Tryz.prog 204 := Body.of (by kernel_rfl)
theorem tf_body205 : Body Tryz.prog 205 := Body.of (by kernel_rfl)
theorem tf_body206 : Body Tryz.prog 206 := Body.of (by kernel_rfl)
theorem tf_body207 : Body Tryz.prog 207 := Body.of (by kernel_rfl)
theorem tf_body208 : Body Tryz.prog 208 := Body.of (by kernel_rfl)
theorem tf_body209 : Body Tryz.prog 209 := Body.of (by kernel_rfl)
theorem tf_body210 : Body Tryz.prog 210 := Body.of (by kernel_rfl)
theorem tf_body211 : Body Tryz.prog 211 := Body.of (by kernel_rfl)
theorem tf_body212 : Body Tryz.prog 212 := Body.of (by kernel_rfl)
theorem tf_body213 : Body Tryz.prog 213 := Body.of (by kernel_rfl)
theorem tf_body214 : Body Tryz.prog 214 := Body.of (by kernel_rfl)
theorem tf_body215 : Body Tryz.prog 215 := Body.of (by kernel_rfl)
theorem tf_body216 : Body Tryz.prog 216 := Body.of (by kernel_rfl)
theorem tf_body218 : Body Tryz.prog 218 := Body.of (by kernel_rfl)
theorem tf_body219 : Body Tryz.prog 219 := Body.of (by kernel_rfl)
theorem tf_body220 : Body Tryz.prog 220 := Body.of (by kernel_rfl)
theorem tf_body221 : Body Tryz.prog 221 := Body.of (by kernel_rfl)
theorem tf_body222 : Body Tryz.prog 222 := Body.of (by kernel_rfl)
theorem tf_body223 : Body Tryz.prog 223 := Body.of (by kernel_rfl)
theorem tf_body224 : Body Tryz.prog 224 := Body.of (by kernel_rfl)
theorem tf_body225 : Body Tryz.prog 225 := Body.of (by kernel_rfl)
theorem tf_body226 : Body Tryz.prog 226 := Body.of (by kernel_rfl)
theorem tf_body227 : Body Tryz.prog 227 := Body.of (by kernel_rfl)
theorem tf_body228 : Body Tryz.prog 228 := Body.of (by kernel_rfl)
theorem tf_body229 : Body Tryz.prog 229 := Body.of (by kernel_rfl)
theorem tf_body230 : Body Tryz.prog 230 := Body.of (by kernel_rfl)
theorem tf_body261 : Body Tryz.prog 261 := Body.of (by kernel_rfl)
end Go.Proofs.YtlkdmbpbjhjkfaaGreatDoor
