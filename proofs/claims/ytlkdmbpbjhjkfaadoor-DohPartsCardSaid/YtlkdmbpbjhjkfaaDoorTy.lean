/- What the walks need of the types and functions of this program, each a closed fact. -/
import Derived.Test.YtlkdmbpbjhjkfaaDoorProg
import Derived.Test.YtlkdmbpbjhjkfaaDoorLgR
namespace Go.Proofs.YtlkdmbpbjhjkfaaDoor
set_option maxRecDepth 100000
theorem tf_flat1 : flatB Tryd.prog 1 = true := by kernel_rfl
theorem tf_sz1 : sizeN Tryd.prog 1 1 = true := by kernel_rfl
theorem tf_zero1 : zeroV Tryd.prog 1 = some (.nilFunc) := by kernel_rfl
theorem tf_flat2 : flatB Tryd.prog 2 = true := by kernel_rfl
theorem tf_sz2 : sizeN Tryd.prog 2 1 = true := by kernel_rfl
theorem tf_zero2 : zeroV Tryd.prog 2 = some (.int .i64 0) := by kernel_rfl
theorem tf_flat3 : flatB Tryd.prog 3 = true := by kernel_rfl
theorem tf_sz3 : sizeN Tryd.prog 3 1 = true := by kernel_rfl
theorem tf_zero3 : zeroV Tryd.prog 3 = some (.int .i64 0) := by kernel_rfl
theorem tf_flat4 : flatB Tryd.prog 4 = true := by kernel_rfl
theorem tf_sz4 : sizeN Tryd.prog 4 1 = true := by kernel_rfl
theorem tf_zero4 : zeroV Tryd.prog 4 = some (.bool false) := by kernel_rfl
theorem tf_flat5 : flatB Tryd.prog 5 = true := by kernel_rfl
theorem tf_sz5 : sizeN Tryd.prog 5 1 = true := by kernel_rfl
theorem tf_zero5 : zeroV Tryd.prog 5 = some (.int .u8 0) := by kernel_rfl
theorem tf_flat6 : flatB Tryd.prog 6 = true := by kernel_rfl
theorem tf_sz6 : sizeN Tryd.prog 6 1 = true := by kernel_rfl
theorem tf_zero6 : zeroV Tryd.prog 6 = some (.int .u8 0) := by kernel_rfl
theorem tf_sz7 : sizeN Tryd.prog 7 4 = true := by kernel_rfl
theorem tf_agg7 : aggN Tryd.prog 7 = some 4 := by kernel_rfl
theorem tf_zero7 : zeroV Tryd.prog 7 = some (.agg #[.int .i64 0, .int .i64 0, .bool false, .int .u8 0]) := by kernel_rfl
theorem tf_lay7 : layOf Tryd.prog 7 = some ([(0, 1), (1, 1), (2, 1), (3, 1)], [.int .i64 0, .int .i64 0, .bool false, .int .u8 0]) := by kernel_rfl
theorem tf_fo7_0 : fieldOff Tryd.prog 7 0 = some 0 := by kernel_rfl
theorem tf_fo7_1 : fieldOff Tryd.prog 7 1 = some 1 := by kernel_rfl
theorem tf_fo7_2 : fieldOff Tryd.prog 7 2 = some 2 := by kernel_rfl
theorem tf_fo7_3 : fieldOff Tryd.prog 7 3 = some 3 := by kernel_rfl
theorem tf_sz8 : sizeN Tryd.prog 8 4 = true := by kernel_rfl
theorem tf_agg8 : aggN Tryd.prog 8 = some 4 := by kernel_rfl
theorem tf_zero8 : zeroV Tryd.prog 8 = some (.agg #[.int .i64 0, .int .i64 0, .bool false, .int .u8 0]) := by kernel_rfl
theorem tf_lay8 : layOf Tryd.prog 8 = some ([(0, 1), (1, 1), (2, 1), (3, 1)], [.int .i64 0, .int .i64 0, .bool false, .int .u8 0]) := by kernel_rfl
theorem tf_fo8_0 : fieldOff Tryd.prog 8 0 = some 0 := by kernel_rfl
theorem tf_fo8_1 : fieldOff Tryd.prog 8 1 = some 1 := by kernel_rfl
theorem tf_fo8_2 : fieldOff Tryd.prog 8 2 = some 2 := by kernel_rfl
theorem tf_fo8_3 : fieldOff Tryd.prog 8 3 = some 3 := by kernel_rfl
theorem tf_flat9 : flatB Tryd.prog 9 = true := by kernel_rfl
theorem tf_sz9 : sizeN Tryd.prog 9 1 = true := by kernel_rfl
theorem tf_zero9 : zeroV Tryd.prog 9 = some (str []) := by kernel_rfl
theorem tf_flat10 : flatB Tryd.prog 10 = true := by kernel_rfl
theorem tf_sz10 : sizeN Tryd.prog 10 1 = true := by kernel_rfl
theorem tf_zero10 : zeroV Tryd.prog 10 = some (str []) := by kernel_rfl
theorem tf_flat11 : flatB Tryd.prog 11 = true := by kernel_rfl
theorem tf_sz11 : sizeN Tryd.prog 11 1 = true := by kernel_rfl
theorem tf_zero11 : zeroV Tryd.prog 11 = some (str []) := by kernel_rfl
theorem tf_flat12 : flatB Tryd.prog 12 = true := by kernel_rfl
theorem tf_sz12 : sizeN Tryd.prog 12 1 = true := by kernel_rfl
theorem tf_zero12 : zeroV Tryd.prog 12 = some (.int .u64 0) := by kernel_rfl
theorem tf_sz13 : sizeN Tryd.prog 13 2 = true := by kernel_rfl
theorem tf_agg13 : aggN Tryd.prog 13 = some 2 := by kernel_rfl
theorem tf_zero13 : zeroV Tryd.prog 13 = some (.agg #[str [], .int .u64 0]) := by kernel_rfl
theorem tf_lay13 : layOf Tryd.prog 13 = some ([(0, 1), (1, 1)], [str [], .int .u64 0]) := by kernel_rfl
theorem tf_fo13_0 : fieldOff Tryd.prog 13 0 = some 0 := by kernel_rfl
theorem tf_fo13_1 : fieldOff Tryd.prog 13 1 = some 1 := by kernel_rfl
theorem tf_sz14 : sizeN Tryd.prog 14 2 = true := by kernel_rfl
theorem tf_agg14 : aggN Tryd.prog 14 = some 2 := by kernel_rfl
theorem tf_zero14 : zeroV Tryd.prog 14 = some (.agg #[str [], .int .u64 0]) := by kernel_rfl
theorem tf_lay14 : layOf Tryd.prog 14 = some ([(0, 1), (1, 1)], [str [], .int .u64 0]) := by kernel_rfl
theorem tf_fo14_0 : fieldOff Tryd.prog 14 0 = some 0 := by kernel_rfl
theorem tf_fo14_1 : fieldOff Tryd.prog 14 1 = some 1 := by kernel_rfl
theorem tf_flat15 : flatB Tryd.prog 15 = true := by kernel_rfl
theorem tf_sz15 : sizeN Tryd.prog 15 1 = true := by kernel_rfl
theorem tf_zero15 : zeroV Tryd.prog 15 = some (.pointer none) := by kernel_rfl
theorem tf_flat16 : flatB Tryd.prog 16 = true := by kernel_rfl
theorem tf_sz16 : sizeN Tryd.prog 16 1 = true := by kernel_rfl
theorem tf_zero16 : zeroV Tryd.prog 16 = some (.pointer none) := by kernel_rfl
theorem tf_flat17 : flatB Tryd.prog 17 = true := by kernel_rfl
theorem tf_sz17 : sizeN Tryd.prog 17 1 = true := by kernel_rfl
theorem tf_zero17 : zeroV Tryd.prog 17 = some (.pointer none) := by kernel_rfl
theorem tf_sz18 : sizeN Tryd.prog 18 1 = true := by kernel_rfl
theorem tf_agg18 : aggN Tryd.prog 18 = some 1 := by kernel_rfl
theorem tf_zero18 : zeroV Tryd.prog 18 = some (.agg #[.pointer none]) := by kernel_rfl
theorem tf_lay18 : layOf Tryd.prog 18 = some ([(0, 1)], [.pointer none]) := by kernel_rfl
theorem tf_fo18_0 : fieldOff Tryd.prog 18 0 = some 0 := by kernel_rfl
theorem tf_sz19 : sizeN Tryd.prog 19 1 = true := by kernel_rfl
theorem tf_agg19 : aggN Tryd.prog 19 = some 1 := by kernel_rfl
theorem tf_zero19 : zeroV Tryd.prog 19 = some (.agg #[.pointer none]) := by kernel_rfl
theorem tf_lay19 : layOf Tryd.prog 19 = some ([(0, 1)], [.pointer none]) := by kernel_rfl
theorem tf_fo19_0 : fieldOff Tryd.prog 19 0 = some 0 := by kernel_rfl
theorem tf_flat20 : flatB Tryd.prog 20 = true := by kernel_rfl
theorem tf_sz20 : sizeN Tryd.prog 20 1 = true := by kernel_rfl
theorem tf_zero20 : zeroV Tryd.prog 20 = some (.nilIface) := by kernel_rfl
theorem tf_flat21 : flatB Tryd.prog 21 = true := by kernel_rfl
theorem tf_sz21 : sizeN Tryd.prog 21 1 = true := by kernel_rfl
theorem tf_zero21 : zeroV Tryd.prog 21 = some (.int .i32 0) := by kernel_rfl
theorem tf_flat22 : flatB Tryd.prog 22 = true := by kernel_rfl
theorem tf_sz22 : sizeN Tryd.prog 22 1 = true := by kernel_rfl
theorem tf_zero22 : zeroV Tryd.prog 22 = some (.slice none 0 0) := by kernel_rfl
theorem tf_el22 : ElemOk Tryd.prog 22 5 tyB (0 : UInt8) 1 := ElemOk.of Tryd.underlying22 (by kernel_rfl) (by kernel_rfl) rfl
theorem tf_flat23 : flatB Tryd.prog 23 = true := by kernel_rfl
theorem tf_sz23 : sizeN Tryd.prog 23 1 = true := by kernel_rfl
theorem tf_zero23 : zeroV Tryd.prog 23 = some (.slice none 0 0) := by kernel_rfl
theorem tf_el23 : ElemOk Tryd.prog 23 9 tyS ([] : List UInt8) 16 := ElemOk.of Tryd.underlying23 (by kernel_rfl) (by kernel_rfl) rfl
theorem tf_flat24 : flatB Tryd.prog 24 = true := by kernel_rfl
theorem tf_sz24 : sizeN Tryd.prog 24 1 = true := by kernel_rfl
theorem tf_zero24 : zeroV Tryd.prog 24 = some (.nilFunc) := by kernel_rfl
theorem tf_flat26 : flatB Tryd.prog 26 = true := by kernel_rfl
theorem tf_sz26 : sizeN Tryd.prog 26 1 = true := by kernel_rfl
theorem tf_zero26 : zeroV Tryd.prog 26 = some (.nilFunc) := by kernel_rfl
theorem tf_flat27 : flatB Tryd.prog 27 = true := by kernel_rfl
theorem tf_sz27 : sizeN Tryd.prog 27 1 = true := by kernel_rfl
theorem tf_zero27 : zeroV Tryd.prog 27 = some (.nilFunc) := by kernel_rfl
theorem tf_flat29 : flatB Tryd.prog 29 = true := by kernel_rfl
theorem tf_sz29 : sizeN Tryd.prog 29 1 = true := by kernel_rfl
theorem tf_zero29 : zeroV Tryd.prog 29 = some (.nilFunc) := by kernel_rfl
theorem tf_flat30 : flatB Tryd.prog 30 = true := by kernel_rfl
theorem tf_sz30 : sizeN Tryd.prog 30 1 = true := by kernel_rfl
theorem tf_zero30 : zeroV Tryd.prog 30 = some (.slice none 0 0) := by kernel_rfl
theorem tf_el30 : ElemOk Tryd.prog 30 51 tyField (([], []) : List UInt8 × List UInt8) 32 := ElemOk.of Tryd.underlying30 (by kernel_rfl) (by kernel_rfl) rfl
theorem tf_sz31 : sizeN Tryd.prog 31 4 = true := by kernel_rfl
theorem tf_agg31 : aggN Tryd.prog 31 = some 4 := by kernel_rfl
theorem tf_zero31 : zeroV Tryd.prog 31 = some (.agg #[str [], str [], .int .i64 0, .slice none 0 0]) := by kernel_rfl
theorem tf_lay31 : layOf Tryd.prog 31 = some ([(0, 1), (1, 1), (2, 1), (3, 1)], [str [], str [], .int .i64 0, .slice none 0 0]) := by kernel_rfl
theorem tf_fo31_0 : fieldOff Tryd.prog 31 0 = some 0 := by kernel_rfl
theorem tf_fo31_1 : fieldOff Tryd.prog 31 1 = some 1 := by kernel_rfl
theorem tf_fo31_2 : fieldOff Tryd.prog 31 2 = some 2 := by kernel_rfl
theorem tf_fo31_3 : fieldOff Tryd.prog 31 3 = some 3 := by kernel_rfl
theorem tf_sz32 : sizeN Tryd.prog 32 4 = true := by kernel_rfl
theorem tf_agg32 : aggN Tryd.prog 32 = some 4 := by kernel_rfl
theorem tf_zero32 : zeroV Tryd.prog 32 = some (.agg #[str [], str [], .int .i64 0, .slice none 0 0]) := by kernel_rfl
theorem tf_lay32 : layOf Tryd.prog 32 = some ([(0, 1), (1, 1), (2, 1), (3, 1)], [str [], str [], .int .i64 0, .slice none 0 0]) := by kernel_rfl
theorem tf_fo32_0 : fieldOff Tryd.prog 32 0 = some 0 := by kernel_rfl
theorem tf_fo32_1 : fieldOff Tryd.prog 32 1 = some 1 := by kernel_rfl
theorem tf_fo32_2 : fieldOff Tryd.prog 32 2 = some 2 := by kernel_rfl
theorem tf_fo32_3 : fieldOff Tryd.prog 32 3 = some 3 := by kernel_rfl
theorem tf_flat33 : flatB Tryd.prog 33 = true := by kernel_rfl
theorem tf_sz33 : sizeN Tryd.prog 33 1 = true := by kernel_rfl
theorem tf_zero33 : zeroV Tryd.prog 33 = some (.nilFunc) := by kernel_rfl
theorem tf_flat34 : flatB Tryd.prog 34 = true := by kernel_rfl
theorem tf_sz34 : sizeN Tryd.prog 34 1 = true := by kernel_rfl
theorem tf_zero34 : zeroV Tryd.prog 34 = some (.nilFunc) := by kernel_rfl
theorem tf_flat35 : flatB Tryd.prog 35 = true := by kernel_rfl
theorem tf_sz35 : sizeN Tryd.prog 35 1 = true := by kernel_rfl
theorem tf_zero35 : zeroV Tryd.prog 35 = some (.nilFunc) := by kernel_rfl
theorem tf_flat36 : flatB Tryd.prog 36 = true := by kernel_rfl
theorem tf_sz36 : sizeN Tryd.prog 36 1 = true := by kernel_rfl
theorem tf_zero36 : zeroV Tryd.prog 36 = some (.slice none 0 0) := by kernel_rfl
theorem tf_el36 : ElemOk Tryd.prog 36 53 tyQn (([], 0, 0) : List UInt8 × Int × Int) 32 := ElemOk.of Tryd.underlying36 (by kernel_rfl) (by kernel_rfl) rfl
theorem tf_flat37 : flatB Tryd.prog 37 = true := by kernel_rfl
theorem tf_sz37 : sizeN Tryd.prog 37 1 = true := by kernel_rfl
theorem tf_zero37 : zeroV Tryd.prog 37 = some (.slice none 0 0) := by kernel_rfl
theorem tf_el37 : ElemOk Tryd.prog 37 43 tyRec (([], 0, 0, 0, []) : List UInt8 × Int × Int × Int × List UInt8) 56 := ElemOk.of Tryd.underlying37 (by kernel_rfl) (by kernel_rfl) rfl
theorem tf_sz38 : sizeN Tryd.prog 38 6 = true := by kernel_rfl
theorem tf_agg38 : aggN Tryd.prog 38 = some 6 := by kernel_rfl
theorem tf_zero38 : zeroV Tryd.prog 38 = some (.agg #[.int .i64 0, .int .i64 0, .slice none 0 0, .slice none 0 0, .slice none 0 0, .slice none 0 0]) := by kernel_rfl
theorem tf_lay38 : layOf Tryd.prog 38 = some ([(0, 1), (1, 1), (2, 1), (3, 1), (4, 1), (5, 1)], [.int .i64 0, .int .i64 0, .slice none 0 0, .slice none 0 0, .slice none 0 0, .slice none 0 0]) := by kernel_rfl
theorem tf_fo38_0 : fieldOff Tryd.prog 38 0 = some 0 := by kernel_rfl
theorem tf_fo38_1 : fieldOff Tryd.prog 38 1 = some 1 := by kernel_rfl
theorem tf_fo38_2 : fieldOff Tryd.prog 38 2 = some 2 := by kernel_rfl
theorem tf_fo38_3 : fieldOff Tryd.prog 38 3 = some 3 := by kernel_rfl
theorem tf_fo38_4 : fieldOff Tryd.prog 38 4 = some 4 := by kernel_rfl
theorem tf_fo38_5 : fieldOff Tryd.prog 38 5 = some 5 := by kernel_rfl
theorem tf_sz39 : sizeN Tryd.prog 39 6 = true := by kernel_rfl
theorem tf_agg39 : aggN Tryd.prog 39 = some 6 := by kernel_rfl
theorem tf_zero39 : zeroV Tryd.prog 39 = some (.agg #[.int .i64 0, .int .i64 0, .slice none 0 0, .slice none 0 0, .slice none 0 0, .slice none 0 0]) := by kernel_rfl
theorem tf_lay39 : layOf Tryd.prog 39 = some ([(0, 1), (1, 1), (2, 1), (3, 1), (4, 1), (5, 1)], [.int .i64 0, .int .i64 0, .slice none 0 0, .slice none 0 0, .slice none 0 0, .slice none 0 0]) := by kernel_rfl
theorem tf_fo39_0 : fieldOff Tryd.prog 39 0 = some 0 := by kernel_rfl
theorem tf_fo39_1 : fieldOff Tryd.prog 39 1 = some 1 := by kernel_rfl
theorem tf_fo39_2 : fieldOff Tryd.prog 39 2 = some 2 := by kernel_rfl
theorem tf_fo39_3 : fieldOff Tryd.prog 39 3 = some 3 := by kernel_rfl
theorem tf_fo39_4 : fieldOff Tryd.prog 39 4 = some 4 := by kernel_rfl
theorem tf_fo39_5 : fieldOff Tryd.prog 39 5 = some 5 := by kernel_rfl
theorem tf_flat40 : flatB Tryd.prog 40 = true := by kernel_rfl
theorem tf_sz40 : sizeN Tryd.prog 40 1 = true := by kernel_rfl
theorem tf_zero40 : zeroV Tryd.prog 40 = some (.nilFunc) := by kernel_rfl
theorem tf_flat41 : flatB Tryd.prog 41 = true := by kernel_rfl
theorem tf_sz41 : sizeN Tryd.prog 41 1 = true := by kernel_rfl
theorem tf_zero41 : zeroV Tryd.prog 41 = some (.nilFunc) := by kernel_rfl
theorem tf_sz42 : sizeN Tryd.prog 42 5 = true := by kernel_rfl
theorem tf_agg42 : aggN Tryd.prog 42 = some 5 := by kernel_rfl
theorem tf_zero42 : zeroV Tryd.prog 42 = some (.agg #[str [], .int .i64 0, .int .i64 0, .int .i64 0, str []]) := by kernel_rfl
theorem tf_lay42 : layOf Tryd.prog 42 = some ([(0, 1), (1, 1), (2, 1), (3, 1), (4, 1)], [str [], .int .i64 0, .int .i64 0, .int .i64 0, str []]) := by kernel_rfl
theorem tf_fo42_0 : fieldOff Tryd.prog 42 0 = some 0 := by kernel_rfl
theorem tf_fo42_1 : fieldOff Tryd.prog 42 1 = some 1 := by kernel_rfl
theorem tf_fo42_2 : fieldOff Tryd.prog 42 2 = some 2 := by kernel_rfl
theorem tf_fo42_3 : fieldOff Tryd.prog 42 3 = some 3 := by kernel_rfl
theorem tf_fo42_4 : fieldOff Tryd.prog 42 4 = some 4 := by kernel_rfl
theorem tf_sz43 : sizeN Tryd.prog 43 5 = true := by kernel_rfl
theorem tf_agg43 : aggN Tryd.prog 43 = some 5 := by kernel_rfl
theorem tf_zero43 : zeroV Tryd.prog 43 = some (.agg #[str [], .int .i64 0, .int .i64 0, .int .i64 0, str []]) := by kernel_rfl
theorem tf_lay43 : layOf Tryd.prog 43 = some ([(0, 1), (1, 1), (2, 1), (3, 1), (4, 1)], [str [], .int .i64 0, .int .i64 0, .int .i64 0, str []]) := by kernel_rfl
theorem tf_fo43_0 : fieldOff Tryd.prog 43 0 = some 0 := by kernel_rfl
theorem tf_fo43_1 : fieldOff Tryd.prog 43 1 = some 1 := by kernel_rfl
theorem tf_fo43_2 : fieldOff Tryd.prog 43 2 = some 2 := by kernel_rfl
theorem tf_fo43_3 : fieldOff Tryd.prog 43 3 = some 3 := by kernel_rfl
theorem tf_fo43_4 : fieldOff Tryd.prog 43 4 = some 4 := by kernel_rfl
theorem tf_flat44 : flatB Tryd.prog 44 = true := by kernel_rfl
theorem tf_sz44 : sizeN Tryd.prog 44 1 = true := by kernel_rfl
theorem tf_zero44 : zeroV Tryd.prog 44 = some (.nilFunc) := by kernel_rfl
theorem tf_flat46 : flatB Tryd.prog 46 = true := by kernel_rfl
theorem tf_sz46 : sizeN Tryd.prog 46 1 = true := by kernel_rfl
theorem tf_zero46 : zeroV Tryd.prog 46 = some (.nilFunc) := by kernel_rfl
theorem tf_flat47 : flatB Tryd.prog 47 = true := by kernel_rfl
theorem tf_sz47 : sizeN Tryd.prog 47 1 = true := by kernel_rfl
theorem tf_zero47 : zeroV Tryd.prog 47 = some (.nilFunc) := by kernel_rfl
theorem tf_flat49 : flatB Tryd.prog 49 = true := by kernel_rfl
theorem tf_sz49 : sizeN Tryd.prog 49 1 = true := by kernel_rfl
theorem tf_zero49 : zeroV Tryd.prog 49 = some (.map none) := by kernel_rfl
theorem tf_sz50 : sizeN Tryd.prog 50 2 = true := by kernel_rfl
theorem tf_agg50 : aggN Tryd.prog 50 = some 2 := by kernel_rfl
theorem tf_zero50 : zeroV Tryd.prog 50 = some (.agg #[str [], str []]) := by kernel_rfl
theorem tf_lay50 : layOf Tryd.prog 50 = some ([(0, 1), (1, 1)], [str [], str []]) := by kernel_rfl
theorem tf_fo50_0 : fieldOff Tryd.prog 50 0 = some 0 := by kernel_rfl
theorem tf_fo50_1 : fieldOff Tryd.prog 50 1 = some 1 := by kernel_rfl
theorem tf_sz51 : sizeN Tryd.prog 51 2 = true := by kernel_rfl
theorem tf_agg51 : aggN Tryd.prog 51 = some 2 := by kernel_rfl
theorem tf_zero51 : zeroV Tryd.prog 51 = some (.agg #[str [], str []]) := by kernel_rfl
theorem tf_lay51 : layOf Tryd.prog 51 = some ([(0, 1), (1, 1)], [str [], str []]) := by kernel_rfl
theorem tf_fo51_0 : fieldOff Tryd.prog 51 0 = some 0 := by kernel_rfl
theorem tf_fo51_1 : fieldOff Tryd.prog 51 1 = some 1 := by kernel_rfl
theorem tf_sz52 : sizeN Tryd.prog 52 3 = true := by kernel_rfl
theorem tf_agg52 : aggN Tryd.prog 52 = some 3 := by kernel_rfl
theorem tf_zero52 : zeroV Tryd.prog 52 = some (.agg #[str [], .int .i64 0, .int .i64 0]) := by kernel_rfl
theorem tf_lay52 : layOf Tryd.prog 52 = some ([(0, 1), (1, 1), (2, 1)], [str [], .int .i64 0, .int .i64 0]) := by kernel_rfl
theorem tf_fo52_0 : fieldOff Tryd.prog 52 0 = some 0 := by kernel_rfl
theorem tf_fo52_1 : fieldOff Tryd.prog 52 1 = some 1 := by kernel_rfl
theorem tf_fo52_2 : fieldOff Tryd.prog 52 2 = some 2 := by kernel_rfl
theorem tf_sz53 : sizeN Tryd.prog 53 3 = true := by kernel_rfl
theorem tf_agg53 : aggN Tryd.prog 53 = some 3 := by kernel_rfl
theorem tf_zero53 : zeroV Tryd.prog 53 = some (.agg #[str [], .int .i64 0, .int .i64 0]) := by kernel_rfl
theorem tf_lay53 : layOf Tryd.prog 53 = some ([(0, 1), (1, 1), (2, 1)], [str [], .int .i64 0, .int .i64 0]) := by kernel_rfl
theorem tf_fo53_0 : fieldOff Tryd.prog 53 0 = some 0 := by kernel_rfl
theorem tf_fo53_1 : fieldOff Tryd.prog 53 1 = some 1 := by kernel_rfl
theorem tf_fo53_2 : fieldOff Tryd.prog 53 2 = some 2 := by kernel_rfl
theorem tf_flat54 : flatB Tryd.prog 54 = true := by kernel_rfl
theorem tf_sz54 : sizeN Tryd.prog 54 1 = true := by kernel_rfl
theorem tf_zero54 : zeroV Tryd.prog 54 = some (.nilFunc) := by kernel_rfl
theorem tf_flat55 : flatB Tryd.prog 55 = true := by kernel_rfl
theorem tf_sz55 : sizeN Tryd.prog 55 1 = true := by kernel_rfl
theorem tf_zero55 : zeroV Tryd.prog 55 = some (.nilFunc) := by kernel_rfl
theorem tf_flat56 : flatB Tryd.prog 56 = true := by kernel_rfl
theorem tf_sz56 : sizeN Tryd.prog 56 1 = true := by kernel_rfl
theorem tf_zero56 : zeroV Tryd.prog 56 = some (.slice none 0 0) := by kernel_rfl
theorem tf_el56 : ElemOk Tryd.prog 56 3 tyI (0 : Int) 8 := ElemOk.of Tryd.underlying56 (by kernel_rfl) (by kernel_rfl) rfl
theorem tf_flat58 : flatB Tryd.prog 58 = true := by kernel_rfl
theorem tf_sz58 : sizeN Tryd.prog 58 1 = true := by kernel_rfl
theorem tf_zero58 : zeroV Tryd.prog 58 = some (.nilFunc) := by kernel_rfl
theorem tf_flat59 : flatB Tryd.prog 59 = true := by kernel_rfl
theorem tf_sz59 : sizeN Tryd.prog 59 1 = true := by kernel_rfl
theorem tf_zero59 : zeroV Tryd.prog 59 = some (.pointer none) := by kernel_rfl
theorem tf_sz60 : sizeN Tryd.prog 60 2 = true := by kernel_rfl
theorem tf_agg60 : aggN Tryd.prog 60 = some 2 := by kernel_rfl
theorem tf_zero60 : zeroV Tryd.prog 60 = some (.agg #[.pointer none, .slice none 0 0]) := by kernel_rfl
theorem tf_lay60 : layOf Tryd.prog 60 = some ([(0, 1), (1, 1)], [.pointer none, .slice none 0 0]) := by kernel_rfl
theorem tf_fo60_0 : fieldOff Tryd.prog 60 0 = some 0 := by kernel_rfl
theorem tf_fo60_1 : fieldOff Tryd.prog 60 1 = some 1 := by kernel_rfl
theorem tf_sz61 : sizeN Tryd.prog 61 2 = true := by kernel_rfl
theorem tf_agg61 : aggN Tryd.prog 61 = some 2 := by kernel_rfl
theorem tf_zero61 : zeroV Tryd.prog 61 = some (.agg #[.pointer none, .slice none 0 0]) := by kernel_rfl
theorem tf_lay61 : layOf Tryd.prog 61 = some ([(0, 1), (1, 1)], [.pointer none, .slice none 0 0]) := by kernel_rfl
theorem tf_fo61_0 : fieldOff Tryd.prog 61 0 = some 0 := by kernel_rfl
theorem tf_fo61_1 : fieldOff Tryd.prog 61 1 = some 1 := by kernel_rfl
theorem tf_sz62 : sizeN Tryd.prog 62 2 = true := by kernel_rfl
theorem tf_agg62 : aggN Tryd.prog 62 = some 2 := by kernel_rfl
theorem tf_zero62 : zeroV Tryd.prog 62 = some (.agg #[.int .i64 0, .int .i64 0]) := by kernel_rfl
theorem tf_lay62 : layOf Tryd.prog 62 = some ([(0, 1), (1, 1)], [.int .i64 0, .int .i64 0]) := by kernel_rfl
theorem tf_fo62_0 : fieldOff Tryd.prog 62 0 = some 0 := by kernel_rfl
theorem tf_fo62_1 : fieldOff Tryd.prog 62 1 = some 1 := by kernel_rfl
theorem tf_sz63 : sizeN Tryd.prog 63 2 = true := by kernel_rfl
theorem tf_agg63 : aggN Tryd.prog 63 = some 2 := by kernel_rfl
theorem tf_zero63 : zeroV Tryd.prog 63 = some (.agg #[.int .i64 0, .int .i64 0]) := by kernel_rfl
theorem tf_lay63 : layOf Tryd.prog 63 = some ([(0, 1), (1, 1)], [.int .i64 0, .int .i64 0]) := by kernel_rfl
theorem tf_fo63_0 : fieldOff Tryd.prog 63 0 = some 0 := by kernel_rfl
theorem tf_fo63_1 : fieldOff Tryd.prog 63 1 = some 1 := by kernel_rfl
theorem tf_flat64 : flatB Tryd.prog 64 = true := by kernel_rfl
theorem tf_sz64 : sizeN Tryd.prog 64 1 = true := by kernel_rfl
theorem tf_zero64 : zeroV Tryd.prog 64 = some (.nilFunc) := by kernel_rfl
theorem tf_flat65 : flatB Tryd.prog 65 = true := by kernel_rfl
theorem tf_sz65 : sizeN Tryd.prog 65 1 = true := by kernel_rfl
theorem tf_zero65 : zeroV Tryd.prog 65 = some (.nilIface) := by kernel_rfl
theorem tf_flat66 : flatB Tryd.prog 66 = true := by kernel_rfl
theorem tf_sz66 : sizeN Tryd.prog 66 1 = true := by kernel_rfl
theorem tf_zero66 : zeroV Tryd.prog 66 = some (.nilIface) := by kernel_rfl
theorem tf_flat67 : flatB Tryd.prog 67 = true := by kernel_rfl
theorem tf_sz67 : sizeN Tryd.prog 67 1 = true := by kernel_rfl
theorem tf_zero67 : zeroV Tryd.prog 67 = some (.nilFunc) := by kernel_rfl
theorem tf_flat68 : flatB Tryd.prog 68 = true := by kernel_rfl
theorem tf_sz68 : sizeN Tryd.prog 68 1 = true := by kernel_rfl
theorem tf_zero68 : zeroV Tryd.prog 68 = some (.nilFunc) := by kernel_rfl
theorem tf_flat69 : flatB Tryd.prog 69 = true := by kernel_rfl
theorem tf_sz69 : sizeN Tryd.prog 69 1 = true := by kernel_rfl
theorem tf_zero69 : zeroV Tryd.prog 69 = some (.nilFunc) := by kernel_rfl
theorem tf_flat70 : flatB Tryd.prog 70 = true := by kernel_rfl
theorem tf_sz70 : sizeN Tryd.prog 70 1 = true := by kernel_rfl
theorem tf_zero70 : zeroV Tryd.prog 70 = some (.int .i64 0) := by kernel_rfl
theorem tf_sz71 : sizeN Tryd.prog 71 2 = true := by kernel_rfl
theorem tf_agg71 : aggN Tryd.prog 71 = some 2 := by kernel_rfl
theorem tf_zero71 : zeroV Tryd.prog 71 = some (.agg #[.int .i64 0, .int .i64 0]) := by kernel_rfl
theorem tf_lay71 : layOf Tryd.prog 71 = some ([(0, 1), (1, 1)], [.int .i64 0, .int .i64 0]) := by kernel_rfl
theorem tf_fo71_0 : fieldOff Tryd.prog 71 0 = some 0 := by kernel_rfl
theorem tf_fo71_1 : fieldOff Tryd.prog 71 1 = some 1 := by kernel_rfl
theorem tf_sz72 : sizeN Tryd.prog 72 2 = true := by kernel_rfl
theorem tf_agg72 : aggN Tryd.prog 72 = some 2 := by kernel_rfl
theorem tf_zero72 : zeroV Tryd.prog 72 = some (.agg #[.int .i64 0, .int .i64 0]) := by kernel_rfl
theorem tf_lay72 : layOf Tryd.prog 72 = some ([(0, 1), (1, 1)], [.int .i64 0, .int .i64 0]) := by kernel_rfl
theorem tf_fo72_0 : fieldOff Tryd.prog 72 0 = some 0 := by kernel_rfl
theorem tf_fo72_1 : fieldOff Tryd.prog 72 1 = some 1 := by kernel_rfl
theorem tf_flat74 : flatB Tryd.prog 74 = true := by kernel_rfl
theorem tf_sz74 : sizeN Tryd.prog 74 1 = true := by kernel_rfl
theorem tf_zero74 : zeroV Tryd.prog 74 = some (.nilFunc) := by kernel_rfl
theorem tf_flat76 : flatB Tryd.prog 76 = true := by kernel_rfl
theorem tf_sz76 : sizeN Tryd.prog 76 1 = true := by kernel_rfl
theorem tf_zero76 : zeroV Tryd.prog 76 = some (.nilFunc) := by kernel_rfl
theorem tf_flat77 : flatB Tryd.prog 77 = true := by kernel_rfl
theorem tf_sz77 : sizeN Tryd.prog 77 1 = true := by kernel_rfl
theorem tf_zero77 : zeroV Tryd.prog 77 = some (.nilFunc) := by kernel_rfl
theorem tf_flat79 : flatB Tryd.prog 79 = true := by kernel_rfl
theorem tf_sz79 : sizeN Tryd.prog 79 1 = true := by kernel_rfl
theorem tf_zero79 : zeroV Tryd.prog 79 = some (.nilFunc) := by kernel_rfl
theorem tf_flat80 : flatB Tryd.prog 80 = true := by kernel_rfl
theorem tf_sz80 : sizeN Tryd.prog 80 1 = true := by kernel_rfl
theorem tf_zero80 : zeroV Tryd.prog 80 = some (.pointer none) := by kernel_rfl
theorem tf_flat81 : flatB Tryd.prog 81 = true := by kernel_rfl
theorem tf_sz81 : sizeN Tryd.prog 81 1 = true := by kernel_rfl
theorem tf_zero81 : zeroV Tryd.prog 81 = some (.pointer none) := by kernel_rfl
theorem tf_sz82 : sizeN Tryd.prog 82 256 = true := by kernel_rfl
theorem tf_agg82 : aggN Tryd.prog 82 = some 256 := by kernel_rfl
theorem tf_zero82 : zeroV Tryd.prog 82 = some (.agg (tyB.cells (List.replicate 256 (0 : UInt8))).toArray) := by kernel_rfl
theorem tf_zarr82 : (Value.agg (tyB.cells (List.replicate 256 (0 : UInt8))).toArray).cells = (tyB.cells (List.replicate 256 (0 : UInt8))).toArray := rfl
theorem tf_flat83 : flatB Tryd.prog 83 = true := by kernel_rfl
theorem tf_sz83 : sizeN Tryd.prog 83 1 = true := by kernel_rfl
theorem tf_zero83 : zeroV Tryd.prog 83 = some (.nilFunc) := by kernel_rfl
theorem tf_flat84 : flatB Tryd.prog 84 = true := by kernel_rfl
theorem tf_sz84 : sizeN Tryd.prog 84 1 = true := by kernel_rfl
theorem tf_zero84 : zeroV Tryd.prog 84 = some (.nilFunc) := by kernel_rfl
theorem tf_flat85 : flatB Tryd.prog 85 = true := by kernel_rfl
theorem tf_sz85 : sizeN Tryd.prog 85 1 = true := by kernel_rfl
theorem tf_zero85 : zeroV Tryd.prog 85 = some (.nilFunc) := by kernel_rfl
theorem tf_flat86 : flatB Tryd.prog 86 = true := by kernel_rfl
theorem tf_sz86 : sizeN Tryd.prog 86 1 = true := by kernel_rfl
theorem tf_zero86 : zeroV Tryd.prog 86 = some (.nilFunc) := by kernel_rfl
theorem tf_flat87 : flatB Tryd.prog 87 = true := by kernel_rfl
theorem tf_sz87 : sizeN Tryd.prog 87 1 = true := by kernel_rfl
theorem tf_zero87 : zeroV Tryd.prog 87 = some (.nilFunc) := by kernel_rfl
theorem tf_flat88 : flatB Tryd.prog 88 = true := by kernel_rfl
theorem tf_sz88 : sizeN Tryd.prog 88 1 = true := by kernel_rfl
theorem tf_zero88 : zeroV Tryd.prog 88 = some (.nilFunc) := by kernel_rfl
theorem tf_flat90 : flatB Tryd.prog 90 = true := by kernel_rfl
theorem tf_sz90 : sizeN Tryd.prog 90 1 = true := by kernel_rfl
theorem tf_zero90 : zeroV Tryd.prog 90 = some (.nilFunc) := by kernel_rfl
theorem tf_flat91 : flatB Tryd.prog 91 = true := by kernel_rfl
theorem tf_sz91 : sizeN Tryd.prog 91 1 = true := by kernel_rfl
theorem tf_zero91 : zeroV Tryd.prog 91 = some (.nilFunc) := by kernel_rfl
theorem tf_flat92 : flatB Tryd.prog 92 = true := by kernel_rfl
theorem tf_sz92 : sizeN Tryd.prog 92 1 = true := by kernel_rfl
theorem tf_zero92 : zeroV Tryd.prog 92 = some (.pointer none) := by kernel_rfl
theorem tf_flat93 : flatB Tryd.prog 93 = true := by kernel_rfl
theorem tf_sz93 : sizeN Tryd.prog 93 1 = true := by kernel_rfl
theorem tf_zero93 : zeroV Tryd.prog 93 = some (.nilFunc) := by kernel_rfl
theorem tf_flat94 : flatB Tryd.prog 94 = true := by kernel_rfl
theorem tf_sz94 : sizeN Tryd.prog 94 1 = true := by kernel_rfl
theorem tf_zero94 : zeroV Tryd.prog 94 = some (.nilFunc) := by kernel_rfl
theorem tf_flat96 : flatB Tryd.prog 96 = true := by kernel_rfl
theorem tf_sz96 : sizeN Tryd.prog 96 1 = true := by kernel_rfl
theorem tf_zero96 : zeroV Tryd.prog 96 = some (.nilFunc) := by kernel_rfl
theorem tf_flat97 : flatB Tryd.prog 97 = true := by kernel_rfl
theorem tf_sz97 : sizeN Tryd.prog 97 1 = true := by kernel_rfl
theorem tf_zero97 : zeroV Tryd.prog 97 = some (.nilFunc) := by kernel_rfl
theorem tf_flat98 : flatB Tryd.prog 98 = true := by kernel_rfl
theorem tf_sz98 : sizeN Tryd.prog 98 1 = true := by kernel_rfl
theorem tf_zero98 : zeroV Tryd.prog 98 = some (.nilFunc) := by kernel_rfl
theorem tf_flat100 : flatB Tryd.prog 100 = true := by kernel_rfl
theorem tf_sz100 : sizeN Tryd.prog 100 1 = true := by kernel_rfl
theorem tf_zero100 : zeroV Tryd.prog 100 = some (.nilFunc) := by kernel_rfl
theorem tf_flat101 : flatB Tryd.prog 101 = true := by kernel_rfl
theorem tf_sz101 : sizeN Tryd.prog 101 1 = true := by kernel_rfl
theorem tf_zero101 : zeroV Tryd.prog 101 = some (.nilFunc) := by kernel_rfl
theorem tf_flat102 : flatB Tryd.prog 102 = true := by kernel_rfl
theorem tf_sz102 : sizeN Tryd.prog 102 1 = true := by kernel_rfl
theorem tf_zero102 : zeroV Tryd.prog 102 = some (.nilFunc) := by kernel_rfl
theorem tf_flat103 : flatB Tryd.prog 103 = true := by kernel_rfl
theorem tf_sz103 : sizeN Tryd.prog 103 1 = true := by kernel_rfl
theorem tf_zero103 : zeroV Tryd.prog 103 = some (.slice none 0 0) := by kernel_rfl
theorem tf_el103 : ElemOk Tryd.prog 103 114 tyPiece (([], false) : List UInt8 × Bool) 24 := ElemOk.of Tryd.underlying103 (by kernel_rfl) (by kernel_rfl) rfl
theorem tf_flat105 : flatB Tryd.prog 105 = true := by kernel_rfl
theorem tf_sz105 : sizeN Tryd.prog 105 1 = true := by kernel_rfl
theorem tf_zero105 : zeroV Tryd.prog 105 = some (.nilFunc) := by kernel_rfl
theorem tf_flat106 : flatB Tryd.prog 106 = true := by kernel_rfl
theorem tf_sz106 : sizeN Tryd.prog 106 1 = true := by kernel_rfl
theorem tf_zero106 : zeroV Tryd.prog 106 = some (.nilFunc) := by kernel_rfl
theorem tf_flat107 : flatB Tryd.prog 107 = true := by kernel_rfl
theorem tf_sz107 : sizeN Tryd.prog 107 1 = true := by kernel_rfl
theorem tf_zero107 : zeroV Tryd.prog 107 = some (.nilFunc) := by kernel_rfl
theorem tf_flat108 : flatB Tryd.prog 108 = true := by kernel_rfl
theorem tf_sz108 : sizeN Tryd.prog 108 1 = true := by kernel_rfl
theorem tf_zero108 : zeroV Tryd.prog 108 = some (.int .u64 0) := by kernel_rfl
theorem tf_flat109 : flatB Tryd.prog 109 = true := by kernel_rfl
theorem tf_sz109 : sizeN Tryd.prog 109 1 = true := by kernel_rfl
theorem tf_zero109 : zeroV Tryd.prog 109 = some (.nilFunc) := by kernel_rfl
theorem tf_flat110 : flatB Tryd.prog 110 = true := by kernel_rfl
theorem tf_sz110 : sizeN Tryd.prog 110 1 = true := by kernel_rfl
theorem tf_zero110 : zeroV Tryd.prog 110 = some (.slice none 0 0) := by kernel_rfl
theorem tf_flat112 : flatB Tryd.prog 112 = true := by kernel_rfl
theorem tf_sz112 : sizeN Tryd.prog 112 1 = true := by kernel_rfl
theorem tf_zero112 : zeroV Tryd.prog 112 = some (.nilFunc) := by kernel_rfl
theorem tf_sz113 : sizeN Tryd.prog 113 2 = true := by kernel_rfl
theorem tf_agg113 : aggN Tryd.prog 113 = some 2 := by kernel_rfl
theorem tf_zero113 : zeroV Tryd.prog 113 = some (.agg #[str [], .bool false]) := by kernel_rfl
theorem tf_lay113 : layOf Tryd.prog 113 = some ([(0, 1), (1, 1)], [str [], .bool false]) := by kernel_rfl
theorem tf_fo113_0 : fieldOff Tryd.prog 113 0 = some 0 := by kernel_rfl
theorem tf_fo113_1 : fieldOff Tryd.prog 113 1 = some 1 := by kernel_rfl
theorem tf_sz114 : sizeN Tryd.prog 114 2 = true := by kernel_rfl
theorem tf_agg114 : aggN Tryd.prog 114 = some 2 := by kernel_rfl
theorem tf_zero114 : zeroV Tryd.prog 114 = some (.agg #[str [], .bool false]) := by kernel_rfl
theorem tf_lay114 : layOf Tryd.prog 114 = some ([(0, 1), (1, 1)], [str [], .bool false]) := by kernel_rfl
theorem tf_fo114_0 : fieldOff Tryd.prog 114 0 = some 0 := by kernel_rfl
theorem tf_fo114_1 : fieldOff Tryd.prog 114 1 = some 1 := by kernel_rfl
theorem tf_sz115 : sizeN Tryd.prog 115 0 = true := by kernel_rfl
theorem tf_agg115 : aggN Tryd.prog 115 = some 0 := by kernel_rfl
theorem tf_zero115 : zeroV Tryd.prog 115 = some (.agg #[]) := by kernel_rfl
theorem tf_lay115 : layOf Tryd.prog 115 = some ([], []) := by kernel_rfl
theorem tf_sz116 : sizeN Tryd.prog 116 0 = true := by kernel_rfl
theorem tf_agg116 : aggN Tryd.prog 116 = some 0 := by kernel_rfl
theorem tf_zero116 : zeroV Tryd.prog 116 = some (.agg #[]) := by kernel_rfl
theorem tf_lay116 : layOf Tryd.prog 116 = some ([], []) := by kernel_rfl
theorem tf_sz118 : sizeN Tryd.prog 118 3 = true := by kernel_rfl
theorem tf_agg118 : aggN Tryd.prog 118 = some 3 := by kernel_rfl
theorem tf_zero118 : zeroV Tryd.prog 118 = some (.agg #[.int .i64 0, .bool false, .bool false]) := by kernel_rfl
theorem tf_lay118 : layOf Tryd.prog 118 = some ([(0, 1), (1, 1), (2, 1)], [.int .i64 0, .bool false, .bool false]) := by kernel_rfl
theorem tf_fo118_0 : fieldOff Tryd.prog 118 0 = some 0 := by kernel_rfl
theorem tf_fo118_1 : fieldOff Tryd.prog 118 1 = some 1 := by kernel_rfl
theorem tf_fo118_2 : fieldOff Tryd.prog 118 2 = some 2 := by kernel_rfl
theorem tf_sz119 : sizeN Tryd.prog 119 3 = true := by kernel_rfl
theorem tf_agg119 : aggN Tryd.prog 119 = some 3 := by kernel_rfl
theorem tf_zero119 : zeroV Tryd.prog 119 = some (.agg #[.int .i64 0, .bool false, .bool false]) := by kernel_rfl
theorem tf_lay119 : layOf Tryd.prog 119 = some ([(0, 1), (1, 1), (2, 1)], [.int .i64 0, .bool false, .bool false]) := by kernel_rfl
theorem tf_fo119_0 : fieldOff Tryd.prog 119 0 = some 0 := by kernel_rfl
theorem tf_fo119_1 : fieldOff Tryd.prog 119 1 = some 1 := by kernel_rfl
theorem tf_fo119_2 : fieldOff Tryd.prog 119 2 = some 2 := by kernel_rfl
theorem tf_flat121 : flatB Tryd.prog 121 = true := by kernel_rfl
theorem tf_sz121 : sizeN Tryd.prog 121 1 = true := by kernel_rfl
theorem tf_zero121 : zeroV Tryd.prog 121 = some (.nilFunc) := by kernel_rfl
theorem tf_flat122 : flatB Tryd.prog 122 = true := by kernel_rfl
theorem tf_sz122 : sizeN Tryd.prog 122 1 = true := by kernel_rfl
theorem tf_zero122 : zeroV Tryd.prog 122 = some (.int .u32 0) := by kernel_rfl
theorem tf_flat124 : flatB Tryd.prog 124 = true := by kernel_rfl
theorem tf_sz124 : sizeN Tryd.prog 124 1 = true := by kernel_rfl
theorem tf_zero124 : zeroV Tryd.prog 124 = some (.nilFunc) := by kernel_rfl
theorem tf_sz125 : sizeN Tryd.prog 125 2 = true := by kernel_rfl
theorem tf_agg125 : aggN Tryd.prog 125 = some 2 := by kernel_rfl
theorem tf_zero125 : zeroV Tryd.prog 125 = some (.agg #[.int .u8 0, .int .u8 0]) := by kernel_rfl
theorem tf_lay125 : layOf Tryd.prog 125 = some ([(0, 1), (1, 1)], [.int .u8 0, .int .u8 0]) := by kernel_rfl
theorem tf_fo125_0 : fieldOff Tryd.prog 125 0 = some 0 := by kernel_rfl
theorem tf_fo125_1 : fieldOff Tryd.prog 125 1 = some 1 := by kernel_rfl
theorem tf_sz126 : sizeN Tryd.prog 126 2 = true := by kernel_rfl
theorem tf_agg126 : aggN Tryd.prog 126 = some 2 := by kernel_rfl
theorem tf_zero126 : zeroV Tryd.prog 126 = some (.agg #[.int .u8 0, .int .u8 0]) := by kernel_rfl
theorem tf_lay126 : layOf Tryd.prog 126 = some ([(0, 1), (1, 1)], [.int .u8 0, .int .u8 0]) := by kernel_rfl
theorem tf_fo126_0 : fieldOff Tryd.prog 126 0 = some 0 := by kernel_rfl
theorem tf_fo126_1 : fieldOff Tryd.prog 126 1 = some 1 := by kernel_rfl
theorem tf_sz127 : sizeN Tryd.prog 127 32 = true := by kernel_rfl
theorem tf_agg127 : aggN Tryd.prog 127 = some 32 := by kernel_rfl
theorem tf_zero127 : zeroV Tryd.prog 127 = some (.agg #[.int .u8 0, .int .u8 0, .int .u8 0, .int .u8 0, .int .u8 0, .int .u8 0, .int .u8 0, .int .u8 0, .int .u8 0, .int .u8 0, .int .u8 0, .int .u8 0, .int .u8 0, .int .u8 0, .int .u8 0, .int .u8 0, .int .u8 0, .int .u8 0, .int .u8 0, .int .u8 0, .int .u8 0, .int .u8 0, .int .u8 0, .int .u8 0, .int .u8 0, .int .u8 0, .int .u8 0, .int .u8 0, .int .u8 0, .int .u8 0, .int .u8 0, .int .u8 0]) := by kernel_rfl
theorem tf_flat128 : flatB Tryd.prog 128 = true := by kernel_rfl
theorem tf_sz128 : sizeN Tryd.prog 128 1 = true := by kernel_rfl
theorem tf_zero128 : zeroV Tryd.prog 128 = some (.nilFunc) := by kernel_rfl
theorem tf_flat129 : flatB Tryd.prog 129 = true := by kernel_rfl
theorem tf_sz129 : sizeN Tryd.prog 129 1 = true := by kernel_rfl
theorem tf_zero129 : zeroV Tryd.prog 129 = some (.map none) := by kernel_rfl
theorem tf_flat130 : flatB Tryd.prog 130 = true := by kernel_rfl
theorem tf_sz130 : sizeN Tryd.prog 130 1 = true := by kernel_rfl
theorem tf_zero130 : zeroV Tryd.prog 130 = some (.nilFunc) := by kernel_rfl
theorem tf_flat131 : flatB Tryd.prog 131 = true := by kernel_rfl
theorem tf_sz131 : sizeN Tryd.prog 131 1 = true := by kernel_rfl
theorem tf_zero131 : zeroV Tryd.prog 131 = some (.nilIface) := by kernel_rfl
theorem tf_flat134 : flatB Tryd.prog 134 = true := by kernel_rfl
theorem tf_sz134 : sizeN Tryd.prog 134 1 = true := by kernel_rfl
theorem tf_zero134 : zeroV Tryd.prog 134 = some (.nilFunc) := by kernel_rfl
theorem tf_flat135 : flatB Tryd.prog 135 = true := by kernel_rfl
theorem tf_sz135 : sizeN Tryd.prog 135 1 = true := by kernel_rfl
theorem tf_zero135 : zeroV Tryd.prog 135 = some (.nilFunc) := by kernel_rfl
theorem tf_flat136 : flatB Tryd.prog 136 = true := by kernel_rfl
theorem tf_sz136 : sizeN Tryd.prog 136 1 = true := by kernel_rfl
theorem tf_zero136 : zeroV Tryd.prog 136 = some (.nilFunc) := by kernel_rfl
theorem tf_flat137 : flatB Tryd.prog 137 = true := by kernel_rfl
theorem tf_sz137 : sizeN Tryd.prog 137 1 = true := by kernel_rfl
theorem tf_zero137 : zeroV Tryd.prog 137 = some (.nilFunc) := by kernel_rfl
theorem tf_flat138 : flatB Tryd.prog 138 = true := by kernel_rfl
theorem tf_sz138 : sizeN Tryd.prog 138 1 = true := by kernel_rfl
theorem tf_zero138 : zeroV Tryd.prog 138 = some (.nilFunc) := by kernel_rfl
theorem tf_sz139 : sizeN Tryd.prog 139 4 = true := by kernel_rfl
theorem tf_agg139 : aggN Tryd.prog 139 = some 4 := by kernel_rfl
theorem tf_zero139 : zeroV Tryd.prog 139 = some (.agg #[.pointer none, .pointer none, .pointer none, str []]) := by kernel_rfl
theorem tf_lay139 : layOf Tryd.prog 139 = some ([(0, 1), (1, 1), (2, 1), (3, 1)], [.pointer none, .pointer none, .pointer none, str []]) := by kernel_rfl
theorem tf_fo139_0 : fieldOff Tryd.prog 139 0 = some 0 := by kernel_rfl
theorem tf_fo139_1 : fieldOff Tryd.prog 139 1 = some 1 := by kernel_rfl
theorem tf_fo139_2 : fieldOff Tryd.prog 139 2 = some 2 := by kernel_rfl
theorem tf_fo139_3 : fieldOff Tryd.prog 139 3 = some 3 := by kernel_rfl
theorem tf_sz140 : sizeN Tryd.prog 140 4 = true := by kernel_rfl
theorem tf_agg140 : aggN Tryd.prog 140 = some 4 := by kernel_rfl
theorem tf_zero140 : zeroV Tryd.prog 140 = some (.agg #[.pointer none, .pointer none, .pointer none, str []]) := by kernel_rfl
theorem tf_lay140 : layOf Tryd.prog 140 = some ([(0, 1), (1, 1), (2, 1), (3, 1)], [.pointer none, .pointer none, .pointer none, str []]) := by kernel_rfl
theorem tf_fo140_0 : fieldOff Tryd.prog 140 0 = some 0 := by kernel_rfl
theorem tf_fo140_1 : fieldOff Tryd.prog 140 1 = some 1 := by kernel_rfl
theorem tf_fo140_2 : fieldOff Tryd.prog 140 2 = some 2 := by kernel_rfl
theorem tf_fo140_3 : fieldOff Tryd.prog 140 3 = some 3 := by kernel_rfl
theorem tf_sz141 : sizeN Tryd.prog 141 0 = true := by kernel_rfl
theorem tf_agg141 : aggN Tryd.prog 141 = some 0 := by kernel_rfl
theorem tf_zero141 : zeroV Tryd.prog 141 = some (.agg #[]) := by kernel_rfl
theorem tf_sz142 : sizeN Tryd.prog 142 0 = true := by kernel_rfl
theorem tf_agg142 : aggN Tryd.prog 142 = some 0 := by kernel_rfl
theorem tf_zero142 : zeroV Tryd.prog 142 = some (.agg #[]) := by kernel_rfl
theorem tf_lay142 : layOf Tryd.prog 142 = some ([(0, 0)], []) := by kernel_rfl
theorem tf_sz143 : sizeN Tryd.prog 143 0 = true := by kernel_rfl
theorem tf_agg143 : aggN Tryd.prog 143 = some 0 := by kernel_rfl
theorem tf_zero143 : zeroV Tryd.prog 143 = some (.agg #[]) := by kernel_rfl
theorem tf_lay143 : layOf Tryd.prog 143 = some ([(0, 0)], []) := by kernel_rfl
theorem tf_flat144 : flatB Tryd.prog 144 = true := by kernel_rfl
theorem tf_sz144 : sizeN Tryd.prog 144 1 = true := by kernel_rfl
theorem tf_zero144 : zeroV Tryd.prog 144 = some (.int .u8 0) := by kernel_rfl
theorem tf_flat145 : flatB Tryd.prog 145 = true := by kernel_rfl
theorem tf_sz145 : sizeN Tryd.prog 145 1 = true := by kernel_rfl
theorem tf_zero145 : zeroV Tryd.prog 145 = some (.int .u8 0) := by kernel_rfl
theorem tf_flat146 : flatB Tryd.prog 146 = true := by kernel_rfl
theorem tf_sz146 : sizeN Tryd.prog 146 1 = true := by kernel_rfl
theorem tf_zero146 : zeroV Tryd.prog 146 = some (.nilFunc) := by kernel_rfl
theorem tf_flat147 : flatB Tryd.prog 147 = true := by kernel_rfl
theorem tf_sz147 : sizeN Tryd.prog 147 1 = true := by kernel_rfl
theorem tf_zero147 : zeroV Tryd.prog 147 = some (.int .i32 0) := by kernel_rfl
theorem tf_flat148 : flatB Tryd.prog 148 = true := by kernel_rfl
theorem tf_sz148 : sizeN Tryd.prog 148 1 = true := by kernel_rfl
theorem tf_zero148 : zeroV Tryd.prog 148 = some (.int .i32 0) := by kernel_rfl
theorem tf_sz149 : sizeN Tryd.prog 149 11 = true := by kernel_rfl
theorem tf_agg149 : aggN Tryd.prog 149 = some 11 := by kernel_rfl
theorem tf_zero149 : zeroV Tryd.prog 149 = some (.agg #[.int .u64 0, .int .u64 0, .int .u32 0, .int .u8 0, .int .u8 0, .int .u8 0, .int .u8 0, .nilFunc, .pointer none, .int .i32 0, .int .i32 0]) := by kernel_rfl
theorem tf_lay149 : layOf Tryd.prog 149 = some ([(0, 1), (1, 1), (2, 1), (3, 1), (4, 1), (5, 1), (6, 1), (7, 1), (8, 1), (9, 1), (10, 1)], [.int .u64 0, .int .u64 0, .int .u32 0, .int .u8 0, .int .u8 0, .int .u8 0, .int .u8 0, .nilFunc, .pointer none, .int .i32 0, .int .i32 0]) := by kernel_rfl
theorem tf_fo149_0 : fieldOff Tryd.prog 149 0 = some 0 := by kernel_rfl
theorem tf_fo149_1 : fieldOff Tryd.prog 149 1 = some 1 := by kernel_rfl
theorem tf_fo149_2 : fieldOff Tryd.prog 149 2 = some 2 := by kernel_rfl
theorem tf_fo149_3 : fieldOff Tryd.prog 149 3 = some 3 := by kernel_rfl
theorem tf_fo149_4 : fieldOff Tryd.prog 149 4 = some 4 := by kernel_rfl
theorem tf_fo149_5 : fieldOff Tryd.prog 149 5 = some 5 := by kernel_rfl
theorem tf_fo149_6 : fieldOff Tryd.prog 149 6 = some 6 := by kernel_rfl
theorem tf_fo149_7 : fieldOff Tryd.prog 149 7 = some 7 := by kernel_rfl
theorem tf_fo149_8 : fieldOff Tryd.prog 149 8 = some 8 := by kernel_rfl
theorem tf_fo149_9 : fieldOff Tryd.prog 149 9 = some 9 := by kernel_rfl
theorem tf_fo149_10 : fieldOff Tryd.prog 149 10 = some 10 := by kernel_rfl
theorem tf_sz150 : sizeN Tryd.prog 150 11 = true := by kernel_rfl
theorem tf_agg150 : aggN Tryd.prog 150 = some 11 := by kernel_rfl
theorem tf_zero150 : zeroV Tryd.prog 150 = some (.agg #[.int .u64 0, .int .u64 0, .int .u32 0, .int .u8 0, .int .u8 0, .int .u8 0, .int .u8 0, .nilFunc, .pointer none, .int .i32 0, .int .i32 0]) := by kernel_rfl
theorem tf_lay150 : layOf Tryd.prog 150 = some ([(0, 1), (1, 1), (2, 1), (3, 1), (4, 1), (5, 1), (6, 1), (7, 1), (8, 1), (9, 1), (10, 1)], [.int .u64 0, .int .u64 0, .int .u32 0, .int .u8 0, .int .u8 0, .int .u8 0, .int .u8 0, .nilFunc, .pointer none, .int .i32 0, .int .i32 0]) := by kernel_rfl
theorem tf_fo150_0 : fieldOff Tryd.prog 150 0 = some 0 := by kernel_rfl
theorem tf_fo150_1 : fieldOff Tryd.prog 150 1 = some 1 := by kernel_rfl
theorem tf_fo150_2 : fieldOff Tryd.prog 150 2 = some 2 := by kernel_rfl
theorem tf_fo150_3 : fieldOff Tryd.prog 150 3 = some 3 := by kernel_rfl
theorem tf_fo150_4 : fieldOff Tryd.prog 150 4 = some 4 := by kernel_rfl
theorem tf_fo150_5 : fieldOff Tryd.prog 150 5 = some 5 := by kernel_rfl
theorem tf_fo150_6 : fieldOff Tryd.prog 150 6 = some 6 := by kernel_rfl
theorem tf_fo150_7 : fieldOff Tryd.prog 150 7 = some 7 := by kernel_rfl
theorem tf_fo150_8 : fieldOff Tryd.prog 150 8 = some 8 := by kernel_rfl
theorem tf_fo150_9 : fieldOff Tryd.prog 150 9 = some 9 := by kernel_rfl
theorem tf_fo150_10 : fieldOff Tryd.prog 150 10 = some 10 := by kernel_rfl
theorem tf_mixed : Tryd.prog.follows .mixedOrders = true := by kernel_rfl
theorem tf_body2 : Body Tryd.prog 2 := Body.of (by kernel_rfl)
theorem tf_body3 : Body Tryd.prog 3 := Body.of (by kernel_rfl)
theorem tf_body4 : Body Tryd.prog 4 := Body.of (by kernel_rfl)
theorem tf_body5 : Body Tryd.prog 5 := Body.of (by kernel_rfl)
theorem tf_body6 : Body Tryd.prog 6 := Body.of (by kernel_rfl)
theorem tf_body7 : Body Tryd.prog 7 := Body.of (by kernel_rfl)
theorem tf_body8 : Body Tryd.prog 8 := Body.of (by kernel_rfl)
theorem tf_body9 : Body Tryd.prog 9 := Body.of (by kernel_rfl)
theorem tf_body10 : Body Tryd.prog 10 := Body.of (by kernel_rfl)
theorem tf_body11 : Body Tryd.prog 11 := Body.of (by kernel_rfl)
theorem tf_body12 : Body Tryd.prog 12 := Body.of (by kernel_rfl)
theorem tf_body13 : Body Tryd.prog 13 := Body.of (by kernel_rfl)
theorem tf_body14 : Body Tryd.prog 14 := Body.of (by kernel_rfl)
theorem tf_body15 : Body Tryd.prog 15 := Body.of (by kernel_rfl)
theorem tf_body16 : Body Tryd.prog 16 := Body.of (by kernel_rfl)
theorem tf_body17 : Body Tryd.prog 17 := Body.of (by kernel_rfl)
theorem tf_body18 : Body Tryd.prog 18 := Body.of (by kernel_rfl)
theorem tf_body19 : Body Tryd.prog 19 := Body.of (by kernel_rfl)
theorem tf_body20 : Body Tryd.prog 20 := Body.of (by kernel_rfl)
theorem tf_body21 : Body Tryd.prog 21 := Body.of (by kernel_rfl)
theorem tf_body22 : Body Tryd.prog 22 := Body.of (by kernel_rfl)
theorem tf_body23 : Body Tryd.prog 23 := Body.of (by kernel_rfl)
theorem tf_body24 : Body Tryd.prog 24 := Body.of (by kernel_rfl)
theorem tf_body25 : Body Tryd.prog 25 := Body.of (by kernel_rfl)
theorem tf_body26 : Body Tryd.prog 26 := Body.of (by kernel_rfl)
theorem tf_body27 : Body Tryd.prog 27 := Body.of (by kernel_rfl)
theorem tf_body28 : Body Tryd.prog 28 := Body.of (by kernel_rfl)
theorem tf_body29 : Body Tryd.prog 29 := Body.of (by kernel_rfl)
theorem tf_body30 : Body Tryd.prog 30 := Body.of (by kernel_rfl)
theorem tf_body31 : Body Tryd.prog 31 := Body.of (by kernel_rfl)
theorem tf_body32 : Body Tryd.prog 32 := Body.of (by kernel_rfl)
theorem tf_body33 : Body Tryd.prog 33 := Body.of (by kernel_rfl)
theorem tf_body34 : Body Tryd.prog 34 := Body.of (by kernel_rfl)
theorem tf_body35 : Body Tryd.prog 35 := Body.of (by kernel_rfl)
theorem tf_body36 : Body Tryd.prog 36 := Body.of (by kernel_rfl)
theorem tf_body37 : Body Tryd.prog 37 := Body.of (by kernel_rfl)
theorem tf_body38 : Body Tryd.prog 38 := Body.of (by kernel_rfl)
theorem tf_body39 : Body Tryd.prog 39 := Body.of (by kernel_rfl)
theorem tf_body40 : Body Tryd.prog 40 := Body.of (by kernel_rfl)
theorem tf_body42 : Body Tryd.prog 42 := Body.of (by kernel_rfl)
theorem tf_body43 : Body Tryd.prog 43 := Body.of (by kernel_rfl)
theorem tf_body44 : Body Tryd.prog 44 := Body.of (by kernel_rfl)
theorem tf_body45 : Body Tryd.prog 45 := Body.of (by kernel_rfl)
theorem tf_body46 : Body Tryd.prog 46 := Body.of (by kernel_rfl)
theorem tf_body47 : Body Tryd.prog 47 := Body.of (by kernel_rfl)
theorem tf_body48 : Body Tryd.prog 48 := Body.of (by kernel_rfl)
theorem tf_body49 : Body Tryd.prog 49 := Body.of (by kernel_rfl)
theorem tf_body50 : Body Tryd.prog 50 := Body.of (by kernel_rfl)
theorem tf_body51 : Body Tryd.prog 51 := Body.of (by kernel_rfl)
theorem tf_body52 : Body Tryd.prog 52 := Body.of (by kernel_rfl)
theorem tf_body54 : Body Tryd.prog 54 := Body.of (by kernel_rfl)
theorem tf_body55 : Body Tryd.prog 55 := Body.of (by kernel_rfl)
theorem tf_body56 : Body Tryd.prog 56 := Body.of (by kernel_rfl)
theorem tf_body57 : Body Tryd.prog 57 := Body.of (by kernel_rfl)
theorem tf_body58 : Body Tryd.prog 58 := Body.of (by kernel_rfl)
theorem tf_body59 : Body Tryd.prog 59 := Body.of (by kernel_rfl)
theorem tf_body60 : Body Tryd.prog 60 := Body.of (by kernel_rfl)
theorem tf_body61 : Body Tryd.prog 61 := Body.of (by kernel_rfl)
theorem tf_body62 : Body Tryd.prog 62 := Body.of (by kernel_rfl)
theorem tf_body63 : Body Tryd.prog 63 := Body.of (by kernel_rfl)
theorem tf_body65 : Body Tryd.prog 65 := Body.of (by kernel_rfl)
theorem tf_body67 : Body Tryd.prog 67 := Body.of (by kernel_rfl)
theorem tf_body68 : Body Tryd.prog 68 := Body.of (by kernel_rfl)
theorem tf_body69 : Body Tryd.prog 69 := Body.of (by kernel_rfl)
theorem tf_body70 : Body Tryd.prog 70 := Body.of (by kernel_rfl)
theorem tf_body71 : Body Tryd.prog 71 := Body.of (by kernel_rfl)
theorem tf_body72 : Body Tryd.prog 72 := Body.of (by kernel_rfl)
theorem tf_body95 : Body Tryd.prog 95 := Body.of (by kernel_rfl)
end Go.Proofs.YtlkdmbpbjhjkfaaDoor
