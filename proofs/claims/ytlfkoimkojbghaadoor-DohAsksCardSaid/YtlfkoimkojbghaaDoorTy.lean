/- What the walks need of the types and functions of this program, each a closed fact. -/
import Derived.Test.YtlfkoimkojbghaaDoorProg
import Derived.Test.YtlfkoimkojbghaaDoorLgR
namespace Go.Proofs.YtlfkoimkojbghaaDoor
set_option maxRecDepth 100000
theorem tf_flat1 : flatB Tryd.prog 1 = true := by kernel_rfl
theorem tf_sz1 : sizeN Tryd.prog 1 1 = true := by kernel_rfl
theorem tf_zero1 : zeroV Tryd.prog 1 = some (.nilFunc) := by kernel_rfl
theorem tf_flat2 : flatB Tryd.prog 2 = true := by kernel_rfl
theorem tf_sz2 : sizeN Tryd.prog 2 1 = true := by kernel_rfl
theorem tf_zero2 : zeroV Tryd.prog 2 = some (.int .i64 0) := by kernel_rfl
theorem tf_flat3 : flatB Tryd.prog 3 = true := by kernel_rfl
theorem tf_sz3 : sizeN Tryd.prog 3 1 = true := by kernel_rfl
theorem tf_zero3 : zeroV Tryd.prog 3 = some (.int .i64 0) := by kernel_rfl
theorem tf_flat4 : flatB Tryd.prog 4 = true := by kernel_rfl
theorem tf_sz4 : sizeN Tryd.prog 4 1 = true := by kernel_rfl
theorem tf_zero4 : zeroV Tryd.prog 4 = some (.bool false) := by kernel_rfl
theorem tf_flat5 : flatB Tryd.prog 5 = true := by kernel_rfl
theorem tf_sz5 : sizeN Tryd.prog 5 1 = true := by kernel_rfl
theorem tf_zero5 : zeroV Tryd.prog 5 = some (.int .u8 0) := by kernel_rfl
theorem tf_flat6 : flatB Tryd.prog 6 = true := by kernel_rfl
theorem tf_sz6 : sizeN Tryd.prog 6 1 = true := by kernel_rfl
theorem tf_zero6 : zeroV Tryd.prog 6 = some (.int .u8 0) := by kernel_rfl
theorem tf_sz7 : sizeN Tryd.prog 7 4 = true := by kernel_rfl
theorem tf_agg7 : aggN Tryd.prog 7 = some 4 := by kernel_rfl
theorem tf_zero7 : zeroV Tryd.prog 7 = some (.agg #[.int .i64 0, .int .i64 0, .bool false, .int .u8 0]) := by kernel_rfl
theorem tf_lay7 : layOf Tryd.prog 7 = some ([(0, 1), (1, 1), (2, 1), (3, 1)], [.int .i64 0, .int .i64 0, .bool false, .int .u8 0]) := by kernel_rfl
theorem tf_fo7_0 : fieldOff Tryd.prog 7 0 = some 0 := by kernel_rfl
theorem tf_fo7_1 : fieldOff Tryd.prog 7 1 = some 1 := by kernel_rfl
theorem tf_fo7_2 : fieldOff Tryd.prog 7 2 = some 2 := by kernel_rfl
theorem tf_fo7_3 : fieldOff Tryd.prog 7 3 = some 3 := by kernel_rfl
theorem tf_sz8 : sizeN Tryd.prog 8 4 = true := by kernel_rfl
theorem tf_agg8 : aggN Tryd.prog 8 = some 4 := by kernel_rfl
theorem tf_zero8 : zeroV Tryd.prog 8 = some (.agg #[.int .i64 0, .int .i64 0, .bool false, .int .u8 0]) := by kernel_rfl
theorem tf_lay8 : layOf Tryd.prog 8 = some ([(0, 1), (1, 1), (2, 1), (3, 1)], [.int .i64 0, .int .i64 0, .bool false, .int .u8 0]) := by kernel_rfl
theorem tf_fo8_0 : fieldOff Tryd.prog 8 0 = some 0 := by kernel_rfl
theorem tf_fo8_1 : fieldOff Tryd.prog 8 1 = some 1 := by kernel_rfl
theorem tf_fo8_2 : fieldOff Tryd.prog 8 2 = some 2 := by kernel_rfl
theorem tf_fo8_3 : fieldOff Tryd.prog 8 3 = some 3 := by kernel_rfl
theorem tf_flat9 : flatB Tryd.prog 9 = true := by kernel_rfl
theorem tf_sz9 : sizeN Tryd.prog 9 1 = true := by kernel_rfl
theorem tf_zero9 : zeroV Tryd.prog 9 = some (str []) := by kernel_rfl
theorem tf_flat10 : flatB Tryd.prog 10 = true := by kernel_rfl
theorem tf_sz10 : sizeN Tryd.prog 10 1 = true := by kernel_rfl
theorem tf_zero10 : zeroV Tryd.prog 10 = some (str []) := by kernel_rfl
theorem tf_flat11 : flatB Tryd.prog 11 = true := by kernel_rfl
theorem tf_sz11 : sizeN Tryd.prog 11 1 = true := by kernel_rfl
theorem tf_zero11 : zeroV Tryd.prog 11 = some (str []) := by kernel_rfl
theorem tf_flat12 : flatB Tryd.prog 12 = true := by kernel_rfl
theorem tf_sz12 : sizeN Tryd.prog 12 1 = true := by kernel_rfl
theorem tf_zero12 : zeroV Tryd.prog 12 = some (.int .u64 0) := by kernel_rfl
theorem tf_sz13 : sizeN Tryd.prog 13 2 = true := by kernel_rfl
theorem tf_agg13 : aggN Tryd.prog 13 = some 2 := by kernel_rfl
theorem tf_zero13 : zeroV Tryd.prog 13 = some (.agg #[str [], .int .u64 0]) := by kernel_rfl
theorem tf_lay13 : layOf Tryd.prog 13 = some ([(0, 1), (1, 1)], [str [], .int .u64 0]) := by kernel_rfl
theorem tf_fo13_0 : fieldOff Tryd.prog 13 0 = some 0 := by kernel_rfl
theorem tf_fo13_1 : fieldOff Tryd.prog 13 1 = some 1 := by kernel_rfl
theorem tf_sz14 : sizeN Tryd.prog 14 2 = true := by kernel_rfl
theorem tf_agg14 : aggN Tryd.prog 14 = some 2 := by kernel_rfl
theorem tf_zero14 : zeroV Tryd.prog 14 = some (.agg #[str [], .int .u64 0]) := by kernel_rfl
theorem tf_lay14 : layOf Tryd.prog 14 = some ([(0, 1), (1, 1)], [str [], .int .u64 0]) := by kernel_rfl
theorem tf_fo14_0 : fieldOff Tryd.prog 14 0 = some 0 := by kernel_rfl
theorem tf_fo14_1 : fieldOff Tryd.prog 14 1 = some 1 := by kernel_rfl
theorem tf_flat15 : flatB Tryd.prog 15 = true := by kernel_rfl
theorem tf_sz15 : sizeN Tryd.prog 15 1 = true := by kernel_rfl
theorem tf_zero15 : zeroV Tryd.prog 15 = some (.pointer none) := by kernel_rfl
theorem tf_flat16 : flatB Tryd.prog 16 = true := by kernel_rfl
theorem tf_sz16 : sizeN Tryd.prog 16 1 = true := by kernel_rfl
theorem tf_zero16 : zeroV Tryd.prog 16 = some (.pointer none) := by kernel_rfl
theorem tf_flat17 : flatB Tryd.prog 17 = true := by kernel_rfl
theorem tf_sz17 : sizeN Tryd.prog 17 1 = true := by kernel_rfl
theorem tf_zero17 : zeroV Tryd.prog 17 = some (.pointer none) := by kernel_rfl
theorem tf_sz18 : sizeN Tryd.prog 18 1 = true := by kernel_rfl
theorem tf_agg18 : aggN Tryd.prog 18 = some 1 := by kernel_rfl
theorem tf_zero18 : zeroV Tryd.prog 18 = some (.agg #[.pointer none]) := by kernel_rfl
theorem tf_lay18 : layOf Tryd.prog 18 = some ([(0, 1)], [.pointer none]) := by kernel_rfl
theorem tf_fo18_0 : fieldOff Tryd.prog 18 0 = some 0 := by kernel_rfl
theorem tf_sz19 : sizeN Tryd.prog 19 1 = true := by kernel_rfl
theorem tf_agg19 : aggN Tryd.prog 19 = some 1 := by kernel_rfl
theorem tf_zero19 : zeroV Tryd.prog 19 = some (.agg #[.pointer none]) := by kernel_rfl
theorem tf_lay19 : layOf Tryd.prog 19 = some ([(0, 1)], [.pointer none]) := by kernel_rfl
theorem tf_fo19_0 : fieldOff Tryd.prog 19 0 = some 0 := by kernel_rfl
theorem tf_flat20 : flatB Tryd.prog 20 = true := by kernel_rfl
theorem tf_sz20 : sizeN Tryd.prog 20 1 = true := by kernel_rfl
theorem tf_zero20 : zeroV Tryd.prog 20 = some (.nilIface) := by kernel_rfl
theorem tf_flat21 : flatB Tryd.prog 21 = true := by kernel_rfl
theorem tf_sz21 : sizeN Tryd.prog 21 1 = true := by kernel_rfl
theorem tf_zero21 : zeroV Tryd.prog 21 = some (.int .i32 0) := by kernel_rfl
theorem tf_flat22 : flatB Tryd.prog 22 = true := by kernel_rfl
theorem tf_sz22 : sizeN Tryd.prog 22 1 = true := by kernel_rfl
theorem tf_zero22 : zeroV Tryd.prog 22 = some (.slice none 0 0) := by kernel_rfl
theorem tf_el22 : ElemOk Tryd.prog 22 67 tyField (([], []) : List UInt8 × List UInt8) 32 := ElemOk.of Tryd.underlying22 (by kernel_rfl) (by kernel_rfl) rfl
theorem tf_sz23 : sizeN Tryd.prog 23 4 = true := by kernel_rfl
theorem tf_agg23 : aggN Tryd.prog 23 = some 4 := by kernel_rfl
theorem tf_zero23 : zeroV Tryd.prog 23 = some (.agg #[str [], str [], .int .i64 0, .slice none 0 0]) := by kernel_rfl
theorem tf_lay23 : layOf Tryd.prog 23 = some ([(0, 1), (1, 1), (2, 1), (3, 1)], [str [], str [], .int .i64 0, .slice none 0 0]) := by kernel_rfl
theorem tf_fo23_0 : fieldOff Tryd.prog 23 0 = some 0 := by kernel_rfl
theorem tf_fo23_1 : fieldOff Tryd.prog 23 1 = some 1 := by kernel_rfl
theorem tf_fo23_2 : fieldOff Tryd.prog 23 2 = some 2 := by kernel_rfl
theorem tf_fo23_3 : fieldOff Tryd.prog 23 3 = some 3 := by kernel_rfl
theorem tf_sz24 : sizeN Tryd.prog 24 4 = true := by kernel_rfl
theorem tf_agg24 : aggN Tryd.prog 24 = some 4 := by kernel_rfl
theorem tf_zero24 : zeroV Tryd.prog 24 = some (.agg #[str [], str [], .int .i64 0, .slice none 0 0]) := by kernel_rfl
theorem tf_lay24 : layOf Tryd.prog 24 = some ([(0, 1), (1, 1), (2, 1), (3, 1)], [str [], str [], .int .i64 0, .slice none 0 0]) := by kernel_rfl
theorem tf_fo24_0 : fieldOff Tryd.prog 24 0 = some 0 := by kernel_rfl
theorem tf_fo24_1 : fieldOff Tryd.prog 24 1 = some 1 := by kernel_rfl
theorem tf_fo24_2 : fieldOff Tryd.prog 24 2 = some 2 := by kernel_rfl
theorem tf_fo24_3 : fieldOff Tryd.prog 24 3 = some 3 := by kernel_rfl
theorem tf_flat25 : flatB Tryd.prog 25 = true := by kernel_rfl
theorem tf_sz25 : sizeN Tryd.prog 25 1 = true := by kernel_rfl
theorem tf_zero25 : zeroV Tryd.prog 25 = some (.slice none 0 0) := by kernel_rfl
theorem tf_el25 : ElemOk Tryd.prog 25 5 tyB (0 : UInt8) 1 := ElemOk.of Tryd.underlying25 (by kernel_rfl) (by kernel_rfl) rfl
theorem tf_flat26 : flatB Tryd.prog 26 = true := by kernel_rfl
theorem tf_sz26 : sizeN Tryd.prog 26 1 = true := by kernel_rfl
theorem tf_zero26 : zeroV Tryd.prog 26 = some (.nilFunc) := by kernel_rfl
theorem tf_flat27 : flatB Tryd.prog 27 = true := by kernel_rfl
theorem tf_sz27 : sizeN Tryd.prog 27 1 = true := by kernel_rfl
theorem tf_zero27 : zeroV Tryd.prog 27 = some (.nilFunc) := by kernel_rfl
theorem tf_flat28 : flatB Tryd.prog 28 = true := by kernel_rfl
theorem tf_sz28 : sizeN Tryd.prog 28 1 = true := by kernel_rfl
theorem tf_zero28 : zeroV Tryd.prog 28 = some (.nilFunc) := by kernel_rfl
theorem tf_flat29 : flatB Tryd.prog 29 = true := by kernel_rfl
theorem tf_sz29 : sizeN Tryd.prog 29 1 = true := by kernel_rfl
theorem tf_zero29 : zeroV Tryd.prog 29 = some (.nilFunc) := by kernel_rfl
theorem tf_flat31 : flatB Tryd.prog 31 = true := by kernel_rfl
theorem tf_sz31 : sizeN Tryd.prog 31 1 = true := by kernel_rfl
theorem tf_zero31 : zeroV Tryd.prog 31 = some (.nilFunc) := by kernel_rfl
theorem tf_flat33 : flatB Tryd.prog 33 = true := by kernel_rfl
theorem tf_sz33 : sizeN Tryd.prog 33 1 = true := by kernel_rfl
theorem tf_zero33 : zeroV Tryd.prog 33 = some (.nilFunc) := by kernel_rfl
theorem tf_flat34 : flatB Tryd.prog 34 = true := by kernel_rfl
theorem tf_sz34 : sizeN Tryd.prog 34 1 = true := by kernel_rfl
theorem tf_zero34 : zeroV Tryd.prog 34 = some (.nilFunc) := by kernel_rfl
theorem tf_flat35 : flatB Tryd.prog 35 = true := by kernel_rfl
theorem tf_sz35 : sizeN Tryd.prog 35 1 = true := by kernel_rfl
theorem tf_zero35 : zeroV Tryd.prog 35 = some (.nilFunc) := by kernel_rfl
theorem tf_flat36 : flatB Tryd.prog 36 = true := by kernel_rfl
theorem tf_sz36 : sizeN Tryd.prog 36 1 = true := by kernel_rfl
theorem tf_zero36 : zeroV Tryd.prog 36 = some (.nilFunc) := by kernel_rfl
theorem tf_flat37 : flatB Tryd.prog 37 = true := by kernel_rfl
theorem tf_sz37 : sizeN Tryd.prog 37 1 = true := by kernel_rfl
theorem tf_zero37 : zeroV Tryd.prog 37 = some (.nilFunc) := by kernel_rfl
theorem tf_flat38 : flatB Tryd.prog 38 = true := by kernel_rfl
theorem tf_sz38 : sizeN Tryd.prog 38 1 = true := by kernel_rfl
theorem tf_zero38 : zeroV Tryd.prog 38 = some (.slice none 0 0) := by kernel_rfl
theorem tf_el38 : ElemOk Tryd.prog 38 9 tyS ([] : List UInt8) 16 := ElemOk.of Tryd.underlying38 (by kernel_rfl) (by kernel_rfl) rfl
theorem tf_flat40 : flatB Tryd.prog 40 = true := by kernel_rfl
theorem tf_sz40 : sizeN Tryd.prog 40 1 = true := by kernel_rfl
theorem tf_zero40 : zeroV Tryd.prog 40 = some (.nilFunc) := by kernel_rfl
theorem tf_flat41 : flatB Tryd.prog 41 = true := by kernel_rfl
theorem tf_sz41 : sizeN Tryd.prog 41 1 = true := by kernel_rfl
theorem tf_zero41 : zeroV Tryd.prog 41 = some (.nilFunc) := by kernel_rfl
theorem tf_flat42 : flatB Tryd.prog 42 = true := by kernel_rfl
theorem tf_sz42 : sizeN Tryd.prog 42 1 = true := by kernel_rfl
theorem tf_zero42 : zeroV Tryd.prog 42 = some (.nilFunc) := by kernel_rfl
theorem tf_flat43 : flatB Tryd.prog 43 = true := by kernel_rfl
theorem tf_sz43 : sizeN Tryd.prog 43 1 = true := by kernel_rfl
theorem tf_zero43 : zeroV Tryd.prog 43 = some (.nilFunc) := by kernel_rfl
theorem tf_flat44 : flatB Tryd.prog 44 = true := by kernel_rfl
theorem tf_sz44 : sizeN Tryd.prog 44 1 = true := by kernel_rfl
theorem tf_zero44 : zeroV Tryd.prog 44 = some (.slice none 0 0) := by kernel_rfl
theorem tf_flat45 : flatB Tryd.prog 45 = true := by kernel_rfl
theorem tf_sz45 : sizeN Tryd.prog 45 1 = true := by kernel_rfl
theorem tf_zero45 : zeroV Tryd.prog 45 = some (.slice none 0 0) := by kernel_rfl
theorem tf_sz46 : sizeN Tryd.prog 46 6 = true := by kernel_rfl
theorem tf_agg46 : aggN Tryd.prog 46 = some 6 := by kernel_rfl
theorem tf_zero46 : zeroV Tryd.prog 46 = some (.agg #[.int .i64 0, .int .i64 0, .slice none 0 0, .slice none 0 0, .slice none 0 0, .slice none 0 0]) := by kernel_rfl
theorem tf_lay46 : layOf Tryd.prog 46 = some ([(0, 1), (1, 1), (2, 1), (3, 1), (4, 1), (5, 1)], [.int .i64 0, .int .i64 0, .slice none 0 0, .slice none 0 0, .slice none 0 0, .slice none 0 0]) := by kernel_rfl
theorem tf_fo46_0 : fieldOff Tryd.prog 46 0 = some 0 := by kernel_rfl
theorem tf_fo46_1 : fieldOff Tryd.prog 46 1 = some 1 := by kernel_rfl
theorem tf_fo46_2 : fieldOff Tryd.prog 46 2 = some 2 := by kernel_rfl
theorem tf_fo46_3 : fieldOff Tryd.prog 46 3 = some 3 := by kernel_rfl
theorem tf_fo46_4 : fieldOff Tryd.prog 46 4 = some 4 := by kernel_rfl
theorem tf_fo46_5 : fieldOff Tryd.prog 46 5 = some 5 := by kernel_rfl
theorem tf_sz47 : sizeN Tryd.prog 47 6 = true := by kernel_rfl
theorem tf_agg47 : aggN Tryd.prog 47 = some 6 := by kernel_rfl
theorem tf_zero47 : zeroV Tryd.prog 47 = some (.agg #[.int .i64 0, .int .i64 0, .slice none 0 0, .slice none 0 0, .slice none 0 0, .slice none 0 0]) := by kernel_rfl
theorem tf_lay47 : layOf Tryd.prog 47 = some ([(0, 1), (1, 1), (2, 1), (3, 1), (4, 1), (5, 1)], [.int .i64 0, .int .i64 0, .slice none 0 0, .slice none 0 0, .slice none 0 0, .slice none 0 0]) := by kernel_rfl
theorem tf_fo47_0 : fieldOff Tryd.prog 47 0 = some 0 := by kernel_rfl
theorem tf_fo47_1 : fieldOff Tryd.prog 47 1 = some 1 := by kernel_rfl
theorem tf_fo47_2 : fieldOff Tryd.prog 47 2 = some 2 := by kernel_rfl
theorem tf_fo47_3 : fieldOff Tryd.prog 47 3 = some 3 := by kernel_rfl
theorem tf_fo47_4 : fieldOff Tryd.prog 47 4 = some 4 := by kernel_rfl
theorem tf_fo47_5 : fieldOff Tryd.prog 47 5 = some 5 := by kernel_rfl
theorem tf_flat48 : flatB Tryd.prog 48 = true := by kernel_rfl
theorem tf_sz48 : sizeN Tryd.prog 48 1 = true := by kernel_rfl
theorem tf_zero48 : zeroV Tryd.prog 48 = some (.nilFunc) := by kernel_rfl
theorem tf_flat49 : flatB Tryd.prog 49 = true := by kernel_rfl
theorem tf_sz49 : sizeN Tryd.prog 49 1 = true := by kernel_rfl
theorem tf_zero49 : zeroV Tryd.prog 49 = some (.nilFunc) := by kernel_rfl
theorem tf_sz50 : sizeN Tryd.prog 50 5 = true := by kernel_rfl
theorem tf_agg50 : aggN Tryd.prog 50 = some 5 := by kernel_rfl
theorem tf_zero50 : zeroV Tryd.prog 50 = some (.agg #[str [], .int .i64 0, .int .i64 0, .int .i64 0, str []]) := by kernel_rfl
theorem tf_lay50 : layOf Tryd.prog 50 = some ([(0, 1), (1, 1), (2, 1), (3, 1), (4, 1)], [str [], .int .i64 0, .int .i64 0, .int .i64 0, str []]) := by kernel_rfl
theorem tf_fo50_0 : fieldOff Tryd.prog 50 0 = some 0 := by kernel_rfl
theorem tf_fo50_1 : fieldOff Tryd.prog 50 1 = some 1 := by kernel_rfl
theorem tf_fo50_2 : fieldOff Tryd.prog 50 2 = some 2 := by kernel_rfl
theorem tf_fo50_3 : fieldOff Tryd.prog 50 3 = some 3 := by kernel_rfl
theorem tf_fo50_4 : fieldOff Tryd.prog 50 4 = some 4 := by kernel_rfl
theorem tf_sz51 : sizeN Tryd.prog 51 5 = true := by kernel_rfl
theorem tf_agg51 : aggN Tryd.prog 51 = some 5 := by kernel_rfl
theorem tf_zero51 : zeroV Tryd.prog 51 = some (.agg #[str [], .int .i64 0, .int .i64 0, .int .i64 0, str []]) := by kernel_rfl
theorem tf_lay51 : layOf Tryd.prog 51 = some ([(0, 1), (1, 1), (2, 1), (3, 1), (4, 1)], [str [], .int .i64 0, .int .i64 0, .int .i64 0, str []]) := by kernel_rfl
theorem tf_fo51_0 : fieldOff Tryd.prog 51 0 = some 0 := by kernel_rfl
theorem tf_fo51_1 : fieldOff Tryd.prog 51 1 = some 1 := by kernel_rfl
theorem tf_fo51_2 : fieldOff Tryd.prog 51 2 = some 2 := by kernel_rfl
theorem tf_fo51_3 : fieldOff Tryd.prog 51 3 = some 3 := by kernel_rfl
theorem tf_fo51_4 : fieldOff Tryd.prog 51 4 = some 4 := by kernel_rfl
theorem tf_flat52 : flatB Tryd.prog 52 = true := by kernel_rfl
theorem tf_sz52 : sizeN Tryd.prog 52 1 = true := by kernel_rfl
theorem tf_zero52 : zeroV Tryd.prog 52 = some (.nilFunc) := by kernel_rfl
theorem tf_sz53 : sizeN Tryd.prog 53 4 = true := by kernel_rfl
theorem tf_agg53 : aggN Tryd.prog 53 = some 4 := by kernel_rfl
theorem tf_zero53 : zeroV Tryd.prog 53 = some (.agg #[.int .i64 0, .slice none 0 0, .slice none 0 0, .bool false]) := by kernel_rfl
theorem tf_lay53 : layOf Tryd.prog 53 = some ([(0, 1), (1, 1), (2, 1), (3, 1)], [.int .i64 0, .slice none 0 0, .slice none 0 0, .bool false]) := by kernel_rfl
theorem tf_fo53_0 : fieldOff Tryd.prog 53 0 = some 0 := by kernel_rfl
theorem tf_fo53_1 : fieldOff Tryd.prog 53 1 = some 1 := by kernel_rfl
theorem tf_fo53_2 : fieldOff Tryd.prog 53 2 = some 2 := by kernel_rfl
theorem tf_fo53_3 : fieldOff Tryd.prog 53 3 = some 3 := by kernel_rfl
theorem tf_sz54 : sizeN Tryd.prog 54 4 = true := by kernel_rfl
theorem tf_agg54 : aggN Tryd.prog 54 = some 4 := by kernel_rfl
theorem tf_zero54 : zeroV Tryd.prog 54 = some (.agg #[.int .i64 0, .slice none 0 0, .slice none 0 0, .bool false]) := by kernel_rfl
theorem tf_lay54 : layOf Tryd.prog 54 = some ([(0, 1), (1, 1), (2, 1), (3, 1)], [.int .i64 0, .slice none 0 0, .slice none 0 0, .bool false]) := by kernel_rfl
theorem tf_fo54_0 : fieldOff Tryd.prog 54 0 = some 0 := by kernel_rfl
theorem tf_fo54_1 : fieldOff Tryd.prog 54 1 = some 1 := by kernel_rfl
theorem tf_fo54_2 : fieldOff Tryd.prog 54 2 = some 2 := by kernel_rfl
theorem tf_fo54_3 : fieldOff Tryd.prog 54 3 = some 3 := by kernel_rfl
theorem tf_flat55 : flatB Tryd.prog 55 = true := by kernel_rfl
theorem tf_sz55 : sizeN Tryd.prog 55 1 = true := by kernel_rfl
theorem tf_zero55 : zeroV Tryd.prog 55 = some (.nilFunc) := by kernel_rfl
theorem tf_flat56 : flatB Tryd.prog 56 = true := by kernel_rfl
theorem tf_sz56 : sizeN Tryd.prog 56 1 = true := by kernel_rfl
theorem tf_zero56 : zeroV Tryd.prog 56 = some (.int .i64 0) := by kernel_rfl
theorem tf_flat58 : flatB Tryd.prog 58 = true := by kernel_rfl
theorem tf_sz58 : sizeN Tryd.prog 58 1 = true := by kernel_rfl
theorem tf_zero58 : zeroV Tryd.prog 58 = some (.nilFunc) := by kernel_rfl
theorem tf_flat59 : flatB Tryd.prog 59 = true := by kernel_rfl
theorem tf_sz59 : sizeN Tryd.prog 59 1 = true := by kernel_rfl
theorem tf_zero59 : zeroV Tryd.prog 59 = some (.nilFunc) := by kernel_rfl
theorem tf_flat60 : flatB Tryd.prog 60 = true := by kernel_rfl
theorem tf_sz60 : sizeN Tryd.prog 60 1 = true := by kernel_rfl
theorem tf_zero60 : zeroV Tryd.prog 60 = some (.nilFunc) := by kernel_rfl
theorem tf_flat61 : flatB Tryd.prog 61 = true := by kernel_rfl
theorem tf_sz61 : sizeN Tryd.prog 61 1 = true := by kernel_rfl
theorem tf_zero61 : zeroV Tryd.prog 61 = some (.nilFunc) := by kernel_rfl
theorem tf_flat62 : flatB Tryd.prog 62 = true := by kernel_rfl
theorem tf_sz62 : sizeN Tryd.prog 62 1 = true := by kernel_rfl
theorem tf_zero62 : zeroV Tryd.prog 62 = some (.nilFunc) := by kernel_rfl
theorem tf_flat63 : flatB Tryd.prog 63 = true := by kernel_rfl
theorem tf_sz63 : sizeN Tryd.prog 63 1 = true := by kernel_rfl
theorem tf_zero63 : zeroV Tryd.prog 63 = some (.nilFunc) := by kernel_rfl
theorem tf_flat65 : flatB Tryd.prog 65 = true := by kernel_rfl
theorem tf_sz65 : sizeN Tryd.prog 65 1 = true := by kernel_rfl
theorem tf_zero65 : zeroV Tryd.prog 65 = some (.nilFunc) := by kernel_rfl
theorem tf_sz66 : sizeN Tryd.prog 66 2 = true := by kernel_rfl
theorem tf_agg66 : aggN Tryd.prog 66 = some 2 := by kernel_rfl
theorem tf_zero66 : zeroV Tryd.prog 66 = some (.agg #[str [], str []]) := by kernel_rfl
theorem tf_lay66 : layOf Tryd.prog 66 = some ([(0, 1), (1, 1)], [str [], str []]) := by kernel_rfl
theorem tf_fo66_0 : fieldOff Tryd.prog 66 0 = some 0 := by kernel_rfl
theorem tf_fo66_1 : fieldOff Tryd.prog 66 1 = some 1 := by kernel_rfl
theorem tf_sz67 : sizeN Tryd.prog 67 2 = true := by kernel_rfl
theorem tf_agg67 : aggN Tryd.prog 67 = some 2 := by kernel_rfl
theorem tf_zero67 : zeroV Tryd.prog 67 = some (.agg #[str [], str []]) := by kernel_rfl
theorem tf_lay67 : layOf Tryd.prog 67 = some ([(0, 1), (1, 1)], [str [], str []]) := by kernel_rfl
theorem tf_fo67_0 : fieldOff Tryd.prog 67 0 = some 0 := by kernel_rfl
theorem tf_fo67_1 : fieldOff Tryd.prog 67 1 = some 1 := by kernel_rfl
theorem tf_flat68 : flatB Tryd.prog 68 = true := by kernel_rfl
theorem tf_sz68 : sizeN Tryd.prog 68 1 = true := by kernel_rfl
theorem tf_zero68 : zeroV Tryd.prog 68 = some (.nilFunc) := by kernel_rfl
theorem tf_flat69 : flatB Tryd.prog 69 = true := by kernel_rfl
theorem tf_sz69 : sizeN Tryd.prog 69 1 = true := by kernel_rfl
theorem tf_zero69 : zeroV Tryd.prog 69 = some (.nilFunc) := by kernel_rfl
theorem tf_flat70 : flatB Tryd.prog 70 = true := by kernel_rfl
theorem tf_sz70 : sizeN Tryd.prog 70 1 = true := by kernel_rfl
theorem tf_zero70 : zeroV Tryd.prog 70 = some (.nilFunc) := by kernel_rfl
theorem tf_flat72 : flatB Tryd.prog 72 = true := by kernel_rfl
theorem tf_sz72 : sizeN Tryd.prog 72 1 = true := by kernel_rfl
theorem tf_zero72 : zeroV Tryd.prog 72 = some (.nilFunc) := by kernel_rfl
theorem tf_flat73 : flatB Tryd.prog 73 = true := by kernel_rfl
theorem tf_sz73 : sizeN Tryd.prog 73 1 = true := by kernel_rfl
theorem tf_zero73 : zeroV Tryd.prog 73 = some (.nilFunc) := by kernel_rfl
theorem tf_flat74 : flatB Tryd.prog 74 = true := by kernel_rfl
theorem tf_sz74 : sizeN Tryd.prog 74 1 = true := by kernel_rfl
theorem tf_zero74 : zeroV Tryd.prog 74 = some (.nilFunc) := by kernel_rfl
theorem tf_flat75 : flatB Tryd.prog 75 = true := by kernel_rfl
theorem tf_sz75 : sizeN Tryd.prog 75 1 = true := by kernel_rfl
theorem tf_zero75 : zeroV Tryd.prog 75 = some (.nilFunc) := by kernel_rfl
theorem tf_flat76 : flatB Tryd.prog 76 = true := by kernel_rfl
theorem tf_sz76 : sizeN Tryd.prog 76 1 = true := by kernel_rfl
theorem tf_zero76 : zeroV Tryd.prog 76 = some (.nilFunc) := by kernel_rfl
theorem tf_flat78 : flatB Tryd.prog 78 = true := by kernel_rfl
theorem tf_sz78 : sizeN Tryd.prog 78 1 = true := by kernel_rfl
theorem tf_zero78 : zeroV Tryd.prog 78 = some (.map none) := by kernel_rfl
theorem tf_flat79 : flatB Tryd.prog 79 = true := by kernel_rfl
theorem tf_sz79 : sizeN Tryd.prog 79 1 = true := by kernel_rfl
theorem tf_zero79 : zeroV Tryd.prog 79 = some (.nilFunc) := by kernel_rfl
theorem tf_sz80 : sizeN Tryd.prog 80 2 = true := by kernel_rfl
theorem tf_agg80 : aggN Tryd.prog 80 = some 2 := by kernel_rfl
theorem tf_zero80 : zeroV Tryd.prog 80 = some (.agg #[.int .i64 0, .int .i64 0]) := by kernel_rfl
theorem tf_lay80 : layOf Tryd.prog 80 = some ([(0, 1), (1, 1)], [.int .i64 0, .int .i64 0]) := by kernel_rfl
theorem tf_fo80_0 : fieldOff Tryd.prog 80 0 = some 0 := by kernel_rfl
theorem tf_fo80_1 : fieldOff Tryd.prog 80 1 = some 1 := by kernel_rfl
theorem tf_sz81 : sizeN Tryd.prog 81 2 = true := by kernel_rfl
theorem tf_agg81 : aggN Tryd.prog 81 = some 2 := by kernel_rfl
theorem tf_zero81 : zeroV Tryd.prog 81 = some (.agg #[.int .i64 0, .int .i64 0]) := by kernel_rfl
theorem tf_lay81 : layOf Tryd.prog 81 = some ([(0, 1), (1, 1)], [.int .i64 0, .int .i64 0]) := by kernel_rfl
theorem tf_fo81_0 : fieldOff Tryd.prog 81 0 = some 0 := by kernel_rfl
theorem tf_fo81_1 : fieldOff Tryd.prog 81 1 = some 1 := by kernel_rfl
theorem tf_flat83 : flatB Tryd.prog 83 = true := by kernel_rfl
theorem tf_sz83 : sizeN Tryd.prog 83 1 = true := by kernel_rfl
theorem tf_zero83 : zeroV Tryd.prog 83 = some (.nilFunc) := by kernel_rfl
theorem tf_flat84 : flatB Tryd.prog 84 = true := by kernel_rfl
theorem tf_sz84 : sizeN Tryd.prog 84 1 = true := by kernel_rfl
theorem tf_zero84 : zeroV Tryd.prog 84 = some (.nilFunc) := by kernel_rfl
theorem tf_flat86 : flatB Tryd.prog 86 = true := by kernel_rfl
theorem tf_sz86 : sizeN Tryd.prog 86 1 = true := by kernel_rfl
theorem tf_zero86 : zeroV Tryd.prog 86 = some (.nilFunc) := by kernel_rfl
theorem tf_flat87 : flatB Tryd.prog 87 = true := by kernel_rfl
theorem tf_sz87 : sizeN Tryd.prog 87 1 = true := by kernel_rfl
theorem tf_zero87 : zeroV Tryd.prog 87 = some (.nilFunc) := by kernel_rfl
theorem tf_flat88 : flatB Tryd.prog 88 = true := by kernel_rfl
theorem tf_sz88 : sizeN Tryd.prog 88 1 = true := by kernel_rfl
theorem tf_zero88 : zeroV Tryd.prog 88 = some (.nilFunc) := by kernel_rfl
theorem tf_flat89 : flatB Tryd.prog 89 = true := by kernel_rfl
theorem tf_sz89 : sizeN Tryd.prog 89 1 = true := by kernel_rfl
theorem tf_zero89 : zeroV Tryd.prog 89 = some (.nilFunc) := by kernel_rfl
theorem tf_sz90 : sizeN Tryd.prog 90 3 = true := by kernel_rfl
theorem tf_agg90 : aggN Tryd.prog 90 = some 3 := by kernel_rfl
theorem tf_zero90 : zeroV Tryd.prog 90 = some (.agg #[str [], .int .i64 0, .int .i64 0]) := by kernel_rfl
theorem tf_lay90 : layOf Tryd.prog 90 = some ([(0, 1), (1, 1), (2, 1)], [str [], .int .i64 0, .int .i64 0]) := by kernel_rfl
theorem tf_fo90_0 : fieldOff Tryd.prog 90 0 = some 0 := by kernel_rfl
theorem tf_fo90_1 : fieldOff Tryd.prog 90 1 = some 1 := by kernel_rfl
theorem tf_fo90_2 : fieldOff Tryd.prog 90 2 = some 2 := by kernel_rfl
theorem tf_sz91 : sizeN Tryd.prog 91 3 = true := by kernel_rfl
theorem tf_agg91 : aggN Tryd.prog 91 = some 3 := by kernel_rfl
theorem tf_zero91 : zeroV Tryd.prog 91 = some (.agg #[str [], .int .i64 0, .int .i64 0]) := by kernel_rfl
theorem tf_lay91 : layOf Tryd.prog 91 = some ([(0, 1), (1, 1), (2, 1)], [str [], .int .i64 0, .int .i64 0]) := by kernel_rfl
theorem tf_fo91_0 : fieldOff Tryd.prog 91 0 = some 0 := by kernel_rfl
theorem tf_fo91_1 : fieldOff Tryd.prog 91 1 = some 1 := by kernel_rfl
theorem tf_fo91_2 : fieldOff Tryd.prog 91 2 = some 2 := by kernel_rfl
theorem tf_flat92 : flatB Tryd.prog 92 = true := by kernel_rfl
theorem tf_sz92 : sizeN Tryd.prog 92 1 = true := by kernel_rfl
theorem tf_zero92 : zeroV Tryd.prog 92 = some (.nilFunc) := by kernel_rfl
theorem tf_flat93 : flatB Tryd.prog 93 = true := by kernel_rfl
theorem tf_sz93 : sizeN Tryd.prog 93 1 = true := by kernel_rfl
theorem tf_zero93 : zeroV Tryd.prog 93 = some (.nilFunc) := by kernel_rfl
theorem tf_flat94 : flatB Tryd.prog 94 = true := by kernel_rfl
theorem tf_sz94 : sizeN Tryd.prog 94 1 = true := by kernel_rfl
theorem tf_zero94 : zeroV Tryd.prog 94 = some (.slice none 0 0) := by kernel_rfl
theorem tf_el94 : ElemOk Tryd.prog 94 3 tyI (0 : Int) 8 := ElemOk.of Tryd.underlying94 (by kernel_rfl) (by kernel_rfl) rfl
theorem tf_flat95 : flatB Tryd.prog 95 = true := by kernel_rfl
theorem tf_sz95 : sizeN Tryd.prog 95 1 = true := by kernel_rfl
theorem tf_zero95 : zeroV Tryd.prog 95 = some (.nilFunc) := by kernel_rfl
theorem tf_flat96 : flatB Tryd.prog 96 = true := by kernel_rfl
theorem tf_sz96 : sizeN Tryd.prog 96 1 = true := by kernel_rfl
theorem tf_zero96 : zeroV Tryd.prog 96 = some (.pointer none) := by kernel_rfl
theorem tf_sz97 : sizeN Tryd.prog 97 2 = true := by kernel_rfl
theorem tf_agg97 : aggN Tryd.prog 97 = some 2 := by kernel_rfl
theorem tf_zero97 : zeroV Tryd.prog 97 = some (.agg #[.pointer none, .slice none 0 0]) := by kernel_rfl
theorem tf_lay97 : layOf Tryd.prog 97 = some ([(0, 1), (1, 1)], [.pointer none, .slice none 0 0]) := by kernel_rfl
theorem tf_fo97_0 : fieldOff Tryd.prog 97 0 = some 0 := by kernel_rfl
theorem tf_fo97_1 : fieldOff Tryd.prog 97 1 = some 1 := by kernel_rfl
theorem tf_sz98 : sizeN Tryd.prog 98 2 = true := by kernel_rfl
theorem tf_agg98 : aggN Tryd.prog 98 = some 2 := by kernel_rfl
theorem tf_zero98 : zeroV Tryd.prog 98 = some (.agg #[.pointer none, .slice none 0 0]) := by kernel_rfl
theorem tf_lay98 : layOf Tryd.prog 98 = some ([(0, 1), (1, 1)], [.pointer none, .slice none 0 0]) := by kernel_rfl
theorem tf_fo98_0 : fieldOff Tryd.prog 98 0 = some 0 := by kernel_rfl
theorem tf_fo98_1 : fieldOff Tryd.prog 98 1 = some 1 := by kernel_rfl
theorem tf_flat99 : flatB Tryd.prog 99 = true := by kernel_rfl
theorem tf_sz99 : sizeN Tryd.prog 99 1 = true := by kernel_rfl
theorem tf_zero99 : zeroV Tryd.prog 99 = some (.nilIface) := by kernel_rfl
theorem tf_flat100 : flatB Tryd.prog 100 = true := by kernel_rfl
theorem tf_sz100 : sizeN Tryd.prog 100 1 = true := by kernel_rfl
theorem tf_zero100 : zeroV Tryd.prog 100 = some (.nilIface) := by kernel_rfl
theorem tf_flat102 : flatB Tryd.prog 102 = true := by kernel_rfl
theorem tf_sz102 : sizeN Tryd.prog 102 1 = true := by kernel_rfl
theorem tf_zero102 : zeroV Tryd.prog 102 = some (.nilFunc) := by kernel_rfl
theorem tf_flat103 : flatB Tryd.prog 103 = true := by kernel_rfl
theorem tf_sz103 : sizeN Tryd.prog 103 1 = true := by kernel_rfl
theorem tf_zero103 : zeroV Tryd.prog 103 = some (.nilFunc) := by kernel_rfl
theorem tf_flat104 : flatB Tryd.prog 104 = true := by kernel_rfl
theorem tf_sz104 : sizeN Tryd.prog 104 1 = true := by kernel_rfl
theorem tf_zero104 : zeroV Tryd.prog 104 = some (.nilFunc) := by kernel_rfl
theorem tf_flat105 : flatB Tryd.prog 105 = true := by kernel_rfl
theorem tf_sz105 : sizeN Tryd.prog 105 1 = true := by kernel_rfl
theorem tf_zero105 : zeroV Tryd.prog 105 = some (.nilFunc) := by kernel_rfl
theorem tf_flat106 : flatB Tryd.prog 106 = true := by kernel_rfl
theorem tf_sz106 : sizeN Tryd.prog 106 1 = true := by kernel_rfl
theorem tf_zero106 : zeroV Tryd.prog 106 = some (.nilFunc) := by kernel_rfl
theorem tf_sz107 : sizeN Tryd.prog 107 1 = true := by kernel_rfl
theorem tf_agg107 : aggN Tryd.prog 107 = some 1 := by kernel_rfl
theorem tf_zero107 : zeroV Tryd.prog 107 = some (.agg #[str []]) := by kernel_rfl
theorem tf_lay107 : layOf Tryd.prog 107 = some ([(0, 1)], [str []]) := by kernel_rfl
theorem tf_fo107_0 : fieldOff Tryd.prog 107 0 = some 0 := by kernel_rfl
theorem tf_sz108 : sizeN Tryd.prog 108 1 = true := by kernel_rfl
theorem tf_agg108 : aggN Tryd.prog 108 = some 1 := by kernel_rfl
theorem tf_zero108 : zeroV Tryd.prog 108 = some (.agg #[str []]) := by kernel_rfl
theorem tf_lay108 : layOf Tryd.prog 108 = some ([(0, 1)], [str []]) := by kernel_rfl
theorem tf_fo108_0 : fieldOff Tryd.prog 108 0 = some 0 := by kernel_rfl
theorem tf_flat109 : flatB Tryd.prog 109 = true := by kernel_rfl
theorem tf_sz109 : sizeN Tryd.prog 109 1 = true := by kernel_rfl
theorem tf_zero109 : zeroV Tryd.prog 109 = some (.map none) := by kernel_rfl
theorem tf_flat111 : flatB Tryd.prog 111 = true := by kernel_rfl
theorem tf_sz111 : sizeN Tryd.prog 111 1 = true := by kernel_rfl
theorem tf_zero111 : zeroV Tryd.prog 111 = some (.nilFunc) := by kernel_rfl
theorem tf_flat112 : flatB Tryd.prog 112 = true := by kernel_rfl
theorem tf_sz112 : sizeN Tryd.prog 112 1 = true := by kernel_rfl
theorem tf_zero112 : zeroV Tryd.prog 112 = some (.nilFunc) := by kernel_rfl
theorem tf_flat114 : flatB Tryd.prog 114 = true := by kernel_rfl
theorem tf_sz114 : sizeN Tryd.prog 114 1 = true := by kernel_rfl
theorem tf_zero114 : zeroV Tryd.prog 114 = some (.nilFunc) := by kernel_rfl
theorem tf_flat115 : flatB Tryd.prog 115 = true := by kernel_rfl
theorem tf_sz115 : sizeN Tryd.prog 115 1 = true := by kernel_rfl
theorem tf_zero115 : zeroV Tryd.prog 115 = some (.nilFunc) := by kernel_rfl
theorem tf_flat116 : flatB Tryd.prog 116 = true := by kernel_rfl
theorem tf_sz116 : sizeN Tryd.prog 116 1 = true := by kernel_rfl
theorem tf_zero116 : zeroV Tryd.prog 116 = some (.nilFunc) := by kernel_rfl
theorem tf_flat117 : flatB Tryd.prog 117 = true := by kernel_rfl
theorem tf_sz117 : sizeN Tryd.prog 117 1 = true := by kernel_rfl
theorem tf_zero117 : zeroV Tryd.prog 117 = some (.nilFunc) := by kernel_rfl
theorem tf_flat118 : flatB Tryd.prog 118 = true := by kernel_rfl
theorem tf_sz118 : sizeN Tryd.prog 118 1 = true := by kernel_rfl
theorem tf_zero118 : zeroV Tryd.prog 118 = some (.nilFunc) := by kernel_rfl
theorem tf_flat119 : flatB Tryd.prog 119 = true := by kernel_rfl
theorem tf_sz119 : sizeN Tryd.prog 119 1 = true := by kernel_rfl
theorem tf_zero119 : zeroV Tryd.prog 119 = some (.nilFunc) := by kernel_rfl
theorem tf_flat120 : flatB Tryd.prog 120 = true := by kernel_rfl
theorem tf_sz120 : sizeN Tryd.prog 120 1 = true := by kernel_rfl
theorem tf_zero120 : zeroV Tryd.prog 120 = some (.nilFunc) := by kernel_rfl
theorem tf_flat121 : flatB Tryd.prog 121 = true := by kernel_rfl
theorem tf_sz121 : sizeN Tryd.prog 121 1 = true := by kernel_rfl
theorem tf_zero121 : zeroV Tryd.prog 121 = some (.nilFunc) := by kernel_rfl
theorem tf_flat122 : flatB Tryd.prog 122 = true := by kernel_rfl
theorem tf_sz122 : sizeN Tryd.prog 122 1 = true := by kernel_rfl
theorem tf_zero122 : zeroV Tryd.prog 122 = some (.nilFunc) := by kernel_rfl
theorem tf_flat124 : flatB Tryd.prog 124 = true := by kernel_rfl
theorem tf_sz124 : sizeN Tryd.prog 124 1 = true := by kernel_rfl
theorem tf_zero124 : zeroV Tryd.prog 124 = some (.nilFunc) := by kernel_rfl
theorem tf_sz125 : sizeN Tryd.prog 125 2 = true := by kernel_rfl
theorem tf_agg125 : aggN Tryd.prog 125 = some 2 := by kernel_rfl
theorem tf_zero125 : zeroV Tryd.prog 125 = some (.agg #[.int .i64 0, .int .i64 0]) := by kernel_rfl
theorem tf_lay125 : layOf Tryd.prog 125 = some ([(0, 1), (1, 1)], [.int .i64 0, .int .i64 0]) := by kernel_rfl
theorem tf_fo125_0 : fieldOff Tryd.prog 125 0 = some 0 := by kernel_rfl
theorem tf_fo125_1 : fieldOff Tryd.prog 125 1 = some 1 := by kernel_rfl
theorem tf_sz126 : sizeN Tryd.prog 126 2 = true := by kernel_rfl
theorem tf_agg126 : aggN Tryd.prog 126 = some 2 := by kernel_rfl
theorem tf_zero126 : zeroV Tryd.prog 126 = some (.agg #[.int .i64 0, .int .i64 0]) := by kernel_rfl
theorem tf_lay126 : layOf Tryd.prog 126 = some ([(0, 1), (1, 1)], [.int .i64 0, .int .i64 0]) := by kernel_rfl
theorem tf_fo126_0 : fieldOff Tryd.prog 126 0 = some 0 := by kernel_rfl
theorem tf_fo126_1 : fieldOff Tryd.prog 126 1 = some 1 := by kernel_rfl
theorem tf_flat127 : flatB Tryd.prog 127 = true := by kernel_rfl
theorem tf_sz127 : sizeN Tryd.prog 127 1 = true := by kernel_rfl
theorem tf_zero127 : zeroV Tryd.prog 127 = some (.nilFunc) := by kernel_rfl
theorem tf_flat128 : flatB Tryd.prog 128 = true := by kernel_rfl
theorem tf_sz128 : sizeN Tryd.prog 128 1 = true := by kernel_rfl
theorem tf_zero128 : zeroV Tryd.prog 128 = some (.nilFunc) := by kernel_rfl
theorem tf_flat129 : flatB Tryd.prog 129 = true := by kernel_rfl
theorem tf_sz129 : sizeN Tryd.prog 129 1 = true := by kernel_rfl
theorem tf_zero129 : zeroV Tryd.prog 129 = some (.nilFunc) := by kernel_rfl
theorem tf_flat130 : flatB Tryd.prog 130 = true := by kernel_rfl
theorem tf_sz130 : sizeN Tryd.prog 130 1 = true := by kernel_rfl
theorem tf_zero130 : zeroV Tryd.prog 130 = some (.pointer none) := by kernel_rfl
theorem tf_flat132 : flatB Tryd.prog 132 = true := by kernel_rfl
theorem tf_sz132 : sizeN Tryd.prog 132 1 = true := by kernel_rfl
theorem tf_zero132 : zeroV Tryd.prog 132 = some (.nilFunc) := by kernel_rfl
theorem tf_flat133 : flatB Tryd.prog 133 = true := by kernel_rfl
theorem tf_sz133 : sizeN Tryd.prog 133 1 = true := by kernel_rfl
theorem tf_zero133 : zeroV Tryd.prog 133 = some (.nilFunc) := by kernel_rfl
theorem tf_flat134 : flatB Tryd.prog 134 = true := by kernel_rfl
theorem tf_sz134 : sizeN Tryd.prog 134 1 = true := by kernel_rfl
theorem tf_zero134 : zeroV Tryd.prog 134 = some (.nilFunc) := by kernel_rfl
theorem tf_sz135 : sizeN Tryd.prog 135 256 = true := by kernel_rfl
theorem tf_agg135 : aggN Tryd.prog 135 = some 256 := by kernel_rfl
theorem tf_zero135 : zeroV Tryd.prog 135 = some (.agg (tyBool.cells (List.replicate 256 false)).toArray) := by kernel_rfl
theorem tf_zarr135 : (Value.agg (tyBool.cells (List.replicate 256 false)).toArray).cells = (tyBool.cells (List.replicate 256 false)).toArray := rfl
theorem tf_flat136 : flatB Tryd.prog 136 = true := by kernel_rfl
theorem tf_sz136 : sizeN Tryd.prog 136 1 = true := by kernel_rfl
theorem tf_zero136 : zeroV Tryd.prog 136 = some (.nilFunc) := by kernel_rfl
theorem tf_flat137 : flatB Tryd.prog 137 = true := by kernel_rfl
theorem tf_sz137 : sizeN Tryd.prog 137 1 = true := by kernel_rfl
theorem tf_zero137 : zeroV Tryd.prog 137 = some (.nilFunc) := by kernel_rfl
theorem tf_sz138 : sizeN Tryd.prog 138 256 = true := by kernel_rfl
theorem tf_agg138 : aggN Tryd.prog 138 = some 256 := by kernel_rfl
theorem tf_zero138 : zeroV Tryd.prog 138 = some (.agg (tyBool.cells (List.replicate 256 false)).toArray) := by kernel_rfl
theorem tf_zarr138 : (Value.agg (tyBool.cells (List.replicate 256 false)).toArray).cells = (tyBool.cells (List.replicate 256 false)).toArray := rfl
theorem tf_flat140 : flatB Tryd.prog 140 = true := by kernel_rfl
theorem tf_sz140 : sizeN Tryd.prog 140 1 = true := by kernel_rfl
theorem tf_zero140 : zeroV Tryd.prog 140 = some (.nilFunc) := by kernel_rfl
theorem tf_flat141 : flatB Tryd.prog 141 = true := by kernel_rfl
theorem tf_sz141 : sizeN Tryd.prog 141 1 = true := by kernel_rfl
theorem tf_zero141 : zeroV Tryd.prog 141 = some (.nilFunc) := by kernel_rfl
theorem tf_flat142 : flatB Tryd.prog 142 = true := by kernel_rfl
theorem tf_sz142 : sizeN Tryd.prog 142 1 = true := by kernel_rfl
theorem tf_zero142 : zeroV Tryd.prog 142 = some (.pointer none) := by kernel_rfl
theorem tf_flat143 : flatB Tryd.prog 143 = true := by kernel_rfl
theorem tf_sz143 : sizeN Tryd.prog 143 1 = true := by kernel_rfl
theorem tf_zero143 : zeroV Tryd.prog 143 = some (.nilFunc) := by kernel_rfl
theorem tf_sz144 : sizeN Tryd.prog 144 256 = true := by kernel_rfl
theorem tf_agg144 : aggN Tryd.prog 144 = some 256 := by kernel_rfl
theorem tf_zero144 : zeroV Tryd.prog 144 = some (.agg (tyB.cells (List.replicate 256 (0 : UInt8))).toArray) := by kernel_rfl
theorem tf_zarr144 : (Value.agg (tyB.cells (List.replicate 256 (0 : UInt8))).toArray).cells = (tyB.cells (List.replicate 256 (0 : UInt8))).toArray := rfl
theorem tf_flat145 : flatB Tryd.prog 145 = true := by kernel_rfl
theorem tf_sz145 : sizeN Tryd.prog 145 1 = true := by kernel_rfl
theorem tf_zero145 : zeroV Tryd.prog 145 = some (.nilFunc) := by kernel_rfl
theorem tf_flat146 : flatB Tryd.prog 146 = true := by kernel_rfl
theorem tf_sz146 : sizeN Tryd.prog 146 1 = true := by kernel_rfl
theorem tf_zero146 : zeroV Tryd.prog 146 = some (.nilFunc) := by kernel_rfl
theorem tf_flat147 : flatB Tryd.prog 147 = true := by kernel_rfl
theorem tf_sz147 : sizeN Tryd.prog 147 1 = true := by kernel_rfl
theorem tf_zero147 : zeroV Tryd.prog 147 = some (.nilFunc) := by kernel_rfl
theorem tf_flat148 : flatB Tryd.prog 148 = true := by kernel_rfl
theorem tf_sz148 : sizeN Tryd.prog 148 1 = true := by kernel_rfl
theorem tf_zero148 : zeroV Tryd.prog 148 = some (.nilFunc) := by kernel_rfl
theorem tf_flat149 : flatB Tryd.prog 149 = true := by kernel_rfl
theorem tf_sz149 : sizeN Tryd.prog 149 1 = true := by kernel_rfl
theorem tf_zero149 : zeroV Tryd.prog 149 = some (.pointer none) := by kernel_rfl
theorem tf_flat150 : flatB Tryd.prog 150 = true := by kernel_rfl
theorem tf_sz150 : sizeN Tryd.prog 150 1 = true := by kernel_rfl
theorem tf_zero150 : zeroV Tryd.prog 150 = some (.nilFunc) := by kernel_rfl
theorem tf_flat152 : flatB Tryd.prog 152 = true := by kernel_rfl
theorem tf_sz152 : sizeN Tryd.prog 152 1 = true := by kernel_rfl
theorem tf_zero152 : zeroV Tryd.prog 152 = some (.nilFunc) := by kernel_rfl
theorem tf_flat153 : flatB Tryd.prog 153 = true := by kernel_rfl
theorem tf_sz153 : sizeN Tryd.prog 153 1 = true := by kernel_rfl
theorem tf_zero153 : zeroV Tryd.prog 153 = some (.pointer none) := by kernel_rfl
theorem tf_flat154 : flatB Tryd.prog 154 = true := by kernel_rfl
theorem tf_sz154 : sizeN Tryd.prog 154 1 = true := by kernel_rfl
theorem tf_zero154 : zeroV Tryd.prog 154 = some (.nilFunc) := by kernel_rfl
theorem tf_flat155 : flatB Tryd.prog 155 = true := by kernel_rfl
theorem tf_sz155 : sizeN Tryd.prog 155 1 = true := by kernel_rfl
theorem tf_zero155 : zeroV Tryd.prog 155 = some (.nilFunc) := by kernel_rfl
theorem tf_flat156 : flatB Tryd.prog 156 = true := by kernel_rfl
theorem tf_sz156 : sizeN Tryd.prog 156 1 = true := by kernel_rfl
theorem tf_zero156 : zeroV Tryd.prog 156 = some (.nilFunc) := by kernel_rfl
theorem tf_flat157 : flatB Tryd.prog 157 = true := by kernel_rfl
theorem tf_sz157 : sizeN Tryd.prog 157 1 = true := by kernel_rfl
theorem tf_zero157 : zeroV Tryd.prog 157 = some (.nilFunc) := by kernel_rfl
theorem tf_flat158 : flatB Tryd.prog 158 = true := by kernel_rfl
theorem tf_sz158 : sizeN Tryd.prog 158 1 = true := by kernel_rfl
theorem tf_zero158 : zeroV Tryd.prog 158 = some (.nilFunc) := by kernel_rfl
theorem tf_flat160 : flatB Tryd.prog 160 = true := by kernel_rfl
theorem tf_sz160 : sizeN Tryd.prog 160 1 = true := by kernel_rfl
theorem tf_zero160 : zeroV Tryd.prog 160 = some (.nilFunc) := by kernel_rfl
theorem tf_flat161 : flatB Tryd.prog 161 = true := by kernel_rfl
theorem tf_sz161 : sizeN Tryd.prog 161 1 = true := by kernel_rfl
theorem tf_zero161 : zeroV Tryd.prog 161 = some (.nilFunc) := by kernel_rfl
theorem tf_flat162 : flatB Tryd.prog 162 = true := by kernel_rfl
theorem tf_sz162 : sizeN Tryd.prog 162 1 = true := by kernel_rfl
theorem tf_zero162 : zeroV Tryd.prog 162 = some (.nilFunc) := by kernel_rfl
theorem tf_flat163 : flatB Tryd.prog 163 = true := by kernel_rfl
theorem tf_sz163 : sizeN Tryd.prog 163 1 = true := by kernel_rfl
theorem tf_zero163 : zeroV Tryd.prog 163 = some (.nilFunc) := by kernel_rfl
theorem tf_flat164 : flatB Tryd.prog 164 = true := by kernel_rfl
theorem tf_sz164 : sizeN Tryd.prog 164 1 = true := by kernel_rfl
theorem tf_zero164 : zeroV Tryd.prog 164 = some (.nilFunc) := by kernel_rfl
theorem tf_flat165 : flatB Tryd.prog 165 = true := by kernel_rfl
theorem tf_sz165 : sizeN Tryd.prog 165 1 = true := by kernel_rfl
theorem tf_zero165 : zeroV Tryd.prog 165 = some (.nilFunc) := by kernel_rfl
theorem tf_flat166 : flatB Tryd.prog 166 = true := by kernel_rfl
theorem tf_sz166 : sizeN Tryd.prog 166 1 = true := by kernel_rfl
theorem tf_zero166 : zeroV Tryd.prog 166 = some (.nilFunc) := by kernel_rfl
theorem tf_flat167 : flatB Tryd.prog 167 = true := by kernel_rfl
theorem tf_sz167 : sizeN Tryd.prog 167 1 = true := by kernel_rfl
theorem tf_zero167 : zeroV Tryd.prog 167 = some (.nilFunc) := by kernel_rfl
theorem tf_flat168 : flatB Tryd.prog 168 = true := by kernel_rfl
theorem tf_sz168 : sizeN Tryd.prog 168 1 = true := by kernel_rfl
theorem tf_zero168 : zeroV Tryd.prog 168 = some (.int .u64 0) := by kernel_rfl
theorem tf_flat169 : flatB Tryd.prog 169 = true := by kernel_rfl
theorem tf_sz169 : sizeN Tryd.prog 169 1 = true := by kernel_rfl
theorem tf_zero169 : zeroV Tryd.prog 169 = some (.slice none 0 0) := by kernel_rfl
theorem tf_flat171 : flatB Tryd.prog 171 = true := by kernel_rfl
theorem tf_sz171 : sizeN Tryd.prog 171 1 = true := by kernel_rfl
theorem tf_zero171 : zeroV Tryd.prog 171 = some (.nilFunc) := by kernel_rfl
theorem tf_flat172 : flatB Tryd.prog 172 = true := by kernel_rfl
theorem tf_sz172 : sizeN Tryd.prog 172 1 = true := by kernel_rfl
theorem tf_zero172 : zeroV Tryd.prog 172 = some (.nilFunc) := by kernel_rfl
theorem tf_sz173 : sizeN Tryd.prog 173 24 = true := by kernel_rfl
theorem tf_agg173 : aggN Tryd.prog 173 = some 24 := by kernel_rfl
theorem tf_zero173 : zeroV Tryd.prog 173 = some (.agg #[.int .u8 0, .int .u8 0, .int .u8 0, .int .u8 0, .int .u8 0, .int .u8 0, .int .u8 0, .int .u8 0, .int .u8 0, .int .u8 0, .int .u8 0, .int .u8 0, .int .u8 0, .int .u8 0, .int .u8 0, .int .u8 0, .int .u8 0, .int .u8 0, .int .u8 0, .int .u8 0, .int .u8 0, .int .u8 0, .int .u8 0, .int .u8 0]) := by kernel_rfl
theorem tf_flat174 : flatB Tryd.prog 174 = true := by kernel_rfl
theorem tf_sz174 : sizeN Tryd.prog 174 1 = true := by kernel_rfl
theorem tf_zero174 : zeroV Tryd.prog 174 = some (.int .u64 0) := by kernel_rfl
theorem tf_flat175 : flatB Tryd.prog 175 = true := by kernel_rfl
theorem tf_sz175 : sizeN Tryd.prog 175 1 = true := by kernel_rfl
theorem tf_zero175 : zeroV Tryd.prog 175 = some (.nilFunc) := by kernel_rfl
theorem tf_flat176 : flatB Tryd.prog 176 = true := by kernel_rfl
theorem tf_sz176 : sizeN Tryd.prog 176 1 = true := by kernel_rfl
theorem tf_zero176 : zeroV Tryd.prog 176 = some (.nilFunc) := by kernel_rfl
theorem tf_flat178 : flatB Tryd.prog 178 = true := by kernel_rfl
theorem tf_sz178 : sizeN Tryd.prog 178 1 = true := by kernel_rfl
theorem tf_zero178 : zeroV Tryd.prog 178 = some (.nilFunc) := by kernel_rfl
theorem tf_flat179 : flatB Tryd.prog 179 = true := by kernel_rfl
theorem tf_sz179 : sizeN Tryd.prog 179 1 = true := by kernel_rfl
theorem tf_zero179 : zeroV Tryd.prog 179 = some (.nilFunc) := by kernel_rfl
theorem tf_flat180 : flatB Tryd.prog 180 = true := by kernel_rfl
theorem tf_sz180 : sizeN Tryd.prog 180 1 = true := by kernel_rfl
theorem tf_zero180 : zeroV Tryd.prog 180 = some (.nilFunc) := by kernel_rfl
theorem tf_flat181 : flatB Tryd.prog 181 = true := by kernel_rfl
theorem tf_sz181 : sizeN Tryd.prog 181 1 = true := by kernel_rfl
theorem tf_zero181 : zeroV Tryd.prog 181 = some (.nilFunc) := by kernel_rfl
theorem tf_sz182 : sizeN Tryd.prog 182 256 = true := by kernel_rfl
theorem tf_agg182 : aggN Tryd.prog 182 = some 256 := by kernel_rfl
theorem tf_zero182 : zeroV Tryd.prog 182 = some (.agg (tyBool.cells (List.replicate 256 false)).toArray) := by kernel_rfl
theorem tf_zarr182 : (Value.agg (tyBool.cells (List.replicate 256 false)).toArray).cells = (tyBool.cells (List.replicate 256 false)).toArray := rfl
theorem tf_flat184 : flatB Tryd.prog 184 = true := by kernel_rfl
theorem tf_sz184 : sizeN Tryd.prog 184 1 = true := by kernel_rfl
theorem tf_zero184 : zeroV Tryd.prog 184 = some (.nilFunc) := by kernel_rfl
theorem tf_flat185 : flatB Tryd.prog 185 = true := by kernel_rfl
theorem tf_sz185 : sizeN Tryd.prog 185 1 = true := by kernel_rfl
theorem tf_zero185 : zeroV Tryd.prog 185 = some (.nilFunc) := by kernel_rfl
theorem tf_flat186 : flatB Tryd.prog 186 = true := by kernel_rfl
theorem tf_sz186 : sizeN Tryd.prog 186 1 = true := by kernel_rfl
theorem tf_zero186 : zeroV Tryd.prog 186 = some (.nilFunc) := by kernel_rfl
theorem tf_flat187 : flatB Tryd.prog 187 = true := by kernel_rfl
theorem tf_sz187 : sizeN Tryd.prog 187 1 = true := by kernel_rfl
theorem tf_zero187 : zeroV Tryd.prog 187 = some (.nilFunc) := by kernel_rfl
theorem tf_flat188 : flatB Tryd.prog 188 = true := by kernel_rfl
theorem tf_sz188 : sizeN Tryd.prog 188 1 = true := by kernel_rfl
theorem tf_zero188 : zeroV Tryd.prog 188 = some (.int .u32 0) := by kernel_rfl
theorem tf_flat190 : flatB Tryd.prog 190 = true := by kernel_rfl
theorem tf_sz190 : sizeN Tryd.prog 190 1 = true := by kernel_rfl
theorem tf_zero190 : zeroV Tryd.prog 190 = some (.nilFunc) := by kernel_rfl
theorem tf_flat191 : flatB Tryd.prog 191 = true := by kernel_rfl
theorem tf_sz191 : sizeN Tryd.prog 191 1 = true := by kernel_rfl
theorem tf_zero191 : zeroV Tryd.prog 191 = some (.slice none 0 0) := by kernel_rfl
theorem tf_flat193 : flatB Tryd.prog 193 = true := by kernel_rfl
theorem tf_sz193 : sizeN Tryd.prog 193 1 = true := by kernel_rfl
theorem tf_zero193 : zeroV Tryd.prog 193 = some (.nilFunc) := by kernel_rfl
theorem tf_sz194 : sizeN Tryd.prog 194 2 = true := by kernel_rfl
theorem tf_agg194 : aggN Tryd.prog 194 = some 2 := by kernel_rfl
theorem tf_zero194 : zeroV Tryd.prog 194 = some (.agg #[str [], .bool false]) := by kernel_rfl
theorem tf_lay194 : layOf Tryd.prog 194 = some ([(0, 1), (1, 1)], [str [], .bool false]) := by kernel_rfl
theorem tf_fo194_0 : fieldOff Tryd.prog 194 0 = some 0 := by kernel_rfl
theorem tf_fo194_1 : fieldOff Tryd.prog 194 1 = some 1 := by kernel_rfl
theorem tf_sz195 : sizeN Tryd.prog 195 2 = true := by kernel_rfl
theorem tf_agg195 : aggN Tryd.prog 195 = some 2 := by kernel_rfl
theorem tf_zero195 : zeroV Tryd.prog 195 = some (.agg #[str [], .bool false]) := by kernel_rfl
theorem tf_lay195 : layOf Tryd.prog 195 = some ([(0, 1), (1, 1)], [str [], .bool false]) := by kernel_rfl
theorem tf_fo195_0 : fieldOff Tryd.prog 195 0 = some 0 := by kernel_rfl
theorem tf_fo195_1 : fieldOff Tryd.prog 195 1 = some 1 := by kernel_rfl
theorem tf_sz196 : sizeN Tryd.prog 196 0 = true := by kernel_rfl
theorem tf_agg196 : aggN Tryd.prog 196 = some 0 := by kernel_rfl
theorem tf_zero196 : zeroV Tryd.prog 196 = some (.agg #[]) := by kernel_rfl
theorem tf_lay196 : layOf Tryd.prog 196 = some ([], []) := by kernel_rfl
theorem tf_sz197 : sizeN Tryd.prog 197 0 = true := by kernel_rfl
theorem tf_agg197 : aggN Tryd.prog 197 = some 0 := by kernel_rfl
theorem tf_zero197 : zeroV Tryd.prog 197 = some (.agg #[]) := by kernel_rfl
theorem tf_lay197 : layOf Tryd.prog 197 = some ([], []) := by kernel_rfl
theorem tf_sz199 : sizeN Tryd.prog 199 3 = true := by kernel_rfl
theorem tf_agg199 : aggN Tryd.prog 199 = some 3 := by kernel_rfl
theorem tf_zero199 : zeroV Tryd.prog 199 = some (.agg #[.int .i64 0, .bool false, .bool false]) := by kernel_rfl
theorem tf_lay199 : layOf Tryd.prog 199 = some ([(0, 1), (1, 1), (2, 1)], [.int .i64 0, .bool false, .bool false]) := by kernel_rfl
theorem tf_fo199_0 : fieldOff Tryd.prog 199 0 = some 0 := by kernel_rfl
theorem tf_fo199_1 : fieldOff Tryd.prog 199 1 = some 1 := by kernel_rfl
theorem tf_fo199_2 : fieldOff Tryd.prog 199 2 = some 2 := by kernel_rfl
theorem tf_sz200 : sizeN Tryd.prog 200 3 = true := by kernel_rfl
theorem tf_agg200 : aggN Tryd.prog 200 = some 3 := by kernel_rfl
theorem tf_zero200 : zeroV Tryd.prog 200 = some (.agg #[.int .i64 0, .bool false, .bool false]) := by kernel_rfl
theorem tf_lay200 : layOf Tryd.prog 200 = some ([(0, 1), (1, 1), (2, 1)], [.int .i64 0, .bool false, .bool false]) := by kernel_rfl
theorem tf_fo200_0 : fieldOff Tryd.prog 200 0 = some 0 := by kernel_rfl
theorem tf_fo200_1 : fieldOff Tryd.prog 200 1 = some 1 := by kernel_rfl
theorem tf_fo200_2 : fieldOff Tryd.prog 200 2 = some 2 := by kernel_rfl
theorem tf_flat202 : flatB Tryd.prog 202 = true := by kernel_rfl
theorem tf_sz202 : sizeN Tryd.prog 202 1 = true := by kernel_rfl
theorem tf_zero202 : zeroV Tryd.prog 202 = some (.nilFunc) := by kernel_rfl
theorem tf_flat203 : flatB Tryd.prog 203 = true := by kernel_rfl
theorem tf_sz203 : sizeN Tryd.prog 203 1 = true := by kernel_rfl
theorem tf_zero203 : zeroV Tryd.prog 203 = some (.nilFunc) := by kernel_rfl
theorem tf_sz204 : sizeN Tryd.prog 204 20 = true := by kernel_rfl
theorem tf_agg204 : aggN Tryd.prog 204 = some 20 := by kernel_rfl
theorem tf_zero204 : zeroV Tryd.prog 204 = some (.agg #[.int .u64 0, .int .u64 0, .int .u64 0, .int .u64 0, .int .u64 0, .int .u64 0, .int .u64 0, .int .u64 0, .int .u64 0, .int .u64 0, .int .u64 0, .int .u64 0, .int .u64 0, .int .u64 0, .int .u64 0, .int .u64 0, .int .u64 0, .int .u64 0, .int .u64 0, .int .u64 0]) := by kernel_rfl
theorem tf_sz205 : sizeN Tryd.prog 205 65 = true := by kernel_rfl
theorem tf_agg205 : aggN Tryd.prog 205 = some 65 := by kernel_rfl
theorem tf_zero205 : zeroV Tryd.prog 205 = some (.agg (tyB.cells (List.replicate 65 (0 : UInt8))).toArray) := by kernel_rfl
theorem tf_zarr205 : (Value.agg (tyB.cells (List.replicate 65 (0 : UInt8))).toArray).cells = (tyB.cells (List.replicate 65 (0 : UInt8))).toArray := rfl
theorem tf_flat206 : flatB Tryd.prog 206 = true := by kernel_rfl
theorem tf_sz206 : sizeN Tryd.prog 206 1 = true := by kernel_rfl
theorem tf_zero206 : zeroV Tryd.prog 206 = some (.nilFunc) := by kernel_rfl
theorem tf_flat207 : flatB Tryd.prog 207 = true := by kernel_rfl
theorem tf_sz207 : sizeN Tryd.prog 207 1 = true := by kernel_rfl
theorem tf_zero207 : zeroV Tryd.prog 207 = some (.nilFunc) := by kernel_rfl
theorem tf_flat208 : flatB Tryd.prog 208 = true := by kernel_rfl
theorem tf_sz208 : sizeN Tryd.prog 208 1 = true := by kernel_rfl
theorem tf_zero208 : zeroV Tryd.prog 208 = some (.nilFunc) := by kernel_rfl
theorem tf_sz209 : sizeN Tryd.prog 209 4 = true := by kernel_rfl
theorem tf_agg209 : aggN Tryd.prog 209 = some 4 := by kernel_rfl
theorem tf_zero209 : zeroV Tryd.prog 209 = some (.agg #[.int .u8 0, .int .u8 0, .int .u8 0, .int .u8 0]) := by kernel_rfl
theorem tf_flat210 : flatB Tryd.prog 210 = true := by kernel_rfl
theorem tf_sz210 : sizeN Tryd.prog 210 1 = true := by kernel_rfl
theorem tf_zero210 : zeroV Tryd.prog 210 = some (.pointer none) := by kernel_rfl
theorem tf_sz211 : sizeN Tryd.prog 211 2 = true := by kernel_rfl
theorem tf_agg211 : aggN Tryd.prog 211 = some 2 := by kernel_rfl
theorem tf_zero211 : zeroV Tryd.prog 211 = some (.agg #[.int .u8 0, .int .u8 0]) := by kernel_rfl
theorem tf_lay211 : layOf Tryd.prog 211 = some ([(0, 1), (1, 1)], [.int .u8 0, .int .u8 0]) := by kernel_rfl
theorem tf_fo211_0 : fieldOff Tryd.prog 211 0 = some 0 := by kernel_rfl
theorem tf_fo211_1 : fieldOff Tryd.prog 211 1 = some 1 := by kernel_rfl
theorem tf_sz212 : sizeN Tryd.prog 212 2 = true := by kernel_rfl
theorem tf_agg212 : aggN Tryd.prog 212 = some 2 := by kernel_rfl
theorem tf_zero212 : zeroV Tryd.prog 212 = some (.agg #[.int .u8 0, .int .u8 0]) := by kernel_rfl
theorem tf_lay212 : layOf Tryd.prog 212 = some ([(0, 1), (1, 1)], [.int .u8 0, .int .u8 0]) := by kernel_rfl
theorem tf_fo212_0 : fieldOff Tryd.prog 212 0 = some 0 := by kernel_rfl
theorem tf_fo212_1 : fieldOff Tryd.prog 212 1 = some 1 := by kernel_rfl
theorem tf_sz213 : sizeN Tryd.prog 213 32 = true := by kernel_rfl
theorem tf_agg213 : aggN Tryd.prog 213 = some 32 := by kernel_rfl
theorem tf_zero213 : zeroV Tryd.prog 213 = some (.agg #[.int .u8 0, .int .u8 0, .int .u8 0, .int .u8 0, .int .u8 0, .int .u8 0, .int .u8 0, .int .u8 0, .int .u8 0, .int .u8 0, .int .u8 0, .int .u8 0, .int .u8 0, .int .u8 0, .int .u8 0, .int .u8 0, .int .u8 0, .int .u8 0, .int .u8 0, .int .u8 0, .int .u8 0, .int .u8 0, .int .u8 0, .int .u8 0, .int .u8 0, .int .u8 0, .int .u8 0, .int .u8 0, .int .u8 0, .int .u8 0, .int .u8 0, .int .u8 0]) := by kernel_rfl
theorem tf_flat214 : flatB Tryd.prog 214 = true := by kernel_rfl
theorem tf_sz214 : sizeN Tryd.prog 214 1 = true := by kernel_rfl
theorem tf_zero214 : zeroV Tryd.prog 214 = some (.nilFunc) := by kernel_rfl
theorem tf_flat215 : flatB Tryd.prog 215 = true := by kernel_rfl
theorem tf_sz215 : sizeN Tryd.prog 215 1 = true := by kernel_rfl
theorem tf_zero215 : zeroV Tryd.prog 215 = some (.nilFunc) := by kernel_rfl
theorem tf_flat216 : flatB Tryd.prog 216 = true := by kernel_rfl
theorem tf_sz216 : sizeN Tryd.prog 216 1 = true := by kernel_rfl
theorem tf_zero216 : zeroV Tryd.prog 216 = some (.map none) := by kernel_rfl
theorem tf_flat217 : flatB Tryd.prog 217 = true := by kernel_rfl
theorem tf_sz217 : sizeN Tryd.prog 217 1 = true := by kernel_rfl
theorem tf_zero217 : zeroV Tryd.prog 217 = some (.nilFunc) := by kernel_rfl
theorem tf_flat218 : flatB Tryd.prog 218 = true := by kernel_rfl
theorem tf_sz218 : sizeN Tryd.prog 218 1 = true := by kernel_rfl
theorem tf_zero218 : zeroV Tryd.prog 218 = some (.nilIface) := by kernel_rfl
theorem tf_flat220 : flatB Tryd.prog 220 = true := by kernel_rfl
theorem tf_sz220 : sizeN Tryd.prog 220 1 = true := by kernel_rfl
theorem tf_zero220 : zeroV Tryd.prog 220 = some (.nilFunc) := by kernel_rfl
theorem tf_flat222 : flatB Tryd.prog 222 = true := by kernel_rfl
theorem tf_sz222 : sizeN Tryd.prog 222 1 = true := by kernel_rfl
theorem tf_zero222 : zeroV Tryd.prog 222 = some (.nilFunc) := by kernel_rfl
theorem tf_sz223 : sizeN Tryd.prog 223 32 = true := by kernel_rfl
theorem tf_agg223 : aggN Tryd.prog 223 = some 32 := by kernel_rfl
theorem tf_zero223 : zeroV Tryd.prog 223 = some (.agg (tyB.cells (List.replicate 32 (0 : UInt8))).toArray) := by kernel_rfl
theorem tf_zarr223 : (Value.agg (tyB.cells (List.replicate 32 (0 : UInt8))).toArray).cells = (tyB.cells (List.replicate 32 (0 : UInt8))).toArray := rfl
theorem tf_sz224 : sizeN Tryd.prog 224 64 = true := by kernel_rfl
theorem tf_agg224 : aggN Tryd.prog 224 = some 64 := by kernel_rfl
theorem tf_zero224 : zeroV Tryd.prog 224 = some (.agg (tyB.cells (List.replicate 64 (0 : UInt8))).toArray) := by kernel_rfl
theorem tf_zarr224 : (Value.agg (tyB.cells (List.replicate 64 (0 : UInt8))).toArray).cells = (tyB.cells (List.replicate 64 (0 : UInt8))).toArray := rfl
theorem tf_flat225 : flatB Tryd.prog 225 = true := by kernel_rfl
theorem tf_sz225 : sizeN Tryd.prog 225 1 = true := by kernel_rfl
theorem tf_zero225 : zeroV Tryd.prog 225 = some (.nilFunc) := by kernel_rfl
theorem tf_flat226 : flatB Tryd.prog 226 = true := by kernel_rfl
theorem tf_sz226 : sizeN Tryd.prog 226 1 = true := by kernel_rfl
theorem tf_zero226 : zeroV Tryd.prog 226 = some (.nilFunc) := by kernel_rfl
theorem tf_flat227 : flatB Tryd.prog 227 = true := by kernel_rfl
theorem tf_sz227 : sizeN Tryd.prog 227 1 = true := by kernel_rfl
theorem tf_zero227 : zeroV Tryd.prog 227 = some (.nilFunc) := by kernel_rfl
theorem tf_flat228 : flatB Tryd.prog 228 = true := by kernel_rfl
theorem tf_sz228 : sizeN Tryd.prog 228 1 = true := by kernel_rfl
theorem tf_zero228 : zeroV Tryd.prog 228 = some (.nilFunc) := by kernel_rfl
theorem tf_sz229 : sizeN Tryd.prog 229 4 = true := by kernel_rfl
theorem tf_agg229 : aggN Tryd.prog 229 = some 4 := by kernel_rfl
theorem tf_zero229 : zeroV Tryd.prog 229 = some (.agg #[.pointer none, .pointer none, .pointer none, str []]) := by kernel_rfl
theorem tf_lay229 : layOf Tryd.prog 229 = some ([(0, 1), (1, 1), (2, 1), (3, 1)], [.pointer none, .pointer none, .pointer none, str []]) := by kernel_rfl
theorem tf_fo229_0 : fieldOff Tryd.prog 229 0 = some 0 := by kernel_rfl
theorem tf_fo229_1 : fieldOff Tryd.prog 229 1 = some 1 := by kernel_rfl
theorem tf_fo229_2 : fieldOff Tryd.prog 229 2 = some 2 := by kernel_rfl
theorem tf_fo229_3 : fieldOff Tryd.prog 229 3 = some 3 := by kernel_rfl
theorem tf_sz230 : sizeN Tryd.prog 230 4 = true := by kernel_rfl
theorem tf_agg230 : aggN Tryd.prog 230 = some 4 := by kernel_rfl
theorem tf_zero230 : zeroV Tryd.prog 230 = some (.agg #[.pointer none, .pointer none, .pointer none, str []]) := by kernel_rfl
theorem tf_lay230 : layOf Tryd.prog 230 = some ([(0, 1), (1, 1), (2, 1), (3, 1)], [.pointer none, .pointer none, .pointer none, str []]) := by kernel_rfl
theorem tf_fo230_0 : fieldOff Tryd.prog 230 0 = some 0 := by kernel_rfl
theorem tf_fo230_1 : fieldOff Tryd.prog 230 1 = some 1 := by kernel_rfl
theorem tf_fo230_2 : fieldOff Tryd.prog 230 2 = some 2 := by kernel_rfl
theorem tf_fo230_3 : fieldOff Tryd.prog 230 3 = some 3 := by kernel_rfl
theorem tf_sz231 : sizeN Tryd.prog 231 0 = true := by kernel_rfl
theorem tf_agg231 : aggN Tryd.prog 231 = some 0 := by kernel_rfl
theorem tf_zero231 : zeroV Tryd.prog 231 = some (.agg #[]) := by kernel_rfl
theorem tf_sz232 : sizeN Tryd.prog 232 0 = true := by kernel_rfl
theorem tf_agg232 : aggN Tryd.prog 232 = some 0 := by kernel_rfl
theorem tf_zero232 : zeroV Tryd.prog 232 = some (.agg #[]) := by kernel_rfl
theorem tf_lay232 : layOf Tryd.prog 232 = some ([(0, 0)], []) := by kernel_rfl
theorem tf_sz233 : sizeN Tryd.prog 233 0 = true := by kernel_rfl
theorem tf_agg233 : aggN Tryd.prog 233 = some 0 := by kernel_rfl
theorem tf_zero233 : zeroV Tryd.prog 233 = some (.agg #[]) := by kernel_rfl
theorem tf_lay233 : layOf Tryd.prog 233 = some ([(0, 0)], []) := by kernel_rfl
theorem tf_flat234 : flatB Tryd.prog 234 = true := by kernel_rfl
theorem tf_sz234 : sizeN Tryd.prog 234 1 = true := by kernel_rfl
theorem tf_zero234 : zeroV Tryd.prog 234 = some (.int .u8 0) := by kernel_rfl
theorem tf_flat235 : flatB Tryd.prog 235 = true := by kernel_rfl
theorem tf_sz235 : sizeN Tryd.prog 235 1 = true := by kernel_rfl
theorem tf_zero235 : zeroV Tryd.prog 235 = some (.int .u8 0) := by kernel_rfl
theorem tf_flat236 : flatB Tryd.prog 236 = true := by kernel_rfl
theorem tf_sz236 : sizeN Tryd.prog 236 1 = true := by kernel_rfl
theorem tf_zero236 : zeroV Tryd.prog 236 = some (.nilFunc) := by kernel_rfl
theorem tf_flat237 : flatB Tryd.prog 237 = true := by kernel_rfl
theorem tf_sz237 : sizeN Tryd.prog 237 1 = true := by kernel_rfl
theorem tf_zero237 : zeroV Tryd.prog 237 = some (.int .i32 0) := by kernel_rfl
theorem tf_flat238 : flatB Tryd.prog 238 = true := by kernel_rfl
theorem tf_sz238 : sizeN Tryd.prog 238 1 = true := by kernel_rfl
theorem tf_zero238 : zeroV Tryd.prog 238 = some (.int .i32 0) := by kernel_rfl
theorem tf_sz239 : sizeN Tryd.prog 239 11 = true := by kernel_rfl
theorem tf_agg239 : aggN Tryd.prog 239 = some 11 := by kernel_rfl
theorem tf_zero239 : zeroV Tryd.prog 239 = some (.agg #[.int .u64 0, .int .u64 0, .int .u32 0, .int .u8 0, .int .u8 0, .int .u8 0, .int .u8 0, .nilFunc, .pointer none, .int .i32 0, .int .i32 0]) := by kernel_rfl
theorem tf_lay239 : layOf Tryd.prog 239 = some ([(0, 1), (1, 1), (2, 1), (3, 1), (4, 1), (5, 1), (6, 1), (7, 1), (8, 1), (9, 1), (10, 1)], [.int .u64 0, .int .u64 0, .int .u32 0, .int .u8 0, .int .u8 0, .int .u8 0, .int .u8 0, .nilFunc, .pointer none, .int .i32 0, .int .i32 0]) := by kernel_rfl
theorem tf_fo239_0 : fieldOff Tryd.prog 239 0 = some 0 := by kernel_rfl
theorem tf_fo239_1 : fieldOff Tryd.prog 239 1 = some 1 := by kernel_rfl
theorem tf_fo239_2 : fieldOff Tryd.prog 239 2 = some 2 := by kernel_rfl
theorem tf_fo239_3 : fieldOff Tryd.prog 239 3 = some 3 := by kernel_rfl
theorem tf_fo239_4 : fieldOff Tryd.prog 239 4 = some 4 := by kernel_rfl
theorem tf_fo239_5 : fieldOff Tryd.prog 239 5 = some 5 := by kernel_rfl
theorem tf_fo239_6 : fieldOff Tryd.prog 239 6 = some 6 := by kernel_rfl
theorem tf_fo239_7 : fieldOff Tryd.prog 239 7 = some 7 := by kernel_rfl
theorem tf_fo239_8 : fieldOff Tryd.prog 239 8 = some 8 := by kernel_rfl
theorem tf_fo239_9 : fieldOff Tryd.prog 239 9 = some 9 := by kernel_rfl
theorem tf_fo239_10 : fieldOff Tryd.prog 239 10 = some 10 := by kernel_rfl
theorem tf_sz240 : sizeN Tryd.prog 240 11 = true := by kernel_rfl
theorem tf_agg240 : aggN Tryd.prog 240 = some 11 := by kernel_rfl
theorem tf_zero240 : zeroV Tryd.prog 240 = some (.agg #[.int .u64 0, .int .u64 0, .int .u32 0, .int .u8 0, .int .u8 0, .int .u8 0, .int .u8 0, .nilFunc, .pointer none, .int .i32 0, .int .i32 0]) := by kernel_rfl
theorem tf_lay240 : layOf Tryd.prog 240 = some ([(0, 1), (1, 1), (2, 1), (3, 1), (4, 1), (5, 1), (6, 1), (7, 1), (8, 1), (9, 1), (10, 1)], [.int .u64 0, .int .u64 0, .int .u32 0, .int .u8 0, .int .u8 0, .int .u8 0, .int .u8 0, .nilFunc, .pointer none, .int .i32 0, .int .i32 0]) := by kernel_rfl
theorem tf_fo240_0 : fieldOff Tryd.prog 240 0 = some 0 := by kernel_rfl
theorem tf_fo240_1 : fieldOff Tryd.prog 240 1 = some 1 := by kernel_rfl
theorem tf_fo240_2 : fieldOff Tryd.prog 240 2 = some 2 := by kernel_rfl
theorem tf_fo240_3 : fieldOff Tryd.prog 240 3 = some 3 := by kernel_rfl
theorem tf_fo240_4 : fieldOff Tryd.prog 240 4 = some 4 := by kernel_rfl
theorem tf_fo240_5 : fieldOff Tryd.prog 240 5 = some 5 := by kernel_rfl
theorem tf_fo240_6 : fieldOff Tryd.prog 240 6 = some 6 := by kernel_rfl
theorem tf_fo240_7 : fieldOff Tryd.prog 240 7 = some 7 := by kernel_rfl
theorem tf_fo240_8 : fieldOff Tryd.prog 240 8 = some 8 := by kernel_rfl
theorem tf_fo240_9 : fieldOff Tryd.prog 240 9 = some 9 := by kernel_rfl
theorem tf_fo240_10 : fieldOff Tryd.prog 240 10 = some 10 := by kernel_rfl
theorem tf_mixed : Tryd.prog.follows .mixedOrders = true := by kernel_rfl
theorem tf_body2 : Body Tryd.prog 2 := Body.of (by kernel_rfl)
theorem tf_body3 : Body Tryd.prog 3 := Body.of (by kernel_rfl)
theorem tf_body4 : Body Tryd.prog 4 := Body.of (by kernel_rfl)
theorem tf_body5 : Body Tryd.prog 5 := Body.of (by kernel_rfl)
theorem tf_body6 : Body Tryd.prog 6 := Body.of (by kernel_rfl)
theorem tf_body7 : Body Tryd.prog 7 := Body.of (by kernel_rfl)
theorem tf_body8 : Body Tryd.prog 8 := Body.of (by kernel_rfl)
theorem tf_body9 : Body Tryd.prog 9 := Body.of (by kernel_rfl)
theorem tf_body10 : Body Tryd.prog 10 := Body.of (by kernel_rfl)
theorem tf_body11 : Body Tryd.prog 11 := Body.of (by kernel_rfl)
theorem tf_body12 : Body Tryd.prog 12 := Body.of (by kernel_rfl)
theorem tf_body13 : Body Tryd.prog 13 := Body.of (by kernel_rfl)
theorem tf_body14 : Body Tryd.prog 14 := Body.of (by kernel_rfl)
theorem tf_body15 : Body Tryd.prog 15 := Body.of (by kernel_rfl)
theorem tf_body16 : Body Tryd.prog 16 := Body.of (by kernel_rfl)
theorem tf_body17 : Body Tryd.prog 17 := Body.of (by kernel_rfl)
theorem tf_body18 : Body Tryd.prog 18 := Body.of (by kernel_rfl)
theorem tf_body19 : Body Tryd.prog 19 := Body.of (by kernel_rfl)
theorem tf_body20 : Body Tryd.prog 20 := Body.of (by kernel_rfl)
theorem tf_body21 : Body Tryd.prog 21 := Body.of (by kernel_rfl)
theorem tf_body22 : Body Tryd.prog 22 := Body.of (by kernel_rfl)
theorem tf_body23 : Body Tryd.prog 23 := Body.of (by kernel_rfl)
theorem tf_body24 : Body Tryd.prog 24 := Body.of (by kernel_rfl)
theorem tf_body25 : Body Tryd.prog 25 := Body.of (by kernel_rfl)
theorem tf_body26 : Body Tryd.prog 26 := Body.of (by kernel_rfl)
theorem tf_body27 : Body Tryd.prog 27 := Body.of (by kernel_rfl)
theorem tf_body28 : Body Tryd.prog 28 := Body.of (by kernel_rfl)
theorem tf_body29 : Body Tryd.prog 29 := Body.of (by kernel_rfl)
theorem tf_body30 : Body Tryd.prog 30 := Body.of (by kernel_rfl)
theorem tf_body31 : Body Tryd.prog 31 := Body.of (by kernel_rfl)
theorem tf_body32 : Body Tryd.prog 32 := Body.of (by kernel_rfl)
theorem tf_body33 : Body Tryd.prog 33 := Body.of (by kernel_rfl)
theorem tf_body34 : Body Tryd.prog 34 := Body.of (by kernel_rfl)
theorem tf_body35 : Body Tryd.prog 35 := Body.of (by kernel_rfl)
theorem tf_body36 : Body Tryd.prog 36 := Body.of (by kernel_rfl)
theorem tf_body37 : Body Tryd.prog 37 := Body.of (by kernel_rfl)
theorem tf_body38 : Body Tryd.prog 38 := Body.of (by kernel_rfl)
theorem tf_body39 : Body Tryd.prog 39 := Body.of (by kernel_rfl)
theorem tf_body40 : Body Tryd.prog 40 := Body.of (by kernel_rfl)
theorem tf_body41 : Body Tryd.prog 41 := Body.of (by kernel_rfl)
theorem tf_body42 : Body Tryd.prog 42 := Body.of (by kernel_rfl)
theorem tf_body43 : Body Tryd.prog 43 := Body.of (by kernel_rfl)
theorem tf_body44 : Body Tryd.prog 44 := Body.of (by kernel_rfl)
theorem tf_body45 : Body Tryd.prog 45 := Body.of (by kernel_rfl)
theorem tf_body46 : Body Tryd.prog 46 := Body.of (by kernel_rfl)
theorem tf_body47 : Body Tryd.prog 47 := Body.of (by kernel_rfl)
theorem tf_body48 : Body Tryd.prog 48 := Body.of (by kernel_rfl)
theorem tf_body49 : Body Tryd.prog 49 := Body.of (by kernel_rfl)
theorem tf_body50 : Body Tryd.prog 50 := Body.of (by kernel_rfl)
theorem tf_body51 : Body Tryd.prog 51 := Body.of (by kernel_rfl)
theorem tf_body52 : Body Tryd.prog 52 := Body.of (by kernel_rfl)
theorem tf_body53 : Body Tryd.prog 53 := Body.of (by kernel_rfl)
theorem tf_body54 : Body Tryd.prog 54 := Body.of (by kernel_rfl)
theorem tf_body55 : Body Tryd.prog 55 := Body.of (by kernel_rfl)
theorem tf_body56 : Body Tryd.prog 56 := Body.of (by kernel_rfl)
theorem tf_body57 : Body Tryd.prog 57 := Body.of (by kernel_rfl)
theorem tf_body58 : Body Tryd.prog 58 := Body.of (by kernel_rfl)
theorem tf_body59 : Body Tryd.prog 59 := Body.of (by kernel_rfl)
theorem tf_body60 : Body Tryd.prog 60 := Body.of (by kernel_rfl)
theorem tf_body61 : Body Tryd.prog 61 := Body.of (by kernel_rfl)
theorem tf_body62 : Body Tryd.prog 62 := Body.of (by kernel_rfl)
theorem tf_body63 : Body Tryd.prog 63 := Body.of (by kernel_rfl)
theorem tf_body64 : Body Tryd.prog 64 := Body.of (by kernel_rfl)
theorem tf_body65 : Body Tryd.prog 65 := Body.of (by kernel_rfl)
theorem tf_body66 : Body Tryd.prog 66 := Body.of (by kernel_rfl)
theorem tf_body67 : Body Tryd.prog 67 := Body.of (by kernel_rfl)
theorem tf_body68 : Body Tryd.prog 68 := Body.of (by kernel_rfl)
theorem tf_body69 : Body Tryd.prog 69 := Body.of (by kernel_rfl)
theorem tf_body70 : Body Tryd.prog 70 := Body.of (by kernel_rfl)
theorem tf_body71 : Body Tryd.prog 71 := Body.of (by kernel_rfl)
theorem tf_body72 : Body Tryd.prog 72 := Body.of (by kernel_rfl)
theorem tf_body73 : Body Tryd.prog 73 := Body.of (by kernel_rfl)
theorem tf_body74 : Body Tryd.prog 74 := Body.of (by kernel_rfl)
theorem tf_body75 : Body Tryd.prog 75 := Body.of (by kernel_rfl)
theorem tf_body76 : Body Tryd.prog 76 := Body.of (by kernel_rfl)
theorem tf_body77 : Body Tryd.prog 77 := Body.of (by kernel_rfl)
theorem tf_body78 : Body Tryd.prog 78 := Body.of (by kernel_rfl)
theorem tf_body79 : Body Tryd.prog 79 := Body.of (by kernel_rfl)
theorem tf_body80 : Body Tryd.prog 80 := Body.of (by kernel_rfl)
theorem tf_body81 : Body Tryd.prog 81 := Body.of (by kernel_rfl)
theorem tf_body82 : Body Tryd.prog 82 := Body.of (by kernel_rfl)
theorem tf_body83 : Body Tryd.prog 83 := Body.of (by kernel_rfl)
theorem tf_body84 : Body Tryd.prog 84 := Body.of (by kernel_rfl)
theorem tf_body85 : Body Tryd.prog 85 := Body.of (by kernel_rfl)
theorem tf_body86 : Body Tryd.prog 86 := Body.of (by kernel_rfl)
theorem tf_body87 : Body Tryd.prog 87 := Body.of (by kernel_rfl)
theorem tf_body88 : Body Tryd.prog 88 := Body.of (by kernel_rfl)
theorem tf_body89 : Body Tryd.prog 89 := Body.of (by kernel_rfl)
theorem tf_body90 : Body Tryd.prog 90 := Body.of (by kernel_rfl)
theorem tf_body91 : Body Tryd.prog 91 := Body.of (by kernel_rfl)
theorem tf_body92 : Body Tryd.prog 92 := Body.of (by kernel_rfl)
theorem tf_body93 : Body Tryd.prog 93 := Body.of (by kernel_rfl)
theorem tf_body94 : Body Tryd.prog 94 := Body.of (by kernel_rfl)
theorem tf_body95 : Body Tryd.prog 95 := Body.of (by kernel_rfl)
theorem tf_body96 : Body Tryd.prog 96 := Body.of (by kernel_rfl)
theorem tf_body97 : Body Tryd.prog 97 := Body.of (by kernel_rfl)
theorem tf_body98 : Body Tryd.prog 98 := Body.of (by kernel_rfl)
theorem tf_body99 : Body Tryd.prog 99 := Body.of (by kernel_rfl)
theorem tf_body100 : Body Tryd.prog 100 := Body.of (by kernel_rfl)
theorem tf_body101 : Body Tryd.prog 101 := Body.of (by kernel_rfl)
theorem tf_body102 : Body Tryd.prog 102 := Body.of (by kernel_rfl)
theorem tf_body103 : Body Tryd.prog 103 := Body.of (by kernel_rfl)
theorem tf_body104 : Body Tryd.prog 104 := Body.of (by kernel_rfl)
theorem tf_body105 : Body Tryd.prog 105 := Body.of (by kernel_rfl)
theorem tf_body106 : Body Tryd.prog 106 := Body.of (by kernel_rfl)
theorem tf_body107 : Body Tryd.prog 107 := Body.of (by kernel_rfl)
theorem tf_body108 : Body Tryd.prog 108 := Body.of (by kernel_rfl)
theorem tf_body109 : Body Tryd.prog 109 := Body.of (by kernel_rfl)
theorem tf_body110 : Body Tryd.prog 110 := Body.of (by kernel_rfl)
theorem tf_body111 : Body Tryd.prog 111 := Body.of (by kernel_rfl)
theorem tf_body112 : Body Tryd.prog 112 := Body.of (by kernel_rfl)
theorem tf_body113 : Body Tryd.prog 113 := Body.of (by kernel_rfl)
theorem tf_body114 : Body Tryd.prog 114 := Body.of (by kernel_rfl)
theorem tf_body115 : Body Tryd.prog 115 := Body.of (by kernel_rfl)
theorem tf_body116 : Body Tryd.prog 116 := Body.of (by kernel_rfl)
theorem tf_body117 : Body Tryd.prog 117 := Body.of (by kernel_rfl)
theorem tf_body118 : Body Tryd.prog 118 := Body.of (by kernel_rfl)
theorem tf_body119 : Body Tryd.prog 119 := Body.of (by kernel_rfl)
theorem tf_body120 : Body Tryd.prog 120 := Body.of (by kernel_rfl)
theorem tf_body121 : Body Tryd.prog 121 := Body.of (by kernel_rfl)
theorem tf_body122 : Body Tryd.prog 122 := Body.of (by kernel_rfl)
theorem tf_body123 : Body Tryd.prog 123 := Body.of (by kernel_rfl)
theorem tf_body124 : Body Tryd.prog 124 := Body.of (by kernel_rfl)
theorem tf_body125 : Body Tryd.prog 125 := Body.of (by kernel_rfl)
theorem tf_body126 : Body Tryd.prog 126 := Body.of (by kernel_rfl)
theorem tf_body127 : Body Tryd.prog 127 := Body.of (by kernel_rfl)
theorem tf_body128 : Body Tryd.prog 128 := Body.of (by kernel_rfl)
theorem tf_body130 : Body Tryd.prog 130 := Body.of (by kernel_rfl)
theorem tf_body131 : Body Tryd.prog 131 := Body.of (by kernel_rfl)
theorem tf_body132 : Body Tryd.prog 132 := Body.of (by kernel_rfl)
theorem tf_body133 : Body Tryd.prog 133 := Body.of (by kernel_rfl)
theorem tf_body134 : Body Tryd.prog 134 := Body.of (by kernel_rfl)
theorem tf_body135 : Body Tryd.prog 135 := Body.of (by kernel_rfl)
theorem tf_body136 : Body Tryd.prog 136 := Body.of (by kernel_rfl)
theorem tf_body137 : Body Tryd.prog 137 := Body.of (by kernel_rfl)
theorem tf_body138 : Body Tryd.prog 138 := Body.of (by kernel_rfl)
theorem tf_body139 : Body Tryd.prog 139 := Body.of (by kernel_rfl)
theorem tf_body140 : Body Tryd.prog 140 := Body.of (by kernel_rfl)
theorem tf_body141 : Body Tryd.prog 141 := Body.of (by kernel_rfl)
theorem tf_body142 : Body Tryd.prog 142 := Body.of (by kernel_rfl)
theorem tf_body143 : Body Tryd.prog 143 := Body.of (by kernel_rfl)
theorem tf_body144 : Body Tryd.prog 144 := Body.of (by kernel_rfl)
theorem tf_body145 : Body Tryd.prog 145 := Body.of (by kernel_rfl)
theorem tf_body146 : Body Tryd.prog 146 := Body.of (by kernel_rfl)
theorem tf_body148 : Body Tryd.prog 148 := Body.of (by kernel_rfl)
theorem tf_body149 : Body Tryd.prog 149 := Body.of (by kernel_rfl)
theorem tf_body150 : Body Tryd.prog 150 := Body.of (by kernel_rfl)
theorem tf_body151 : Body Tryd.prog 151 := Body.of (by kernel_rfl)
theorem tf_body152 : Body Tryd.prog 152 := Body.of (by kernel_rfl)
theorem tf_body153 : Body Tryd.prog 153 := Body.of (by kernel_rfl)
theorem tf_body154 : Body Tryd.prog 154 := Body.of (by kernel_rfl)
theorem tf_body155 : Body Tryd.prog 155 := Body.of (by kernel_rfl)
theorem tf_body156 : Body Tryd.prog 156 := Body.of (by kernel_rfl)
theorem tf_body157 : Body Tryd.prog 157 := Body.of (by kernel_rfl)
theorem tf_body159 : Body Tryd.prog 159 := Body.of (by kernel_rfl)
theorem tf_body161 : Body Tryd.prog 161 := Body.of (by kernel_rfl)
theorem tf_body162 : Body Tryd.prog 162 := Body.of (by kernel_rfl)
theorem tf_body163 : Body Tryd.prog 163 := Body.of (by kernel_rfl)
theorem tf_body164 : Body Tryd.prog 164 := Body.of (by kernel_rfl)
theorem tf_body165 : Body Tryd.prog 165 := Body.of (by kernel_rfl)
theorem tf_body166 : Body Tryd.prog 166 := Body.of (by kernel_rfl)
theorem tf_body168 : Body Tryd.prog 168 := Body.of (by kernel_rfl)
theorem tf_body169 : Body Tryd.prog 169 := Body.of (by kernel_rfl)
theorem tf_body170 : Body Tryd.prog 170 := Body.of (by kernel_rfl)
theorem tf_body171 : Body Tryd.prog 171 := Body.of (by kernel_rfl)
theorem tf_body172 : Body Tryd.prog 172 := Body.of (by kernel_rfl)
theorem tf_body173 : Body Tryd.prog 173 := Body.of (by kernel_rfl)
theorem tf_body174 : Body Tryd.prog 174 := Body.of (by kernel_rfl)
theorem tf_body175 : Body Tryd.prog 175 := Body.of (by kernel_rfl)
theorem tf_body176 : Body Tryd.prog 176 := Body.of (by kernel_rfl)
theorem tf_body177 : Body Tryd.prog 177 := Body.of (by kernel_rfl)
theorem tf_body178 : Body Tryd.prog 178 := Body.of (by kernel_rfl)
theorem tf_body179 : Body Tryd.prog 179 := Body.of (by kernel_rfl)
theorem tf_body180 : Body Tryd.prog 180 := Body.of (by kernel_rfl)
theorem tf_body181 : Body Tryd.prog 181 := Body.of (by kernel_rfl)
theorem tf_body182 : Body Tryd.prog 182 := Body.of (by kernel_rfl)
theorem tf_body183 : Body Tryd.prog 183 := Body.of (by kernel_rfl)
theorem tf_body184 : Body Tryd.prog 184 := Body.of (by kernel_rfl)
theorem tf_body186 : Body Tryd.prog 186 := Body.of (by kernel_rfl)
theorem tf_body187 : Body Tryd.prog 187 := Body.of (by kernel_rfl)
theorem tf_body188 : Body Tryd.prog 188 := Body.of (by kernel_rfl)
theorem tf_body189 : Body Tryd.prog 189 := Body.of (by kernel_rfl)
theorem tf_body190 : Body Tryd.prog 190 := Body.of (by kernel_rfl)
theorem tf_body191 : Body Tryd.prog 191 := Body.of (by kernel_rfl)
theorem tf_body193 : Body Tryd.prog 193 := Body.of (by kernel_rfl)
theorem tf_body194 : Body Tryd.prog 194 := Body.of (by kernel_rfl)
theorem tf_body195 : Body Tryd.prog 195 := Body.of (by kernel_rfl)
theorem tf_body196 : Body Tryd.prog 196 := Body.of (by kernel_rfl)
theorem tf_body197 : Body Tryd.prog 197 := Body.of (by kernel_rfl)
theorem tf_body198 : Body Tryd.prog 198 := Body.of (by kernel_rfl)
theorem tf_body199 : Body Tryd.prog 199 := Body.of (by kernel_rfl)
theorem tf_body200 : Body Tryd.prog 200 := Body.of (by kernel_rfl)
theorem tf_body201 : Body Tryd.prog 201 := Body.of (by kernel_rfl)
theorem tf_body227 : Body Tryd.prog 227 := Body.of (by kernel_rfl)
end Go.Proofs.YtlfkoimkojbghaaDoor
