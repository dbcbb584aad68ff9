/- What the walks need of the types and functions of this program, each a closed fact. -/
import Derived.Test.YtllfgcekebafhaaProg
import Derived.Test.YtllfgcekebafhaaLgT
namespace Go.Proofs.Ytllfgcekebafhaa
set_option maxRecDepth 100000
theorem tf_flat1 : flatB Try.prog 1 = true := by kernel_rfl
theorem tf_sz1 : sizeN Try.prog 1 1 = true := by kernel_rfl
theorem tf_zero1 : zeroV Try.prog 1 = some (.nilFunc) := by kernel_rfl
theorem tf_flat2 : flatB Try.prog 2 = true := by kernel_rfl
theorem tf_sz2 : sizeN Try.prog 2 1 = true := by kernel_rfl
theorem tf_zero2 : zeroV Try.prog 2 = some (.int .i64 0) := by kernel_rfl
theorem tf_flat3 : flatB Try.prog 3 = true := by kernel_rfl
theorem tf_sz3 : sizeN Try.prog 3 1 = true := by kernel_rfl
theorem tf_zero3 : zeroV Try.prog 3 = some (.int .i64 0) := by kernel_rfl
theorem tf_flat4 : flatB Try.prog 4 = true := by kernel_rfl
theorem tf_sz4 : sizeN Try.prog 4 1 = true := by kernel_rfl
theorem tf_zero4 : zeroV Try.prog 4 = some (.bool false) := by kernel_rfl
theorem tf_flat5 : flatB Try.prog 5 = true := by kernel_rfl
theorem tf_sz5 : sizeN Try.prog 5 1 = true := by kernel_rfl
theorem tf_zero5 : zeroV Try.prog 5 = some (.int .u8 0) := by kernel_rfl
theorem tf_flat6 : flatB Try.prog 6 = true := by kernel_rfl
theorem tf_sz6 : sizeN Try.prog 6 1 = true := by kernel_rfl
theorem tf_zero6 : zeroV Try.prog 6 = some (.int .u8 0) := by kernel_rfl
theorem tf_sz7 : sizeN Try.prog 7 4 = true := by kernel_rfl
theorem tf_agg7 : aggN Try.prog 7 = some 4 := by kernel_rfl
theorem tf_zero7 : zeroV Try.prog 7 = some (.agg #[.int .i64 0, .int .i64 0, .bool false, .int .u8 0]) := by kernel_rfl
theorem tf_lay7 : layOf Try.prog 7 = some ([(0, 1), (1, 1), (2, 1), (3, 1)], [.int .i64 0, .int .i64 0, .bool false, .int .u8 0]) := by kernel_rfl
theorem tf_fo7_0 : fieldOff Try.prog 7 0 = some 0 := by kernel_rfl
theorem tf_fo7_1 : fieldOff Try.prog 7 1 = some 1 := by kernel_rfl
theorem tf_fo7_2 : fieldOff Try.prog 7 2 = some 2 := by kernel_rfl
theorem tf_fo7_3 : fieldOff Try.prog 7 3 = some 3 := by kernel_rfl
theorem tf_sz8 : sizeN Try.prog 8 4 = true := by kernel_rfl
theorem tf_agg8 : aggN Try.prog 8 = some 4 := by kernel_rfl
theorem tf_zero8 : zeroV Try.prog 8 = some (.agg #[.int .i64 0, .int .i64 0, .bool false, .int .u8 0]) := by kernel_rfl
theorem tf_lay8 : layOf Try.prog 8 = some ([(0, 1), (1, 1), (2, 1), (3, 1)], [.int .i64 0, .int .i64 0, .bool false, .int .u8 0]) := by kernel_rfl
theorem tf_fo8_0 : fieldOff Try.prog 8 0 = some 0 := by kernel_rfl
theorem tf_fo8_1 : fieldOff Try.prog 8 1 = some 1 := by kernel_rfl
theorem tf_fo8_2 : fieldOff Try.prog 8 2 = some 2 := by kernel_rfl
theorem tf_fo8_3 : fieldOff Try.prog 8 3 = some 3 := by kernel_rfl
theorem tf_flat9 : flatB Try.prog 9 = true := by kernel_rfl
theorem tf_sz9 : sizeN Try.prog 9 1 = true := by kernel_rfl
theorem tf_zero9 : zeroV Try.prog 9 = some (str []) := by kernel_rfl
theorem tf_flat10 : flatB Try.prog 10 = true := by kernel_rfl
theorem tf_sz10 : sizeN Try.prog 10 1 = true := by kernel_rfl
theorem tf_zero10 : zeroV Try.prog 10 = some (str []) := by kernel_rfl
theorem tf_flat11 : flatB Try.prog 11 = true := by kernel_rfl
theorem tf_sz11 : sizeN Try.prog 11 1 = true := by kernel_rfl
theorem tf_zero11 : zeroV Try.prog 11 = some (str []) := by kernel_rfl
theorem tf_flat12 : flatB Try.prog 12 = true := by kernel_rfl
theorem tf_sz12 : sizeN Try.prog 12 1 = true := by kernel_rfl
theorem tf_zero12 : zeroV Try.prog 12 = some (.int .u64 0) := by kernel_rfl
theorem tf_sz13 : sizeN Try.prog 13 2 = true := by kernel_rfl
theorem tf_agg13 : aggN Try.prog 13 = some 2 := by kernel_rfl
theorem tf_zero13 : zeroV Try.prog 13 = some (.agg #[str [], .int .u64 0]) := by kernel_rfl
theorem tf_lay13 : layOf Try.prog 13 = some ([(0, 1), (1, 1)], [str [], .int .u64 0]) := by kernel_rfl
theorem tf_fo13_0 : fieldOff Try.prog 13 0 = some 0 := by kernel_rfl
theorem tf_fo13_1 : fieldOff Try.prog 13 1 = some 1 := by kernel_rfl
theorem tf_sz14 : sizeN Try.prog 14 2 = true := by kernel_rfl
theorem tf_agg14 : aggN Try.prog 14 = some 2 := by kernel_rfl
theorem tf_zero14 : zeroV Try.prog 14 = some (.agg #[str [], .int .u64 0]) := by kernel_rfl
theorem tf_lay14 : layOf Try.prog 14 = some ([(0, 1), (1, 1)], [str [], .int .u64 0]) := by kernel_rfl
theorem tf_fo14_0 : fieldOff Try.prog 14 0 = some 0 := by kernel_rfl
theorem tf_fo14_1 : fieldOff Try.prog 14 1 = some 1 := by kernel_rfl
theorem tf_flat15 : flatB Try.prog 15 = true := by kernel_rfl
theorem tf_sz15 : sizeN Try.prog 15 1 = true := by kernel_rfl
theorem tf_zero15 : zeroV Try.prog 15 = some (.pointer none) := by kernel_rfl
theorem tf_flat16 : flatB Try.prog 16 = true := by kernel_rfl
theorem tf_sz16 : sizeN Try.prog 16 1 = true := by kernel_rfl
theorem tf_zero16 : zeroV Try.prog 16 = some (.pointer none) := by kernel_rfl
theorem tf_flat17 : flatB Try.prog 17 = true := by kernel_rfl
theorem tf_sz17 : sizeN Try.prog 17 1 = true := by kernel_rfl
theorem tf_zero17 : zeroV Try.prog 17 = some (.pointer none) := by kernel_rfl
theorem tf_sz18 : sizeN Try.prog 18 1 = true := by kernel_rfl
theorem tf_agg18 : aggN Try.prog 18 = some 1 := by kernel_rfl
theorem tf_zero18 : zeroV Try.prog 18 = some (.agg #[.pointer none]) := by kernel_rfl
theorem tf_lay18 : layOf Try.prog 18 = some ([(0, 1)], [.pointer none]) := by kernel_rfl
theorem tf_fo18_0 : fieldOff Try.prog 18 0 = some 0 := by kernel_rfl
theorem tf_sz19 : sizeN Try.prog 19 1 = true := by kernel_rfl
theorem tf_agg19 : aggN Try.prog 19 = some 1 := by kernel_rfl
theorem tf_zero19 : zeroV Try.prog 19 = some (.agg #[.pointer none]) := by kernel_rfl
theorem tf_lay19 : layOf Try.prog 19 = some ([(0, 1)], [.pointer none]) := by kernel_rfl
theorem tf_fo19_0 : fieldOff Try.prog 19 0 = some 0 := by kernel_rfl
theorem tf_flat20 : flatB Try.prog 20 = true := by kernel_rfl
theorem tf_sz20 : sizeN Try.prog 20 1 = true := by kernel_rfl
theorem tf_zero20 : zeroV Try.prog 20 = some (.nilIface) := by kernel_rfl
theorem tf_flat21 : flatB Try.prog 21 = true := by kernel_rfl
theorem tf_sz21 : sizeN Try.prog 21 1 = true := by kernel_rfl
theorem tf_zero21 : zeroV Try.prog 21 = some (.int .i32 0) := by kernel_rfl
theorem tf_flat22 : flatB Try.prog 22 = true := by kernel_rfl
theorem tf_sz22 : sizeN Try.prog 22 1 = true := by kernel_rfl
theorem tf_zero22 : zeroV Try.prog 22 = some (.slice none 0 0) := by kernel_rfl
theorem tf_el22 : ElemOk Try.prog 22 5 tyB (0 : UInt8) 1 := ElemOk.of Try.underlying22 (by kernel_rfl) (by kernel_rfl) rfl
theorem tf_flat23 : flatB Try.prog 23 = true := by kernel_rfl
theorem tf_sz23 : sizeN Try.prog 23 1 = true := by kernel_rfl
theorem tf_zero23 : zeroV Try.prog 23 = some (.nilFunc) := by kernel_rfl
theorem tf_flat24 : flatB Try.prog 24 = true := by kernel_rfl
theorem tf_sz24 : sizeN Try.prog 24 1 = true := by kernel_rfl
theorem tf_zero24 : zeroV Try.prog 24 = some (.nilFunc) := by kernel_rfl
theorem tf_flat25 : flatB Try.prog 25 = true := by kernel_rfl
theorem tf_sz25 : sizeN Try.prog 25 1 = true := by kernel_rfl
theorem tf_zero25 : zeroV Try.prog 25 = some (.int .i64 0) := by kernel_rfl
theorem tf_flat27 : flatB Try.prog 27 = true := by kernel_rfl
theorem tf_sz27 : sizeN Try.prog 27 1 = true := by kernel_rfl
theorem tf_zero27 : zeroV Try.prog 27 = some (.nilFunc) := by kernel_rfl
theorem tf_flat28 : flatB Try.prog 28 = true := by kernel_rfl
theorem tf_sz28 : sizeN Try.prog 28 1 = true := by kernel_rfl
theorem tf_zero28 : zeroV Try.prog 28 = some (.nilFunc) := by kernel_rfl
theorem tf_flat29 : flatB Try.prog 29 = true := by kernel_rfl
theorem tf_sz29 : sizeN Try.prog 29 1 = true := by kernel_rfl
theorem tf_zero29 : zeroV Try.prog 29 = some (.nilFunc) := by kernel_rfl
theorem tf_flat30 : flatB Try.prog 30 = true := by kernel_rfl
theorem tf_sz30 : sizeN Try.prog 30 1 = true := by kernel_rfl
theorem tf_zero30 : zeroV Try.prog 30 = some (.nilFunc) := by kernel_rfl
theorem tf_flat31 : flatB Try.prog 31 = true := by kernel_rfl
theorem tf_sz31 : sizeN Try.prog 31 1 = true := by kernel_rfl
theorem tf_zero31 : zeroV Try.prog 31 = some (.slice none 0 0) := by kernel_rfl
theorem tf_el31 : ElemOk Try.prog 31 3 tyI (0 : Int) 8 := ElemOk.of Try.underlying31 (by kernel_rfl) (by kernel_rfl) rfl
theorem tf_flat33 : flatB Try.prog 33 = true := by kernel_rfl
theorem tf_sz33 : sizeN Try.prog 33 1 = true := by kernel_rfl
theorem tf_zero33 : zeroV Try.prog 33 = some (.nilFunc) := by kernel_rfl
theorem tf_flat34 : flatB Try.prog 34 = true := by kernel_rfl
theorem tf_sz34 : sizeN Try.prog 34 1 = true := by kernel_rfl
theorem tf_zero34 : zeroV Try.prog 34 = some (.slice none 0 0) := by kernel_rfl
theorem tf_el34 : ElemOk Try.prog 34 22 tyL (⟨none, 0, []⟩ : Bs) 24 := ElemOk.of Try.underlying34 (by kernel_rfl) (by kernel_rfl) rfl
theorem tf_flat35 : flatB Try.prog 35 = true := by kernel_rfl
theorem tf_sz35 : sizeN Try.prog 35 1 = true := by kernel_rfl
theorem tf_zero35 : zeroV Try.prog 35 = some (.nilFunc) := by kernel_rfl
theorem tf_flat36 : flatB Try.prog 36 = true := by kernel_rfl
theorem tf_sz36 : sizeN Try.prog 36 1 = true := by kernel_rfl
theorem tf_zero36 : zeroV Try.prog 36 = some (.nilFunc) := by kernel_rfl
theorem tf_flat37 : flatB Try.prog 37 = true := by kernel_rfl
theorem tf_sz37 : sizeN Try.prog 37 1 = true := by kernel_rfl
theorem tf_zero37 : zeroV Try.prog 37 = some (.slice none 0 0) := by kernel_rfl
theorem tf_flat38 : flatB Try.prog 38 = true := by kernel_rfl
theorem tf_sz38 : sizeN Try.prog 38 1 = true := by kernel_rfl
theorem tf_zero38 : zeroV Try.prog 38 = some (.nilIface) := by kernel_rfl
theorem tf_flat39 : flatB Try.prog 39 = true := by kernel_rfl
theorem tf_sz39 : sizeN Try.prog 39 1 = true := by kernel_rfl
theorem tf_zero39 : zeroV Try.prog 39 = some (.nilIface) := by kernel_rfl
theorem tf_flat40 : flatB Try.prog 40 = true := by kernel_rfl
theorem tf_sz40 : sizeN Try.prog 40 1 = true := by kernel_rfl
theorem tf_zero40 : zeroV Try.prog 40 = some (.nilFunc) := by kernel_rfl
theorem tf_flat41 : flatB Try.prog 41 = true := by kernel_rfl
theorem tf_sz41 : sizeN Try.prog 41 1 = true := by kernel_rfl
theorem tf_zero41 : zeroV Try.prog 41 = some (.nilFunc) := by kernel_rfl
theorem tf_flat42 : flatB Try.prog 42 = true := by kernel_rfl
theorem tf_sz42 : sizeN Try.prog 42 1 = true := by kernel_rfl
theorem tf_zero42 : zeroV Try.prog 42 = some (.pointer none) := by kernel_rfl
theorem tf_sz43 : sizeN Try.prog 43 7 = true := by kernel_rfl
theorem tf_agg43 : aggN Try.prog 43 = some 7 := by kernel_rfl
theorem tf_zero43 : zeroV Try.prog 43 = some (.agg #[.bool false, .slice none 0 0, .bool false, .bool false, .bool false, .bool false, .bool false]) := by kernel_rfl
theorem tf_lay43 : layOf Try.prog 43 = some ([(0, 1), (1, 1), (2, 1), (3, 1), (4, 1), (5, 1), (6, 1)], [.bool false, .slice none 0 0, .bool false, .bool false, .bool false, .bool false, .bool false]) := by kernel_rfl
theorem tf_fo43_0 : fieldOff Try.prog 43 0 = some 0 := by kernel_rfl
theorem tf_fo43_1 : fieldOff Try.prog 43 1 = some 1 := by kernel_rfl
theorem tf_fo43_2 : fieldOff Try.prog 43 2 = some 2 := by kernel_rfl
theorem tf_fo43_3 : fieldOff Try.prog 43 3 = some 3 := by kernel_rfl
theorem tf_fo43_4 : fieldOff Try.prog 43 4 = some 4 := by kernel_rfl
theorem tf_fo43_5 : fieldOff Try.prog 43 5 = some 5 := by kernel_rfl
theorem tf_fo43_6 : fieldOff Try.prog 43 6 = some 6 := by kernel_rfl
theorem tf_sz44 : sizeN Try.prog 44 7 = true := by kernel_rfl
theorem tf_agg44 : aggN Try.prog 44 = some 7 := by kernel_rfl
theorem tf_zero44 : zeroV Try.prog 44 = some (.agg #[.bool false, .slice none 0 0, .bool false, .bool false, .bool false, .bool false, .bool false]) := by kernel_rfl
theorem tf_lay44 : layOf Try.prog 44 = some ([(0, 1), (1, 1), (2, 1), (3, 1), (4, 1), (5, 1), (6, 1)], [.bool false, .slice none 0 0, .bool false, .bool false, .bool false, .bool false, .bool false]) := by kernel_rfl
theorem tf_fo44_0 : fieldOff Try.prog 44 0 = some 0 := by kernel_rfl
theorem tf_fo44_1 : fieldOff Try.prog 44 1 = some 1 := by kernel_rfl
theorem tf_fo44_2 : fieldOff Try.prog 44 2 = some 2 := by kernel_rfl
theorem tf_fo44_3 : fieldOff Try.prog 44 3 = some 3 := by kernel_rfl
theorem tf_fo44_4 : fieldOff Try.prog 44 4 = some 4 := by kernel_rfl
theorem tf_fo44_5 : fieldOff Try.prog 44 5 = some 5 := by kernel_rfl
theorem tf_fo44_6 : fieldOff Try.prog 44 6 = some 6 := by kernel_rfl
theorem tf_sz45 : sizeN Try.prog 45 2 = true := by kernel_rfl
theorem tf_agg45 : aggN Try.prog 45 = some 2 := by kernel_rfl
theorem tf_zero45 : zeroV Try.prog 45 = some (.agg #[.int .i64 0, .slice none 0 0]) := by kernel_rfl
theorem tf_lay45 : layOf Try.prog 45 = some ([(0, 1), (1, 1)], [.int .i64 0, .slice none 0 0]) := by kernel_rfl
theorem tf_fo45_0 : fieldOff Try.prog 45 0 = some 0 := by kernel_rfl
theorem tf_fo45_1 : fieldOff Try.prog 45 1 = some 1 := by kernel_rfl
theorem tf_sz46 : sizeN Try.prog 46 2 = true := by kernel_rfl
theorem tf_agg46 : aggN Try.prog 46 = some 2 := by kernel_rfl
theorem tf_zero46 : zeroV Try.prog 46 = some (.agg #[.int .i64 0, .slice none 0 0]) := by kernel_rfl
theorem tf_lay46 : layOf Try.prog 46 = some ([(0, 1), (1, 1)], [.int .i64 0, .slice none 0 0]) := by kernel_rfl
theorem tf_fo46_0 : fieldOff Try.prog 46 0 = some 0 := by kernel_rfl
theorem tf_fo46_1 : fieldOff Try.prog 46 1 = some 1 := by kernel_rfl
theorem tf_flat47 : flatB Try.prog 47 = true := by kernel_rfl
theorem tf_sz47 : sizeN Try.prog 47 1 = true := by kernel_rfl
theorem tf_zero47 : zeroV Try.prog 47 = some (.nilFunc) := by kernel_rfl
theorem tf_flat48 : flatB Try.prog 48 = true := by kernel_rfl
theorem tf_sz48 : sizeN Try.prog 48 1 = true := by kernel_rfl
theorem tf_zero48 : zeroV Try.prog 48 = some (.nilFunc) := by kernel_rfl
theorem tf_flat49 : flatB Try.prog 49 = true := by kernel_rfl
theorem tf_sz49 : sizeN Try.prog 49 1 = true := by kernel_rfl
theorem tf_zero49 : zeroV Try.prog 49 = some (.nilFunc) := by kernel_rfl
theorem tf_flat50 : flatB Try.prog 50 = true := by kernel_rfl
theorem tf_sz50 : sizeN Try.prog 50 1 = true := by kernel_rfl
theorem tf_zero50 : zeroV Try.prog 50 = some (.nilFunc) := by kernel_rfl
theorem tf_flat51 : flatB Try.prog 51 = true := by kernel_rfl
theorem tf_sz51 : sizeN Try.prog 51 1 = true := by kernel_rfl
theorem tf_zero51 : zeroV Try.prog 51 = some (.nilFunc) := by kernel_rfl
theorem tf_flat52 : flatB Try.prog 52 = true := by kernel_rfl
theorem tf_sz52 : sizeN Try.prog 52 1 = true := by kernel_rfl
theorem tf_zero52 : zeroV Try.prog 52 = some (.nilFunc) := by kernel_rfl
theorem tf_flat53 : flatB Try.prog 53 = true := by kernel_rfl
theorem tf_sz53 : sizeN Try.prog 53 1 = true := by kernel_rfl
theorem tf_zero53 : zeroV Try.prog 53 = some (.nilFunc) := by kernel_rfl
theorem tf_flat54 : flatB Try.prog 54 = true := by kernel_rfl
theorem tf_sz54 : sizeN Try.prog 54 1 = true := by kernel_rfl
theorem tf_zero54 : zeroV Try.prog 54 = some (.nilFunc) := by kernel_rfl
theorem tf_flat55 : flatB Try.prog 55 = true := by kernel_rfl
theorem tf_sz55 : sizeN Try.prog 55 1 = true := by kernel_rfl
theorem tf_zero55 : zeroV Try.prog 55 = some (.nilFunc) := by kernel_rfl
theorem tf_flat57 : flatB Try.prog 57 = true := by kernel_rfl
theorem tf_sz57 : sizeN Try.prog 57 1 = true := by kernel_rfl
theorem tf_zero57 : zeroV Try.prog 57 = some (.nilFunc) := by kernel_rfl
theorem tf_flat58 : flatB Try.prog 58 = true := by kernel_rfl
theorem tf_sz58 : sizeN Try.prog 58 1 = true := by kernel_rfl
theorem tf_zero58 : zeroV Try.prog 58 = some (.pointer none) := by kernel_rfl
theorem tf_flat59 : flatB Try.prog 59 = true := by kernel_rfl
theorem tf_sz59 : sizeN Try.prog 59 1 = true := by kernel_rfl
theorem tf_zero59 : zeroV Try.prog 59 = some (.slice none 0 0) := by kernel_rfl
theorem tf_el59 : ElemOk Try.prog 59 5 tyB (0 : UInt8) 1 := ElemOk.of Try.underlying59 (by kernel_rfl) (by kernel_rfl) rfl
theorem tf_sz60 : sizeN Try.prog 60 6 = true := by kernel_rfl
theorem tf_agg60 : aggN Try.prog 60 = some 6 := by kernel_rfl
theorem tf_zero60 : zeroV Try.prog 60 = some (.agg #[.slice none 0 0, .bool false, .bool false, .bool false, .bool false, .bool false]) := by kernel_rfl
theorem tf_lay60 : layOf Try.prog 60 = some ([(0, 1), (1, 1), (2, 1), (3, 1), (4, 1), (5, 1)], [.slice none 0 0, .bool false, .bool false, .bool false, .bool false, .bool false]) := by kernel_rfl
theorem tf_fo60_0 : fieldOff Try.prog 60 0 = some 0 := by kernel_rfl
theorem tf_fo60_1 : fieldOff Try.prog 60 1 = some 1 := by kernel_rfl
theorem tf_fo60_2 : fieldOff Try.prog 60 2 = some 2 := by kernel_rfl
theorem tf_fo60_3 : fieldOff Try.prog 60 3 = some 3 := by kernel_rfl
theorem tf_fo60_4 : fieldOff Try.prog 60 4 = some 4 := by kernel_rfl
theorem tf_fo60_5 : fieldOff Try.prog 60 5 = some 5 := by kernel_rfl
theorem tf_sz61 : sizeN Try.prog 61 6 = true := by kernel_rfl
theorem tf_agg61 : aggN Try.prog 61 = some 6 := by kernel_rfl
theorem tf_zero61 : zeroV Try.prog 61 = some (.agg #[.slice none 0 0, .bool false, .bool false, .bool false, .bool false, .bool false]) := by kernel_rfl
theorem tf_lay61 : layOf Try.prog 61 = some ([(0, 1), (1, 1), (2, 1), (3, 1), (4, 1), (5, 1)], [.slice none 0 0, .bool false, .bool false, .bool false, .bool false, .bool false]) := by kernel_rfl
theorem tf_fo61_0 : fieldOff Try.prog 61 0 = some 0 := by kernel_rfl
theorem tf_fo61_1 : fieldOff Try.prog 61 1 = some 1 := by kernel_rfl
theorem tf_fo61_2 : fieldOff Try.prog 61 2 = some 2 := by kernel_rfl
theorem tf_fo61_3 : fieldOff Try.prog 61 3 = some 3 := by kernel_rfl
theorem tf_fo61_4 : fieldOff Try.prog 61 4 = some 4 := by kernel_rfl
theorem tf_fo61_5 : fieldOff Try.prog 61 5 = some 5 := by kernel_rfl
theorem tf_flat62 : flatB Try.prog 62 = true := by kernel_rfl
theorem tf_sz62 : sizeN Try.prog 62 1 = true := by kernel_rfl
theorem tf_zero62 : zeroV Try.prog 62 = some (.pointer none) := by kernel_rfl
theorem tf_sz63 : sizeN Try.prog 63 1 = true := by kernel_rfl
theorem tf_agg63 : aggN Try.prog 63 = some 1 := by kernel_rfl
theorem tf_zero63 : zeroV Try.prog 63 = some (.agg #[.bool false]) := by kernel_rfl
theorem tf_lay63 : layOf Try.prog 63 = some ([(0, 1)], [.bool false]) := by kernel_rfl
theorem tf_fo63_0 : fieldOff Try.prog 63 0 = some 0 := by kernel_rfl
theorem tf_sz64 : sizeN Try.prog 64 1 = true := by kernel_rfl
theorem tf_agg64 : aggN Try.prog 64 = some 1 := by kernel_rfl
theorem tf_zero64 : zeroV Try.prog 64 = some (.agg #[.bool false]) := by kernel_rfl
theorem tf_lay64 : layOf Try.prog 64 = some ([(0, 1)], [.bool false]) := by kernel_rfl
theorem tf_fo64_0 : fieldOff Try.prog 64 0 = some 0 := by kernel_rfl
theorem tf_sz65 : sizeN Try.prog 65 2 = true := by kernel_rfl
theorem tf_agg65 : aggN Try.prog 65 = some 2 := by kernel_rfl
theorem tf_zero65 : zeroV Try.prog 65 = some (.agg #[.int .u8 0, .int .u8 0]) := by kernel_rfl
theorem tf_flat66 : flatB Try.prog 66 = true := by kernel_rfl
theorem tf_sz66 : sizeN Try.prog 66 1 = true := by kernel_rfl
theorem tf_zero66 : zeroV Try.prog 66 = some (.nilFunc) := by kernel_rfl
theorem tf_flat67 : flatB Try.prog 67 = true := by kernel_rfl
theorem tf_sz67 : sizeN Try.prog 67 1 = true := by kernel_rfl
theorem tf_zero67 : zeroV Try.prog 67 = some (.nilFunc) := by kernel_rfl
theorem tf_sz68 : sizeN Try.prog 68 4 = true := by kernel_rfl
theorem tf_agg68 : aggN Try.prog 68 = some 4 := by kernel_rfl
theorem tf_zero68 : zeroV Try.prog 68 = some (.agg #[.pointer none, .pointer none, .pointer none, str []]) := by kernel_rfl
theorem tf_lay68 : layOf Try.prog 68 = some ([(0, 1), (1, 1), (2, 1), (3, 1)], [.pointer none, .pointer none, .pointer none, str []]) := by kernel_rfl
theorem tf_fo68_0 : fieldOff Try.prog 68 0 = some 0 := by kernel_rfl
theorem tf_fo68_1 : fieldOff Try.prog 68 1 = some 1 := by kernel_rfl
theorem tf_fo68_2 : fieldOff Try.prog 68 2 = some 2 := by kernel_rfl
theorem tf_fo68_3 : fieldOff Try.prog 68 3 = some 3 := by kernel_rfl
theorem tf_sz69 : sizeN Try.prog 69 4 = true := by kernel_rfl
theorem tf_agg69 : aggN Try.prog 69 = some 4 := by kernel_rfl
theorem tf_zero69 : zeroV Try.prog 69 = some (.agg #[.pointer none, .pointer none, .pointer none, str []]) := by kernel_rfl
theorem tf_lay69 : layOf Try.prog 69 = some ([(0, 1), (1, 1), (2, 1), (3, 1)], [.pointer none, .pointer none, .pointer none, str []]) := by kernel_rfl
theorem tf_fo69_0 : fieldOff Try.prog 69 0 = some 0 := by kernel_rfl
theorem tf_fo69_1 : fieldOff Try.prog 69 1 = some 1 := by kernel_rfl
theorem tf_fo69_2 : fieldOff Try.prog 69 2 = some 2 := by kernel_rfl
theorem tf_fo69_3 : fieldOff Try.prog 69 3 = some 3 := by kernel_rfl
theorem tf_sz70 : sizeN Try.prog 70 0 = true := by kernel_rfl
theorem tf_agg70 : aggN Try.prog 70 = some 0 := by kernel_rfl
theorem tf_zero70 : zeroV Try.prog 70 = some (.agg #[]) := by kernel_rfl
theorem tf_sz71 : sizeN Try.prog 71 0 = true := by kernel_rfl
theorem tf_agg71 : aggN Try.prog 71 = some 0 := by kernel_rfl
theorem tf_zero71 : zeroV Try.prog 71 = some (.agg #[]) := by kernel_rfl
theorem tf_lay71 : layOf Try.prog 71 = some ([(0, 0)], []) := by kernel_rfl
theorem tf_sz72 : sizeN Try.prog 72 0 = true := by kernel_rfl
theorem tf_agg72 : aggN Try.prog 72 = some 0 := by kernel_rfl
theorem tf_zero72 : zeroV Try.prog 72 = some (.agg #[]) := by kernel_rfl
theorem tf_lay72 : layOf Try.prog 72 = some ([(0, 0)], []) := by kernel_rfl
theorem tf_flat73 : flatB Try.prog 73 = true := by kernel_rfl
theorem tf_sz73 : sizeN Try.prog 73 1 = true := by kernel_rfl
theorem tf_zero73 : zeroV Try.prog 73 = some (.int .u32 0) := by kernel_rfl
theorem tf_flat74 : flatB Try.prog 74 = true := by kernel_rfl
theorem tf_sz74 : sizeN Try.prog 74 1 = true := by kernel_rfl
theorem tf_zero74 : zeroV Try.prog 74 = some (.int .u8 0) := by kernel_rfl
theorem tf_flat75 : flatB Try.prog 75 = true := by kernel_rfl
theorem tf_sz75 : sizeN Try.prog 75 1 = true := by kernel_rfl
theorem tf_zero75 : zeroV Try.prog 75 = some (.int .u8 0) := by kernel_rfl
theorem tf_flat76 : flatB Try.prog 76 = true := by kernel_rfl
theorem tf_sz76 : sizeN Try.prog 76 1 = true := by kernel_rfl
theorem tf_zero76 : zeroV Try.prog 76 = some (.nilFunc) := by kernel_rfl
theorem tf_flat77 : flatB Try.prog 77 = true := by kernel_rfl
theorem tf_sz77 : sizeN Try.prog 77 1 = true := by kernel_rfl
theorem tf_zero77 : zeroV Try.prog 77 = some (.pointer none) := by kernel_rfl
theorem tf_flat78 : flatB Try.prog 78 = true := by kernel_rfl
theorem tf_sz78 : sizeN Try.prog 78 1 = true := by kernel_rfl
theorem tf_zero78 : zeroV Try.prog 78 = some (.int .i32 0) := by kernel_rfl
theorem tf_flat79 : flatB Try.prog 79 = true := by kernel_rfl
theorem tf_sz79 : sizeN Try.prog 79 1 = true := by kernel_rfl
theorem tf_zero79 : zeroV Try.prog 79 = some (.int .i32 0) := by kernel_rfl
theorem tf_sz80 : sizeN Try.prog 80 11 = true := by kernel_rfl
theorem tf_agg80 : aggN Try.prog 80 = some 11 := by kernel_rfl
theorem tf_zero80 : zeroV Try.prog 80 = some (.agg #[.int .u64 0, .int .u64 0, .int .u32 0, .int .u8 0, .int .u8 0, .int .u8 0, .int .u8 0, .nilFunc, .pointer none, .int .i32 0, .int .i32 0]) := by kernel_rfl
theorem tf_lay80 : layOf Try.prog 80 = some ([(0, 1), (1, 1), (2, 1), (3, 1), (4, 1), (5, 1), (6, 1), (7, 1), (8, 1), (9, 1), (10, 1)], [.int .u64 0, .int .u64 0, .int .u32 0, .int .u8 0, .int .u8 0, .int .u8 0, .int .u8 0, .nilFunc, .pointer none, .int .i32 0, .int .i32 0]) := by kernel_rfl
theorem tf_fo80_0 : fieldOff Try.prog 80 0 = some 0 := by kernel_rfl
theorem tf_fo80_1 : fieldOff Try.prog 80 1 = some 1 := by kernel_rfl
theorem tf_fo80_2 : fieldOff Try.prog 80 2 = some 2 := by kernel_rfl
theorem tf_fo80_3 : fieldOff Try.prog 80 3 = some 3 := by kernel_rfl
theorem tf_fo80_4 : fieldOff Try.prog 80 4 = some 4 := by kernel_rfl
theorem tf_fo80_5 : fieldOff Try.prog 80 5 = some 5 := by kernel_rfl
theorem tf_fo80_6 : fieldOff Try.prog 80 6 = some 6 := by kernel_rfl
theorem tf_fo80_7 : fieldOff Try.prog 80 7 = some 7 := by kernel_rfl
theorem tf_fo80_8 : fieldOff Try.prog 80 8 = some 8 := by kernel_rfl
theorem tf_fo80_9 : fieldOff Try.prog 80 9 = some 9 := by kernel_rfl
theorem tf_fo80_10 : fieldOff Try.prog 80 10 = some 10 := by kernel_rfl
theorem tf_sz81 : sizeN Try.prog 81 11 = true := by kernel_rfl
theorem tf_agg81 : aggN Try.prog 81 = some 11 := by kernel_rfl
theorem tf_zero81 : zeroV Try.prog 81 = some (.agg #[.int .u64 0, .int .u64 0, .int .u32 0, .int .u8 0, .int .u8 0, .int .u8 0, .int .u8 0, .nilFunc, .pointer none, .int .i32 0, .int .i32 0]) := by kernel_rfl
theorem tf_lay81 : layOf Try.prog 81 = some ([(0, 1), (1, 1), (2, 1), (3, 1), (4, 1), (5, 1), (6, 1), (7, 1), (8, 1), (9, 1), (10, 1)], [.int .u64 0, .int .u64 0, .int .u32 0, .int .u8 0, .int .u8 0, .int .u8 0, .int .u8 0, .nilFunc, .pointer none, .int .i32 0, .int .i32 0]) := by kernel_rfl
theorem tf_fo81_0 : fieldOff Try.prog 81 0 = some 0 := by kernel_rfl
theorem tf_fo81_1 : fieldOff Try.prog 81 1 = some 1 := by kernel_rfl
theorem tf_fo81_2 : fieldOff Try.prog 81 2 = some 2 := by kernel_rfl
theorem tf_fo81_3 : fieldOff Try.prog 81 3 = some 3 := by kernel_rfl
theorem tf_fo81_4 : fieldOff Try.prog 81 4 = some 4 := by kernel_rfl
theorem tf_fo81_5 : fieldOff Try.prog 81 5 = some 5 := by kernel_rfl
theorem tf_fo81_6 : fieldOff Try.prog 81 6 = some 6 := by kernel_rfl
theorem tf_fo81_7 : fieldOff Try.prog 81 7 = some 7 := by kernel_rfl
theorem tf_fo81_8 : fieldOff Try.prog 81 8 = some 8 := by kernel_rfl
theorem tf_fo81_9 : fieldOff Try.prog 81 9 = some 9 := by kernel_rfl
theorem tf_fo81_10 : fieldOff Try.prog 81 10 = some 10 := by kernel_rfl
theorem tf_flat82 : flatB Try.prog 82 = true := by kernel_rfl
theorem tf_sz82 : sizeN Try.prog 82 1 = true := by kernel_rfl
theorem tf_zero82 : zeroV Try.prog 82 = some (.nilFunc) := by kernel_rfl
theorem tf_flat84 : flatB Try.prog 84 = true := by kernel_rfl
theorem tf_sz84 : sizeN Try.prog 84 1 = true := by kernel_rfl
theorem tf_zero84 : zeroV Try.prog 84 = some (.nilFunc) := by kernel_rfl
theorem tf_flat85 : flatB Try.prog 85 = true := by kernel_rfl
theorem tf_sz85 : sizeN Try.prog 85 1 = true := by kernel_rfl
theorem tf_zero85 : zeroV Try.prog 85 = some (.nilFunc) := by kernel_rfl
theorem tf_flat86 : flatB Try.prog 86 = true := by kernel_rfl
theorem tf_sz86 : sizeN Try.prog 86 1 = true := by kernel_rfl
theorem tf_zero86 : zeroV Try.prog 86 = some (.nilFunc) := by kernel_rfl
theorem tf_flat87 : flatB Try.prog 87 = true := by kernel_rfl
theorem tf_sz87 : sizeN Try.prog 87 1 = true := by kernel_rfl
theorem tf_zero87 : zeroV Try.prog 87 = some (.nilFunc) := by kernel_rfl
theorem tf_flat88 : flatB Try.prog 88 = true := by kernel_rfl
theorem tf_sz88 : sizeN Try.prog 88 1 = true := by kernel_rfl
theorem tf_zero88 : zeroV Try.prog 88 = some (.slice none 0 0) := by kernel_rfl
theorem tf_el88 : ElemOk Try.prog 88 59 tyL (⟨none, 0, []⟩ : Bs) 24 := ElemOk.of Try.underlying88 (by kernel_rfl) (by kernel_rfl) rfl
theorem tf_flat89 : flatB Try.prog 89 = true := by kernel_rfl
theorem tf_sz89 : sizeN Try.prog 89 1 = true := by kernel_rfl
theorem tf_zero89 : zeroV Try.prog 89 = some (.nilFunc) := by kernel_rfl
theorem tf_flat91 : flatB Try.prog 91 = true := by kernel_rfl
theorem tf_sz91 : sizeN Try.prog 91 1 = true := by kernel_rfl
theorem tf_zero91 : zeroV Try.prog 91 = some (.nilFunc) := by kernel_rfl
theorem tf_flat92 : flatB Try.prog 92 = true := by kernel_rfl
theorem tf_sz92 : sizeN Try.prog 92 1 = true := by kernel_rfl
theorem tf_zero92 : zeroV Try.prog 92 = some (.nilFunc) := by kernel_rfl
theorem tf_sz93 : sizeN Try.prog 93 2 = true := by kernel_rfl
theorem tf_agg93 : aggN Try.prog 93 = some 2 := by kernel_rfl
theorem tf_zero93 : zeroV Try.prog 93 = some (.agg #[.int .i64 0, .int .i64 0]) := by kernel_rfl
theorem tf_lay93 : layOf Try.prog 93 = some ([(0, 1), (1, 1)], [.int .i64 0, .int .i64 0]) := by kernel_rfl
theorem tf_fo93_0 : fieldOff Try.prog 93 0 = some 0 := by kernel_rfl
theorem tf_fo93_1 : fieldOff Try.prog 93 1 = some 1 := by kernel_rfl
theorem tf_sz94 : sizeN Try.prog 94 2 = true := by kernel_rfl
theorem tf_agg94 : aggN Try.prog 94 = some 2 := by kernel_rfl
theorem tf_zero94 : zeroV Try.prog 94 = some (.agg #[.int .i64 0, .int .i64 0]) := by kernel_rfl
theorem tf_lay94 : layOf Try.prog 94 = some ([(0, 1), (1, 1)], [.int .i64 0, .int .i64 0]) := by kernel_rfl
theorem tf_fo94_0 : fieldOff Try.prog 94 0 = some 0 := by kernel_rfl
theorem tf_fo94_1 : fieldOff Try.prog 94 1 = some 1 := by kernel_rfl
theorem tf_flat96 : flatB Try.prog 96 = true := by kernel_rfl
theorem tf_sz96 : sizeN Try.prog 96 1 = true := by kernel_rfl
theorem tf_zero96 : zeroV Try.prog 96 = some (.nilFunc) := by kernel_rfl
theorem tf_flat97 : flatB Try.prog 97 = true := by kernel_rfl
theorem tf_sz97 : sizeN Try.prog 97 1 = true := by kernel_rfl
theorem tf_zero97 : zeroV Try.prog 97 = some (.nilFunc) := by kernel_rfl
theorem tf_flat99 : flatB Try.prog 99 = true := by kernel_rfl
theorem tf_sz99 : sizeN Try.prog 99 1 = true := by kernel_rfl
theorem tf_zero99 : zeroV Try.prog 99 = some (.nilFunc) := by kernel_rfl
theorem tf_flat100 : flatB Try.prog 100 = true := by kernel_rfl
theorem tf_sz100 : sizeN Try.prog 100 1 = true := by kernel_rfl
theorem tf_zero100 : zeroV Try.prog 100 = some (.int .u64 0) := by kernel_rfl
theorem tf_flat101 : flatB Try.prog 101 = true := by kernel_rfl
theorem tf_sz101 : sizeN Try.prog 101 1 = true := by kernel_rfl
theorem tf_zero101 : zeroV Try.prog 101 = some (.nilIface) := by kernel_rfl
theorem tf_flat103 : flatB Try.prog 103 = true := by kernel_rfl
theorem tf_sz103 : sizeN Try.prog 103 1 = true := by kernel_rfl
theorem tf_zero103 : zeroV Try.prog 103 = some (.pointer none) := by kernel_rfl
theorem tf_mixed : Try.prog.follows .mixedOrders = true := by kernel_rfl
theorem tf_body2 : Body Try.prog 2 := Body.of (by kernel_rfl)
theorem tf_body3 : Body Try.prog 3 := Body.of (by kernel_rfl)
theorem tf_body4 : Body Try.prog 4 := Body.of (by kernel_rfl)
theorem tf_body5 : Body Try.prog 5 := Body.of (by kernel_rfl)
theorem tf_body6 : Body Try.prog 6 := Body.of (by kernel_rfl)
theorem tf_body7 : Body Try.prog 7 := Body.of (by kernel_rfl)
theorem tf_body8 : Body Try.prog 8 := Body.of (by kernel_rfl)
theorem tf_body9 : Body Try.prog 9 := Body.of (by kernel_rfl)
theorem tf_body10 : Body Try.prog 10 := Body.of (by kernel_rfl)
theorem tf_body11 : Body Try.prog 11 := Body.of (by kernel_rfl)
theorem tf_body12 : Body Try.prog 12 := Body.of (by kernel_rfl)
theorem tf_body13 : Body Try.prog 13 := Body.of (by kernel_rfl)
theorem tf_body14 : Body Try.prog 14 := Body.of (by kernel_rfl)
theorem tf_body15 : Body Try.prog 15 := Body.of (by kernel_rfl)
theorem tf_body16 : Body Try.prog 16 := Body.of (by kernel_rfl)
theorem tf_body17 : Body Try.prog 17 := Body.of (by kernel_rfl)
theorem tf_body18 : Body Try.prog 18 := Body.of (by kernel_rfl)
theorem tf_body19 : Body Try.prog 19 := Body.of (by kernel_rfl)
theorem tf_body20 : Body Try.prog 20 := Body.of (by kernel_rfl)
theorem tf_body21 : Body Try.prog 21 := Body.of (by kernel_rfl)
theorem tf_body22 : Body Try.prog 22 := Body.of (by kernel_rfl)
theorem tf_body23 : Body Try.prog 23 := Body.of (by kernel_rfl)
theorem tf_body24 : Body Try.prog 24 := Body.of (by kernel_rfl)
theorem tf_body25 : Body Try.prog 25 := Body.of (by kernel_rfl)
theorem tf_body26 : Body Try.prog 26 := Body.of (by kernel_rfl)
theorem tf_body27 : Body Try.prog 27 := Body.of (by kernel_rfl)
theorem tf_body28 : Body Try.prog 28 := Body.of (by kernel_rfl)
theorem tf_body29 : Body Try.prog 29 := Body.of (by kernel_rfl)
theorem tf_body30 : Body Try.prog 30 := Body.of (by kernel_rfl)
theorem tf_body31 : Body Try.prog 31 := Body.of (by kernel_rfl)
theorem tf_body32 : Body Try.prog 32 := Body.of (by kernel_rfl)
theorem tf_body49 : Body Try.prog 49 := Body.of (by kernel_rfl)
theorem tf_body50 : Body Try.prog 50 := Body.of (by kernel_rfl)
theorem tf_body51 : Body Try.prog 51 := Body.of (by kernel_rfl)
theorem tf_body52 : Body Try.prog 52 := Body.of (by kernel_rfl)
theorem tf_body53 : Body Try.prog 53 := Body.of (by kernel_rfl)
theorem tf_body54 : Body Try.prog 54 := Body.of (by kernel_rfl)
theorem tf_body55 : Body Try.prog 55 := Body.of (by kernel_rfl)
theorem tf_body56 : Body Try.prog 56 := Body.of (by kernel_rfl)
theorem tf_body57 : Body Try.prog 57 := Body.of (by kernel_rfl)
theorem tf_body58 : Body Try.prog 58 := Body.of (by kernel_rfl)
theorem tf_body59 : Body Try.prog 59 := Body.of (by kernel_rfl)
theorem tf_body60 : Body Try.prog 60 := Body.of (by kernel_rfl)
theorem tf_body61 : Body Try.prog 61 := Body.of (by kernel_rfl)
theorem tf_body62 : Body Try.prog 62 := Body.of (by kernel_rfl)
theorem tf_body63 : Body Try.prog 63 := Body.of (by kernel_rfl)
theorem tf_body64 : Body Try.prog 64 := Body.of (by kernel_rfl)
theorem tf_body65 : Body Try.prog 65 := Body.of (by kernel_rfl)
theorem tf_body66 : Body Try.prog 66 := Body.of (by kernel_rfl)
theorem tf_body67 : Body Try.prog 67 := Body.of (by kernel_rfl)
theorem tf_body68 : Body Try.prog 68 := Body.of (by kernel_rfl)
theorem tf_body69 : Body Try.prog 69 := Body.of (by kernel_rfl)
theorem tf_body70 : Body Try.prog 70 := Body.of (by kernel_rfl)
theorem tf_body71 : Body Try.prog 71 := Body.of (by kernel_rfl)
theorem tf_body72 : Body Try.prog 72 := Body.of (by kernel_rfl)
theorem tf_body73 : Body Try.prog 73 := Body.of (by kernel_rfl)
end Go.Proofs.Ytllfgcekebafhaa
