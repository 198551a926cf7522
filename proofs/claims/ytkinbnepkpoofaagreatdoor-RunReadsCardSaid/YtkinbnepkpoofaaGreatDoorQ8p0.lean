/- Texts joined into one: RR8p0. -/
import Derived.Test.YtkinbnepkpoofaaGreatDoorQk1
/- RunReads: 8 rounds. -/
set_option maxRecDepth 1000000
set_option linter.unusedVariables false
open Go Go.AM
namespace Go.Proofs.YtkinbnepkpoofaaGreatDoor
theorem rrF8_0 : rrX8 [.im rrP8, .im (.sl false 1 []), .im (.int .i64 100), .im (.int .i64 0), .im (.sl true 0 [])] [] = some (false, .tup [.im (.agg [.int .i64 0, .int .i64 19, .int .i64 (-1), .sl true 0 []]), .im (.int .i64 0)], []) := by kernel_rfl
theorem rrG8_0 : lastV (rrY8 [.im rrP8, .im (.sl false 1 []), .im (.int .i64 100)] []) = some (19, 0, wantC 8 [] (.int .i64 0)) := by kernel_rfl
theorem rrF8_1 (x0 : Int) : rrX8 [.im rrP8, .im (.sl false 1 [.int .i64 x0]), .im (.int .i64 100), .im (.int .i64 0), .im (.sl true 0 [])] [] = some (false, .tup [.im (.agg [.int .i64 0, .int .i64 19, .int .i64 (-1), .sl true 0 []]), .im (.int .i64 0)], []) := by kernel_rfl
theorem rrG8_1 (x0 : Int) : lastV (rrY8 [.im rrP8, .im (.sl false 1 [.int .i64 x0]), .im (.int .i64 100)] []) = some (19, 0, wantC 8 [x0] (.int .i64 0)) := by kernel_rfl
theorem rrF8_2 (x0 x1 : Int) : rrX8 [.im rrP8, .im (.sl false 1 [.int .i64 x0, .int .i64 x1]), .im (.int .i64 100), .im (.int .i64 0), .im (.sl true 0 [])] [] = some (false, .tup [.im (.agg [.int .i64 0, .int .i64 19, .int .i64 (-1), .sl true 0 []]), .im (.int .i64 0)], []) := by kernel_rfl
theorem rrG8_2 (x0 x1 : Int) : lastV (rrY8 [.im rrP8, .im (.sl false 1 [.int .i64 x0, .int .i64 x1]), .im (.int .i64 100)] []) = some (19, 0, wantC 8 [x0, x1] (.int .i64 0)) := by kernel_rfl
theorem rrF8_3 (x0 x1 x2 : Int) : rrX8 [.im rrP8, .im (.sl false 1 [.int .i64 x0, .int .i64 x1, .int .i64 x2]), .im (.int .i64 100), .im (.int .i64 0), .im (.sl true 0 [])] [] = some (false, .tup [.im (.agg [.int .i64 0, .int .i64 19, .int .i64 (-1), .sl true 0 []]), .im (.int .i64 0)], []) := by kernel_rfl
theorem rrG8_3 (x0 x1 x2 : Int) : lastV (rrY8 [.im rrP8, .im (.sl false 1 [.int .i64 x0, .int .i64 x1, .int .i64 x2]), .im (.int .i64 100)] []) = some (19, 0, wantC 8 [x0, x1, x2] (.int .i64 0)) := by kernel_rfl
theorem rrF8_4 (x0 x1 x2 x3 : Int) : rrX8 [.im rrP8, .im (.sl false 1 [.int .i64 x0, .int .i64 x1, .int .i64 x2, .int .i64 x3]), .im (.int .i64 100), .im (.int .i64 0), .im (.sl true 0 [])] [] = some (false, .tup [.im (.agg [.int .i64 0, .int .i64 19, .int .i64 (-1), .sl true 0 []]), .im (.int .i64 0)], []) := by kernel_rfl
theorem rrG8_4 (x0 x1 x2 x3 : Int) : lastV (rrY8 [.im rrP8, .im (.sl false 1 [.int .i64 x0, .int .i64 x1, .int .i64 x2, .int .i64 x3]), .im (.int .i64 100)] []) = some (19, 0, wantC 8 [x0, x1, x2, x3] (.int .i64 0)) := by kernel_rfl
theorem rrF8_5 (x0 x1 x2 x3 x4 : Int) : rrX8 [.im rrP8, .im (.sl false 1 [.int .i64 x0, .int .i64 x1, .int .i64 x2, .int .i64 x3, .int .i64 x4]), .im (.int .i64 100), .im (.int .i64 0), .im (.sl true 0 [])] [] = some (false, .tup [.im (.agg [.int .i64 0, .int .i64 19, .int .i64 (-1), .sl true 0 []]), .im (.int .i64 0)], []) := by kernel_rfl
theorem rrG8_5 (x0 x1 x2 x3 x4 : Int) : lastV (rrY8 [.im rrP8, .im (.sl false 1 [.int .i64 x0, .int .i64 x1, .int .i64 x2, .int .i64 x3, .int .i64 x4]), .im (.int .i64 100)] []) = some (19, 0, wantC 8 [x0, x1, x2, x3, x4] (.int .i64 0)) := by kernel_rfl
end Go.Proofs.YtkinbnepkpoofaaGreatDoor