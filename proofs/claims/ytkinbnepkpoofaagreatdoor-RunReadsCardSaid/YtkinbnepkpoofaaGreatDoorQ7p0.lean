/- Texts joined into one: RR7p0. -/
import Derived.Test.YtkinbnepkpoofaaGreatDoorQk0
/- RunReads: 7 rounds. -/
set_option maxRecDepth 1000000
set_option linter.unusedVariables false
open Go Go.AM
namespace Go.Proofs.YtkinbnepkpoofaaGreatDoor
theorem rrF7_0 : rrX7 [.im rrP7, .im (.sl false 1 []), .im (.int .i64 100), .im (.int .i64 0), .im (.sl true 0 [])] [] = some (false, .tup [.im (.agg [.int .i64 0, .int .i64 17, .int .i64 (-1), .sl true 0 []]), .im (.int .i64 0)], []) := by kernel_rfl
theorem rrG7_0 : lastV (rrY7 [.im rrP7, .im (.sl false 1 []), .im (.int .i64 100)] []) = some (17, 0, wantC 7 [] (.int .i64 0)) := by kernel_rfl
theorem rrF7_1 (x0 : Int) : rrX7 [.im rrP7, .im (.sl false 1 [.int .i64 x0]), .im (.int .i64 100), .im (.int .i64 0), .im (.sl true 0 [])] [] = some (false, .tup [.im (.agg [.int .i64 0, .int .i64 17, .int .i64 (-1), .sl true 0 []]), .im (.int .i64 0)], []) := by kernel_rfl
theorem rrG7_1 (x0 : Int) : lastV (rrY7 [.im rrP7, .im (.sl false 1 [.int .i64 x0]), .im (.int .i64 100)] []) = some (17, 0, wantC 7 [x0] (.int .i64 0)) := by kernel_rfl
theorem rrF7_2 (x0 x1 : Int) : rrX7 [.im rrP7, .im (.sl false 1 [.int .i64 x0, .int .i64 x1]), .im (.int .i64 100), .im (.int .i64 0), .im (.sl true 0 [])] [] = some (false, .tup [.im (.agg [.int .i64 0, .int .i64 17, .int .i64 (-1), .sl true 0 []]), .im (.int .i64 0)], []) := by kernel_rfl
theorem rrG7_2 (x0 x1 : Int) : lastV (rrY7 [.im rrP7, .im (.sl false 1 [.int .i64 x0, .int .i64 x1]), .im (.int .i64 100)] []) = some (17, 0, wantC 7 [x0, x1] (.int .i64 0)) := by kernel_rfl
theorem rrF7_3 (x0 x1 x2 : Int) : rrX7 [.im rrP7, .im (.sl false 1 [.int .i64 x0, .int .i64 x1, .int .i64 x2]), .im (.int .i64 100), .im (.int .i64 0), .im (.sl true 0 [])] [] = some (false, .tup [.im (.agg [.int .i64 0, .int .i64 17, .int .i64 (-1), .sl true 0 []]), .im (.int .i64 0)], []) := by kernel_rfl
theorem rrG7_3 (x0 x1 x2 : Int) : lastV (rrY7 [.im rrP7, .im (.sl false 1 [.int .i64 x0, .int .i64 x1, .int .i64 x2]), .im (.int .i64 100)] []) = some (17, 0, wantC 7 [x0, x1, x2] (.int .i64 0)) := by kernel_rfl
theorem rrF7_4 (x0 x1 x2 x3 : Int) : rrX7 [.im rrP7, .im (.sl false 1 [.int .i64 x0, .int .i64 x1, .int .i64 x2, .int .i64 x3]), .im (.int .i64 100), .im (.int .i64 0), .im (.sl true 0 [])] [] = some (false, .tup [.im (.agg [.int .i64 0, .int .i64 17, .int .i64 (-1), .sl true 0 []]), .im (.int .i64 0)], []) := by kernel_rfl
theorem rrG7_4 (x0 x1 x2 x3 : Int) : lastV (rrY7 [.im rrP7, .im (.sl false 1 [.int .i64 x0, .int .i64 x1, .int .i64 x2, .int .i64 x3]), .im (.int .i64 100)] []) = some (17, 0, wantC 7 [x0, x1, x2, x3] (.int .i64 0)) := by kernel_rfl
theorem rrF7_5 (x0 x1 x2 x3 x4 : Int) : rrX7 [.im rrP7, .im (.sl false 1 [.int .i64 x0, .int .i64 x1, .int .i64 x2, .int .i64 x3, .int .i64 x4]), .im (.int .i64 100), .im (.int .i64 0), .im (.sl true 0 [])] [] = some (false, .tup [.im (.agg [.int .i64 0, .int .i64 17, .int .i64 (-1), .sl true 0 []]), .im (.int .i64 0)], []) := by kernel_rfl
theorem rrG7_5 (x0 x1 x2 x3 x4 : Int) : lastV (rrY7 [.im rrP7, .im (.sl false 1 [.int .i64 x0, .int .i64 x1, .int .i64 x2, .int .i64 x3, .int .i64 x4]), .im (.int .i64 100)] []) = some (17, 0, wantC 7 [x0, x1, x2, x3, x4] (.int .i64 0)) := by kernel_rfl
end Go.Proofs.YtkinbnepkpoofaaGreatDoor