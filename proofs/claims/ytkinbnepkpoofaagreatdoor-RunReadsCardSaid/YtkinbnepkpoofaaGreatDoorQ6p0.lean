/- Texts joined into one: RR6p0. -/
import Derived.Test.YtkinbnepkpoofaaGreatDoorQk0
/- RunReads: 6 rounds. -/
set_option maxRecDepth 1000000
set_option linter.unusedVariables false
open Go Go.AM
namespace Go.Proofs.YtkinbnepkpoofaaGreatDoor
theorem rrF6_0 : rrX6 [.im rrP6, .im (.sl false 1 []), .im (.int .i64 100), .im (.int .i64 0), .im (.sl true 0 [])] [] = some (false, .tup [.im (.agg [.int .i64 0, .int .i64 15, .int .i64 (-1), .sl true 0 []]), .im (.int .i64 0)], []) := by kernel_rfl
theorem rrG6_0 : lastV (rrY6 [.im rrP6, .im (.sl false 1 []), .im (.int .i64 100)] []) = some (15, 0, wantC 6 [] (.int .i64 0)) := by kernel_rfl
theorem rrF6_1 (x0 : Int) : rrX6 [.im rrP6, .im (.sl false 1 [.int .i64 x0]), .im (.int .i64 100), .im (.int .i64 0), .im (.sl true 0 [])] [] = some (false, .tup [.im (.agg [.int .i64 0, .int .i64 15, .int .i64 (-1), .sl true 0 []]), .im (.int .i64 0)], []) := by kernel_rfl
theorem rrG6_1 (x0 : Int) : lastV (rrY6 [.im rrP6, .im (.sl false 1 [.int .i64 x0]), .im (.int .i64 100)] []) = some (15, 0, wantC 6 [x0] (.int .i64 0)) := by kernel_rfl
theorem rrF6_2 (x0 x1 : Int) : rrX6 [.im rrP6, .im (.sl false 1 [.int .i64 x0, .int .i64 x1]), .im (.int .i64 100), .im (.int .i64 0), .im (.sl true 0 [])] [] = some (false, .tup [.im (.agg [.int .i64 0, .int .i64 15, .int .i64 (-1), .sl true 0 []]), .im (.int .i64 0)], []) := by kernel_rfl
theorem rrG6_2 (x0 x1 : Int) : lastV (rrY6 [.im rrP6, .im (.sl false 1 [.int .i64 x0, .int .i64 x1]), .im (.int .i64 100)] []) = some (15, 0, wantC 6 [x0, x1] (.int .i64 0)) := by kernel_rfl
theorem rrF6_3 (x0 x1 x2 : Int) : rrX6 [.im rrP6, .im (.sl false 1 [.int .i64 x0, .int .i64 x1, .int .i64 x2]), .im (.int .i64 100), .im (.int .i64 0), .im (.sl true 0 [])] [] = some (false, .tup [.im (.agg [.int .i64 0, .int .i64 15, .int .i64 (-1), .sl true 0 []]), .im (.int .i64 0)], []) := by kernel_rfl
theorem rrG6_3 (x0 x1 x2 : Int) : lastV (rrY6 [.im rrP6, .im (.sl false 1 [.int .i64 x0, .int .i64 x1, .int .i64 x2]), .im (.int .i64 100)] []) = some (15, 0, wantC 6 [x0, x1, x2] (.int .i64 0)) := by kernel_rfl
theorem rrF6_4 (x0 x1 x2 x3 : Int) : rrX6 [.im rrP6, .im (.sl false 1 [.int .i64 x0, .int .i64 x1, .int .i64 x2, .int .i64 x3]), .im (.int .i64 100), .im (.int .i64 0), .im (.sl true 0 [])] [] = some (false, .tup [.im (.agg [.int .i64 0, .int .i64 15, .int .i64 (-1), .sl true 0 []]), .im (.int .i64 0)], []) := by kernel_rfl
theorem rrG6_4 (x0 x1 x2 x3 : Int) : lastV (rrY6 [.im rrP6, .im (.sl false 1 [.int .i64 x0, .int .i64 x1, .int .i64 x2, .int .i64 x3]), .im (.int .i64 100)] []) = some (15, 0, wantC 6 [x0, x1, x2, x3] (.int .i64 0)) := by kernel_rfl
theorem rrF6_5 (x0 x1 x2 x3 x4 : Int) : rrX6 [.im rrP6, .im (.sl false 1 [.int .i64 x0, .int .i64 x1, .int .i64 x2, .int .i64 x3, .int .i64 x4]), .im (.int .i64 100), .im (.int .i64 0), .im (.sl true 0 [])] [] = some (false, .tup [.im (.agg [.int .i64 0, .int .i64 15, .int .i64 (-1), .sl true 0 []]), .im (.int .i64 0)], []) := by kernel_rfl
theorem rrG6_5 (x0 x1 x2 x3 x4 : Int) : lastV (rrY6 [.im rrP6, .im (.sl false 1 [.int .i64 x0, .int .i64 x1, .int .i64 x2, .int .i64 x3, .int .i64 x4]), .im (.int .i64 100)] []) = some (15, 0, wantC 6 [x0, x1, x2, x3, x4] (.int .i64 0)) := by kernel_rfl
end Go.Proofs.YtkinbnepkpoofaaGreatDoor