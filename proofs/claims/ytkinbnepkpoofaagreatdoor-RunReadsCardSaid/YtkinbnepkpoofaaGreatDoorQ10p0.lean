/- Texts joined into one: RR10p0. -/
import Derived.Test.YtkinbnepkpoofaaGreatDoorQk1
/- RunReads: 10 rounds. -/
set_option maxRecDepth 1000000
set_option linter.unusedVariables false
open Go Go.AM
namespace Go.Proofs.YtkinbnepkpoofaaGreatDoor
theorem rrF10_0 : rrX10 [.im rrP10, .im (.sl false 1 []), .im (.int .i64 100), .im (.int .i64 0), .im (.sl true 0 [])] [] = some (false, .tup [.im (.agg [.int .i64 0, .int .i64 23, .int .i64 (-1), .sl true 0 []]), .im (.int .i64 0)], []) := by kernel_rfl
theorem rrG10_0 : lastV (rrY10 [.im rrP10, .im (.sl false 1 []), .im (.int .i64 100)] []) = some (23, 0, wantC 10 [] (.int .i64 0)) := by kernel_rfl
theorem rrF10_1 (x0 : Int) : rrX10 [.im rrP10, .im (.sl false 1 [.int .i64 x0]), .im (.int .i64 100), .im (.int .i64 0), .im (.sl true 0 [])] [] = some (false, .tup [.im (.agg [.int .i64 0, .int .i64 23, .int .i64 (-1), .sl true 0 []]), .im (.int .i64 0)], []) := by kernel_rfl
theorem rrG10_1 (x0 : Int) : lastV (rrY10 [.im rrP10, .im (.sl false 1 [.int .i64 x0]), .im (.int .i64 100)] []) = some (23, 0, wantC 10 [x0] (.int .i64 0)) := by kernel_rfl
theorem rrF10_2 (x0 x1 : Int) : rrX10 [.im rrP10, .im (.sl false 1 [.int .i64 x0, .int .i64 x1]), .im (.int .i64 100), .im (.int .i64 0), .im (.sl true 0 [])] [] = some (false, .tup [.im (.agg [.int .i64 0, .int .i64 23, .int .i64 (-1), .sl true 0 []]), .im (.int .i64 0)], []) := by kernel_rfl
theorem rrG10_2 (x0 x1 : Int) : lastV (rrY10 [.im rrP10, .im (.sl false 1 [.int .i64 x0, .int .i64 x1]), .im (.int .i64 100)] []) = some (23, 0, wantC 10 [x0, x1] (.int .i64 0)) := by kernel_rfl
theorem rrF10_3 (x0 x1 x2 : Int) : rrX10 [.im rrP10, .im (.sl false 1 [.int .i64 x0, .int .i64 x1, .int .i64 x2]), .im (.int .i64 100), .im (.int .i64 0), .im (.sl true 0 [])] [] = some (false, .tup [.im (.agg [.int .i64 0, .int .i64 23, .int .i64 (-1), .sl true 0 []]), .im (.int .i64 0)], []) := by kernel_rfl
theorem rrG10_3 (x0 x1 x2 : Int) : lastV (rrY10 [.im rrP10, .im (.sl false 1 [.int .i64 x0, .int .i64 x1, .int .i64 x2]), .im (.int .i64 100)] []) = some (23, 0, wantC 10 [x0, x1, x2] (.int .i64 0)) := by kernel_rfl
end Go.Proofs.YtkinbnepkpoofaaGreatDoor