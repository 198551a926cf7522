/- Texts joined into one: RR10p1. -/
import Derived.Test.YtkinbnepkpoofaaGreatDoorQk1
/- RunReads: 10 rounds. -/
set_option maxRecDepth 1000000
set_option linter.unusedVariables false
open Go Go.AM
namespace Go.Proofs.YtkinbnepkpoofaaGreatDoor
theorem rrF10_4 (x0 x1 x2 x3 : Int) : rrX10 [.im rrP10, .im (.sl false 1 [.int .i64 x0, .int .i64 x1, .int .i64 x2, .int .i64 x3]), .im (.int .i64 100), .im (.int .i64 0), .im (.sl true 0 [])] [] = some (false, .tup [.im (.agg [.int .i64 0, .int .i64 23, .int .i64 (-1), .sl true 0 []]), .im (.int .i64 0)], []) := by kernel_rfl
theorem rrG10_4 (x0 x1 x2 x3 : Int) : lastV (rrY10 [.im rrP10, .im (.sl false 1 [.int .i64 x0, .int .i64 x1, .int .i64 x2, .int .i64 x3]), .im (.int .i64 100)] []) = some (23, 0, wantC 10 [x0, x1, x2, x3] (.int .i64 0)) := by kernel_rfl
theorem rrF10_5 (x0 x1 x2 x3 x4 : Int) : rrX10 [.im rrP10, .im (.sl false 1 [.int .i64 x0, .int .i64 x1, .int .i64 x2, .int .i64 x3, .int .i64 x4]), .im (.int .i64 100), .im (.int .i64 0), .im (.sl true 0 [])] [] = some (false, .tup [.im (.agg [.int .i64 0, .int .i64 23, .int .i64 (-1), .sl true 0 []]), .im (.int .i64 0)], []) := by kernel_rfl
theorem rrG10_5 (x0 x1 x2 x3 x4 : Int) : lastV (rrY10 [.im rrP10, .im (.sl false 1 [.int .i64 x0, .int .i64 x1, .int .i64 x2, .int .i64 x3, .int .i64 x4]), .im (.int .i64 100)] []) = some (23, 0, wantC 10 [x0, x1, x2, x3, x4] (.int .i64 0)) := by kernel_rfl
theorem rrF10_6 (x0 x1 x2 x3 x4 x5 : Int) : rrX10 [.im rrP10, .im (.sl false 1 [.int .i64 x0, .int .i64 x1, .int .i64 x2, .int .i64 x3, .int .i64 x4, .int .i64 x5]), .im (.int .i64 100), .im (.int .i64 0), .im (.sl true 0 [])] [] = some (false, .tup [.im (.agg [.int .i64 0, .int .i64 23, .int .i64 (-1), .sl true 0 []]), .im (.int .i64 0)], []) := by kernel_rfl
theorem rrG10_6 (x0 x1 x2 x3 x4 x5 : Int) : lastV (rrY10 [.im rrP10, .im (.sl false 1 [.int .i64 x0, .int .i64 x1, .int .i64 x2, .int .i64 x3, .int .i64 x4, .int .i64 x5]), .im (.int .i64 100)] []) = some (23, 0, wantC 10 [x0, x1, x2, x3, x4, x5] (.int .i64 0)) := by kernel_rfl
theorem rrF10_7 (x0 x1 x2 x3 x4 x5 x6 : Int) : rrX10 [.im rrP10, .im (.sl false 1 [.int .i64 x0, .int .i64 x1, .int .i64 x2, .int .i64 x3, .int .i64 x4, .int .i64 x5, .int .i64 x6]), .im (.int .i64 100), .im (.int .i64 0), .im (.sl true 0 [])] [] = some (false, .tup [.im (.agg [.int .i64 0, .int .i64 23, .int .i64 (-1), .sl true 0 []]), .im (.int .i64 0)], []) := by kernel_rfl
theorem rrG10_7 (x0 x1 x2 x3 x4 x5 x6 : Int) : lastV (rrY10 [.im rrP10, .im (.sl false 1 [.int .i64 x0, .int .i64 x1, .int .i64 x2, .int .i64 x3, .int .i64 x4, .int .i64 x5, .int .i64 x6]), .im (.int .i64 100)] []) = some (23, 0, wantC 10 [x0, x1, x2, x3, x4, x5, x6] (.int .i64 0)) := by kernel_rfl
end Go.Proofs.YtkinbnepkpoofaaGreatDoor