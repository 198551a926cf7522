/- Texts joined into one: RR14p0. -/
import Derived.Test.YtkinbnepkpoofaaGreatDoorQk2
/- RunReads: 14 rounds. -/
set_option maxRecDepth 1000000
set_option linter.unusedVariables false
open Go Go.AM
namespace Go.Proofs.YtkinbnepkpoofaaGreatDoor
theorem rrF14_0 : rrX14 [.im rrP14, .im (.sl false 1 []), .im (.int .i64 100), .im (.int .i64 0), .im (.sl true 0 [])] [] = some (false, .tup [.im (.agg [.int .i64 0, .int .i64 31, .int .i64 (-1), .sl true 0 []]), .im (.int .i64 0)], []) := by kernel_rfl
theorem rrG14_0 : lastV (rrY14 [.im rrP14, .im (.sl false 1 []), .im (.int .i64 100)] []) = some (31, 0, wantC 14 [] (.int .i64 0)) := by kernel_rfl
theorem rrF14_1 (x0 : Int) : rrX14 [.im rrP14, .im (.sl false 1 [.int .i64 x0]), .im (.int .i64 100), .im (.int .i64 0), .im (.sl true 0 [])] [] = some (false, .tup [.im (.agg [.int .i64 0, .int .i64 31, .int .i64 (-1), .sl true 0 []]), .im (.int .i64 0)], []) := by kernel_rfl
theorem rrG14_1 (x0 : Int) : lastV (rrY14 [.im rrP14, .im (.sl false 1 [.int .i64 x0]), .im (.int .i64 100)] []) = some (31, 0, wantC 14 [x0] (.int .i64 0)) := by kernel_rfl
theorem rrF14_2 (x0 x1 : Int) : rrX14 [.im rrP14, .im (.sl false 1 [.int .i64 x0, .int .i64 x1]), .im (.int .i64 100), .im (.int .i64 0), .im (.sl true 0 [])] [] = some (false, .tup [.im (.agg [.int .i64 0, .int .i64 31, .int .i64 (-1), .sl true 0 []]), .im (.int .i64 0)], []) := by kernel_rfl
theorem rrG14_2 (x0 x1 : Int) : lastV (rrY14 [.im rrP14, .im (.sl false 1 [.int .i64 x0, .int .i64 x1]), .im (.int .i64 100)] []) = some (31, 0, wantC 14 [x0, x1] (.int .i64 0)) := by kernel_rfl
theorem rrF14_3 (x0 x1 x2 : Int) : rrX14 [.im rrP14, .im (.sl false 1 [.int .i64 x0, .int .i64 x1, .int .i64 x2]), .im (.int .i64 100), .im (.int .i64 0), .im (.sl true 0 [])] [] = some (false, .tup [.im (.agg [.int .i64 0, .int .i64 31, .int .i64 (-1), .sl true 0 []]), .im (.int .i64 0)], []) := by kernel_rfl
theorem rrG14_3 (x0 x1 x2 : Int) : lastV (rrY14 [.im rrP14, .im (.sl false 1 [.int .i64 x0, .int .i64 x1, .int .i64 x2]), .im (.int .i64 100)] []) = some (31, 0, wantC 14 [x0, x1, x2] (.int .i64 0)) := by kernel_rfl
end Go.Proofs.YtkinbnepkpoofaaGreatDoor