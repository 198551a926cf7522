/- Texts joined into one: RR5p0. -/
import Derived.Test.YtkinbnepkpoofaaGreatDoorQk0
/- RunReads: 5 rounds. -/
set_option maxRecDepth 1000000
set_option linter.unusedVariables false
open Go Go.AM
namespace Go.Proofs.YtkinbnepkpoofaaGreatDoor
theorem rrF5_0 : rrX5 [.im rrP5, .im (.sl false 1 []), .im (.int .i64 100), .im (.int .i64 0), .im (.sl true 0 [])] [] = some (false, .tup [.im (.agg [.int .i64 0, .int .i64 13, .int .i64 (-1), .sl true 0 []]), .im (.int .i64 0)], []) := by kernel_rfl
theorem rrG5_0 : lastV (rrY5 [.im rrP5, .im (.sl false 1 []), .im (.int .i64 100)] []) = some (13, 0, wantC 5 [] (.int .i64 0)) := by kernel_rfl
theorem rrF5_1 (x0 : Int) : rrX5 [.im rrP5, .im (.sl false 1 [.int .i64 x0]), .im (.int .i64 100), .im (.int .i64 0), .im (.sl true 0 [])] [] = some (false, .tup [.im (.agg [.int .i64 0, .int .i64 13, .int .i64 (-1), .sl true 0 []]), .im (.int .i64 0)], []) := by kernel_rfl
theorem rrG5_1 (x0 : Int) : lastV (rrY5 [.im rrP5, .im (.sl false 1 [.int .i64 x0]), .im (.int .i64 100)] []) = some (13, 0, wantC 5 [x0] (.int .i64 0)) := by kernel_rfl
theorem rrF5_2 (x0 x1 : Int) : rrX5 [.im rrP5, .im (.sl false 1 [.int .i64 x0, .int .i64 x1]), .im (.int .i64 100), .im (.int .i64 0), .im (.sl true 0 [])] [] = some (false, .tup [.im (.agg [.int .i64 0, .int .i64 13, .int .i64 (-1), .sl true 0 []]), .im (.int .i64 0)], []) := by kernel_rfl
theorem rrG5_2 (x0 x1 : Int) : lastV (rrY5 [.im rrP5, .im (.sl false 1 [.int .i64 x0, .int .i64 x1]), .im (.int .i64 100)] []) = some (13, 0, wantC 5 [x0, x1] (.int .i64 0)) := by kernel_rfl
theorem rrF5_3 (x0 x1 x2 : Int) : rrX5 [.im rrP5, .im (.sl false 1 [.int .i64 x0, .int .i64 x1, .int .i64 x2]), .im (.int .i64 100), .im (.int .i64 0), .im (.sl true 0 [])] [] = some (false, .tup [.im (.agg [.int .i64 0, .int .i64 13, .int .i64 (-1), .sl true 0 []]), .im (.int .i64 0)], []) := by kernel_rfl
theorem rrG5_3 (x0 x1 x2 : Int) : lastV (rrY5 [.im rrP5, .im (.sl false 1 [.int .i64 x0, .int .i64 x1, .int .i64 x2]), .im (.int .i64 100)] []) = some (13, 0, wantC 5 [x0, x1, x2] (.int .i64 0)) := by kernel_rfl
theorem rrF5_4 (x0 x1 x2 x3 : Int) : rrX5 [.im rrP5, .im (.sl false 1 [.int .i64 x0, .int .i64 x1, .int .i64 x2, .int .i64 x3]), .im (.int .i64 100), .im (.int .i64 0), .im (.sl true 0 [])] [] = some (false, .tup [.im (.agg [.int .i64 0, .int .i64 13, .int .i64 (-1), .sl true 0 []]), .im (.int .i64 0)], []) := by kernel_rfl
theorem rrG5_4 (x0 x1 x2 x3 : Int) : lastV (rrY5 [.im rrP5, .im (.sl false 1 [.int .i64 x0, .int .i64 x1, .int .i64 x2, .int .i64 x3]), .im (.int .i64 100)] []) = some (13, 0, wantC 5 [x0, x1, x2, x3] (.int .i64 0)) := by kernel_rfl
theorem rrF5_5 (x0 x1 x2 x3 x4 : Int) : rrX5 [.im rrP5, .im (.sl false 1 [.int .i64 x0, .int .i64 x1, .int .i64 x2, .int .i64 x3, .int .i64 x4]), .im (.int .i64 100), .im (.int .i64 0), .im (.sl true 0 [])] [] = some (false, .tup [.im (.agg [.int .i64 0, .int .i64 13, .int .i64 (-1), .sl true 0 []]), .im (.int .i64 0)], []) := by kernel_rfl
theorem rrG5_5 (x0 x1 x2 x3 x4 : Int) : lastV (rrY5 [.im rrP5, .im (.sl false 1 [.int .i64 x0, .int .i64 x1, .int .i64 x2, .int .i64 x3, .int .i64 x4]), .im (.int .i64 100)] []) = some (13, 0, wantC 5 [x0, x1, x2, x3, x4] (.int .i64 x4)) := by kernel_rfl
end Go.Proofs.YtkinbnepkpoofaaGreatDoor