/- Texts joined into one: RR4p0. -/
import Derived.Test.YtkinbnepkpoofaaGreatDoorQk0
/- RunReads: 4 rounds. -/
set_option maxRecDepth 1000000
set_option linter.unusedVariables false
open Go Go.AM
namespace Go.Proofs.YtkinbnepkpoofaaGreatDoor
theorem rrF4_0 : rrX4 [.im rrP4, .im (.sl false 1 []), .im (.int .i64 100), .im (.int .i64 0), .im (.sl true 0 [])] [] = some (false, .tup [.im (.agg [.int .i64 0, .int .i64 11, .int .i64 (-1), .sl true 0 []]), .im (.int .i64 0)], []) := by kernel_rfl
theorem rrG4_0 : lastV (rrY4 [.im rrP4, .im (.sl false 1 []), .im (.int .i64 100)] []) = some (11, 0, wantC 4 [] (.int .i64 0)) := by kernel_rfl
theorem rrF4_1 (x0 : Int) : rrX4 [.im rrP4, .im (.sl false 1 [.int .i64 x0]), .im (.int .i64 100), .im (.int .i64 0), .im (.sl true 0 [])] [] = some (false, .tup [.im (.agg [.int .i64 0, .int .i64 11, .int .i64 (-1), .sl true 0 []]), .im (.int .i64 0)], []) := by kernel_rfl
theorem rrG4_1 (x0 : Int) : lastV (rrY4 [.im rrP4, .im (.sl false 1 [.int .i64 x0]), .im (.int .i64 100)] []) = some (11, 0, wantC 4 [x0] (.int .i64 0)) := by kernel_rfl
theorem rrF4_2 (x0 x1 : Int) : rrX4 [.im rrP4, .im (.sl false 1 [.int .i64 x0, .int .i64 x1]), .im (.int .i64 100), .im (.int .i64 0), .im (.sl true 0 [])] [] = some (false, .tup [.im (.agg [.int .i64 0, .int .i64 11, .int .i64 (-1), .sl true 0 []]), .im (.int .i64 0)], []) := by kernel_rfl
theorem rrG4_2 (x0 x1 : Int) : lastV (rrY4 [.im rrP4, .im (.sl false 1 [.int .i64 x0, .int .i64 x1]), .im (.int .i64 100)] []) = some (11, 0, wantC 4 [x0, x1] (.int .i64 0)) := by kernel_rfl
theorem rrF4_3 (x0 x1 x2 : Int) : rrX4 [.im rrP4, .im (.sl false 1 [.int .i64 x0, .int .i64 x1, .int .i64 x2]), .im (.int .i64 100), .im (.int .i64 0), .im (.sl true 0 [])] [] = some (false, .tup [.im (.agg [.int .i64 0, .int .i64 11, .int .i64 (-1), .sl true 0 []]), .im (.int .i64 0)], []) := by kernel_rfl
theorem rrG4_3 (x0 x1 x2 : Int) : lastV (rrY4 [.im rrP4, .im (.sl false 1 [.int .i64 x0, .int .i64 x1, .int .i64 x2]), .im (.int .i64 100)] []) = some (11, 0, wantC 4 [x0, x1, x2] (.int .i64 0)) := by kernel_rfl
theorem rrF4_4 (x0 x1 x2 x3 : Int) : rrX4 [.im rrP4, .im (.sl false 1 [.int .i64 x0, .int .i64 x1, .int .i64 x2, .int .i64 x3]), .im (.int .i64 100), .im (.int .i64 0), .im (.sl true 0 [])] [] = some (false, .tup [.im (.agg [.int .i64 0, .int .i64 11, .int .i64 (-1), .sl true 0 []]), .im (.int .i64 0)], []) := by kernel_rfl
theorem rrG4_4 (x0 x1 x2 x3 : Int) : lastV (rrY4 [.im rrP4, .im (.sl false 1 [.int .i64 x0, .int .i64 x1, .int .i64 x2, .int .i64 x3]), .im (.int .i64 100)] []) = some (11, 0, wantC 4 [x0, x1, x2, x3] (.int .i64 x3)) := by kernel_rfl
theorem rrF4_5 (x0 x1 x2 x3 x4 : Int) : rrX4 [.im rrP4, .im (.sl false 1 [.int .i64 x0, .int .i64 x1, .int .i64 x2, .int .i64 x3, .int .i64 x4]), .im (.int .i64 100), .im (.int .i64 0), .im (.sl true 0 [])] [] = some (false, .tup [.im (.agg [.int .i64 0, .int .i64 11, .int .i64 (-1), .sl true 0 []]), .im (.int .i64 0)], []) := by kernel_rfl
theorem rrG4_5 (x0 x1 x2 x3 x4 : Int) : lastV (rrY4 [.im rrP4, .im (.sl false 1 [.int .i64 x0, .int .i64 x1, .int .i64 x2, .int .i64 x3, .int .i64 x4]), .im (.int .i64 100)] []) = some (11, 0, wantC 4 [x0, x1, x2, x3, x4] (.int .i64 x3)) := by kernel_rfl
end Go.Proofs.YtkinbnepkpoofaaGreatDoor