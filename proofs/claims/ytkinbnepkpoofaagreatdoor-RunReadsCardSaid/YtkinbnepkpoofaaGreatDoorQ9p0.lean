/- Texts joined into one: RR9p0. -/
import Derived.Test.YtkinbnepkpoofaaGreatDoorQk1
/- RunReads: 9 rounds. -/
set_option maxRecDepth 1000000
set_option linter.unusedVariables false
open Go Go.AM
namespace Go.Proofs.YtkinbnepkpoofaaGreatDoor
theorem rrF9_0 : rrX9 [.im rrP9, .im (.sl false 1 []), .im (.int .i64 100), .im (.int .i64 0), .im (.sl true 0 [])] [] = some (false, .tup [.im (.agg [.int .i64 0, .int .i64 21, .int .i64 (-1), .sl true 0 []]), .im (.int .i64 0)], []) := by kernel_rfl
theorem rrG9_0 : lastV (rrY9 [.im rrP9, .im (.sl false 1 []), .im (.int .i64 100)] []) = some (21, 0, wantC 9 [] (.int .i64 0)) := by kernel_rfl
theorem rrF9_1 (x0 : Int) : rrX9 [.im rrP9, .im (.sl false 1 [.int .i64 x0]), .im (.int .i64 100), .im (.int .i64 0), .im (.sl true 0 [])] [] = some (false, .tup [.im (.agg [.int .i64 0, .int .i64 21, .int .i64 (-1), .sl true 0 []]), .im (.int .i64 0)], []) := by kernel_rfl
theorem rrG9_1 (x0 : Int) : lastV (rrY9 [.im rrP9, .im (.sl false 1 [.int .i64 x0]), .im (.int .i64 100)] []) = some (21, 0, wantC 9 [x0] (.int .i64 0)) := by kernel_rfl
theorem rrF9_2 (x0 x1 : Int) : rrX9 [.im rrP9, .im (.sl false 1 [.int .i64 x0, .int .i64 x1]), .im (.int .i64 100), .im (.int .i64 0), .im (.sl true 0 [])] [] = some (false, .tup [.im (.agg [.int .i64 0, .int .i64 21, .int .i64 (-1), .sl true 0 []]), .im (.int .i64 0)], []) := by kernel_rfl
theorem rrG9_2 (x0 x1 : Int) : lastV (rrY9 [.im rrP9, .im (.sl false 1 [.int .i64 x0, .int .i64 x1]), .im (.int .i64 100)] []) = some (21, 0, wantC 9 [x0, x1] (.int .i64 0)) := by kernel_rfl
theorem rrF9_3 (x0 x1 x2 : Int) : rrX9 [.im rrP9, .im (.sl false 1 [.int .i64 x0, .int .i64 x1, .int .i64 x2]), .im (.int .i64 100), .im (.int .i64 0), .im (.sl true 0 [])] [] = some (false, .tup [.im (.agg [.int .i64 0, .int .i64 21, .int .i64 (-1), .sl true 0 []]), .im (.int .i64 0)], []) := by kernel_rfl
theorem rrG9_3 (x0 x1 x2 : Int) : lastV (rrY9 [.im rrP9, .im (.sl false 1 [.int .i64 x0, .int .i64 x1, .int .i64 x2]), .im (.int .i64 100)] []) = some (21, 0, wantC 9 [x0, x1, x2] (.int .i64 0)) := by kernel_rfl
end Go.Proofs.YtkinbnepkpoofaaGreatDoor