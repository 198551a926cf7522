/- Texts joined into one: RR13p0. -/
import Derived.Test.YtkinbnepkpoofaaGreatDoorQk2
/- RunReads: 13 rounds. -/
set_option maxRecDepth 1000000
set_option linter.unusedVariables false
open Go Go.AM
namespace Go.Proofs.YtkinbnepkpoofaaGreatDoor
theorem rrF13_0 : rrX13 [.im rrP13, .im (.sl false 1 []), .im (.int .i64 100), .im (.int .i64 0), .im (.sl true 0 [])] [] = some (false, .tup [.im (.agg [.int .i64 0, .int .i64 29, .int .i64 (-1), .sl true 0 []]), .im (.int .i64 0)], []) := by kernel_rfl
theorem rrG13_0 : lastV (rrY13 [.im rrP13, .im (.sl false 1 []), .im (.int .i64 100)] []) = some (29, 0, wantC 13 [] (.int .i64 0)) := by kernel_rfl
theorem rrF13_1 (x0 : Int) : rrX13 [.im rrP13, .im (.sl false 1 [.int .i64 x0]), .im (.int .i64 100), .im (.int .i64 0), .im (.sl true 0 [])] [] = some (false, .tup [.im (.agg [.int .i64 0, .int .i64 29, .int .i64 (-1), .sl true 0 []]), .im (.int .i64 0)], []) := by kernel_rfl
theorem rrG13_1 (x0 : Int) : lastV (rrY13 [.im rrP13, .im (.sl false 1 [.int .i64 x0]), .im (.int .i64 100)] []) = some (29, 0, wantC 13 [x0] (.int .i64 0)) := by kernel_rfl
theorem rrF13_2 (x0 x1 : Int) : rrX13 [.im rrP13, .im (.sl false 1 [.int .i64 x0, .int .i64 x1]), .im (.int .i64 100), .im (.int .i64 0), .im (.sl true 0 [])] [] = some (false, .tup [.im (.agg [.int .i64 0, .int .i64 29, .int .i64 (-1), .sl true 0 []]), .im (.int .i64 0)], []) := by kernel_rfl
theorem rrG13_2 (x0 x1 : Int) : lastV (rrY13 [.im rrP13, .im (.sl false 1 [.int .i64 x0, .int .i64 x1]), .im (.int .i64 100)] []) = some (29, 0, wantC 13 [x0, x1] (.int .i64 0)) := by kernel_rfl
theorem rrF13_3 (x0 x1 x2 : Int) : rrX13 [.im rrP13, .im (.sl false 1 [.int .i64 x0, .int .i64 x1, .int .i64 x2]), .im (.int .i64 100), .im (.int .i64 0), .im (.sl true 0 [])] [] = some (false, .tup [.im (.agg [.int .i64 0, .int .i64 29, .int .i64 (-1), .sl true 0 []]), .im (.int .i64 0)], []) := by kernel_rfl
theorem rrG13_3 (x0 x1 x2 : Int) : lastV (rrY13 [.im rrP13, .im (.sl false 1 [.int .i64 x0, .int .i64 x1, .int .i64 x2]), .im (.int .i64 100)] []) = some (29, 0, wantC 13 [x0, x1, x2] (.int .i64 0)) := by kernel_rfl
end Go.Proofs.YtkinbnepkpoofaaGreatDoor