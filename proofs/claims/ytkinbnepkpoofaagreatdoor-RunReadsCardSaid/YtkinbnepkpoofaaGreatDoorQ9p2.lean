/- Texts joined into one: RR9p2. -/
import Derived.Test.YtkinbnepkpoofaaGreatDoorQk1
/- RunReads: 9 rounds. -/
set_option maxRecDepth 1000000
set_option linter.unusedVariables false
open Go Go.AM
namespace Go.Proofs.YtkinbnepkpoofaaGreatDoor
theorem rrF9_8 (x0 x1 x2 x3 x4 x5 x6 x7 : Int) : rrX9 [.im rrP9, .im (.sl false 1 [.int .i64 x0, .int .i64 x1, .int .i64 x2, .int .i64 x3, .int .i64 x4, .int .i64 x5, .int .i64 x6, .int .i64 x7]), .im (.int .i64 100), .im (.int .i64 0), .im (.sl true 0 [])] [] = some (false, .tup [.im (.agg [.int .i64 0, .int .i64 21, .int .i64 (-1), .sl true 0 []]), .im (.int .i64 0)], []) := by kernel_rfl
theorem rrG9_8 (x0 x1 x2 x3 x4 x5 x6 x7 : Int) : lastV (rrY9 [.im rrP9, .im (.sl false 1 [.int .i64 x0, .int .i64 x1, .int .i64 x2, .int .i64 x3, .int .i64 x4, .int .i64 x5, .int .i64 x6, .int .i64 x7]), .im (.int .i64 100)] []) = some (21, 0, wantC 9 [x0, x1, x2, x3, x4, x5, x6, x7] (.int .i64 0)) := by kernel_rfl
theorem rrF9_9 (x0 x1 x2 x3 x4 x5 x6 x7 x8 : Int) : rrX9 [.im rrP9, .im (.sl false 1 [.int .i64 x0, .int .i64 x1, .int .i64 x2, .int .i64 x3, .int .i64 x4, .int .i64 x5, .int .i64 x6, .int .i64 x7, .int .i64 x8]), .im (.int .i64 100), .im (.int .i64 0), .im (.sl true 0 [])] [] = some (false, .tup [.im (.agg [.int .i64 0, .int .i64 21, .int .i64 (-1), .sl true 0 []]), .im (.int .i64 0)], []) := by kernel_rfl
theorem rrG9_9 (x0 x1 x2 x3 x4 x5 x6 x7 x8 : Int) : lastV (rrY9 [.im rrP9, .im (.sl false 1 [.int .i64 x0, .int .i64 x1, .int .i64 x2, .int .i64 x3, .int .i64 x4, .int .i64 x5, .int .i64 x6, .int .i64 x7, .int .i64 x8]), .im (.int .i64 100)] []) = some (21, 0, wantC 9 [x0, x1, x2, x3, x4, x5, x6, x7, x8] (.int .i64 x8)) := by kernel_rfl
theorem rrF9_10 (x0 x1 x2 x3 x4 x5 x6 x7 x8 x9 : Int) : rrX9 [.im rrP9, .im (.sl false 1 [.int .i64 x0, .int .i64 x1, .int .i64 x2, .int .i64 x3, .int .i64 x4, .int .i64 x5, .int .i64 x6, .int .i64 x7, .int .i64 x8, .int .i64 x9]), .im (.int .i64 100), .im (.int .i64 0), .im (.sl true 0 [])] [] = some (false, .tup [.im (.agg [.int .i64 0, .int .i64 21, .int .i64 (-1), .sl true 0 []]), .im (.int .i64 0)], []) := by kernel_rfl
theorem rrG9_10 (x0 x1 x2 x3 x4 x5 x6 x7 x8 x9 : Int) : lastV (rrY9 [.im rrP9, .im (.sl false 1 [.int .i64 x0, .int .i64 x1, .int .i64 x2, .int .i64 x3, .int .i64 x4, .int .i64 x5, .int .i64 x6, .int .i64 x7, .int .i64 x8, .int .i64 x9]), .im (.int .i64 100)] []) = some (21, 0, wantC 9 [x0, x1, x2, x3, x4, x5, x6, x7, x8, x9] (.int .i64 x8)) := by kernel_rfl
end Go.Proofs.YtkinbnepkpoofaaGreatDoor