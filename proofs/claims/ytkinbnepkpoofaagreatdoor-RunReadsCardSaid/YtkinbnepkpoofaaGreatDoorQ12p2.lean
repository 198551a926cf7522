/- Texts joined into one: RR12p2. -/
import Derived.Test.YtkinbnepkpoofaaGreatDoorQk2
/- RunReads: 12 rounds. -/
set_option maxRecDepth 1000000
set_option linter.unusedVariables false
open Go Go.AM
namespace Go.Proofs.YtkinbnepkpoofaaGreatDoor
theorem rrF12_8 (x0 x1 x2 x3 x4 x5 x6 x7 : Int) : rrX12 [.im rrP12, .im (.sl false 1 [.int .i64 x0, .int .i64 x1, .int .i64 x2, .int .i64 x3, .int .i64 x4, .int .i64 x5, .int .i64 x6, .int .i64 x7]), .im (.int .i64 100), .im (.int .i64 0), .im (.sl true 0 [])] [] = some (false, .tup [.im (.agg [.int .i64 0, .int .i64 27, .int .i64 (-1), .sl true 0 []]), .im (.int .i64 0)], []) := by kernel_rfl
theorem rrG12_8 (x0 x1 x2 x3 x4 x5 x6 x7 : Int) : lastV (rrY12 [.im rrP12, .im (.sl false 1 [.int .i64 x0, .int .i64 x1, .int .i64 x2, .int .i64 x3, .int .i64 x4, .int .i64 x5, .int .i64 x6, .int .i64 x7]), .im (.int .i64 100)] []) = some (27, 0, wantC 12 [x0, x1, x2, x3, x4, x5, x6, x7] (.int .i64 0)) := by kernel_rfl
theorem rrF12_9 (x0 x1 x2 x3 x4 x5 x6 x7 x8 : Int) : rrX12 [.im rrP12, .im (.sl false 1 [.int .i64 x0, .int .i64 x1, .int .i64 x2, .int .i64 x3, .int .i64 x4, .int .i64 x5, .int .i64 x6, .int .i64 x7, .int .i64 x8]), .im (.int .i64 100), .im (.int .i64 0), .im (.sl true 0 [])] [] = some (false, .tup [.im (.agg [.int .i64 0, .int .i64 27, .int .i64 (-1), .sl true 0 []]), .im (.int .i64 0)], []) := by kernel_rfl
theorem rrG12_9 (x0 x1 x2 x3 x4 x5 x6 x7 x8 : Int) : lastV (rrY12 [.im rrP12, .im (.sl false 1 [.int .i64 x0, .int .i64 x1, .int .i64 x2, .int .i64 x3, .int .i64 x4, .int .i64 x5, .int .i64 x6, .int .i64 x7, .int .i64 x8]), .im (.int .i64 100)] []) = some (27, 0, wantC 12 [x0, x1, x2, x3, x4, x5, x6, x7, x8] (.int .i64 0)) := by kernel_rfl
theorem rrF12_10 (x0 x1 x2 x3 x4 x5 x6 x7 x8 x9 : Int) : rrX12 [.im rrP12, .im (.sl false 1 [.int .i64 x0, .int .i64 x1, .int .i64 x2, .int .i64 x3, .int .i64 x4, .int .i64 x5, .int .i64 x6, .int .i64 x7, .int .i64 x8, .int .i64 x9]), .im (.int .i64 100), .im (.int .i64 0), .im (.sl true 0 [])] [] = some (false, .tup [.im (.agg [.int .i64 0, .int .i64 27, .int .i64 (-1), .sl true 0 []]), .im (.int .i64 0)], []) := by kernel_rfl
theorem rrG12_10 (x0 x1 x2 x3 x4 x5 x6 x7 x8 x9 : Int) : lastV (rrY12 [.im rrP12, .im (.sl false 1 [.int .i64 x0, .int .i64 x1, .int .i64 x2, .int .i64 x3, .int .i64 x4, .int .i64 x5, .int .i64 x6, .int .i64 x7, .int .i64 x8, .int .i64 x9]), .im (.int .i64 100)] []) = some (27, 0, wantC 12 [x0, x1, x2, x3, x4, x5, x6, x7, x8, x9] (.int .i64 0)) := by kernel_rfl
end Go.Proofs.YtkinbnepkpoofaaGreatDoor