/- Texts joined into one: RR12p0. -/
import Derived.Test.YtkinbnepkpoofaaGreatDoorQk2
/- RunReads: 12 rounds. -/
set_option maxRecDepth 1000000
set_option linter.unusedVariables false
open Go Go.AM
namespace Go.Proofs.YtkinbnepkpoofaaGreatDoor
theorem rrF12_0 : rrX12 [.im rrP12, .im (.sl false 1 []), .im (.int .i64 100), .im (.int .i64 0), .im (.sl true 0 [])] [] = some (false, .tup [.im (.agg [.int .i64 0, .int .i64 27, .int .i64 (-1), .sl true 0 []]), .im (.int .i64 0)], []) := by kernel_rfl
theorem rrG12_0 : lastV (rrY12 [.im rrP12, .im (.sl false 1 []), .im (.int .i64 100)] []) = some (27, 0, wantC 12 [] (.int .i64 0)) := by kernel_rfl
theorem rrF12_1 (x0 : Int) : rrX12 [.im rrP12, .im (.sl false 1 [.int .i64 x0]), .im (.int .i64 100), .im (.int .i64 0), .im (.sl true 0 [])] [] = some (false, .tup [.im (.agg [.int .i64 0, .int .i64 27, .int .i64 (-1), .sl true 0 []]), .im (.int .i64 0)], []) := by kernel_rfl
theorem rrG12_1 (x0 : Int) : lastV (rrY12 [.im rrP12, .im (.sl false 1 [.int .i64 x0]), .im (.int .i64 100)] []) = some (27, 0, wantC 12 [x0] (.int .i64 0)) := by kernel_rfl
theorem rrF12_2 (x0 x1 : Int) : rrX12 [.im rrP12, .im (.sl false 1 [.int .i64 x0, .int .i64 x1]), .im (.int .i64 100), .im (.int .i64 0), .im (.sl true 0 [])] [] = some (false, .tup [.im (.agg [.int .i64 0, .int .i64 27, .int .i64 (-1), .sl true 0 []]), .im (.int .i64 0)], []) := by kernel_rfl
theorem rrG12_2 (x0 x1 : Int) : lastV (rrY12 [.im rrP12, .im (.sl false 1 [.int .i64 x0, .int .i64 x1]), .im (.int .i64 100)] []) = some (27, 0, wantC 12 [x0, x1] (.int .i64 0)) := by kernel_rfl
theorem rrF12_3 (x0 x1 x2 : Int) : rrX12 [.im rrP12, .im (.sl false 1 [.int .i64 x0, .int .i64 x1, .int .i64 x2]), .im (.int .i64 100), .im (.int .i64 0), .im (.sl true 0 [])] [] = some (false, .tup [.im (.agg [.int .i64 0, .int .i64 27, .int .i64 (-1), .sl true 0 []]), .im (.int .i64 0)], []) := by kernel_rfl
theorem rrG12_3 (x0 x1 x2 : Int) : lastV (rrY12 [.im rrP12, .im (.sl false 1 [.int .i64 x0, .int .i64 x1, .int .i64 x2]), .im (.int .i64 100)] []) = some (27, 0, wantC 12 [x0, x1, x2] (.int .i64 0)) := by kernel_rfl
end Go.Proofs.YtkinbnepkpoofaaGreatDoor