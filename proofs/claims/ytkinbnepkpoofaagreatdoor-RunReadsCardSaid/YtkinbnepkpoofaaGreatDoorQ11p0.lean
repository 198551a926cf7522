/- Texts joined into one: RR11p0. -/
import Derived.Test.YtkinbnepkpoofaaGreatDoorQk1
/- RunReads: 11 rounds. -/
set_option maxRecDepth 1000000
set_option linter.unusedVariables false
open Go Go.AM
namespace Go.Proofs.YtkinbnepkpoofaaGreatDoor
theorem rrF11_0 : rrX11 [.im rrP11, .im (.sl false 1 []), .im (.int .i64 100), .im (.int .i64 0), .im (.sl true 0 [])] [] = some (false, .tup [.im (.agg [.int .i64 0, .int .i64 25, .int .i64 (-1), .sl true 0 []]), .im (.int .i64 0)], []) := by kernel_rfl
theorem rrG11_0 : lastV (rrY11 [.im rrP11, .im (.sl false 1 []), .im (.int .i64 100)] []) = some (25, 0, wantC 11 [] (.int .i64 0)) := by kernel_rfl
theorem rrF11_1 (x0 : Int) : rrX11 [.im rrP11, .im (.sl false 1 [.int .i64 x0]), .im (.int .i64 100), .im (.int .i64 0), .im (.sl true 0 [])] [] = some (false, .tup [.im (.agg [.int .i64 0, .int .i64 25, .int .i64 (-1), .sl true 0 []]), .im (.int .i64 0)], []) := by kernel_rfl
theorem rrG11_1 (x0 : Int) : lastV (rrY11 [.im rrP11, .im (.sl false 1 [.int .i64 x0]), .im (.int .i64 100)] []) = some (25, 0, wantC 11 [x0] (.int .i64 0)) := by kernel_rfl
theorem rrF11_2 (x0 x1 : Int) : rrX11 [.im rrP11, .im (.sl false 1 [.int .i64 x0, .int .i64 x1]), .im (.int .i64 100), .im (.int .i64 0), .im (.sl true 0 [])] [] = some (false, .tup [.im (.agg [.int .i64 0, .int .i64 25, .int .i64 (-1), .sl true 0 []]), .im (.int .i64 0)], []) := by kernel_rfl
theorem rrG11_2 (x0 x1 : Int) : lastV (rrY11 [.im rrP11, .im (.sl false 1 [.int .i64 x0, .int .i64 x1]), .im (.int .i64 100)] []) = some (25, 0, wantC 11 [x0, x1] (.int .i64 0)) := by kernel_rfl
theorem rrF11_3 (x0 x1 x2 : Int) : rrX11 [.im rrP11, .im (.sl false 1 [.int .i64 x0, .int .i64 x1, .int .i64 x2]), .im (.int .i64 100), .im (.int .i64 0), .im (.sl true 0 [])] [] = some (false, .tup [.im (.agg [.int .i64 0, .int .i64 25, .int .i64 (-1), .sl true 0 []]), .im (.int .i64 0)], []) := by kernel_rfl
theorem rrG11_3 (x0 x1 x2 : Int) : lastV (rrY11 [.im rrP11, .im (.sl false 1 [.int .i64 x0, .int .i64 x1, .int .i64 x2]), .im (.int .i64 100)] []) = some (25, 0, wantC 11 [x0, x1, x2] (.int .i64 0)) := by kernel_rfl
end Go.Proofs.YtkinbnepkpoofaaGreatDoor