/- Texts joined into one: E05B1 E05S1_0 E05S1_1 E05S1_2 E05S1_3 E05S1_4 E05S1_5 E05S1_6 E05S1_7 E05T1. -/
import Derived.Test.YtkinbnepkpoofaaGreatDoorYa
/- What is known: a book. -/
set_option maxRecDepth 1000000
set_option linter.unusedVariables false
open Go Go.AM
namespace Go.Proofs.YtkinbnepkpoofaaGreatDoor
noncomputable def BkE051 : BookR Tryz.prog T := bookR Tryz.prog T (fun f => false) ((178, tabSz E05tab178) :: known)
theorem BkE051_ok : BkE051.ok := bookR_ok hn (by
 refine List.forall_mem_cons.2 ⟨E05tab178_ok, ?_⟩
 exact known_ok)
end Go.Proofs.YtkinbnepkpoofaaGreatDoor
/- Runs. -/
set_option maxRecDepth 1000000
set_option linter.unusedVariables false
open Go Go.AM
namespace Go.Proofs.YtkinbnepkpoofaaGreatDoor
def E05e143_0 : List AV × Heap × (Bool × AV × Heap) := ([(.im (.str [102, 117, 110, 99, 32, 102, 40, 97, 41, 32, 123, 32, 114, 101, 116, 117, 114, 110, 32, 97, 59, 32, 125, 32, 102, 117, 110, 99, 32, 109, 97, 105, 110, 40, 41, 32, 123, 32, 118, 97, 114, 32, 120, 44, 32, 121, 91, 50, 93, 59, 32, 64, 49, 32, 120, 32, 61, 32, 102, 40, 51, 41, 59, 32, 119, 104, 105, 108, 101, 32, 40, 120, 41, 32, 123, 32, 98, 114, 101, 97, 107, 59, 32, 125, 32, 125]))], [], (false, (.tup [(.ref 0 0 40), (.im (.int .i64 86)), (.im (.int .i64 0))]), [some (.c 4 [(.agg [(.int .i64 5), (.str [102, 117, 110, 99]), (.int .u64 0), (.int .i64 0)]), (.agg [(.int .i64 1), (.str [102]), (.int .u64 0), (.int .i64 5)]), (.agg [(.int .i64 4), (.str [40]), (.int .u64 0), (.int .i64 6)]), (.agg [(.int .i64 1), (.str [97]), (.int .u64 0), (.int .i64 7)]), (.agg [(.int .i64 4), (.str [41]), (.int .u64 0), (.int .i64 8)]), (.agg [(.int .i64 4), (.str [123]), (.int .u64 0), (.int .i64 10)]), (.agg [(.int .i64 5), (.str [114, 101, 116, 117, 114, 110]), (.int .u64 0), (.int .i64 12)]), (.agg [(.int .i64 1), (.str [97]), (.int .u64 0), (.int .i64 19)]), (.agg [(.int .i64 4), (.str [59]), (.int .u64 0), (.int .i64 20)]), (.agg [(.int .i64 4), (.str [125]), (.int .u64 0), (.int .i64 22)]), (.agg [(.int .i64 5), (.str [102, 117, 110, 99]), (.int .u64 0), (.int .i64 24)]), (.agg [(.int .i64 1), (.str [109, 97, 105, 110]), (.int .u64 0), (.int .i64 29)]), (.agg [(.int .i64 4), (.str [40]), (.int .u64 0), (.int .i64 33)]), (.agg [(.int .i64 4), (.str [41]), (.int .u64 0), (.int .i64 34)]), (.agg [(.int .i64 4), (.str [123]), (.int .u64 0), (.int .i64 36)]), (.agg [(.int .i64 5), (.str [118, 97, 114]), (.int .u64 0), (.int .i64 38)]), (.agg [(.int .i64 1), (.str [120]), (.int .u64 0), (.int .i64 42)]), (.agg [(.int .i64 4), (.str [44]), (.int .u64 0), (.int .i64 43)]), (.agg [(.int .i64 1), (.str [121]), (.int .u64 0), (.int .i64 45)]), (.agg [(.int .i64 4), (.str [91]), (.int .u64 0), (.int .i64 46)]), (.agg [(.int .i64 2), (.str [50]), (.int .u64 2), (.int .i64 47)]), (.agg [(.int .i64 4), (.str [93]), (.int .u64 0), (.int .i64 48)]), (.agg [(.int .i64 4), (.str [59]), (.int .u64 0), (.int .i64 49)]), (.agg [(.int .i64 3), (.str [64, 49]), (.int .u64 1), (.int .i64 51)]), (.agg [(.int .i64 1), (.str [120]), (.int .u64 0), (.int .i64 54)]), (.agg [(.int .i64 4), (.str [61]), (.int .u64 0), (.int .i64 56)]), (.agg [(.int .i64 1), (.str [102]), (.int .u64 0), (.int .i64 58)]), (.agg [(.int .i64 4), (.str [40]), (.int .u64 0), (.int .i64 59)]), (.agg [(.int .i64 2), (.str [51]), (.int .u64 3), (.int .i64 60)]), (.agg [(.int .i64 4), (.str [41]), (.int .u64 0), (.int .i64 61)]), (.agg [(.int .i64 4), (.str [59]), (.int .u64 0), (.int .i64 62)]), (.agg [(.int .i64 5), (.str [119, 104, 105, 108, 101]), (.int .u64 0), (.int .i64 64)]), (.agg [(.int .i64 4), (.str [40]), (.int .u64 0), (.int .i64 70)]), (.agg [(.int .i64 1), (.str [120]), (.int .u64 0), (.int .i64 71)]), (.agg [(.int .i64 4), (.str [41]), (.int .u64 0), (.int .i64 72)]), (.agg [(.int .i64 4), (.str [123]), (.int .u64 0), (.int .i64 74)]), (.agg [(.int .i64 5), (.str [98, 114, 101, 97, 107]), (.int .u64 0), (.int .i64 76)]), (.agg [(.int .i64 4), (.str [59]), (.int .u64 0), (.int .i64 81)]), (.agg [(.int .i64 4), (.str [125]), (.int .u64 0), (.int .i64 83)]), (.agg [(.int .i64 4), (.str [125]), (.int .u64 0), (.int .i64 85)])])]))
theorem E05r143_0 : runK BkE051 1000 70 143 E05e143_0.1 E05e143_0.2.1 = some E05e143_0.2.2 := by kernel_rfl
end Go.Proofs.YtkinbnepkpoofaaGreatDoor
/- Runs. -/
set_option maxRecDepth 1000000
set_option linter.unusedVariables false
open Go Go.AM
namespace Go.Proofs.YtkinbnepkpoofaaGreatDoor
def E05e143_1 : List AV × Heap × (Bool × AV × Heap) := ([(.im (.str [102, 117, 110, 99, 32, 109, 97, 105, 110, 40, 41, 32, 123, 32, 120, 32, 61, 32, 49, 59, 32, 125]))], [], (false, (.tup [(.ref 0 0 10), (.im (.int .i64 22)), (.im (.int .i64 0))]), [some (.c 4 [(.agg [(.int .i64 5), (.str [102, 117, 110, 99]), (.int .u64 0), (.int .i64 0)]), (.agg [(.int .i64 1), (.str [109, 97, 105, 110]), (.int .u64 0), (.int .i64 5)]), (.agg [(.int .i64 4), (.str [40]), (.int .u64 0), (.int .i64 9)]), (.agg [(.int .i64 4), (.str [41]), (.int .u64 0), (.int .i64 10)]), (.agg [(.int .i64 4), (.str [123]), (.int .u64 0), (.int .i64 12)]), (.agg [(.int .i64 1), (.str [120]), (.int .u64 0), (.int .i64 14)]), (.agg [(.int .i64 4), (.str [61]), (.int .u64 0), (.int .i64 16)]), (.agg [(.int .i64 2), (.str [49]), (.int .u64 1), (.int .i64 18)]), (.agg [(.int .i64 4), (.str [59]), (.int .u64 0), (.int .i64 19)]), (.agg [(.int .i64 4), (.str [125]), (.int .u64 0), (.int .i64 21)])])]))
theorem E05r143_1 : runK BkE051 1000 70 143 E05e143_1.1 E05e143_1.2.1 = some E05e143_1.2.2 := by kernel_rfl
end Go.Proofs.YtkinbnepkpoofaaGreatDoor
/- Runs. -/
set_option maxRecDepth 1000000
set_option linter.unusedVariables false
open Go Go.AM
namespace Go.Proofs.YtkinbnepkpoofaaGreatDoor
def E05e143_2 : List AV × Heap × (Bool × AV × Heap) := ([(.im (.str [102, 117, 110, 99, 32, 109, 97, 105, 110, 40, 41, 32, 123, 32, 118, 97, 114, 32, 120, 91, 50, 93, 59, 32, 120, 32, 61, 32, 49, 59, 32, 125]))], [], (false, (.tup [(.ref 0 0 16), (.im (.int .i64 32)), (.im (.int .i64 0))]), [some (.c 4 [(.agg [(.int .i64 5), (.str [102, 117, 110, 99]), (.int .u64 0), (.int .i64 0)]), (.agg [(.int .i64 1), (.str [109, 97, 105, 110]), (.int .u64 0), (.int .i64 5)]), (.agg [(.int .i64 4), (.str [40]), (.int .u64 0), (.int .i64 9)]), (.agg [(.int .i64 4), (.str [41]), (.int .u64 0), (.int .i64 10)]), (.agg [(.int .i64 4), (.str [123]), (.int .u64 0), (.int .i64 12)]), (.agg [(.int .i64 5), (.str [118, 97, 114]), (.int .u64 0), (.int .i64 14)]), (.agg [(.int .i64 1), (.str [120]), (.int .u64 0), (.int .i64 18)]), (.agg [(.int .i64 4), (.str [91]), (.int .u64 0), (.int .i64 19)]), (.agg [(.int .i64 2), (.str [50]), (.int .u64 2), (.int .i64 20)]), (.agg [(.int .i64 4), (.str [93]), (.int .u64 0), (.int .i64 21)]), (.agg [(.int .i64 4), (.str [59]), (.int .u64 0), (.int .i64 22)]), (.agg [(.int .i64 1), (.str [120]), (.int .u64 0), (.int .i64 24)]), (.agg [(.int .i64 4), (.str [61]), (.int .u64 0), (.int .i64 26)]), (.agg [(.int .i64 2), (.str [49]), (.int .u64 1), (.int .i64 28)]), (.agg [(.int .i64 4), (.str [59]), (.int .u64 0), (.int .i64 29)]), (.agg [(.int .i64 4), (.str [125]), (.int .u64 0), (.int .i64 31)])])]))
theorem E05r143_2 : runK BkE051 1000 70 143 E05e143_2.1 E05e143_2.2.1 = some E05e143_2.2.2 := by kernel_rfl
end Go.Proofs.YtkinbnepkpoofaaGreatDoor
/- Runs. -/
set_option maxRecDepth 1000000
set_option linter.unusedVariables false
open Go Go.AM
namespace Go.Proofs.YtkinbnepkpoofaaGreatDoor
def E05e143_3 : List AV × Heap × (Bool × AV × Heap) := ([(.im (.str [102, 117, 110, 99, 32, 109, 97, 105, 110, 40, 41, 32, 123, 32, 98, 114, 101, 97, 107, 59, 32, 125]))], [], (false, (.tup [(.ref 0 0 8), (.im (.int .i64 22)), (.im (.int .i64 0))]), [some (.c 4 [(.agg [(.int .i64 5), (.str [102, 117, 110, 99]), (.int .u64 0), (.int .i64 0)]), (.agg [(.int .i64 1), (.str [109, 97, 105, 110]), (.int .u64 0), (.int .i64 5)]), (.agg [(.int .i64 4), (.str [40]), (.int .u64 0), (.int .i64 9)]), (.agg [(.int .i64 4), (.str [41]), (.int .u64 0), (.int .i64 10)]), (.agg [(.int .i64 4), (.str [123]), (.int .u64 0), (.int .i64 12)]), (.agg [(.int .i64 5), (.str [98, 114, 101, 97, 107]), (.int .u64 0), (.int .i64 14)]), (.agg [(.int .i64 4), (.str [59]), (.int .u64 0), (.int .i64 19)]), (.agg [(.int .i64 4), (.str [125]), (.int .u64 0), (.int .i64 21)])])]))
theorem E05r143_3 : runK BkE051 1000 70 143 E05e143_3.1 E05e143_3.2.1 = some E05e143_3.2.2 := by kernel_rfl
end Go.Proofs.YtkinbnepkpoofaaGreatDoor
/- Runs. -/
set_option maxRecDepth 1000000
set_option linter.unusedVariables false
open Go Go.AM
namespace Go.Proofs.YtkinbnepkpoofaaGreatDoor
def E05e143_4 : List AV × Heap × (Bool × AV × Heap) := ([(.im (.str [102, 117, 110, 99, 32, 102, 40, 41, 32, 123, 32, 64, 49, 32, 114, 101, 116, 117, 114, 110, 32, 48, 59, 32, 125, 32, 102, 117, 110, 99, 32, 109, 97, 105, 110, 40, 41, 32, 123, 32, 125]))], [], (false, (.tup [(.ref 0 0 16), (.im (.int .i64 41)), (.im (.int .i64 0))]), [some (.c 4 [(.agg [(.int .i64 5), (.str [102, 117, 110, 99]), (.int .u64 0), (.int .i64 0)]), (.agg [(.int .i64 1), (.str [102]), (.int .u64 0), (.int .i64 5)]), (.agg [(.int .i64 4), (.str [40]), (.int .u64 0), (.int .i64 6)]), (.agg [(.int .i64 4), (.str [41]), (.int .u64 0), (.int .i64 7)]), (.agg [(.int .i64 4), (.str [123]), (.int .u64 0), (.int .i64 9)]), (.agg [(.int .i64 3), (.str [64, 49]), (.int .u64 1), (.int .i64 11)]), (.agg [(.int .i64 5), (.str [114, 101, 116, 117, 114, 110]), (.int .u64 0), (.int .i64 14)]), (.agg [(.int .i64 2), (.str [48]), (.int .u64 0), (.int .i64 21)]), (.agg [(.int .i64 4), (.str [59]), (.int .u64 0), (.int .i64 22)]), (.agg [(.int .i64 4), (.str [125]), (.int .u64 0), (.int .i64 24)]), (.agg [(.int .i64 5), (.str [102, 117, 110, 99]), (.int .u64 0), (.int .i64 26)]), (.agg [(.int .i64 1), (.str [109, 97, 105, 110]), (.int .u64 0), (.int .i64 31)]), (.agg [(.int .i64 4), (.str [40]), (.int .u64 0), (.int .i64 35)]), (.agg [(.int .i64 4), (.str [41]), (.int .u64 0), (.int .i64 36)]), (.agg [(.int .i64 4), (.str [123]), (.int .u64 0), (.int .i64 38)]), (.agg [(.int .i64 4), (.str [125]), (.int .u64 0), (.int .i64 40)])])]))
theorem E05r143_4 : runK BkE051 1000 70 143 E05e143_4.1 E05e143_4.2.1 = some E05e143_4.2.2 := by kernel_rfl
end Go.Proofs.YtkinbnepkpoofaaGreatDoor
/- Runs. -/
set_option maxRecDepth 1000000
set_option linter.unusedVariables false
open Go Go.AM
namespace Go.Proofs.YtkinbnepkpoofaaGreatDoor
def E05e143_5 : List AV × Heap × (Bool × AV × Heap) := ([(.im (.str [102, 117, 110, 99, 32, 102, 40, 97, 41, 32, 123, 32, 114, 101, 116, 117, 114, 110, 32, 97, 59, 32, 125, 32, 102, 117, 110, 99, 32, 109, 97, 105, 110, 40, 41, 32, 123, 32, 118, 97, 114, 32, 120, 59, 32, 120, 32, 61, 32, 102, 40, 41, 59, 32, 125]))], [], (false, (.tup [(.ref 0 0 25), (.im (.int .i64 55)), (.im (.int .i64 0))]), [some (.c 4 [(.agg [(.int .i64 5), (.str [102, 117, 110, 99]), (.int .u64 0), (.int .i64 0)]), (.agg [(.int .i64 1), (.str [102]), (.int .u64 0), (.int .i64 5)]), (.agg [(.int .i64 4), (.str [40]), (.int .u64 0), (.int .i64 6)]), (.agg [(.int .i64 1), (.str [97]), (.int .u64 0), (.int .i64 7)]), (.agg [(.int .i64 4), (.str [41]), (.int .u64 0), (.int .i64 8)]), (.agg [(.int .i64 4), (.str [123]), (.int .u64 0), (.int .i64 10)]), (.agg [(.int .i64 5), (.str [114, 101, 116, 117, 114, 110]), (.int .u64 0), (.int .i64 12)]), (.agg [(.int .i64 1), (.str [97]), (.int .u64 0), (.int .i64 19)]), (.agg [(.int .i64 4), (.str [59]), (.int .u64 0), (.int .i64 20)]), (.agg [(.int .i64 4), (.str [125]), (.int .u64 0), (.int .i64 22)]), (.agg [(.int .i64 5), (.str [102, 117, 110, 99]), (.int .u64 0), (.int .i64 24)]), (.agg [(.int .i64 1), (.str [109, 97, 105, 110]), (.int .u64 0), (.int .i64 29)]), (.agg [(.int .i64 4), (.str [40]), (.int .u64 0), (.int .i64 33)]), (.agg [(.int .i64 4), (.str [41]), (.int .u64 0), (.int .i64 34)]), (.agg [(.int .i64 4), (.str [123]), (.int .u64 0), (.int .i64 36)]), (.agg [(.int .i64 5), (.str [118, 97, 114]), (.int .u64 0), (.int .i64 38)]), (.agg [(.int .i64 1), (.str [120]), (.int .u64 0), (.int .i64 42)]), (.agg [(.int .i64 4), (.str [59]), (.int .u64 0), (.int .i64 43)]), (.agg [(.int .i64 1), (.str [120]), (.int .u64 0), (.int .i64 45)]), (.agg [(.int .i64 4), (.str [61]), (.int .u64 0), (.int .i64 47)]), (.agg [(.int .i64 1), (.str [102]), (.int .u64 0), (.int .i64 49)]), (.agg [(.int .i64 4), (.str [40]), (.int .u64 0), (.int .i64 50)]), (.agg [(.int .i64 4), (.str [41]), (.int .u64 0), (.int .i64 51)]), (.agg [(.int .i64 4), (.str [59]), (.int .u64 0), (.int .i64 52)]), (.agg [(.int .i64 4), (.str [125]), (.int .u64 0), (.int .i64 54)])])]))
theorem E05r143_5 : runK BkE051 1000 70 143 E05e143_5.1 E05e143_5.2.1 = some E05e143_5.2.2 := by kernel_rfl
end Go.Proofs.YtkinbnepkpoofaaGreatDoor
/- Runs. -/
set_option maxRecDepth 1000000
set_option linter.unusedVariables false
open Go Go.AM
namespace Go.Proofs.YtkinbnepkpoofaaGreatDoor
def E05e143_6 : List AV × Heap × (Bool × AV × Heap) := ([(.im (.str [102, 117, 110, 99, 32, 102, 40, 41, 32, 123, 32, 114, 101, 116, 117, 114, 110, 32, 48, 59, 32, 125]))], [], (false, (.tup [(.ref 0 0 9), (.im (.int .i64 22)), (.im (.int .i64 0))]), [some (.c 4 [(.agg [(.int .i64 5), (.str [102, 117, 110, 99]), (.int .u64 0), (.int .i64 0)]), (.agg [(.int .i64 1), (.str [102]), (.int .u64 0), (.int .i64 5)]), (.agg [(.int .i64 4), (.str [40]), (.int .u64 0), (.int .i64 6)]), (.agg [(.int .i64 4), (.str [41]), (.int .u64 0), (.int .i64 7)]), (.agg [(.int .i64 4), (.str [123]), (.int .u64 0), (.int .i64 9)]), (.agg [(.int .i64 5), (.str [114, 101, 116, 117, 114, 110]), (.int .u64 0), (.int .i64 11)]), (.agg [(.int .i64 2), (.str [48]), (.int .u64 0), (.int .i64 18)]), (.agg [(.int .i64 4), (.str [59]), (.int .u64 0), (.int .i64 19)]), (.agg [(.int .i64 4), (.str [125]), (.int .u64 0), (.int .i64 21)])])]))
theorem E05r143_6 : runK BkE051 1000 70 143 E05e143_6.1 E05e143_6.2.1 = some E05e143_6.2.2 := by kernel_rfl
end Go.Proofs.YtkinbnepkpoofaaGreatDoor
/- Runs. -/
set_option maxRecDepth 1000000
set_option linter.unusedVariables false
open Go Go.AM
namespace Go.Proofs.YtkinbnepkpoofaaGreatDoor
def E05e143_7 : List AV × Heap × (Bool × AV × Heap) := ([(.im (.str [102, 117, 110, 99, 32, 109, 97, 105, 110, 40, 41, 32, 123, 32, 118, 97, 114, 32, 120, 59, 32, 64, 49, 32, 120, 32, 61, 32, 49, 59, 32, 64, 49, 32, 120, 32, 61, 32, 50, 59, 32, 125]))], [], (false, (.tup [(.ref 0 0 19), (.im (.int .i64 42)), (.im (.int .i64 0))]), [some (.c 4 [(.agg [(.int .i64 5), (.str [102, 117, 110, 99]), (.int .u64 0), (.int .i64 0)]), (.agg [(.int .i64 1), (.str [109, 97, 105, 110]), (.int .u64 0), (.int .i64 5)]), (.agg [(.int .i64 4), (.str [40]), (.int .u64 0), (.int .i64 9)]), (.agg [(.int .i64 4), (.str [41]), (.int .u64 0), (.int .i64 10)]), (.agg [(.int .i64 4), (.str [123]), (.int .u64 0), (.int .i64 12)]), (.agg [(.int .i64 5), (.str [118, 97, 114]), (.int .u64 0), (.int .i64 14)]), (.agg [(.int .i64 1), (.str [120]), (.int .u64 0), (.int .i64 18)]), (.agg [(.int .i64 4), (.str [59]), (.int .u64 0), (.int .i64 19)]), (.agg [(.int .i64 3), (.str [64, 49]), (.int .u64 1), (.int .i64 21)]), (.agg [(.int .i64 1), (.str [120]), (.int .u64 0), (.int .i64 24)]), (.agg [(.int .i64 4), (.str [61]), (.int .u64 0), (.int .i64 26)]), (.agg [(.int .i64 2), (.str [49]), (.int .u64 1), (.int .i64 28)]), (.agg [(.int .i64 4), (.str [59]), (.int .u64 0), (.int .i64 29)]), (.agg [(.int .i64 3), (.str [64, 49]), (.int .u64 1), (.int .i64 31)]), (.agg [(.int .i64 1), (.str [120]), (.int .u64 0), (.int .i64 34)]), (.agg [(.int .i64 4), (.str [61]), (.int .u64 0), (.int .i64 36)]), (.agg [(.int .i64 2), (.str [50]), (.int .u64 2), (.int .i64 38)]), (.agg [(.int .i64 4), (.str [59]), (.int .u64 0), (.int .i64 39)]), (.agg [(.int .i64 4), (.str [125]), (.int .u64 0), (.int .i64 41)])])]))
theorem E05r143_7 : runK BkE051 1000 70 143 E05e143_7.1 E05e143_7.2.1 = some E05e143_7.2.2 := by kernel_rfl
end Go.Proofs.YtkinbnepkpoofaaGreatDoor
/- A table of runs. -/
set_option maxRecDepth 1000000
set_option linter.unusedVariables false
open Go Go.AM
namespace Go.Proofs.YtkinbnepkpoofaaGreatDoor
def E05tab143 : Tabl := [E05e143_0, E05e143_1, E05e143_2, E05e143_3, E05e143_4, E05e143_5, E05e143_6, E05e143_7]
theorem E05tab143_ok : OkZ Tryz.prog 143 (tabSz E05tab143) := tab_ok (runK_ok hT hm BkE051_ok 70 143) (by
 refine List.forall_mem_cons.2 ⟨E05r143_0, ?_⟩
 refine List.forall_mem_cons.2 ⟨E05r143_1, ?_⟩
 refine List.forall_mem_cons.2 ⟨E05r143_2, ?_⟩
 refine List.forall_mem_cons.2 ⟨E05r143_3, ?_⟩
 refine List.forall_mem_cons.2 ⟨E05r143_4, ?_⟩
 refine List.forall_mem_cons.2 ⟨E05r143_5, ?_⟩
 refine List.forall_mem_cons.2 ⟨E05r143_6, ?_⟩
 refine List.forall_mem_cons.2 ⟨E05r143_7, ?_⟩
 exact fun _ h => nomatch h)
end Go.Proofs.YtkinbnepkpoofaaGreatDoor