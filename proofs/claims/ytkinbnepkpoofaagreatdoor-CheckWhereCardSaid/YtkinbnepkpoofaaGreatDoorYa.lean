/- Texts joined into one: E05B0 E05S0_0 E05S0_1 E05S0_2 E05S0_3 E05S0_4 E05S0_5 E05S0_6 E05S0_7 E05S0_8 E05S0_9 E05S0_10 E05S0_11 E05S0_12 E05S0_13 E05S0_14 E05S0_15 E05S0_16 E05S0_17 E05S0_18 E05S0_19 E05S0_20 E05S0_21 E05S0_. -/
import Derived.Test.YtkinbnepkpoofaaGreatDoorJg
import Derived.Test.YtkinbnepkpoofaaGreatDoorJe
/- What is known: a book. -/
set_option maxRecDepth 1000000
set_option linter.unusedVariables false
open Go Go.AM
namespace Go.Proofs.YtkinbnepkpoofaaGreatDoor
noncomputable def BkE050 : BookR Tryz.prog T:=bookR Tryz.prog T (fun f=>false) (known)
theorem BkE050_ok : BkE050.ok:=bookR_ok hn (by
 exact known_ok)
end Go.Proofs.YtkinbnepkpoofaaGreatDoor
/- Runs. -/
open Go Go.AM
namespace Go.Proofs.YtkinbnepkpoofaaGreatDoor
def E05e178_0 : List AV × Heap × (Bool × AV × Heap):=([(.im (.str [102,117,110,99,32,102,40,97,41,32,123,32,114,101,116,117,114,110,32,97,59,32,125,32,102,117,110,99,32,109,97,105,110,40,41,32,123,32,118,97,114,32,120,44,32,121,91,50,93,59,32,64,49,32,120,32,61,32,102,40,51,41,59,32,119,104,105,108,101,32,40,120,41,32,123,32,98,114,101,97,107,59,32,125,32,125]))],[],(false,(.tup [(.im (.agg [(.int .i64 5),(.str [102,117,110,99]),(.int .u64 0),(.int .i64 0)])),(.im (.bool true))]),[]))
theorem E05r178_0 : runK BkE050 1000 70 178 E05e178_0.1 E05e178_0.2.1 = some E05e178_0.2.2:=by kernel_rfl
def E05e178_1 : List AV × Heap × (Bool × AV × Heap):=([(.im (.str [102,40,97,41,32,123,32,114,101,116,117,114,110,32,97,59,32,125,32,102,117,110,99,32,109,97,105,110,40,41,32,123,32,118,97,114,32,120,44,32,121,91,50,93,59,32,64,49,32,120,32,61,32,102,40,51,41,59,32,119,104,105,108,101,32,40,120,41,32,123,32,98,114,101,97,107,59,32,125,32,125]))],[],(false,(.tup [(.im (.agg [(.int .i64 1),(.str [102]),(.int .u64 0),(.int .i64 0)])),(.im (.bool true))]),[]))
theorem E05r178_1 : runK BkE050 1000 70 178 E05e178_1.1 E05e178_1.2.1 = some E05e178_1.2.2:=by kernel_rfl
def E05e178_2 : List AV × Heap × (Bool × AV × Heap):=([(.im (.str [40,97,41,32,123,32,114,101,116,117,114,110,32,97,59,32,125,32,102,117,110,99,32,109,97,105,110,40,41,32,123,32,118,97,114,32,120,44,32,121,91,50,93,59,32,64,49,32,120,32,61,32,102,40,51,41,59,32,119,104,105,108,101,32,40,120,41,32,123,32,98,114,101,97,107,59,32,125,32,125]))],[],(false,(.tup [(.im (.agg [(.int .i64 4),(.str [40]),(.int .u64 0),(.int .i64 0)])),(.im (.bool true))]),[]))
theorem E05r178_2 : runK BkE050 1000 70 178 E05e178_2.1 E05e178_2.2.1 = some E05e178_2.2.2:=by kernel_rfl
def E05e178_3 : List AV × Heap × (Bool × AV × Heap):=([(.im (.str [97,41,32,123,32,114,101,116,117,114,110,32,97,59,32,125,32,102,117,110,99,32,109,97,105,110,40,41,32,123,32,118,97,114,32,120,44,32,121,91,50,93,59,32,64,49,32,120,32,61,32,102,40,51,41,59,32,119,104,105,108,101,32,40,120,41,32,123,32,98,114,101,97,107,59,32,125,32,125]))],[],(false,(.tup [(.im (.agg [(.int .i64 1),(.str [97]),(.int .u64 0),(.int .i64 0)])),(.im (.bool true))]),[]))
theorem E05r178_3 : runK BkE050 1000 70 178 E05e178_3.1 E05e178_3.2.1 = some E05e178_3.2.2:=by kernel_rfl
def E05e178_4 : List AV × Heap × (Bool × AV × Heap):=([(.im (.str [41,32,123,32,114,101,116,117,114,110,32,97,59,32,125,32,102,117,110,99,32,109,97,105,110,40,41,32,123,32,118,97,114,32,120,44,32,121,91,50,93,59,32,64,49,32,120,32,61,32,102,40,51,41,59,32,119,104,105,108,101,32,40,120,41,32,123,32,98,114,101,97,107,59,32,125,32,125]))],[],(false,(.tup [(.im (.agg [(.int .i64 4),(.str [41]),(.int .u64 0),(.int .i64 0)])),(.im (.bool true))]),[]))
theorem E05r178_4 : runK BkE050 1000 70 178 E05e178_4.1 E05e178_4.2.1 = some E05e178_4.2.2:=by kernel_rfl
end Go.Proofs.YtkinbnepkpoofaaGreatDoor
/- Runs. -/
open Go Go.AM
namespace Go.Proofs.YtkinbnepkpoofaaGreatDoor
def E05e178_5 : List AV × Heap × (Bool × AV × Heap):=([(.im (.str [123,32,114,101,116,117,114,110,32,97,59,32,125,32,102,117,110,99,32,109,97,105,110,40,41,32,123,32,118,97,114,32,120,44,32,121,91,50,93,59,32,64,49,32,120,32,61,32,102,40,51,41,59,32,119,104,105,108,101,32,40,120,41,32,123,32,98,114,101,97,107,59,32,125,32,125]))],[],(false,(.tup [(.im (.agg [(.int .i64 4),(.str [123]),(.int .u64 0),(.int .i64 0)])),(.im (.bool true))]),[]))
theorem E05r178_5 : runK BkE050 1000 70 178 E05e178_5.1 E05e178_5.2.1 = some E05e178_5.2.2:=by kernel_rfl
def E05e178_6 : List AV × Heap × (Bool × AV × Heap):=([(.im (.str [114,101,116,117,114,110,32,97,59,32,125,32,102,117,110,99,32,109,97,105,110,40,41,32,123,32,118,97,114,32,120,44,32,121,91,50,93,59,32,64,49,32,120,32,61,32,102,40,51,41,59,32,119,104,105,108,101,32,40,120,41,32,123,32,98,114,101,97,107,59,32,125,32,125]))],[],(false,(.tup [(.im (.agg [(.int .i64 5),(.str [114,101,116,117,114,110]),(.int .u64 0),(.int .i64 0)])),(.im (.bool true))]),[]))
theorem E05r178_6 : runK BkE050 1000 70 178 E05e178_6.1 E05e178_6.2.1 = some E05e178_6.2.2:=by kernel_rfl
def E05e178_7 : List AV × Heap × (Bool × AV × Heap):=([(.im (.str [97,59,32,125,32,102,117,110,99,32,109,97,105,110,40,41,32,123,32,118,97,114,32,120,44,32,121,91,50,93,59,32,64,49,32,120,32,61,32,102,40,51,41,59,32,119,104,105,108,101,32,40,120,41,32,123,32,98,114,101,97,107,59,32,125,32,125]))],[],(false,(.tup [(.im (.agg [(.int .i64 1),(.str [97]),(.int .u64 0),(.int .i64 0)])),(.im (.bool true))]),[]))
theorem E05r178_7 : runK BkE050 1000 70 178 E05e178_7.1 E05e178_7.2.1 = some E05e178_7.2.2:=by kernel_rfl
def E05e178_8 : List AV × Heap × (Bool × AV × Heap):=([(.im (.str [59,32,125,32,102,117,110,99,32,109,97,105,110,40,41,32,123,32,118,97,114,32,120,44,32,121,91,50,93,59,32,64,49,32,120,32,61,32,102,40,51,41,59,32,119,104,105,108,101,32,40,120,41,32,123,32,98,114,101,97,107,59,32,125,32,125]))],[],(false,(.tup [(.im (.agg [(.int .i64 4),(.str [59]),(.int .u64 0),(.int .i64 0)])),(.im (.bool true))]),[]))
theorem E05r178_8 : runK BkE050 1000 70 178 E05e178_8.1 E05e178_8.2.1 = some E05e178_8.2.2:=by kernel_rfl
end Go.Proofs.YtkinbnepkpoofaaGreatDoor
/- Runs. -/
open Go Go.AM
namespace Go.Proofs.YtkinbnepkpoofaaGreatDoor
def E05e178_9 : List AV × Heap × (Bool × AV × Heap):=([(.im (.str [125,32,102,117,110,99,32,109,97,105,110,40,41,32,123,32,118,97,114,32,120,44,32,121,91,50,93,59,32,64,49,32,120,32,61,32,102,40,51,41,59,32,119,104,105,108,101,32,40,120,41,32,123,32,98,114,101,97,107,59,32,125,32,125]))],[],(false,(.tup [(.im (.agg [(.int .i64 4),(.str [125]),(.int .u64 0),(.int .i64 0)])),(.im (.bool true))]),[]))
theorem E05r178_9 : runK BkE050 1000 70 178 E05e178_9.1 E05e178_9.2.1 = some E05e178_9.2.2:=by kernel_rfl
def E05e178_10 : List AV × Heap × (Bool × AV × Heap):=([(.im (.str [102,117,110,99,32,109,97,105,110,40,41,32,123,32,118,97,114,32,120,44,32,121,91,50,93,59,32,64,49,32,120,32,61,32,102,40,51,41,59,32,119,104,105,108,101,32,40,120,41,32,123,32,98,114,101,97,107,59,32,125,32,125]))],[],(false,(.tup [(.im (.agg [(.int .i64 5),(.str [102,117,110,99]),(.int .u64 0),(.int .i64 0)])),(.im (.bool true))]),[]))
theorem E05r178_10 : runK BkE050 1000 70 178 E05e178_10.1 E05e178_10.2.1 = some E05e178_10.2.2:=by kernel_rfl
def E05e178_11 : List AV × Heap × (Bool × AV × Heap):=([(.im (.str [109,97,105,110,40,41,32,123,32,118,97,114,32,120,44,32,121,91,50,93,59,32,64,49,32,120,32,61,32,102,40,51,41,59,32,119,104,105,108,101,32,40,120,41,32,123,32,98,114,101,97,107,59,32,125,32,125]))],[],(false,(.tup [(.im (.agg [(.int .i64 1),(.str [109,97,105,110]),(.int .u64 0),(.int .i64 0)])),(.im (.bool true))]),[]))
theorem E05r178_11 : runK BkE050 1000 70 178 E05e178_11.1 E05e178_11.2.1 = some E05e178_11.2.2:=by kernel_rfl
def E05e178_12 : List AV × Heap × (Bool × AV × Heap):=([(.im (.str [40,41,32,123,32,118,97,114,32,120,44,32,121,91,50,93,59,32,64,49,32,120,32,61,32,102,40,51,41,59,32,119,104,105,108,101,32,40,120,41,32,123,32,98,114,101,97,107,59,32,125,32,125]))],[],(false,(.tup [(.im (.agg [(.int .i64 4),(.str [40]),(.int .u64 0),(.int .i64 0)])),(.im (.bool true))]),[]))
theorem E05r178_12 : runK BkE050 1000 70 178 E05e178_12.1 E05e178_12.2.1 = some E05e178_12.2.2:=by kernel_rfl
end Go.Proofs.YtkinbnepkpoofaaGreatDoor
/- Runs. -/
open Go Go.AM
namespace Go.Proofs.YtkinbnepkpoofaaGreatDoor
def E05e178_13 : List AV × Heap × (Bool × AV × Heap):=([(.im (.str [41,32,123,32,118,97,114,32,120,44,32,121,91,50,93,59,32,64,49,32,120,32,61,32,102,40,51,41,59,32,119,104,105,108,101,32,40,120,41,32,123,32,98,114,101,97,107,59,32,125,32,125]))],[],(false,(.tup [(.im (.agg [(.int .i64 4),(.str [41]),(.int .u64 0),(.int .i64 0)])),(.im (.bool true))]),[]))
theorem E05r178_13 : runK BkE050 1000 70 178 E05e178_13.1 E05e178_13.2.1 = some E05e178_13.2.2:=by kernel_rfl
def E05e178_14 : List AV × Heap × (Bool × AV × Heap):=([(.im (.str [123,32,118,97,114,32,120,44,32,121,91,50,93,59,32,64,49,32,120,32,61,32,102,40,51,41,59,32,119,104,105,108,101,32,40,120,41,32,123,32,98,114,101,97,107,59,32,125,32,125]))],[],(false,(.tup [(.im (.agg [(.int .i64 4),(.str [123]),(.int .u64 0),(.int .i64 0)])),(.im (.bool true))]),[]))
theorem E05r178_14 : runK BkE050 1000 70 178 E05e178_14.1 E05e178_14.2.1 = some E05e178_14.2.2:=by kernel_rfl
def E05e178_15 : List AV × Heap × (Bool × AV × Heap):=([(.im (.str [118,97,114,32,120,44,32,121,91,50,93,59,32,64,49,32,120,32,61,32,102,40,51,41,59,32,119,104,105,108,101,32,40,120,41,32,123,32,98,114,101,97,107,59,32,125,32,125]))],[],(false,(.tup [(.im (.agg [(.int .i64 5),(.str [118,97,114]),(.int .u64 0),(.int .i64 0)])),(.im (.bool true))]),[]))
theorem E05r178_15 : runK BkE050 1000 70 178 E05e178_15.1 E05e178_15.2.1 = some E05e178_15.2.2:=by kernel_rfl
def E05e178_16 : List AV × Heap × (Bool × AV × Heap):=([(.im (.str [120,44,32,121,91,50,93,59,32,64,49,32,120,32,61,32,102,40,51,41,59,32,119,104,105,108,101,32,40,120,41,32,123,32,98,114,101,97,107,59,32,125,32,125]))],[],(false,(.tup [(.im (.agg [(.int .i64 1),(.str [120]),(.int .u64 0),(.int .i64 0)])),(.im (.bool true))]),[]))
theorem E05r178_16 : runK BkE050 1000 70 178 E05e178_16.1 E05e178_16.2.1 = some E05e178_16.2.2:=by kernel_rfl
end Go.Proofs.YtkinbnepkpoofaaGreatDoor
/- Runs. -/
open Go Go.AM
namespace Go.Proofs.YtkinbnepkpoofaaGreatDoor
def E05e178_17 : List AV × Heap × (Bool × AV × Heap):=([(.im (.str [44,32,121,91,50,93,59,32,64,49,32,120,32,61,32,102,40,51,41,59,32,119,104,105,108,101,32,40,120,41,32,123,32,98,114,101,97,107,59,32,125,32,125]))],[],(false,(.tup [(.im (.agg [(.int .i64 4),(.str [44]),(.int .u64 0),(.int .i64 0)])),(.im (.bool true))]),[]))
theorem E05r178_17 : runK BkE050 1000 70 178 E05e178_17.1 E05e178_17.2.1 = some E05e178_17.2.2:=by kernel_rfl
def E05e178_18 : List AV × Heap × (Bool × AV × Heap):=([(.im (.str [121,91,50,93,59,32,64,49,32,120,32,61,32,102,40,51,41,59,32,119,104,105,108,101,32,40,120,41,32,123,32,98,114,101,97,107,59,32,125,32,125]))],[],(false,(.tup [(.im (.agg [(.int .i64 1),(.str [121]),(.int .u64 0),(.int .i64 0)])),(.im (.bool true))]),[]))
theorem E05r178_18 : runK BkE050 1000 70 178 E05e178_18.1 E05e178_18.2.1 = some E05e178_18.2.2:=by kernel_rfl
def E05e178_19 : List AV × Heap × (Bool × AV × Heap):=([(.im (.str [91,50,93,59,32,64,49,32,120,32,61,32,102,40,51,41,59,32,119,104,105,108,101,32,40,120,41,32,123,32,98,114,101,97,107,59,32,125,32,125]))],[],(false,(.tup [(.im (.agg [(.int .i64 4),(.str [91]),(.int .u64 0),(.int .i64 0)])),(.im (.bool true))]),[]))
theorem E05r178_19 : runK BkE050 1000 70 178 E05e178_19.1 E05e178_19.2.1 = some E05e178_19.2.2:=by kernel_rfl
def E05e178_20 : List AV × Heap × (Bool × AV × Heap):=([(.im (.str [50,93,59,32,64,49,32,120,32,61,32,102,40,51,41,59,32,119,104,105,108,101,32,40,120,41,32,123,32,98,114,101,97,107,59,32,125,32,125]))],[],(false,(.tup [(.im (.agg [(.int .i64 2),(.str [50]),(.int .u64 2),(.int .i64 0)])),(.im (.bool true))]),[]))
theorem E05r178_20 : runK BkE050 1000 70 178 E05e178_20.1 E05e178_20.2.1 = some E05e178_20.2.2:=by kernel_rfl
end Go.Proofs.YtkinbnepkpoofaaGreatDoor
/- Runs. -/
open Go Go.AM
namespace Go.Proofs.YtkinbnepkpoofaaGreatDoor
def E05e178_21 : List AV × Heap × (Bool × AV × Heap):=([(.im (.str [93,59,32,64,49,32,120,32,61,32,102,40,51,41,59,32,119,104,105,108,101,32,40,120,41,32,123,32,98,114,101,97,107,59,32,125,32,125]))],[],(false,(.tup [(.im (.agg [(.int .i64 4),(.str [93]),(.int .u64 0),(.int .i64 0)])),(.im (.bool true))]),[]))
theorem E05r178_21 : runK BkE050 1000 70 178 E05e178_21.1 E05e178_21.2.1 = some E05e178_21.2.2:=by kernel_rfl
def E05e178_22 : List AV × Heap × (Bool × AV × Heap):=([(.im (.str [59,32,64,49,32,120,32,61,32,102,40,51,41,59,32,119,104,105,108,101,32,40,120,41,32,123,32,98,114,101,97,107,59,32,125,32,125]))],[],(false,(.tup [(.im (.agg [(.int .i64 4),(.str [59]),(.int .u64 0),(.int .i64 0)])),(.im (.bool true))]),[]))
theorem E05r178_22 : runK BkE050 1000 70 178 E05e178_22.1 E05e178_22.2.1 = some E05e178_22.2.2:=by kernel_rfl
def E05e178_23 : List AV × Heap × (Bool × AV × Heap):=([(.im (.str [64,49,32,120,32,61,32,102,40,51,41,59,32,119,104,105,108,101,32,40,120,41,32,123,32,98,114,101,97,107,59,32,125,32,125]))],[],(false,(.tup [(.im (.agg [(.int .i64 3),(.str [64,49]),(.int .u64 1),(.int .i64 0)])),(.im (.bool true))]),[]))
theorem E05r178_23 : runK BkE050 1000 70 178 E05e178_23.1 E05e178_23.2.1 = some E05e178_23.2.2:=by kernel_rfl
def E05e178_24 : List AV × Heap × (Bool × AV × Heap):=([(.im (.str [120,32,61,32,102,40,51,41,59,32,119,104,105,108,101,32,40,120,41,32,123,32,98,114,101,97,107,59,32,125,32,125]))],[],(false,(.tup [(.im (.agg [(.int .i64 1),(.str [120]),(.int .u64 0),(.int .i64 0)])),(.im (.bool true))]),[]))
theorem E05r178_24 : runK BkE050 1000 70 178 E05e178_24.1 E05e178_24.2.1 = some E05e178_24.2.2:=by kernel_rfl
end Go.Proofs.YtkinbnepkpoofaaGreatDoor
/- Runs. -/
open Go Go.AM
namespace Go.Proofs.YtkinbnepkpoofaaGreatDoor
def E05e178_25 : List AV × Heap × (Bool × AV × Heap):=([(.im (.str [61,32,102,40,51,41,59,32,119,104,105,108,101,32,40,120,41,32,123,32,98,114,101,97,107,59,32,125,32,125]))],[],(false,(.tup [(.im (.agg [(.int .i64 4),(.str [61]),(.int .u64 0),(.int .i64 0)])),(.im (.bool true))]),[]))
theorem E05r178_25 : runK BkE050 1000 70 178 E05e178_25.1 E05e178_25.2.1 = some E05e178_25.2.2:=by kernel_rfl
def E05e178_26 : List AV × Heap × (Bool × AV × Heap):=([(.im (.str [102,40,51,41,59,32,119,104,105,108,101,32,40,120,41,32,123,32,98,114,101,97,107,59,32,125,32,125]))],[],(false,(.tup [(.im (.agg [(.int .i64 1),(.str [102]),(.int .u64 0),(.int .i64 0)])),(.im (.bool true))]),[]))
theorem E05r178_26 : runK BkE050 1000 70 178 E05e178_26.1 E05e178_26.2.1 = some E05e178_26.2.2:=by kernel_rfl
def E05e178_27 : List AV × Heap × (Bool × AV × Heap):=([(.im (.str [40,51,41,59,32,119,104,105,108,101,32,40,120,41,32,123,32,98,114,101,97,107,59,32,125,32,125]))],[],(false,(.tup [(.im (.agg [(.int .i64 4),(.str [40]),(.int .u64 0),(.int .i64 0)])),(.im (.bool true))]),[]))
theorem E05r178_27 : runK BkE050 1000 70 178 E05e178_27.1 E05e178_27.2.1 = some E05e178_27.2.2:=by kernel_rfl
def E05e178_28 : List AV × Heap × (Bool × AV × Heap):=([(.im (.str [51,41,59,32,119,104,105,108,101,32,40,120,41,32,123,32,98,114,101,97,107,59,32,125,32,125]))],[],(false,(.tup [(.im (.agg [(.int .i64 2),(.str [51]),(.int .u64 3),(.int .i64 0)])),(.im (.bool true))]),[]))
theorem E05r178_28 : runK BkE050 1000 70 178 E05e178_28.1 E05e178_28.2.1 = some E05e178_28.2.2:=by kernel_rfl
end Go.Proofs.YtkinbnepkpoofaaGreatDoor
/- Runs. -/
open Go Go.AM
namespace Go.Proofs.YtkinbnepkpoofaaGreatDoor
def E05e178_29 : List AV × Heap × (Bool × AV × Heap):=([(.im (.str [41,59,32,119,104,105,108,101,32,40,120,41,32,123,32,98,114,101,97,107,59,32,125,32,125]))],[],(false,(.tup [(.im (.agg [(.int .i64 4),(.str [41]),(.int .u64 0),(.int .i64 0)])),(.im (.bool true))]),[]))
theorem E05r178_29 : runK BkE050 1000 70 178 E05e178_29.1 E05e178_29.2.1 = some E05e178_29.2.2:=by kernel_rfl
def E05e178_30 : List AV × Heap × (Bool × AV × Heap):=([(.im (.str [59,32,119,104,105,108,101,32,40,120,41,32,123,32,98,114,101,97,107,59,32,125,32,125]))],[],(false,(.tup [(.im (.agg [(.int .i64 4),(.str [59]),(.int .u64 0),(.int .i64 0)])),(.im (.bool true))]),[]))
theorem E05r178_30 : runK BkE050 1000 70 178 E05e178_30.1 E05e178_30.2.1 = some E05e178_30.2.2:=by kernel_rfl
def E05e178_31 : List AV × Heap × (Bool × AV × Heap):=([(.im (.str [119,104,105,108,101,32,40,120,41,32,123,32,98,114,101,97,107,59,32,125,32,125]))],[],(false,(.tup [(.im (.agg [(.int .i64 5),(.str [119,104,105,108,101]),(.int .u64 0),(.int .i64 0)])),(.im (.bool true))]),[]))
theorem E05r178_31 : runK BkE050 1000 70 178 E05e178_31.1 E05e178_31.2.1 = some E05e178_31.2.2:=by kernel_rfl
end Go.Proofs.YtkinbnepkpoofaaGreatDoor
/- Runs. -/
open Go Go.AM
namespace Go.Proofs.YtkinbnepkpoofaaGreatDoor
def E05e178_32 : List AV × Heap × (Bool × AV × Heap):=([(.im (.str [40,120,41,32,123,32,98,114,101,97,107,59,32,125,32,125]))],[],(false,(.tup [(.im (.agg [(.int .i64 4),(.str [40]),(.int .u64 0),(.int .i64 0)])),(.im (.bool true))]),[]))
theorem E05r178_32 : runK BkE050 1000 70 178 E05e178_32.1 E05e178_32.2.1 = some E05e178_32.2.2:=by kernel_rfl
def E05e178_33 : List AV × Heap × (Bool × AV × Heap):=([(.im (.str [120,41,32,123,32,98,114,101,97,107,59,32,125,32,125]))],[],(false,(.tup [(.im (.agg [(.int .i64 1),(.str [120]),(.int .u64 0),(.int .i64 0)])),(.im (.bool true))]),[]))
theorem E05r178_33 : runK BkE050 1000 70 178 E05e178_33.1 E05e178_33.2.1 = some E05e178_33.2.2:=by kernel_rfl
def E05e178_34 : List AV × Heap × (Bool × AV × Heap):=([(.im (.str [41,32,123,32,98,114,101,97,107,59,32,125,32,125]))],[],(false,(.tup [(.im (.agg [(.int .i64 4),(.str [41]),(.int .u64 0),(.int .i64 0)])),(.im (.bool true))]),[]))
theorem E05r178_34 : runK BkE050 1000 70 178 E05e178_34.1 E05e178_34.2.1 = some E05e178_34.2.2:=by kernel_rfl
end Go.Proofs.YtkinbnepkpoofaaGreatDoor
/- Runs. -/
open Go Go.AM
namespace Go.Proofs.YtkinbnepkpoofaaGreatDoor
def E05e178_35 : List AV × Heap × (Bool × AV × Heap):=([(.im (.str [123,32,98,114,101,97,107,59,32,125,32,125]))],[],(false,(.tup [(.im (.agg [(.int .i64 4),(.str [123]),(.int .u64 0),(.int .i64 0)])),(.im (.bool true))]),[]))
theorem E05r178_35 : runK BkE050 1000 70 178 E05e178_35.1 E05e178_35.2.1 = some E05e178_35.2.2:=by kernel_rfl
def E05e178_36 : List AV × Heap × (Bool × AV × Heap):=([(.im (.str [98,114,101,97,107,59,32,125,32,125]))],[],(false,(.tup [(.im (.agg [(.int .i64 5),(.str [98,114,101,97,107]),(.int .u64 0),(.int .i64 0)])),(.im (.bool true))]),[]))
theorem E05r178_36 : runK BkE050 1000 70 178 E05e178_36.1 E05e178_36.2.1 = some E05e178_36.2.2:=by kernel_rfl
def E05e178_37 : List AV × Heap × (Bool × AV × Heap):=([(.im (.str [59,32,125,32,125]))],[],(false,(.tup [(.im (.agg [(.int .i64 4),(.str [59]),(.int .u64 0),(.int .i64 0)])),(.im (.bool true))]),[]))
theorem E05r178_37 : runK BkE050 1000 70 178 E05e178_37.1 E05e178_37.2.1 = some E05e178_37.2.2:=by kernel_rfl
end Go.Proofs.YtkinbnepkpoofaaGreatDoor
/- Runs. -/
open Go Go.AM
namespace Go.Proofs.YtkinbnepkpoofaaGreatDoor
def E05e178_38 : List AV × Heap × (Bool × AV × Heap):=([(.im (.str [125,32,125]))],[],(false,(.tup [(.im (.agg [(.int .i64 4),(.str [125]),(.int .u64 0),(.int .i64 0)])),(.im (.bool true))]),[]))
theorem E05r178_38 : runK BkE050 1000 70 178 E05e178_38.1 E05e178_38.2.1 = some E05e178_38.2.2:=by kernel_rfl
def E05e178_39 : List AV × Heap × (Bool × AV × Heap):=([(.im (.str [125]))],[],(false,(.tup [(.im (.agg [(.int .i64 4),(.str [125]),(.int .u64 0),(.int .i64 0)])),(.im (.bool true))]),[]))
theorem E05r178_39 : runK BkE050 1000 70 178 E05e178_39.1 E05e178_39.2.1 = some E05e178_39.2.2:=by kernel_rfl
def E05e178_40 : List AV × Heap × (Bool × AV × Heap):=([(.im (.str [102,117,110,99,32,109,97,105,110,40,41,32,123,32,120,32,61,32,49,59,32,125]))],[],(false,(.tup [(.im (.agg [(.int .i64 5),(.str [102,117,110,99]),(.int .u64 0),(.int .i64 0)])),(.im (.bool true))]),[]))
theorem E05r178_40 : runK BkE050 1000 70 178 E05e178_40.1 E05e178_40.2.1 = some E05e178_40.2.2:=by kernel_rfl
def E05e178_41 : List AV × Heap × (Bool × AV × Heap):=([(.im (.str [109,97,105,110,40,41,32,123,32,120,32,61,32,49,59,32,125]))],[],(false,(.tup [(.im (.agg [(.int .i64 1),(.str [109,97,105,110]),(.int .u64 0),(.int .i64 0)])),(.im (.bool true))]),[]))
theorem E05r178_41 : runK BkE050 1000 70 178 E05e178_41.1 E05e178_41.2.1 = some E05e178_41.2.2:=by kernel_rfl
end Go.Proofs.YtkinbnepkpoofaaGreatDoor
/- Runs. -/
open Go Go.AM
namespace Go.Proofs.YtkinbnepkpoofaaGreatDoor
def E05e178_42 : List AV × Heap × (Bool × AV × Heap):=([(.im (.str [40,41,32,123,32,120,32,61,32,49,59,32,125]))],[],(false,(.tup [(.im (.agg [(.int .i64 4),(.str [40]),(.int .u64 0),(.int .i64 0)])),(.im (.bool true))]),[]))
theorem E05r178_42 : runK BkE050 1000 70 178 E05e178_42.1 E05e178_42.2.1 = some E05e178_42.2.2:=by kernel_rfl
def E05e178_43 : List AV × Heap × (Bool × AV × Heap):=([(.im (.str [41,32,123,32,120,32,61,32,49,59,32,125]))],[],(false,(.tup [(.im (.agg [(.int .i64 4),(.str [41]),(.int .u64 0),(.int .i64 0)])),(.im (.bool true))]),[]))
theorem E05r178_43 : runK BkE050 1000 70 178 E05e178_43.1 E05e178_43.2.1 = some E05e178_43.2.2:=by kernel_rfl
end Go.Proofs.YtkinbnepkpoofaaGreatDoor
/- Runs. -/
open Go Go.AM
namespace Go.Proofs.YtkinbnepkpoofaaGreatDoor
def E05e178_44 : List AV × Heap × (Bool × AV × Heap):=([(.im (.str [123,32,120,32,61,32,49,59,32,125]))],[],(false,(.tup [(.im (.agg [(.int .i64 4),(.str [123]),(.int .u64 0),(.int .i64 0)])),(.im (.bool true))]),[]))
theorem E05r178_44 : runK BkE050 1000 70 178 E05e178_44.1 E05e178_44.2.1 = some E05e178_44.2.2:=by kernel_rfl
def E05e178_45 : List AV × Heap × (Bool × AV × Heap):=([(.im (.str [120,32,61,32,49,59,32,125]))],[],(false,(.tup [(.im (.agg [(.int .i64 1),(.str [120]),(.int .u64 0),(.int .i64 0)])),(.im (.bool true))]),[]))
theorem E05r178_45 : runK BkE050 1000 70 178 E05e178_45.1 E05e178_45.2.1 = some E05e178_45.2.2:=by kernel_rfl
def E05e178_46 : List AV × Heap × (Bool × AV × Heap):=([(.im (.str [61,32,49,59,32,125]))],[],(false,(.tup [(.im (.agg [(.int .i64 4),(.str [61]),(.int .u64 0),(.int .i64 0)])),(.im (.bool true))]),[]))
theorem E05r178_46 : runK BkE050 1000 70 178 E05e178_46.1 E05e178_46.2.1 = some E05e178_46.2.2:=by kernel_rfl
def E05e178_47 : List AV × Heap × (Bool × AV × Heap):=([(.im (.str [49,59,32,125]))],[],(false,(.tup [(.im (.agg [(.int .i64 2),(.str [49]),(.int .u64 1),(.int .i64 0)])),(.im (.bool true))]),[]))
theorem E05r178_47 : runK BkE050 1000 70 178 E05e178_47.1 E05e178_47.2.1 = some E05e178_47.2.2:=by kernel_rfl
end Go.Proofs.YtkinbnepkpoofaaGreatDoor
/- Runs. -/
open Go Go.AM
namespace Go.Proofs.YtkinbnepkpoofaaGreatDoor
def E05e178_48 : List AV × Heap × (Bool × AV × Heap):=([(.im (.str [59,32,125]))],[],(false,(.tup [(.im (.agg [(.int .i64 4),(.str [59]),(.int .u64 0),(.int .i64 0)])),(.im (.bool true))]),[]))
theorem E05r178_48 : runK BkE050 1000 70 178 E05e178_48.1 E05e178_48.2.1 = some E05e178_48.2.2:=by kernel_rfl
def E05e178_49 : List AV × Heap × (Bool × AV × Heap):=([(.im (.str [102,117,110,99,32,109,97,105,110,40,41,32,123,32,118,97,114,32,120,91,50,93,59,32,120,32,61,32,49,59,32,125]))],[],(false,(.tup [(.im (.agg [(.int .i64 5),(.str [102,117,110,99]),(.int .u64 0),(.int .i64 0)])),(.im (.bool true))]),[]))
theorem E05r178_49 : runK BkE050 1000 70 178 E05e178_49.1 E05e178_49.2.1 = some E05e178_49.2.2:=by kernel_rfl
def E05e178_50 : List AV × Heap × (Bool × AV × Heap):=([(.im (.str [109,97,105,110,40,41,32,123,32,118,97,114,32,120,91,50,93,59,32,120,32,61,32,49,59,32,125]))],[],(false,(.tup [(.im (.agg [(.int .i64 1),(.str [109,97,105,110]),(.int .u64 0),(.int .i64 0)])),(.im (.bool true))]),[]))
theorem E05r178_50 : runK BkE050 1000 70 178 E05e178_50.1 E05e178_50.2.1 = some E05e178_50.2.2:=by kernel_rfl
def E05e178_51 : List AV × Heap × (Bool × AV × Heap):=([(.im (.str [40,41,32,123,32,118,97,114,32,120,91,50,93,59,32,120,32,61,32,49,59,32,125]))],[],(false,(.tup [(.im (.agg [(.int .i64 4),(.str [40]),(.int .u64 0),(.int .i64 0)])),(.im (.bool true))]),[]))
theorem E05r178_51 : runK BkE050 1000 70 178 E05e178_51.1 E05e178_51.2.1 = some E05e178_51.2.2:=by kernel_rfl
end Go.Proofs.YtkinbnepkpoofaaGreatDoor
/- Runs. -/
open Go Go.AM
namespace Go.Proofs.YtkinbnepkpoofaaGreatDoor
def E05e178_52 : List AV × Heap × (Bool × AV × Heap):=([(.im (.str [41,32,123,32,118,97,114,32,120,91,50,93,59,32,120,32,61,32,49,59,32,125]))],[],(false,(.tup [(.im (.agg [(.int .i64 4),(.str [41]),(.int .u64 0),(.int .i64 0)])),(.im (.bool true))]),[]))
theorem E05r178_52 : runK BkE050 1000 70 178 E05e178_52.1 E05e178_52.2.1 = some E05e178_52.2.2:=by kernel_rfl
def E05e178_53 : List AV × Heap × (Bool × AV × Heap):=([(.im (.str [123,32,118,97,114,32,120,91,50,93,59,32,120,32,61,32,49,59,32,125]))],[],(false,(.tup [(.im (.agg [(.int .i64 4),(.str [123]),(.int .u64 0),(.int .i64 0)])),(.im (.bool true))]),[]))
theorem E05r178_53 : runK BkE050 1000 70 178 E05e178_53.1 E05e178_53.2.1 = some E05e178_53.2.2:=by kernel_rfl
def E05e178_54 : List AV × Heap × (Bool × AV × Heap):=([(.im (.str [118,97,114,32,120,91,50,93,59,32,120,32,61,32,49,59,32,125]))],[],(false,(.tup [(.im (.agg [(.int .i64 5),(.str [118,97,114]),(.int .u64 0),(.int .i64 0)])),(.im (.bool true))]),[]))
theorem E05r178_54 : runK BkE050 1000 70 178 E05e178_54.1 E05e178_54.2.1 = some E05e178_54.2.2:=by kernel_rfl
def E05e178_55 : List AV × Heap × (Bool × AV × Heap):=([(.im (.str [120,91,50,93,59,32,120,32,61,32,49,59,32,125]))],[],(false,(.tup [(.im (.agg [(.int .i64 1),(.str [120]),(.int .u64 0),(.int .i64 0)])),(.im (.bool true))]),[]))
theorem E05r178_55 : runK BkE050 1000 70 178 E05e178_55.1 E05e178_55.2.1 = some E05e178_55.2.2:=by kernel_rfl
end Go.Proofs.YtkinbnepkpoofaaGreatDoor
/- Runs. -/
open Go Go.AM
namespace Go.Proofs.YtkinbnepkpoofaaGreatDoor
def E05e178_56 : List AV × Heap × (Bool × AV × Heap):=([(.im (.str [91,50,93,59,32,120,32,61,32,49,59,32,125]))],[],(false,(.tup [(.im (.agg [(.int .i64 4),(.str [91]),(.int .u64 0),(.int .i64 0)])),(.im (.bool true))]),[]))
theorem E05r178_56 : runK BkE050 1000 70 178 E05e178_56.1 E05e178_56.2.1 = some E05e178_56.2.2:=by kernel_rfl
def E05e178_57 : List AV × Heap × (Bool × AV × Heap):=([(.im (.str [50,93,59,32,120,32,61,32,49,59,32,125]))],[],(false,(.tup [(.im (.agg [(.int .i64 2),(.str [50]),(.int .u64 2),(.int .i64 0)])),(.im (.bool true))]),[]))
theorem E05r178_57 : runK BkE050 1000 70 178 E05e178_57.1 E05e178_57.2.1 = some E05e178_57.2.2:=by kernel_rfl
def E05e178_58 : List AV × Heap × (Bool × AV × Heap):=([(.im (.str [93,59,32,120,32,61,32,49,59,32,125]))],[],(false,(.tup [(.im (.agg [(.int .i64 4),(.str [93]),(.int .u64 0),(.int .i64 0)])),(.im (.bool true))]),[]))
theorem E05r178_58 : runK BkE050 1000 70 178 E05e178_58.1 E05e178_58.2.1 = some E05e178_58.2.2:=by kernel_rfl
end Go.Proofs.YtkinbnepkpoofaaGreatDoor
/- Runs. -/
open Go Go.AM
namespace Go.Proofs.YtkinbnepkpoofaaGreatDoor
def E05e178_59 : List AV × Heap × (Bool × AV × Heap):=([(.im (.str [59,32,120,32,61,32,49,59,32,125]))],[],(false,(.tup [(.im (.agg [(.int .i64 4),(.str [59]),(.int .u64 0),(.int .i64 0)])),(.im (.bool true))]),[]))
theorem E05r178_59 : runK BkE050 1000 70 178 E05e178_59.1 E05e178_59.2.1 = some E05e178_59.2.2:=by kernel_rfl
def E05e178_60 : List AV × Heap × (Bool × AV × Heap):=([(.im (.str [102,117,110,99,32,109,97,105,110,40,41,32,123,32,98,114,101,97,107,59,32,125]))],[],(false,(.tup [(.im (.agg [(.int .i64 5),(.str [102,117,110,99]),(.int .u64 0),(.int .i64 0)])),(.im (.bool true))]),[]))
theorem E05r178_60 : runK BkE050 1000 70 178 E05e178_60.1 E05e178_60.2.1 = some E05e178_60.2.2:=by kernel_rfl
def E05e178_61 : List AV × Heap × (Bool × AV × Heap):=([(.im (.str [109,97,105,110,40,41,32,123,32,98,114,101,97,107,59,32,125]))],[],(false,(.tup [(.im (.agg [(.int .i64 1),(.str [109,97,105,110]),(.int .u64 0),(.int .i64 0)])),(.im (.bool true))]),[]))
theorem E05r178_61 : runK BkE050 1000 70 178 E05e178_61.1 E05e178_61.2.1 = some E05e178_61.2.2:=by kernel_rfl
def E05e178_62 : List AV × Heap × (Bool × AV × Heap):=([(.im (.str [40,41,32,123,32,98,114,101,97,107,59,32,125]))],[],(false,(.tup [(.im (.agg [(.int .i64 4),(.str [40]),(.int .u64 0),(.int .i64 0)])),(.im (.bool true))]),[]))
theorem E05r178_62 : runK BkE050 1000 70 178 E05e178_62.1 E05e178_62.2.1 = some E05e178_62.2.2:=by kernel_rfl
end Go.Proofs.YtkinbnepkpoofaaGreatDoor
/- Runs. -/
open Go Go.AM
namespace Go.Proofs.YtkinbnepkpoofaaGreatDoor
def E05e178_63 : List AV × Heap × (Bool × AV × Heap):=([(.im (.str [41,32,123,32,98,114,101,97,107,59,32,125]))],[],(false,(.tup [(.im (.agg [(.int .i64 4),(.str [41]),(.int .u64 0),(.int .i64 0)])),(.im (.bool true))]),[]))
theorem E05r178_63 : runK BkE050 1000 70 178 E05e178_63.1 E05e178_63.2.1 = some E05e178_63.2.2:=by kernel_rfl
def E05e178_64 : List AV × Heap × (Bool × AV × Heap):=([(.im (.str [123,32,98,114,101,97,107,59,32,125]))],[],(false,(.tup [(.im (.agg [(.int .i64 4),(.str [123]),(.int .u64 0),(.int .i64 0)])),(.im (.bool true))]),[]))
theorem E05r178_64 : runK BkE050 1000 70 178 E05e178_64.1 E05e178_64.2.1 = some E05e178_64.2.2:=by kernel_rfl
def E05e178_65 : List AV × Heap × (Bool × AV × Heap):=([(.im (.str [98,114,101,97,107,59,32,125]))],[],(false,(.tup [(.im (.agg [(.int .i64 5),(.str [98,114,101,97,107]),(.int .u64 0),(.int .i64 0)])),(.im (.bool true))]),[]))
theorem E05r178_65 : runK BkE050 1000 70 178 E05e178_65.1 E05e178_65.2.1 = some E05e178_65.2.2:=by kernel_rfl
def E05e178_66 : List AV × Heap × (Bool × AV × Heap):=([(.im (.str [102,117,110,99,32,102,40,41,32,123,32,64,49,32,114,101,116,117,114,110,32,48,59,32,125,32,102,117,110,99,32,109,97,105,110,40,41,32,123,32,125]))],[],(false,(.tup [(.im (.agg [(.int .i64 5),(.str [102,117,110,99]),(.int .u64 0),(.int .i64 0)])),(.im (.bool true))]),[]))
theorem E05r178_66 : runK BkE050 1000 70 178 E05e178_66.1 E05e178_66.2.1 = some E05e178_66.2.2:=by kernel_rfl
def E05e178_67 : List AV × Heap × (Bool × AV × Heap):=([(.im (.str [102,40,41,32,123,32,64,49,32,114,101,116,117,114,110,32,48,59,32,125,32,102,117,110,99,32,109,97,105,110,40,41,32,123,32,125]))],[],(false,(.tup [(.im (.agg [(.int .i64 1),(.str [102]),(.int .u64 0),(.int .i64 0)])),(.im (.bool true))]),[]))
theorem E05r178_67 : runK BkE050 1000 70 178 E05e178_67.1 E05e178_67.2.1 = some E05e178_67.2.2:=by kernel_rfl
end Go.Proofs.YtkinbnepkpoofaaGreatDoor
/- Runs. -/
open Go Go.AM
namespace Go.Proofs.YtkinbnepkpoofaaGreatDoor
def E05e178_68 : List AV × Heap × (Bool × AV × Heap):=([(.im (.str [40,41,32,123,32,64,49,32,114,101,116,117,114,110,32,48,59,32,125,32,102,117,110,99,32,109,97,105,110,40,41,32,123,32,125]))],[],(false,(.tup [(.im (.agg [(.int .i64 4),(.str [40]),(.int .u64 0),(.int .i64 0)])),(.im (.bool true))]),[]))
theorem E05r178_68 : runK BkE050 1000 70 178 E05e178_68.1 E05e178_68.2.1 = some E05e178_68.2.2:=by kernel_rfl
def E05e178_69 : List AV × Heap × (Bool × AV × Heap):=([(.im (.str [41,32,123,32,64,49,32,114,101,116,117,114,110,32,48,59,32,125,32,102,117,110,99,32,109,97,105,110,40,41,32,123,32,125]))],[],(false,(.tup [(.im (.agg [(.int .i64 4),(.str [41]),(.int .u64 0),(.int .i64 0)])),(.im (.bool true))]),[]))
theorem E05r178_69 : runK BkE050 1000 70 178 E05e178_69.1 E05e178_69.2.1 = some E05e178_69.2.2:=by kernel_rfl
end Go.Proofs.YtkinbnepkpoofaaGreatDoor
/- Runs. -/
open Go Go.AM
namespace Go.Proofs.YtkinbnepkpoofaaGreatDoor
def E05e178_70 : List AV × Heap × (Bool × AV × Heap):=([(.im (.str [123,32,64,49,32,114,101,116,117,114,110,32,48,59,32,125,32,102,117,110,99,32,109,97,105,110,40,41,32,123,32,125]))],[],(false,(.tup [(.im (.agg [(.int .i64 4),(.str [123]),(.int .u64 0),(.int .i64 0)])),(.im (.bool true))]),[]))
theorem E05r178_70 : runK BkE050 1000 70 178 E05e178_70.1 E05e178_70.2.1 = some E05e178_70.2.2:=by kernel_rfl
def E05e178_71 : List AV × Heap × (Bool × AV × Heap):=([(.im (.str [64,49,32,114,101,116,117,114,110,32,48,59,32,125,32,102,117,110,99,32,109,97,105,110,40,41,32,123,32,125]))],[],(false,(.tup [(.im (.agg [(.int .i64 3),(.str [64,49]),(.int .u64 1),(.int .i64 0)])),(.im (.bool true))]),[]))
theorem E05r178_71 : runK BkE050 1000 70 178 E05e178_71.1 E05e178_71.2.1 = some E05e178_71.2.2:=by kernel_rfl
def E05e178_72 : List AV × Heap × (Bool × AV × Heap):=([(.im (.str [114,101,116,117,114,110,32,48,59,32,125,32,102,117,110,99,32,109,97,105,110,40,41,32,123,32,125]))],[],(false,(.tup [(.im (.agg [(.int .i64 5),(.str [114,101,116,117,114,110]),(.int .u64 0),(.int .i64 0)])),(.im (.bool true))]),[]))
theorem E05r178_72 : runK BkE050 1000 70 178 E05e178_72.1 E05e178_72.2.1 = some E05e178_72.2.2:=by kernel_rfl
def E05e178_73 : List AV × Heap × (Bool × AV × Heap):=([(.im (.str [48,59,32,125,32,102,117,110,99,32,109,97,105,110,40,41,32,123,32,125]))],[],(false,(.tup [(.im (.agg [(.int .i64 2),(.str [48]),(.int .u64 0),(.int .i64 0)])),(.im (.bool true))]),[]))
theorem E05r178_73 : runK BkE050 1000 70 178 E05e178_73.1 E05e178_73.2.1 = some E05e178_73.2.2:=by kernel_rfl
def E05e178_74 : List AV × Heap × (Bool × AV × Heap):=([(.im (.str [59,32,125,32,102,117,110,99,32,109,97,105,110,40,41,32,123,32,125]))],[],(false,(.tup [(.im (.agg [(.int .i64 4),(.str [59]),(.int .u64 0),(.int .i64 0)])),(.im (.bool true))]),[]))
theorem E05r178_74 : runK BkE050 1000 70 178 E05e178_74.1 E05e178_74.2.1 = some E05e178_74.2.2:=by kernel_rfl
end Go.Proofs.YtkinbnepkpoofaaGreatDoor
/- Runs. -/
open Go Go.AM
namespace Go.Proofs.YtkinbnepkpoofaaGreatDoor
def E05e178_75 : List AV × Heap × (Bool × AV × Heap):=([(.im (.str [125,32,102,117,110,99,32,109,97,105,110,40,41,32,123,32,125]))],[],(false,(.tup [(.im (.agg [(.int .i64 4),(.str [125]),(.int .u64 0),(.int .i64 0)])),(.im (.bool true))]),[]))
theorem E05r178_75 : runK BkE050 1000 70 178 E05e178_75.1 E05e178_75.2.1 = some E05e178_75.2.2:=by kernel_rfl
def E05e178_76 : List AV × Heap × (Bool × AV × Heap):=([(.im (.str [102,117,110,99,32,109,97,105,110,40,41,32,123,32,125]))],[],(false,(.tup [(.im (.agg [(.int .i64 5),(.str [102,117,110,99]),(.int .u64 0),(.int .i64 0)])),(.im (.bool true))]),[]))
theorem E05r178_76 : runK BkE050 1000 70 178 E05e178_76.1 E05e178_76.2.1 = some E05e178_76.2.2:=by kernel_rfl
def E05e178_77 : List AV × Heap × (Bool × AV × Heap):=([(.im (.str [109,97,105,110,40,41,32,123,32,125]))],[],(false,(.tup [(.im (.agg [(.int .i64 1),(.str [109,97,105,110]),(.int .u64 0),(.int .i64 0)])),(.im (.bool true))]),[]))
theorem E05r178_77 : runK BkE050 1000 70 178 E05e178_77.1 E05e178_77.2.1 = some E05e178_77.2.2:=by kernel_rfl
def E05e178_78 : List AV × Heap × (Bool × AV × Heap):=([(.im (.str [40,41,32,123,32,125]))],[],(false,(.tup [(.im (.agg [(.int .i64 4),(.str [40]),(.int .u64 0),(.int .i64 0)])),(.im (.bool true))]),[]))
theorem E05r178_78 : runK BkE050 1000 70 178 E05e178_78.1 E05e178_78.2.1 = some E05e178_78.2.2:=by kernel_rfl
end Go.Proofs.YtkinbnepkpoofaaGreatDoor
/- Runs. -/
open Go Go.AM
namespace Go.Proofs.YtkinbnepkpoofaaGreatDoor
def E05e178_79 : List AV × Heap × (Bool × AV × Heap):=([(.im (.str [41,32,123,32,125]))],[],(false,(.tup [(.im (.agg [(.int .i64 4),(.str [41]),(.int .u64 0),(.int .i64 0)])),(.im (.bool true))]),[]))
theorem E05r178_79 : runK BkE050 1000 70 178 E05e178_79.1 E05e178_79.2.1 = some E05e178_79.2.2:=by kernel_rfl
def E05e178_80 : List AV × Heap × (Bool × AV × Heap):=([(.im (.str [123,32,125]))],[],(false,(.tup [(.im (.agg [(.int .i64 4),(.str [123]),(.int .u64 0),(.int .i64 0)])),(.im (.bool true))]),[]))
theorem E05r178_80 : runK BkE050 1000 70 178 E05e178_80.1 E05e178_80.2.1 = some E05e178_80.2.2:=by kernel_rfl
def E05e178_81 : List AV × Heap × (Bool × AV × Heap):=([(.im (.str [102,117,110,99,32,102,40,97,41,32,123,32,114,101,116,117,114,110,32,97,59,32,125,32,102,117,110,99,32,109,97,105,110,40,41,32,123,32,118,97,114,32,120,59,32,120,32,61,32,102,40,41,59,32,125]))],[],(false,(.tup [(.im (.agg [(.int .i64 5),(.str [102,117,110,99]),(.int .u64 0),(.int .i64 0)])),(.im (.bool true))]),[]))
theorem E05r178_81 : runK BkE050 1000 70 178 E05e178_81.1 E05e178_81.2.1 = some E05e178_81.2.2:=by kernel_rfl
def E05e178_82 : List AV × Heap × (Bool × AV × Heap):=([(.im (.str [102,40,97,41,32,123,32,114,101,116,117,114,110,32,97,59,32,125,32,102,117,110,99,32,109,97,105,110,40,41,32,123,32,118,97,114,32,120,59,32,120,32,61,32,102,40,41,59,32,125]))],[],(false,(.tup [(.im (.agg [(.int .i64 1),(.str [102]),(.int .u64 0),(.int .i64 0)])),(.im (.bool true))]),[]))
theorem E05r178_82 : runK BkE050 1000 70 178 E05e178_82.1 E05e178_82.2.1 = some E05e178_82.2.2:=by kernel_rfl
end Go.Proofs.YtkinbnepkpoofaaGreatDoor
/- Runs. -/
open Go Go.AM
namespace Go.Proofs.YtkinbnepkpoofaaGreatDoor
def E05e178_83 : List AV × Heap × (Bool × AV × Heap):=([(.im (.str [40,97,41,32,123,32,114,101,116,117,114,110,32,97,59,32,125,32,102,117,110,99,32,109,97,105,110,40,41,32,123,32,118,97,114,32,120,59,32,120,32,61,32,102,40,41,59,32,125]))],[],(false,(.tup [(.im (.agg [(.int .i64 4),(.str [40]),(.int .u64 0),(.int .i64 0)])),(.im (.bool true))]),[]))
theorem E05r178_83 : runK BkE050 1000 70 178 E05e178_83.1 E05e178_83.2.1 = some E05e178_83.2.2:=by kernel_rfl
def E05e178_84 : List AV × Heap × (Bool × AV × Heap):=([(.im (.str [97,41,32,123,32,114,101,116,117,114,110,32,97,59,32,125,32,102,117,110,99,32,109,97,105,110,40,41,32,123,32,118,97,114,32,120,59,32,120,32,61,32,102,40,41,59,32,125]))],[],(false,(.tup [(.im (.agg [(.int .i64 1),(.str [97]),(.int .u64 0),(.int .i64 0)])),(.im (.bool true))]),[]))
theorem E05r178_84 : runK BkE050 1000 70 178 E05e178_84.1 E05e178_84.2.1 = some E05e178_84.2.2:=by kernel_rfl
def E05e178_85 : List AV × Heap × (Bool × AV × Heap):=([(.im (.str [41,32,123,32,114,101,116,117,114,110,32,97,59,32,125,32,102,117,110,99,32,109,97,105,110,40,41,32,123,32,118,97,114,32,120,59,32,120,32,61,32,102,40,41,59,32,125]))],[],(false,(.tup [(.im (.agg [(.int .i64 4),(.str [41]),(.int .u64 0),(.int .i64 0)])),(.im (.bool true))]),[]))
theorem E05r178_85 : runK BkE050 1000 70 178 E05e178_85.1 E05e178_85.2.1 = some E05e178_85.2.2:=by kernel_rfl
end Go.Proofs.YtkinbnepkpoofaaGreatDoor
/- Runs. -/
open Go Go.AM
namespace Go.Proofs.YtkinbnepkpoofaaGreatDoor
def E05e178_86 : List AV × Heap × (Bool × AV × Heap):=([(.im (.str [123,32,114,101,116,117,114,110,32,97,59,32,125,32,102,117,110,99,32,109,97,105,110,40,41,32,123,32,118,97,114,32,120,59,32,120,32,61,32,102,40,41,59,32,125]))],[],(false,(.tup [(.im (.agg [(.int .i64 4),(.str [123]),(.int .u64 0),(.int .i64 0)])),(.im (.bool true))]),[]))
theorem E05r178_86 : runK BkE050 1000 70 178 E05e178_86.1 E05e178_86.2.1 = some E05e178_86.2.2:=by kernel_rfl
def E05e178_87 : List AV × Heap × (Bool × AV × Heap):=([(.im (.str [114,101,116,117,114,110,32,97,59,32,125,32,102,117,110,99,32,109,97,105,110,40,41,32,123,32,118,97,114,32,120,59,32,120,32,61,32,102,40,41,59,32,125]))],[],(false,(.tup [(.im (.agg [(.int .i64 5),(.str [114,101,116,117,114,110]),(.int .u64 0),(.int .i64 0)])),(.im (.bool true))]),[]))
theorem E05r178_87 : runK BkE050 1000 70 178 E05e178_87.1 E05e178_87.2.1 = some E05e178_87.2.2:=by kernel_rfl
def E05e178_88 : List AV × Heap × (Bool × AV × Heap):=([(.im (.str [97,59,32,125,32,102,117,110,99,32,109,97,105,110,40,41,32,123,32,118,97,114,32,120,59,32,120,32,61,32,102,40,41,59,32,125]))],[],(false,(.tup [(.im (.agg [(.int .i64 1),(.str [97]),(.int .u64 0),(.int .i64 0)])),(.im (.bool true))]),[]))
theorem E05r178_88 : runK BkE050 1000 70 178 E05e178_88.1 E05e178_88.2.1 = some E05e178_88.2.2:=by kernel_rfl
def E05e178_89 : List AV × Heap × (Bool × AV × Heap):=([(.im (.str [59,32,125,32,102,117,110,99,32,109,97,105,110,40,41,32,123,32,118,97,114,32,120,59,32,120,32,61,32,102,40,41,59,32,125]))],[],(false,(.tup [(.im (.agg [(.int .i64 4),(.str [59]),(.int .u64 0),(.int .i64 0)])),(.im (.bool true))]),[]))
theorem E05r178_89 : runK BkE050 1000 70 178 E05e178_89.1 E05e178_89.2.1 = some E05e178_89.2.2:=by kernel_rfl
end Go.Proofs.YtkinbnepkpoofaaGreatDoor
/- Runs. -/
open Go Go.AM
namespace Go.Proofs.YtkinbnepkpoofaaGreatDoor
def E05e178_90 : List AV × Heap × (Bool × AV × Heap):=([(.im (.str [125,32,102,117,110,99,32,109,97,105,110,40,41,32,123,32,118,97,114,32,120,59,32,120,32,61,32,102,40,41,59,32,125]))],[],(false,(.tup [(.im (.agg [(.int .i64 4),(.str [125]),(.int .u64 0),(.int .i64 0)])),(.im (.bool true))]),[]))
theorem E05r178_90 : runK BkE050 1000 70 178 E05e178_90.1 E05e178_90.2.1 = some E05e178_90.2.2:=by kernel_rfl
def E05e178_91 : List AV × Heap × (Bool × AV × Heap):=([(.im (.str [102,117,110,99,32,109,97,105,110,40,41,32,123,32,118,97,114,32,120,59,32,120,32,61,32,102,40,41,59,32,125]))],[],(false,(.tup [(.im (.agg [(.int .i64 5),(.str [102,117,110,99]),(.int .u64 0),(.int .i64 0)])),(.im (.bool true))]),[]))
theorem E05r178_91 : runK BkE050 1000 70 178 E05e178_91.1 E05e178_91.2.1 = some E05e178_91.2.2:=by kernel_rfl
def E05e178_92 : List AV × Heap × (Bool × AV × Heap):=([(.im (.str [109,97,105,110,40,41,32,123,32,118,97,114,32,120,59,32,120,32,61,32,102,40,41,59,32,125]))],[],(false,(.tup [(.im (.agg [(.int .i64 1),(.str [109,97,105,110]),(.int .u64 0),(.int .i64 0)])),(.im (.bool true))]),[]))
theorem E05r178_92 : runK BkE050 1000 70 178 E05e178_92.1 E05e178_92.2.1 = some E05e178_92.2.2:=by kernel_rfl
def E05e178_93 : List AV × Heap × (Bool × AV × Heap):=([(.im (.str [40,41,32,123,32,118,97,114,32,120,59,32,120,32,61,32,102,40,41,59,32,125]))],[],(false,(.tup [(.im (.agg [(.int .i64 4),(.str [40]),(.int .u64 0),(.int .i64 0)])),(.im (.bool true))]),[]))
theorem E05r178_93 : runK BkE050 1000 70 178 E05e178_93.1 E05e178_93.2.1 = some E05e178_93.2.2:=by kernel_rfl
end Go.Proofs.YtkinbnepkpoofaaGreatDoor
/- Runs. -/
open Go Go.AM
namespace Go.Proofs.YtkinbnepkpoofaaGreatDoor
def E05e178_94 : List AV × Heap × (Bool × AV × Heap):=([(.im (.str [41,32,123,32,118,97,114,32,120,59,32,120,32,61,32,102,40,41,59,32,125]))],[],(false,(.tup [(.im (.agg [(.int .i64 4),(.str [41]),(.int .u64 0),(.int .i64 0)])),(.im (.bool true))]),[]))
theorem E05r178_94 : runK BkE050 1000 70 178 E05e178_94.1 E05e178_94.2.1 = some E05e178_94.2.2:=by kernel_rfl
def E05e178_95 : List AV × Heap × (Bool × AV × Heap):=([(.im (.str [123,32,118,97,114,32,120,59,32,120,32,61,32,102,40,41,59,32,125]))],[],(false,(.tup [(.im (.agg [(.int .i64 4),(.str [123]),(.int .u64 0),(.int .i64 0)])),(.im (.bool true))]),[]))
theorem E05r178_95 : runK BkE050 1000 70 178 E05e178_95.1 E05e178_95.2.1 = some E05e178_95.2.2:=by kernel_rfl
def E05e178_96 : List AV × Heap × (Bool × AV × Heap):=([(.im (.str [118,97,114,32,120,59,32,120,32,61,32,102,40,41,59,32,125]))],[],(false,(.tup [(.im (.agg [(.int .i64 5),(.str [118,97,114]),(.int .u64 0),(.int .i64 0)])),(.im (.bool true))]),[]))
theorem E05r178_96 : runK BkE050 1000 70 178 E05e178_96.1 E05e178_96.2.1 = some E05e178_96.2.2:=by kernel_rfl
def E05e178_97 : List AV × Heap × (Bool × AV × Heap):=([(.im (.str [120,59,32,120,32,61,32,102,40,41,59,32,125]))],[],(false,(.tup [(.im (.agg [(.int .i64 1),(.str [120]),(.int .u64 0),(.int .i64 0)])),(.im (.bool true))]),[]))
theorem E05r178_97 : runK BkE050 1000 70 178 E05e178_97.1 E05e178_97.2.1 = some E05e178_97.2.2:=by kernel_rfl
end Go.Proofs.YtkinbnepkpoofaaGreatDoor
/- Runs. -/
open Go Go.AM
namespace Go.Proofs.YtkinbnepkpoofaaGreatDoor
def E05e178_98 : List AV × Heap × (Bool × AV × Heap):=([(.im (.str [59,32,120,32,61,32,102,40,41,59,32,125]))],[],(false,(.tup [(.im (.agg [(.int .i64 4),(.str [59]),(.int .u64 0),(.int .i64 0)])),(.im (.bool true))]),[]))
theorem E05r178_98 : runK BkE050 1000 70 178 E05e178_98.1 E05e178_98.2.1 = some E05e178_98.2.2:=by kernel_rfl
def E05e178_99 : List AV × Heap × (Bool × AV × Heap):=([(.im (.str [120,32,61,32,102,40,41,59,32,125]))],[],(false,(.tup [(.im (.agg [(.int .i64 1),(.str [120]),(.int .u64 0),(.int .i64 0)])),(.im (.bool true))]),[]))
theorem E05r178_99 : runK BkE050 1000 70 178 E05e178_99.1 E05e178_99.2.1 = some E05e178_99.2.2:=by kernel_rfl
def E05e178_100 : List AV × Heap × (Bool × AV × Heap):=([(.im (.str [61,32,102,40,41,59,32,125]))],[],(false,(.tup [(.im (.agg [(.int .i64 4),(.str [61]),(.int .u64 0),(.int .i64 0)])),(.im (.bool true))]),[]))
theorem E05r178_100 : runK BkE050 1000 70 178 E05e178_100.1 E05e178_100.2.1 = some E05e178_100.2.2:=by kernel_rfl
def E05e178_101 : List AV × Heap × (Bool × AV × Heap):=([(.im (.str [102,40,41,59,32,125]))],[],(false,(.tup [(.im (.agg [(.int .i64 1),(.str [102]),(.int .u64 0),(.int .i64 0)])),(.im (.bool true))]),[]))
theorem E05r178_101 : runK BkE050 1000 70 178 E05e178_101.1 E05e178_101.2.1 = some E05e178_101.2.2:=by kernel_rfl
end Go.Proofs.YtkinbnepkpoofaaGreatDoor
/- Runs. -/
open Go Go.AM
namespace Go.Proofs.YtkinbnepkpoofaaGreatDoor
def E05e178_102 : List AV × Heap × (Bool × AV × Heap):=([(.im (.str [40,41,59,32,125]))],[],(false,(.tup [(.im (.agg [(.int .i64 4),(.str [40]),(.int .u64 0),(.int .i64 0)])),(.im (.bool true))]),[]))
theorem E05r178_102 : runK BkE050 1000 70 178 E05e178_102.1 E05e178_102.2.1 = some E05e178_102.2.2:=by kernel_rfl
def E05e178_103 : List AV × Heap × (Bool × AV × Heap):=([(.im (.str [41,59,32,125]))],[],(false,(.tup [(.im (.agg [(.int .i64 4),(.str [41]),(.int .u64 0),(.int .i64 0)])),(.im (.bool true))]),[]))
theorem E05r178_103 : runK BkE050 1000 70 178 E05e178_103.1 E05e178_103.2.1 = some E05e178_103.2.2:=by kernel_rfl
def E05e178_104 : List AV × Heap × (Bool × AV × Heap):=([(.im (.str [102,117,110,99,32,102,40,41,32,123,32,114,101,116,117,114,110,32,48,59,32,125]))],[],(false,(.tup [(.im (.agg [(.int .i64 5),(.str [102,117,110,99]),(.int .u64 0),(.int .i64 0)])),(.im (.bool true))]),[]))
theorem E05r178_104 : runK BkE050 1000 70 178 E05e178_104.1 E05e178_104.2.1 = some E05e178_104.2.2:=by kernel_rfl
def E05e178_105 : List AV × Heap × (Bool × AV × Heap):=([(.im (.str [102,40,41,32,123,32,114,101,116,117,114,110,32,48,59,32,125]))],[],(false,(.tup [(.im (.agg [(.int .i64 1),(.str [102]),(.int .u64 0),(.int .i64 0)])),(.im (.bool true))]),[]))
theorem E05r178_105 : runK BkE050 1000 70 178 E05e178_105.1 E05e178_105.2.1 = some E05e178_105.2.2:=by kernel_rfl
end Go.Proofs.YtkinbnepkpoofaaGreatDoor
/- Runs. -/
open Go Go.AM
namespace Go.Proofs.YtkinbnepkpoofaaGreatDoor
def E05e178_106 : List AV × Heap × (Bool × AV × Heap):=([(.im (.str [40,41,32,123,32,114,101,116,117,114,110,32,48,59,32,125]))],[],(false,(.tup [(.im (.agg [(.int .i64 4),(.str [40]),(.int .u64 0),(.int .i64 0)])),(.im (.bool true))]),[]))
theorem E05r178_106 : runK BkE050 1000 70 178 E05e178_106.1 E05e178_106.2.1 = some E05e178_106.2.2:=by kernel_rfl
def E05e178_107 : List AV × Heap × (Bool × AV × Heap):=([(.im (.str [41,32,123,32,114,101,116,117,114,110,32,48,59,32,125]))],[],(false,(.tup [(.im (.agg [(.int .i64 4),(.str [41]),(.int .u64 0),(.int .i64 0)])),(.im (.bool true))]),[]))
theorem E05r178_107 : runK BkE050 1000 70 178 E05e178_107.1 E05e178_107.2.1 = some E05e178_107.2.2:=by kernel_rfl
end Go.Proofs.YtkinbnepkpoofaaGreatDoor
/- Runs. -/
open Go Go.AM
namespace Go.Proofs.YtkinbnepkpoofaaGreatDoor
def E05e178_108 : List AV × Heap × (Bool × AV × Heap):=([(.im (.str [123,32,114,101,116,117,114,110,32,48,59,32,125]))],[],(false,(.tup [(.im (.agg [(.int .i64 4),(.str [123]),(.int .u64 0),(.int .i64 0)])),(.im (.bool true))]),[]))
theorem E05r178_108 : runK BkE050 1000 70 178 E05e178_108.1 E05e178_108.2.1 = some E05e178_108.2.2:=by kernel_rfl
def E05e178_109 : List AV × Heap × (Bool × AV × Heap):=([(.im (.str [114,101,116,117,114,110,32,48,59,32,125]))],[],(false,(.tup [(.im (.agg [(.int .i64 5),(.str [114,101,116,117,114,110]),(.int .u64 0),(.int .i64 0)])),(.im (.bool true))]),[]))
theorem E05r178_109 : runK BkE050 1000 70 178 E05e178_109.1 E05e178_109.2.1 = some E05e178_109.2.2:=by kernel_rfl
def E05e178_110 : List AV × Heap × (Bool × AV × Heap):=([(.im (.str [48,59,32,125]))],[],(false,(.tup [(.im (.agg [(.int .i64 2),(.str [48]),(.int .u64 0),(.int .i64 0)])),(.im (.bool true))]),[]))
theorem E05r178_110 : runK BkE050 1000 70 178 E05e178_110.1 E05e178_110.2.1 = some E05e178_110.2.2:=by kernel_rfl
def E05e178_111 : List AV × Heap × (Bool × AV × Heap):=([(.im (.str [102,117,110,99,32,109,97,105,110,40,41,32,123,32,118,97,114,32,120,59,32,64,49,32,120,32,61,32,49,59,32,64,49,32,120,32,61,32,50,59,32,125]))],[],(false,(.tup [(.im (.agg [(.int .i64 5),(.str [102,117,110,99]),(.int .u64 0),(.int .i64 0)])),(.im (.bool true))]),[]))
theorem E05r178_111 : runK BkE050 1000 70 178 E05e178_111.1 E05e178_111.2.1 = some E05e178_111.2.2:=by kernel_rfl
def E05e178_112 : List AV × Heap × (Bool × AV × Heap):=([(.im (.str [109,97,105,110,40,41,32,123,32,118,97,114,32,120,59,32,64,49,32,120,32,61,32,49,59,32,64,49,32,120,32,61,32,50,59,32,125]))],[],(false,(.tup [(.im (.agg [(.int .i64 1),(.str [109,97,105,110]),(.int .u64 0),(.int .i64 0)])),(.im (.bool true))]),[]))
theorem E05r178_112 : runK BkE050 1000 70 178 E05e178_112.1 E05e178_112.2.1 = some E05e178_112.2.2:=by kernel_rfl
end Go.Proofs.YtkinbnepkpoofaaGreatDoor
/- Runs. -/
open Go Go.AM
namespace Go.Proofs.YtkinbnepkpoofaaGreatDoor
def E05e178_113 : List AV × Heap × (Bool × AV × Heap):=([(.im (.str [40,41,32,123,32,118,97,114,32,120,59,32,64,49,32,120,32,61,32,49,59,32,64,49,32,120,32,61,32,50,59,32,125]))],[],(false,(.tup [(.im (.agg [(.int .i64 4),(.str [40]),(.int .u64 0),(.int .i64 0)])),(.im (.bool true))]),[]))
theorem E05r178_113 : runK BkE050 1000 70 178 E05e178_113.1 E05e178_113.2.1 = some E05e178_113.2.2:=by kernel_rfl
def E05e178_114 : List AV × Heap × (Bool × AV × Heap):=([(.im (.str [41,32,123,32,118,97,114,32,120,59,32,64,49,32,120,32,61,32,49,59,32,64,49,32,120,32,61,32,50,59,32,125]))],[],(false,(.tup [(.im (.agg [(.int .i64 4),(.str [41]),(.int .u64 0),(.int .i64 0)])),(.im (.bool true))]),[]))
theorem E05r178_114 : runK BkE050 1000 70 178 E05e178_114.1 E05e178_114.2.1 = some E05e178_114.2.2:=by kernel_rfl
end Go.Proofs.YtkinbnepkpoofaaGreatDoor
/- Runs. -/
open Go Go.AM
namespace Go.Proofs.YtkinbnepkpoofaaGreatDoor
def E05e178_115 : List AV × Heap × (Bool × AV × Heap):=([(.im (.str [123,32,118,97,114,32,120,59,32,64,49,32,120,32,61,32,49,59,32,64,49,32,120,32,61,32,50,59,32,125]))],[],(false,(.tup [(.im (.agg [(.int .i64 4),(.str [123]),(.int .u64 0),(.int .i64 0)])),(.im (.bool true))]),[]))
theorem E05r178_115 : runK BkE050 1000 70 178 E05e178_115.1 E05e178_115.2.1 = some E05e178_115.2.2:=by kernel_rfl
def E05e178_116 : List AV × Heap × (Bool × AV × Heap):=([(.im (.str [118,97,114,32,120,59,32,64,49,32,120,32,61,32,49,59,32,64,49,32,120,32,61,32,50,59,32,125]))],[],(false,(.tup [(.im (.agg [(.int .i64 5),(.str [118,97,114]),(.int .u64 0),(.int .i64 0)])),(.im (.bool true))]),[]))
theorem E05r178_116 : runK BkE050 1000 70 178 E05e178_116.1 E05e178_116.2.1 = some E05e178_116.2.2:=by kernel_rfl
def E05e178_117 : List AV × Heap × (Bool × AV × Heap):=([(.im (.str [120,59,32,64,49,32,120,32,61,32,49,59,32,64,49,32,120,32,61,32,50,59,32,125]))],[],(false,(.tup [(.im (.agg [(.int .i64 1),(.str [120]),(.int .u64 0),(.int .i64 0)])),(.im (.bool true))]),[]))
theorem E05r178_117 : runK BkE050 1000 70 178 E05e178_117.1 E05e178_117.2.1 = some E05e178_117.2.2:=by kernel_rfl
def E05e178_118 : List AV × Heap × (Bool × AV × Heap):=([(.im (.str [59,32,64,49,32,120,32,61,32,49,59,32,64,49,32,120,32,61,32,50,59,32,125]))],[],(false,(.tup [(.im (.agg [(.int .i64 4),(.str [59]),(.int .u64 0),(.int .i64 0)])),(.im (.bool true))]),[]))
theorem E05r178_118 : runK BkE050 1000 70 178 E05e178_118.1 E05e178_118.2.1 = some E05e178_118.2.2:=by kernel_rfl
def E05e178_119 : List AV × Heap × (Bool × AV × Heap):=([(.im (.str [64,49,32,120,32,61,32,49,59,32,64,49,32,120,32,61,32,50,59,32,125]))],[],(false,(.tup [(.im (.agg [(.int .i64 3),(.str [64,49]),(.int .u64 1),(.int .i64 0)])),(.im (.bool true))]),[]))
theorem E05r178_119 : runK BkE050 1000 70 178 E05e178_119.1 E05e178_119.2.1 = some E05e178_119.2.2:=by kernel_rfl
end Go.Proofs.YtkinbnepkpoofaaGreatDoor
/- Runs. -/
open Go Go.AM
namespace Go.Proofs.YtkinbnepkpoofaaGreatDoor
def E05e178_120 : List AV × Heap × (Bool × AV × Heap):=([(.im (.str [120,32,61,32,49,59,32,64,49,32,120,32,61,32,50,59,32,125]))],[],(false,(.tup [(.im (.agg [(.int .i64 1),(.str [120]),(.int .u64 0),(.int .i64 0)])),(.im (.bool true))]),[]))
theorem E05r178_120 : runK BkE050 1000 70 178 E05e178_120.1 E05e178_120.2.1 = some E05e178_120.2.2:=by kernel_rfl
def E05e178_121 : List AV × Heap × (Bool × AV × Heap):=([(.im (.str [61,32,49,59,32,64,49,32,120,32,61,32,50,59,32,125]))],[],(false,(.tup [(.im (.agg [(.int .i64 4),(.str [61]),(.int .u64 0),(.int .i64 0)])),(.im (.bool true))]),[]))
theorem E05r178_121 : runK BkE050 1000 70 178 E05e178_121.1 E05e178_121.2.1 = some E05e178_121.2.2:=by kernel_rfl
def E05e178_122 : List AV × Heap × (Bool × AV × Heap):=([(.im (.str [49,59,32,64,49,32,120,32,61,32,50,59,32,125]))],[],(false,(.tup [(.im (.agg [(.int .i64 2),(.str [49]),(.int .u64 1),(.int .i64 0)])),(.im (.bool true))]),[]))
theorem E05r178_122 : runK BkE050 1000 70 178 E05e178_122.1 E05e178_122.2.1 = some E05e178_122.2.2:=by kernel_rfl
def E05e178_123 : List AV × Heap × (Bool × AV × Heap):=([(.im (.str [59,32,64,49,32,120,32,61,32,50,59,32,125]))],[],(false,(.tup [(.im (.agg [(.int .i64 4),(.str [59]),(.int .u64 0),(.int .i64 0)])),(.im (.bool true))]),[]))
theorem E05r178_123 : runK BkE050 1000 70 178 E05e178_123.1 E05e178_123.2.1 = some E05e178_123.2.2:=by kernel_rfl
end Go.Proofs.YtkinbnepkpoofaaGreatDoor
/- Runs. -/
open Go Go.AM
namespace Go.Proofs.YtkinbnepkpoofaaGreatDoor
def E05e178_124 : List AV × Heap × (Bool × AV × Heap):=([(.im (.str [64,49,32,120,32,61,32,50,59,32,125]))],[],(false,(.tup [(.im (.agg [(.int .i64 3),(.str [64,49]),(.int .u64 1),(.int .i64 0)])),(.im (.bool true))]),[]))
theorem E05r178_124 : runK BkE050 1000 70 178 E05e178_124.1 E05e178_124.2.1 = some E05e178_124.2.2:=by kernel_rfl
def E05e178_125 : List AV × Heap × (Bool × AV × Heap):=([(.im (.str [120,32,61,32,50,59,32,125]))],[],(false,(.tup [(.im (.agg [(.int .i64 1),(.str [120]),(.int .u64 0),(.int .i64 0)])),(.im (.bool true))]),[]))
theorem E05r178_125 : runK BkE050 1000 70 178 E05e178_125.1 E05e178_125.2.1 = some E05e178_125.2.2:=by kernel_rfl
def E05e178_126 : List AV × Heap × (Bool × AV × Heap):=([(.im (.str [61,32,50,59,32,125]))],[],(false,(.tup [(.im (.agg [(.int .i64 4),(.str [61]),(.int .u64 0),(.int .i64 0)])),(.im (.bool true))]),[]))
theorem E05r178_126 : runK BkE050 1000 70 178 E05e178_126.1 E05e178_126.2.1 = some E05e178_126.2.2:=by kernel_rfl
def E05e178_127 : List AV × Heap × (Bool × AV × Heap):=([(.im (.str [50,59,32,125]))],[],(false,(.tup [(.im (.agg [(.int .i64 2),(.str [50]),(.int .u64 2),(.int .i64 0)])),(.im (.bool true))]),[]))
theorem E05r178_127 : runK BkE050 1000 70 178 E05e178_127.1 E05e178_127.2.1 = some E05e178_127.2.2:=by kernel_rfl
end Go.Proofs.YtkinbnepkpoofaaGreatDoor
/- A table of runs. -/
open Go Go.AM
namespace Go.Proofs.YtkinbnepkpoofaaGreatDoor
def E05tab178 : Tabl:=[E05e178_0,E05e178_1,E05e178_2,E05e178_3,E05e178_4,E05e178_5,E05e178_6,E05e178_7,E05e178_8,E05e178_9,E05e178_10,E05e178_11,E05e178_12,E05e178_13,E05e178_14,E05e178_15,E05e178_16,E05e178_17,E05e178_18,E05e178_19,E05e178_20,E05e178_21,E05e178_22,E05e178_23,E05e178_24,E05e178_25,E05e178_26,E05e178_27,E05e178_28,E05e178_29,E05e178_30,E05e178_31,E05e178_32,E05e178_33,E05e178_34,E05e178_35,E05e178_36,E05e178_37,E05e178_38,E05e178_39,E05e178_40,E05e178_41,E05e178_42,E05e178_43,E05e178_44,E05e178_45,E05e178_46,E05e178_47,E05e178_48,E05e178_49,E05e178_50,E05e178_51,E05e178_52,E05e178_53,E05e178_54,E05e178_55,E05e178_56,E05e178_57,E05e178_58,E05e178_59,E05e178_60,E05e178_61,E05e178_62,E05e178_63,E05e178_64,E05e178_65,E05e178_66,E05e178_67,E05e178_68,E05e178_69,E05e178_70,E05e178_71,E05e178_72,E05e178_73,E05e178_74,E05e178_75,E05e178_76,E05e178_77,E05e178_78,E05e178_79,E05e178_80,E05e178_81,E05e178_82,E05e178_83,E05e178_84,E05e178_85,E05e178_86,E05e178_87,E05e178_88,E05e178_89,E05e178_90,E05e178_91,E05e178_92,E05e178_93,E05e178_94,E05e178_95,E05e178_96,E05e178_97,E05e178_98,E05e178_99,E05e178_100,E05e178_101,E05e178_102,E05e178_103,E05e178_104,E05e178_105,E05e178_106,E05e178_107,E05e178_108,E05e178_109,E05e178_110,E05e178_111,E05e178_112,E05e178_113,E05e178_114,E05e178_115,E05e178_116,E05e178_117,E05e178_118,E05e178_119,E05e178_120,E05e178_121,E05e178_122,E05e178_123,E05e178_124,E05e178_125,E05e178_126,E05e178_127]
theorem E05tab178_ok : OkZ Tryz.prog 178 (tabSz E05tab178):=tab_ok (runK_ok hT hm BkE050_ok 70 178) (by
 refine List.forall_mem_cons.2 ⟨E05r178_0,?_⟩
 refine List.forall_mem_cons.2 ⟨E05r178_1,?_⟩
 refine List.forall_mem_cons.2 ⟨E05r178_2,?_⟩
 refine List.forall_mem_cons.2 ⟨E05r178_3,?_⟩
 refine List.forall_mem_cons.2 ⟨E05r178_4,?_⟩
 refine List.forall_mem_cons.2 ⟨E05r178_5,?_⟩
 refine List.forall_mem_cons.2 ⟨E05r178_6,?_⟩
 refine List.forall_mem_cons.2 ⟨E05r178_7,?_⟩
 refine List.forall_mem_cons.2 ⟨E05r178_8,?_⟩
 refine List.forall_mem_cons.2 ⟨E05r178_9,?_⟩
 refine List.forall_mem_cons.2 ⟨E05r178_10,?_⟩
 refine List.forall_mem_cons.2 ⟨E05r178_11,?_⟩
 refine List.forall_mem_cons.2 ⟨E05r178_12,?_⟩
 refine List.forall_mem_cons.2 ⟨E05r178_13,?_⟩
 refine List.forall_mem_cons.2 ⟨E05r178_14,?_⟩
 refine List.forall_mem_cons.2 ⟨E05r178_15,?_⟩
 refine List.forall_mem_cons.2 ⟨E05r178_16,?_⟩
 refine List.forall_mem_cons.2 ⟨E05r178_17,?_⟩
 refine List.forall_mem_cons.2 ⟨E05r178_18,?_⟩
 refine List.forall_mem_cons.2 ⟨E05r178_19,?_⟩
 refine List.forall_mem_cons.2 ⟨E05r178_20,?_⟩
 refine List.forall_mem_cons.2 ⟨E05r178_21,?_⟩
 refine List.forall_mem_cons.2 ⟨E05r178_22,?_⟩
 refine List.forall_mem_cons.2 ⟨E05r178_23,?_⟩
 refine List.forall_mem_cons.2 ⟨E05r178_24,?_⟩
 refine List.forall_mem_cons.2 ⟨E05r178_25,?_⟩
 refine List.forall_mem_cons.2 ⟨E05r178_26,?_⟩
 refine List.forall_mem_cons.2 ⟨E05r178_27,?_⟩
 refine List.forall_mem_cons.2 ⟨E05r178_28,?_⟩
 refine List.forall_mem_cons.2 ⟨E05r178_29,?_⟩
 refine List.forall_mem_cons.2 ⟨E05r178_30,?_⟩
 refine List.forall_mem_cons.2 ⟨E05r178_31,?_⟩
 refine List.forall_mem_cons.2 ⟨E05r178_32,?_⟩
 refine List.forall_mem_cons.2 ⟨E05r178_33,?_⟩
 refine List.forall_mem_cons.2 ⟨E05r178_34,?_⟩
 refine List.forall_mem_cons.2 ⟨E05r178_35,?_⟩
 refine List.forall_mem_cons.2 ⟨E05r178_36,?_⟩
 refine List.forall_mem_cons.2 ⟨E05r178_37,?_⟩
 refine List.forall_mem_cons.2 ⟨E05r178_38,?_⟩
 refine List.forall_mem_cons.2 ⟨E05r178_39,?_⟩
 refine List.forall_mem_cons.2 ⟨E05r178_40,?_⟩
 refine List.forall_mem_cons.2 ⟨E05r178_41,?_⟩
 refine List.forall_mem_cons.2 ⟨E05r178_42,?_⟩
 refine List.forall_mem_cons.2 ⟨E05r178_43,?_⟩
 refine List.forall_mem_cons.2 ⟨E05r178_44,?_⟩
 refine List.forall_mem_cons.2 ⟨E05r178_45,?_⟩
 refine List.forall_mem_cons.2 ⟨E05r178_46,?_⟩
 refine List.forall_mem_cons.2 ⟨E05r178_47,?_⟩
 refine List.forall_mem_cons.2 ⟨E05r178_48,?_⟩
 refine List.forall_mem_cons.2 ⟨E05r178_49,?_⟩
 refine List.forall_mem_cons.2 ⟨E05r178_50,?_⟩
 refine List.forall_mem_cons.2 ⟨E05r178_51,?_⟩
 refine List.forall_mem_cons.2 ⟨E05r178_52,?_⟩
 refine List.forall_mem_cons.2 ⟨E05r178_53,?_⟩
 refine List.forall_mem_cons.2 ⟨E05r178_54,?_⟩
 refine List.forall_mem_cons.2 ⟨E05r178_55,?_⟩
 refine List.forall_mem_cons.2 ⟨E05r178_56,?_⟩
 refine List.forall_mem_cons.2 ⟨E05r178_57,?_⟩
 refine List.forall_mem_cons.2 ⟨E05r178_58,?_⟩
 refine List.forall_mem_cons.2 ⟨E05r178_59,?_⟩
 refine List.forall_mem_cons.2 ⟨E05r178_60,?_⟩
 refine List.forall_mem_cons.2 ⟨E05r178_61,?_⟩
 refine List.forall_mem_cons.2 ⟨E05r178_62,?_⟩
 refine List.forall_mem_cons.2 ⟨E05r178_63,?_⟩
 refine List.forall_mem_cons.2 ⟨E05r178_64,?_⟩
 refine List.forall_mem_cons.2 ⟨E05r178_65,?_⟩
 refine List.forall_mem_cons.2 ⟨E05r178_66,?_⟩
 refine List.forall_mem_cons.2 ⟨E05r178_67,?_⟩
 refine List.forall_mem_cons.2 ⟨E05r178_68,?_⟩
 refine List.forall_mem_cons.2 ⟨E05r178_69,?_⟩
 refine List.forall_mem_cons.2 ⟨E05r178_70,?_⟩
 refine List.forall_mem_cons.2 ⟨E05r178_71,?_⟩
 refine List.forall_mem_cons.2 ⟨E05r178_72,?_⟩
 refine List.forall_mem_cons.2 ⟨E05r178_73,?_⟩
 refine List.forall_mem_cons.2 ⟨E05r178_74,?_⟩
 refine List.forall_mem_cons.2 ⟨E05r178_75,?_⟩
 refine List.forall_mem_cons.2 ⟨E05r178_76,?_⟩
 refine List.forall_mem_cons.2 ⟨E05r178_77,?_⟩
 refine List.forall_mem_cons.2 ⟨E05r178_78,?_⟩
 refine List.forall_mem_cons.2 ⟨E05r178_79,?_⟩
 refine List.forall_mem_cons.2 ⟨E05r178_80,?_⟩
 refine List.forall_mem_cons.2 ⟨E05r178_81,?_⟩
 refine List.forall_mem_cons.2 ⟨E05r178_82,?_⟩
 refine List.forall_mem_cons.2 ⟨E05r178_83,?_⟩
 refine List.forall_mem_cons.2 ⟨E05r178_84,?_⟩
 refine List.forall_mem_cons.2 ⟨E05r178_85,?_⟩
 refine List.forall_mem_cons.2 ⟨E05r178_86,?_⟩
 refine List.forall_mem_cons.2 ⟨E05r178_87,?_⟩
 refine List.forall_mem_cons.2 ⟨E05r178_88,?_⟩
 refine List.forall_mem_cons.2 ⟨E05r178_89,?_⟩
 refine List.forall_mem_cons.2 ⟨E05r178_90,?_⟩
 refine List.forall_mem_cons.2 ⟨E05r178_91,?_⟩
 refine List.forall_mem_cons.2 ⟨E05r178_92,?_⟩
 refine List.forall_mem_cons.2 ⟨E05r178_93,?_⟩
 refine List.forall_mem_cons.2 ⟨E05r178_94,?_⟩
 refine List.forall_mem_cons.2 ⟨E05r178_95,?_⟩
 refine List.forall_mem_cons.2 ⟨E05r178_96,?_⟩
 refine List.forall_mem_cons.2 ⟨E05r178_97,?_⟩
 refine List.forall_mem_cons.2 ⟨E05r178_98,?_⟩
 refine List.forall_mem_cons.2 ⟨E05r178_99,?_⟩
 refine List.forall_mem_cons.2 ⟨E05r178_100,?_⟩
 refine List.forall_mem_cons.2 ⟨E05r178_101,?_⟩
 refine List.forall_mem_cons.2 ⟨E05r178_102,?_⟩
 refine List.forall_mem_cons.2 ⟨E05r178_103,?_⟩
 refine List.forall_mem_cons.2 ⟨E05r178_104,?_⟩
 refine List.forall_mem_cons.2 ⟨E05r178_105,?_⟩
 refine List.forall_mem_cons.2 ⟨E05r178_106,?_⟩
 refine List.forall_mem_cons.2 ⟨E05r178_107,?_⟩
 refine List.forall_mem_cons.2 ⟨E05r178_108,?_⟩
 refine List.forall_mem_cons.2 ⟨E05r178_109,?_⟩
 refine List.forall_mem_cons.2 ⟨E05r178_110,?_⟩
 refine List.forall_mem_cons.2 ⟨E05r178_111,?_⟩
 refine List.forall_mem_cons.2 ⟨E05r178_112,?_⟩
 refine List.forall_mem_cons.2 ⟨E05r178_113,?_⟩
 refine List.forall_mem_cons.2 ⟨E05r178_114,?_⟩
 refine List.forall_mem_cons.2 ⟨E05r178_115,?_⟩
 refine List.forall_mem_cons.2 ⟨E05r178_116,?_⟩
 refine List.forall_mem_cons.2 ⟨E05r178_117,?_⟩
 refine List.forall_mem_cons.2 ⟨E05r178_118,?_⟩
 refine List.forall_mem_cons.2 ⟨E05r178_119,?_⟩
 refine List.forall_mem_cons.2 ⟨E05r178_120,?_⟩
 refine List.forall_mem_cons.2 ⟨E05r178_121,?_⟩
 refine List.forall_mem_cons.2 ⟨E05r178_122,?_⟩
 refine List.forall_mem_cons.2 ⟨E05r178_123,?_⟩
 refine List.forall_mem_cons.2 ⟨E05r178_124,?_⟩
 refine List.forall_mem_cons.2 ⟨E05r178_125,?_⟩
 refine List.forall_mem_cons.2 ⟨E05r178_126,?_⟩
 refine List.forall_mem_cons.2 ⟨E05r178_127,?_⟩
 exact fun _ h=>nomatch h)
end Go.Proofs.YtkinbnepkpoofaaGreatDoor