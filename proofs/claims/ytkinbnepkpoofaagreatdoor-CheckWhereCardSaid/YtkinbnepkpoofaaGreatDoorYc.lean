/- Texts joined into one: E05B2 E05S2_0 E05S2_1 E05S2_2 E05S2_3 E05S2_4 E05S2_5 E05S2_6 E05S2_7 E05T2 E05B3 E05S3_0 E05S3_1 E05S3_2 E05S3_3 E05S3_4 E05T3. -/
import Derived.Test.YtkinbnepkpoofaaGreatDoorYb
/- What is known: a book. -/
set_option maxRecDepth 1000000
set_option linter.unusedVariables false
open Go Go.AM
namespace Go.Proofs.YtkinbnepkpoofaaGreatDoor
noncomputable def BkE052 : BookR Tryz.prog T:=bookR Tryz.prog T (fun f=>false) ((143,tabSz E05tab143) :: (178,tabSz E05tab178) :: known)
theorem BkE052_ok : BkE052.ok:=bookR_ok hn (by
 refine List.forall_mem_cons.2 ⟨E05tab143_ok,?_⟩
 refine List.forall_mem_cons.2 ⟨E05tab178_ok,?_⟩
 exact known_ok)
end Go.Proofs.YtkinbnepkpoofaaGreatDoor
/- Runs. -/
open Go Go.AM
namespace Go.Proofs.YtkinbnepkpoofaaGreatDoor
def E05e47_0 : List AV × Heap × (Bool × AV × Heap):=([(.im (.str [102,117,110,99,32,102,40,97,41,32,123,32,114,101,116,117,114,110,32,97,59,32,125,32,102,117,110,99,32,109,97,105,110,40,41,32,123,32,118,97,114,32,120,44,32,121,91,50,93,59,32,64,49,32,120,32,61,32,102,40,51,41,59,32,119,104,105,108,101,32,40,120,41,32,123,32,98,114,101,97,107,59,32,125,32,125]))],[],(false,(.tup [(.agg [(.ref 0 0 2)]),(.im (.int .i64 86)),(.im (.int .i64 0))]),[some (.c 4 [(.agg [(.str [102]),(.sl false 1 [(.str [97])]),(.sl true 0 []),(.sl false 7 [(.agg [(.int .i64 8),(.int .i64 0),(.str []),(.str []),(.sl true 5 [(.agg [(.int .i64 1),(.str []),(.int .i64 0),(.str [97]),(.sl true 0 [])])]),(.sl true 0 []),(.sl true 0 [])])])]),(.agg [(.str [109,97,105,110]),(.sl true 0 []),(.sl false 2 [(.agg [(.str [120]),(.int .i64 0)]),(.agg [(.str [121]),(.int .i64 2)])]),(.sl false 7 [(.agg [(.int .i64 3),(.int .i64 1),(.str [120]),(.str [102]),(.sl false 5 [(.agg [(.int .i64 0),(.str []),(.int .i64 3),(.str []),(.sl true 0 [])])]),(.sl true 0 []),(.sl true 0 [])]),(.agg [(.int .i64 5),(.int .i64 0),(.str []),(.str []),(.sl true 5 [(.agg [(.int .i64 1),(.str []),(.int .i64 0),(.str [120]),(.sl true 0 [])])]),(.sl false 7 [(.agg [(.int .i64 6),(.int .i64 0),(.str []),(.str []),(.sl true 0 []),(.sl true 0 []),(.sl true 0 [])])]),(.sl true 0 [])])])])])]))
theorem E05r47_0 : runK BkE052 1000 70 47 E05e47_0.1 E05e47_0.2.1 = some E05e47_0.2.2:=by kernel_rfl
end Go.Proofs.YtkinbnepkpoofaaGreatDoor
/- Runs. -/
open Go Go.AM
namespace Go.Proofs.YtkinbnepkpoofaaGreatDoor
def E05e47_1 : List AV × Heap × (Bool × AV × Heap):=([(.im (.str [102,117,110,99,32,109,97,105,110,40,41,32,123,32,120,32,61,32,49,59,32,125]))],[],(false,(.tup [(.im (.agg [(.sl true 4 [(.agg [(.str [109,97,105,110]),(.sl true 0 []),(.sl true 0 []),(.sl false 7 [(.agg [(.int .i64 0),(.int .i64 0),(.str [120]),(.str []),(.sl true 5 [(.agg [(.int .i64 0),(.str []),(.int .i64 1),(.str []),(.sl true 0 [])])]),(.sl true 0 []),(.sl true 0 [])])])])])])),(.im (.int .i64 22)),(.im (.int .i64 0))]),[]))
theorem E05r47_1 : runK BkE052 1000 70 47 E05e47_1.1 E05e47_1.2.1 = some E05e47_1.2.2:=by kernel_rfl
end Go.Proofs.YtkinbnepkpoofaaGreatDoor
/- Runs. -/
open Go Go.AM
namespace Go.Proofs.YtkinbnepkpoofaaGreatDoor
def E05e47_2 : List AV × Heap × (Bool × AV × Heap):=([(.im (.str [102,117,110,99,32,109,97,105,110,40,41,32,123,32,118,97,114,32,120,91,50,93,59,32,120,32,61,32,49,59,32,125]))],[],(false,(.tup [(.im (.agg [(.sl true 4 [(.agg [(.str [109,97,105,110]),(.sl true 0 []),(.sl false 2 [(.agg [(.str [120]),(.int .i64 2)])]),(.sl false 7 [(.agg [(.int .i64 0),(.int .i64 0),(.str [120]),(.str []),(.sl true 5 [(.agg [(.int .i64 0),(.str []),(.int .i64 1),(.str []),(.sl true 0 [])])]),(.sl true 0 []),(.sl true 0 [])])])])])])),(.im (.int .i64 32)),(.im (.int .i64 0))]),[]))
theorem E05r47_2 : runK BkE052 1000 70 47 E05e47_2.1 E05e47_2.2.1 = some E05e47_2.2.2:=by kernel_rfl
end Go.Proofs.YtkinbnepkpoofaaGreatDoor
/- Runs. -/
open Go Go.AM
namespace Go.Proofs.YtkinbnepkpoofaaGreatDoor
def E05e47_3 : List AV × Heap × (Bool × AV × Heap):=([(.im (.str [102,117,110,99,32,109,97,105,110,40,41,32,123,32,98,114,101,97,107,59,32,125]))],[],(false,(.tup [(.im (.agg [(.sl true 4 [(.agg [(.str [109,97,105,110]),(.sl true 0 []),(.sl true 0 []),(.sl false 7 [(.agg [(.int .i64 6),(.int .i64 0),(.str []),(.str []),(.sl true 0 []),(.sl true 0 []),(.sl true 0 [])])])])])])),(.im (.int .i64 22)),(.im (.int .i64 0))]),[]))
theorem E05r47_3 : runK BkE052 1000 70 47 E05e47_3.1 E05e47_3.2.1 = some E05e47_3.2.2:=by kernel_rfl
end Go.Proofs.YtkinbnepkpoofaaGreatDoor
/- Runs. -/
open Go Go.AM
namespace Go.Proofs.YtkinbnepkpoofaaGreatDoor
def E05e47_4 : List AV × Heap × (Bool × AV × Heap):=([(.im (.str [102,117,110,99,32,102,40,41,32,123,32,64,49,32,114,101,116,117,114,110,32,48,59,32,125,32,102,117,110,99,32,109,97,105,110,40,41,32,123,32,125]))],[],(false,(.tup [(.agg [(.ref 0 0 2)]),(.im (.int .i64 41)),(.im (.int .i64 0))]),[some (.c 4 [(.agg [(.str [102]),(.sl true 0 []),(.sl true 0 []),(.sl false 7 [(.agg [(.int .i64 8),(.int .i64 1),(.str []),(.str []),(.sl true 5 [(.agg [(.int .i64 0),(.str []),(.int .i64 0),(.str []),(.sl true 0 [])])]),(.sl true 0 []),(.sl true 0 [])])])]),(.agg [(.str [109,97,105,110]),(.sl true 0 []),(.sl true 0 []),(.sl true 0 [])])])]))
theorem E05r47_4 : runK BkE052 1000 70 47 E05e47_4.1 E05e47_4.2.1 = some E05e47_4.2.2:=by kernel_rfl
end Go.Proofs.YtkinbnepkpoofaaGreatDoor
/- Runs. -/
open Go Go.AM
namespace Go.Proofs.YtkinbnepkpoofaaGreatDoor
def E05e47_5 : List AV × Heap × (Bool × AV × Heap):=([(.im (.str [102,117,110,99,32,102,40,97,41,32,123,32,114,101,116,117,114,110,32,97,59,32,125,32,102,117,110,99,32,109,97,105,110,40,41,32,123,32,118,97,114,32,120,59,32,120,32,61,32,102,40,41,59,32,125]))],[],(false,(.tup [(.agg [(.ref 0 0 2)]),(.im (.int .i64 55)),(.im (.int .i64 0))]),[some (.c 4 [(.agg [(.str [102]),(.sl false 1 [(.str [97])]),(.sl true 0 []),(.sl false 7 [(.agg [(.int .i64 8),(.int .i64 0),(.str []),(.str []),(.sl true 5 [(.agg [(.int .i64 1),(.str []),(.int .i64 0),(.str [97]),(.sl true 0 [])])]),(.sl true 0 []),(.sl true 0 [])])])]),(.agg [(.str [109,97,105,110]),(.sl true 0 []),(.sl false 2 [(.agg [(.str [120]),(.int .i64 0)])]),(.sl false 7 [(.agg [(.int .i64 3),(.int .i64 0),(.str [120]),(.str [102]),(.sl true 0 []),(.sl true 0 []),(.sl true 0 [])])])])])]))
theorem E05r47_5 : runK BkE052 1000 70 47 E05e47_5.1 E05e47_5.2.1 = some E05e47_5.2.2:=by kernel_rfl
end Go.Proofs.YtkinbnepkpoofaaGreatDoor
/- Runs. -/
open Go Go.AM
namespace Go.Proofs.YtkinbnepkpoofaaGreatDoor
def E05e47_6 : List AV × Heap × (Bool × AV × Heap):=([(.im (.str [102,117,110,99,32,102,40,41,32,123,32,114,101,116,117,114,110,32,48,59,32,125]))],[],(false,(.tup [(.im (.agg [(.sl true 4 [(.agg [(.str [102]),(.sl true 0 []),(.sl true 0 []),(.sl false 7 [(.agg [(.int .i64 8),(.int .i64 0),(.str []),(.str []),(.sl true 5 [(.agg [(.int .i64 0),(.str []),(.int .i64 0),(.str []),(.sl true 0 [])])]),(.sl true 0 []),(.sl true 0 [])])])])])])),(.im (.int .i64 22)),(.im (.int .i64 0))]),[]))
theorem E05r47_6 : runK BkE052 1000 70 47 E05e47_6.1 E05e47_6.2.1 = some E05e47_6.2.2:=by kernel_rfl
end Go.Proofs.YtkinbnepkpoofaaGreatDoor
/- Runs. -/
open Go Go.AM
namespace Go.Proofs.YtkinbnepkpoofaaGreatDoor
def E05e47_7 : List AV × Heap × (Bool × AV × Heap):=([(.im (.str [102,117,110,99,32,109,97,105,110,40,41,32,123,32,118,97,114,32,120,59,32,64,49,32,120,32,61,32,49,59,32,64,49,32,120,32,61,32,50,59,32,125]))],[],(false,(.tup [(.im (.agg [(.sl true 4 [(.agg [(.str [109,97,105,110]),(.sl true 0 []),(.sl false 2 [(.agg [(.str [120]),(.int .i64 0)])]),(.sl false 7 [(.agg [(.int .i64 0),(.int .i64 1),(.str [120]),(.str []),(.sl true 5 [(.agg [(.int .i64 0),(.str []),(.int .i64 1),(.str []),(.sl true 0 [])])]),(.sl true 0 []),(.sl true 0 [])]),(.agg [(.int .i64 0),(.int .i64 1),(.str [120]),(.str []),(.sl true 5 [(.agg [(.int .i64 0),(.str []),(.int .i64 2),(.str []),(.sl true 0 [])])]),(.sl true 0 []),(.sl true 0 [])])])])])])),(.im (.int .i64 42)),(.im (.int .i64 0))]),[]))
theorem E05r47_7 : runK BkE052 1000 70 47 E05e47_7.1 E05e47_7.2.1 = some E05e47_7.2.2:=by kernel_rfl
end Go.Proofs.YtkinbnepkpoofaaGreatDoor
/- A table of runs. -/
open Go Go.AM
namespace Go.Proofs.YtkinbnepkpoofaaGreatDoor
def E05tab47 : Tabl:=[E05e47_0,E05e47_1,E05e47_2,E05e47_3,E05e47_4,E05e47_5,E05e47_6,E05e47_7]
theorem E05tab47_ok : OkZ Tryz.prog 47 (tabSz E05tab47):=tab_ok (runK_ok hT hm BkE052_ok 70 47) (by
 refine List.forall_mem_cons.2 ⟨E05r47_0,?_⟩
 refine List.forall_mem_cons.2 ⟨E05r47_1,?_⟩
 refine List.forall_mem_cons.2 ⟨E05r47_2,?_⟩
 refine List.forall_mem_cons.2 ⟨E05r47_3,?_⟩
 refine List.forall_mem_cons.2 ⟨E05r47_4,?_⟩
 refine List.forall_mem_cons.2 ⟨E05r47_5,?_⟩
 refine List.forall_mem_cons.2 ⟨E05r47_6,?_⟩
 refine List.forall_mem_cons.2 ⟨E05r47_7,?_⟩
 exact fun _ h=>nomatch h)
end Go.Proofs.YtkinbnepkpoofaaGreatDoor
/- What is known: a book. -/
open Go Go.AM
namespace Go.Proofs.YtkinbnepkpoofaaGreatDoor
noncomputable def BkE053 : BookR Tryz.prog T:=bookR Tryz.prog T (fun f=>false) ((47,tabSz E05tab47) :: (143,tabSz E05tab143) :: (178,tabSz E05tab178) :: known)
theorem BkE053_ok : BkE053.ok:=bookR_ok hn (by
 refine List.forall_mem_cons.2 ⟨E05tab47_ok,?_⟩
 refine List.forall_mem_cons.2 ⟨E05tab143_ok,?_⟩
 refine List.forall_mem_cons.2 ⟨E05tab178_ok,?_⟩
 exact known_ok)
end Go.Proofs.YtkinbnepkpoofaaGreatDoor
/- Runs. -/
open Go Go.AM
namespace Go.Proofs.YtkinbnepkpoofaaGreatDoor
def E05e18_0 : List AV × Heap × (Bool × AV × Heap):=([(.agg [(.ref 0 0 2)])],[some (.c 4 [(.agg [(.str [102]),(.sl false 1 [(.str [97])]),(.sl true 0 []),(.sl false 7 [(.agg [(.int .i64 8),(.int .i64 0),(.str []),(.str []),(.sl true 5 [(.agg [(.int .i64 1),(.str []),(.int .i64 0),(.str [97]),(.sl true 0 [])])]),(.sl true 0 []),(.sl true 0 [])])])]),(.agg [(.str [109,97,105,110]),(.sl true 0 []),(.sl false 2 [(.agg [(.str [120]),(.int .i64 0)]),(.agg [(.str [121]),(.int .i64 2)])]),(.sl false 7 [(.agg [(.int .i64 3),(.int .i64 1),(.str [120]),(.str [102]),(.sl false 5 [(.agg [(.int .i64 0),(.str []),(.int .i64 3),(.str []),(.sl true 0 [])])]),(.sl true 0 []),(.sl true 0 [])]),(.agg [(.int .i64 5),(.int .i64 0),(.str []),(.str []),(.sl true 5 [(.agg [(.int .i64 1),(.str []),(.int .i64 0),(.str [120]),(.sl true 0 [])])]),(.sl false 7 [(.agg [(.int .i64 6),(.int .i64 0),(.str []),(.str []),(.sl true 0 []),(.sl true 0 []),(.sl true 0 [])])]),(.sl true 0 [])])])])])],(false,(.tup [(.im (.int .i64 0)),(.im (.int .i64 (-1)))]),[some (.c 4 [(.agg [(.str [102]),(.sl false 1 [(.str [97])]),(.sl true 0 []),(.sl false 7 [(.agg [(.int .i64 8),(.int .i64 0),(.str []),(.str []),(.sl true 5 [(.agg [(.int .i64 1),(.str []),(.int .i64 0),(.str [97]),(.sl true 0 [])])]),(.sl true 0 []),(.sl true 0 [])])])]),(.agg [(.str [109,97,105,110]),(.sl true 0 []),(.sl false 2 [(.agg [(.str [120]),(.int .i64 0)]),(.agg [(.str [121]),(.int .i64 2)])]),(.sl false 7 [(.agg [(.int .i64 3),(.int .i64 1),(.str [120]),(.str [102]),(.sl false 5 [(.agg [(.int .i64 0),(.str []),(.int .i64 3),(.str []),(.sl true 0 [])])]),(.sl true 0 []),(.sl true 0 [])]),(.agg [(.int .i64 5),(.int .i64 0),(.str []),(.str []),(.sl true 5 [(.agg [(.int .i64 1),(.str []),(.int .i64 0),(.str [120]),(.sl true 0 [])])]),(.sl false 7 [(.agg [(.int .i64 6),(.int .i64 0),(.str []),(.str []),(.sl true 0 []),(.sl true 0 []),(.sl true 0 [])])]),(.sl true 0 [])])])])])]))
theorem E05r18_0 : runK BkE053 1000 70 18 E05e18_0.1 E05e18_0.2.1 = some E05e18_0.2.2:=by kernel_rfl
end Go.Proofs.YtkinbnepkpoofaaGreatDoor
/- Runs. -/
open Go Go.AM
namespace Go.Proofs.YtkinbnepkpoofaaGreatDoor
def E05e18_1 : List AV × Heap × (Bool × AV × Heap):=([(.im (.agg [(.sl true 0 [])]))],[],(false,(.tup [(.im (.int .i64 5)),(.im (.int .i64 (-1)))]),[]))
theorem E05r18_1 : runK BkE053 1000 70 18 E05e18_1.1 E05e18_1.2.1 = some E05e18_1.2.2:=by kernel_rfl
def E05e18_2 : List AV × Heap × (Bool × AV × Heap):=([(.im (.agg [(.sl true 4 [(.agg [(.str [109,97,105,110]),(.sl true 0 []),(.sl true 0 []),(.sl false 7 [(.agg [(.int .i64 0),(.int .i64 0),(.str [120]),(.str []),(.sl true 5 [(.agg [(.int .i64 0),(.str []),(.int .i64 1),(.str []),(.sl true 0 [])])]),(.sl true 0 []),(.sl true 0 [])])])])])]))],[],(false,(.tup [(.im (.int .i64 6)),(.im (.int .i64 0))]),[]))
theorem E05r18_2 : runK BkE053 1000 70 18 E05e18_2.1 E05e18_2.2.1 = some E05e18_2.2.2:=by kernel_rfl
def E05e18_3 : List AV × Heap × (Bool × AV × Heap):=([(.im (.agg [(.sl true 4 [(.agg [(.str [109,97,105,110]),(.sl true 0 []),(.sl false 2 [(.agg [(.str [120]),(.int .i64 2)])]),(.sl false 7 [(.agg [(.int .i64 0),(.int .i64 0),(.str [120]),(.str []),(.sl true 5 [(.agg [(.int .i64 0),(.str []),(.int .i64 1),(.str []),(.sl true 0 [])])]),(.sl true 0 []),(.sl true 0 [])])])])])]))],[],(false,(.tup [(.im (.int .i64 7)),(.im (.int .i64 0))]),[]))
theorem E05r18_3 : runK BkE053 1000 70 18 E05e18_3.1 E05e18_3.2.1 = some E05e18_3.2.2:=by kernel_rfl
def E05e18_4 : List AV × Heap × (Bool × AV × Heap):=([(.im (.agg [(.sl true 4 [(.agg [(.str [109,97,105,110]),(.sl true 0 []),(.sl true 0 []),(.sl false 7 [(.agg [(.int .i64 6),(.int .i64 0),(.str []),(.str []),(.sl true 0 []),(.sl true 0 []),(.sl true 0 [])])])])])]))],[],(false,(.tup [(.im (.int .i64 8)),(.im (.int .i64 0))]),[]))
theorem E05r18_4 : runK BkE053 1000 70 18 E05e18_4.1 E05e18_4.2.1 = some E05e18_4.2.2:=by kernel_rfl
end Go.Proofs.YtkinbnepkpoofaaGreatDoor
/- Runs. -/
open Go Go.AM
namespace Go.Proofs.YtkinbnepkpoofaaGreatDoor
def E05e18_5 : List AV × Heap × (Bool × AV × Heap):=([(.agg [(.ref 0 0 2)])],[some (.c 4 [(.agg [(.str [102]),(.sl true 0 []),(.sl true 0 []),(.sl false 7 [(.agg [(.int .i64 8),(.int .i64 1),(.str []),(.str []),(.sl true 5 [(.agg [(.int .i64 0),(.str []),(.int .i64 0),(.str []),(.sl true 0 [])])]),(.sl true 0 []),(.sl true 0 [])])])]),(.agg [(.str [109,97,105,110]),(.sl true 0 []),(.sl true 0 []),(.sl true 0 [])])])],(false,(.tup [(.im (.int .i64 9)),(.im (.int .i64 0))]),[some (.c 4 [(.agg [(.str [102]),(.sl true 0 []),(.sl true 0 []),(.sl false 7 [(.agg [(.int .i64 8),(.int .i64 1),(.str []),(.str []),(.sl true 5 [(.agg [(.int .i64 0),(.str []),(.int .i64 0),(.str []),(.sl true 0 [])])]),(.sl true 0 []),(.sl true 0 [])])])]),(.agg [(.str [109,97,105,110]),(.sl true 0 []),(.sl true 0 []),(.sl true 0 [])])])]))
theorem E05r18_5 : runK BkE053 1000 70 18 E05e18_5.1 E05e18_5.2.1 = some E05e18_5.2.2:=by kernel_rfl
end Go.Proofs.YtkinbnepkpoofaaGreatDoor
/- Runs. -/
open Go Go.AM
namespace Go.Proofs.YtkinbnepkpoofaaGreatDoor
def E05e18_6 : List AV × Heap × (Bool × AV × Heap):=([(.agg [(.ref 0 0 2)])],[some (.c 4 [(.agg [(.str [102]),(.sl false 1 [(.str [97])]),(.sl true 0 []),(.sl false 7 [(.agg [(.int .i64 8),(.int .i64 0),(.str []),(.str []),(.sl true 5 [(.agg [(.int .i64 1),(.str []),(.int .i64 0),(.str [97]),(.sl true 0 [])])]),(.sl true 0 []),(.sl true 0 [])])])]),(.agg [(.str [109,97,105,110]),(.sl true 0 []),(.sl false 2 [(.agg [(.str [120]),(.int .i64 0)])]),(.sl false 7 [(.agg [(.int .i64 3),(.int .i64 0),(.str [120]),(.str [102]),(.sl true 0 []),(.sl true 0 []),(.sl true 0 [])])])])])],(false,(.tup [(.im (.int .i64 10)),(.im (.int .i64 1))]),[some (.c 4 [(.agg [(.str [102]),(.sl false 1 [(.str [97])]),(.sl true 0 []),(.sl false 7 [(.agg [(.int .i64 8),(.int .i64 0),(.str []),(.str []),(.sl true 5 [(.agg [(.int .i64 1),(.str []),(.int .i64 0),(.str [97]),(.sl true 0 [])])]),(.sl true 0 []),(.sl true 0 [])])])]),(.agg [(.str [109,97,105,110]),(.sl true 0 []),(.sl false 2 [(.agg [(.str [120]),(.int .i64 0)])]),(.sl false 7 [(.agg [(.int .i64 3),(.int .i64 0),(.str [120]),(.str [102]),(.sl true 0 []),(.sl true 0 []),(.sl true 0 [])])])])])]))
theorem E05r18_6 : runK BkE053 1000 70 18 E05e18_6.1 E05e18_6.2.1 = some E05e18_6.2.2:=by kernel_rfl
def E05e18_7 : List AV × Heap × (Bool × AV × Heap):=([(.im (.agg [(.sl true 4 [(.agg [(.str [102]),(.sl true 0 []),(.sl true 0 []),(.sl false 7 [(.agg [(.int .i64 8),(.int .i64 0),(.str []),(.str []),(.sl true 5 [(.agg [(.int .i64 0),(.str []),(.int .i64 0),(.str []),(.sl true 0 [])])]),(.sl true 0 []),(.sl true 0 [])])])])])]))],[],(false,(.tup [(.im (.int .i64 10)),(.im (.int .i64 (-1)))]),[]))
theorem E05r18_7 : runK BkE053 1000 70 18 E05e18_7.1 E05e18_7.2.1 = some E05e18_7.2.2:=by kernel_rfl
end Go.Proofs.YtkinbnepkpoofaaGreatDoor
/- Runs. -/
open Go Go.AM
namespace Go.Proofs.YtkinbnepkpoofaaGreatDoor
def E05e18_8 : List AV × Heap × (Bool × AV × Heap):=([(.im (.agg [(.sl true 4 [(.agg [(.str [109,97,105,110]),(.sl true 0 []),(.sl false 2 [(.agg [(.str [120]),(.int .i64 0)])]),(.sl false 7 [(.agg [(.int .i64 0),(.int .i64 1),(.str [120]),(.str []),(.sl true 5 [(.agg [(.int .i64 0),(.str []),(.int .i64 1),(.str []),(.sl true 0 [])])]),(.sl true 0 []),(.sl true 0 [])]),(.agg [(.int .i64 0),(.int .i64 1),(.str [120]),(.str []),(.sl true 5 [(.agg [(.int .i64 0),(.str []),(.int .i64 2),(.str []),(.sl true 0 [])])]),(.sl true 0 []),(.sl true 0 [])])])])])]))],[],(false,(.tup [(.im (.int .i64 9)),(.im (.int .i64 0))]),[]))
theorem E05r18_8 : runK BkE053 1000 70 18 E05e18_8.1 E05e18_8.2.1 = some E05e18_8.2.2:=by kernel_rfl
end Go.Proofs.YtkinbnepkpoofaaGreatDoor
/- A table of runs. -/
open Go Go.AM
namespace Go.Proofs.YtkinbnepkpoofaaGreatDoor
def E05tab18 : Tabl:=[E05e18_0,E05e18_1,E05e18_2,E05e18_3,E05e18_4,E05e18_5,E05e18_6,E05e18_7,E05e18_8]
theorem E05tab18_ok : OkZ Tryz.prog 18 (tabSz E05tab18):=tab_ok (runK_ok hT hm BkE053_ok 70 18) (by
 refine List.forall_mem_cons.2 ⟨E05r18_0,?_⟩
 refine List.forall_mem_cons.2 ⟨E05r18_1,?_⟩
 refine List.forall_mem_cons.2 ⟨E05r18_2,?_⟩
 refine List.forall_mem_cons.2 ⟨E05r18_3,?_⟩
 refine List.forall_mem_cons.2 ⟨E05r18_4,?_⟩
 refine List.forall_mem_cons.2 ⟨E05r18_5,?_⟩
 refine List.forall_mem_cons.2 ⟨E05r18_6,?_⟩
 refine List.forall_mem_cons.2 ⟨E05r18_7,?_⟩
 refine List.forall_mem_cons.2 ⟨E05r18_8,?_⟩
 exact fun _ h=>nomatch h)
end Go.Proofs.YtkinbnepkpoofaaGreatDoor