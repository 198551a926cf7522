/- Texts joined into one: E05B4 E05S4_0 E05T4 E05Top. -/
import Derived.Test.YtkinbnepkpoofaaGreatDoorYc
/- What is known: a book. -/
set_option maxRecDepth 1000000
set_option linter.unusedVariables false
open Go Go.AM
namespace Go.Proofs.YtkinbnepkpoofaaGreatDoor
noncomputable def BkE054 : BookR Tryz.prog T := bookR Tryz.prog T (fun f => false) ((18, tabSz E05tab18) :: (47, tabSz E05tab47) :: (143, tabSz E05tab143) :: (178, tabSz E05tab178) :: known)
theorem BkE054_ok : BkE054.ok := bookR_ok hn (by
 refine List.forall_mem_cons.2 ⟨E05tab18_ok, ?_⟩
 refine List.forall_mem_cons.2 ⟨E05tab47_ok, ?_⟩
 refine List.forall_mem_cons.2 ⟨E05tab143_ok, ?_⟩
 refine List.forall_mem_cons.2 ⟨E05tab178_ok, ?_⟩
 exact known_ok)
end Go.Proofs.YtkinbnepkpoofaaGreatDoor
/- Runs. -/
set_option maxRecDepth 1000000
set_option linter.unusedVariables false
open Go Go.AM
namespace Go.Proofs.YtkinbnepkpoofaaGreatDoor
def E05e24_0 : List AV × Heap × (Bool × AV × Heap) := ([(.agg [(.ref 0 0 2)]), (.im (.int .i64 1)), (.im (.sl true 1 [(.str [120])]))], [some (.c 4 [(.agg [(.str [102]), (.sl false 1 [(.str [97])]), (.sl true 0 []), (.sl false 7 [(.agg [(.int .i64 8), (.int .i64 0), (.str []), (.str []), (.sl true 5 [(.agg [(.int .i64 1), (.str []), (.int .i64 0), (.str [97]), (.sl true 0 [])])]), (.sl true 0 []), (.sl true 0 [])])])]), (.agg [(.str [109, 97, 105, 110]), (.sl true 0 []), (.sl false 2 [(.agg [(.str [120]), (.int .i64 0)]), (.agg [(.str [121]), (.int .i64 2)])]), (.sl false 7 [(.agg [(.int .i64 3), (.int .i64 1), (.str [120]), (.str [102]), (.sl false 5 [(.agg [(.int .i64 0), (.str []), (.int .i64 3), (.str []), (.sl true 0 [])])]), (.sl true 0 []), (.sl true 0 [])]), (.agg [(.int .i64 5), (.int .i64 0), (.str []), (.str []), (.sl true 5 [(.agg [(.int .i64 1), (.str []), (.int .i64 0), (.str [120]), (.sl true 0 [])])]), (.sl false 7 [(.agg [(.int .i64 6), (.int .i64 0), (.str []), (.str []), (.sl true 0 []), (.sl true 0 []), (.sl true 0 [])])]), (.sl true 0 [])])])])])], (false, (.im (.int .i64 0)), [some (.c 4 [(.agg [(.str [102]), (.sl false 1 [(.str [97])]), (.sl true 0 []), (.sl false 7 [(.agg [(.int .i64 8), (.int .i64 0), (.str []), (.str []), (.sl true 5 [(.agg [(.int .i64 1), (.str []), (.int .i64 0), (.str [97]), (.sl true 0 [])])]), (.sl true 0 []), (.sl true 0 [])])])]), (.agg [(.str [109, 97, 105, 110]), (.sl true 0 []), (.sl false 2 [(.agg [(.str [120]), (.int .i64 0)]), (.agg [(.str [121]), (.int .i64 2)])]), (.sl false 7 [(.agg [(.int .i64 3), (.int .i64 1), (.str [120]), (.str [102]), (.sl false 5 [(.agg [(.int .i64 0), (.str []), (.int .i64 3), (.str []), (.sl true 0 [])])]), (.sl true 0 []), (.sl true 0 [])]), (.agg [(.int .i64 5), (.int .i64 0), (.str []), (.str []), (.sl true 5 [(.agg [(.int .i64 1), (.str []), (.int .i64 0), (.str [120]), (.sl true 0 [])])]), (.sl false 7 [(.agg [(.int .i64 6), (.int .i64 0), (.str []), (.str []), (.sl true 0 []), (.sl true 0 []), (.sl true 0 [])])]), (.sl true 0 [])])])])])]))
theorem E05r24_0 : runK BkE054 1000 70 24 E05e24_0.1 E05e24_0.2.1 = some E05e24_0.2.2 := by kernel_rfl
def E05e24_1 : List AV × Heap × (Bool × AV × Heap) := ([(.agg [(.ref 0 0 2)]), (.im (.int .i64 2)), (.im (.sl true 0 []))], [some (.c 4 [(.agg [(.str [102]), (.sl false 1 [(.str [97])]), (.sl true 0 []), (.sl false 7 [(.agg [(.int .i64 8), (.int .i64 0), (.str []), (.str []), (.sl true 5 [(.agg [(.int .i64 1), (.str []), (.int .i64 0), (.str [97]), (.sl true 0 [])])]), (.sl true 0 []), (.sl true 0 [])])])]), (.agg [(.str [109, 97, 105, 110]), (.sl true 0 []), (.sl false 2 [(.agg [(.str [120]), (.int .i64 0)]), (.agg [(.str [121]), (.int .i64 2)])]), (.sl false 7 [(.agg [(.int .i64 3), (.int .i64 1), (.str [120]), (.str [102]), (.sl false 5 [(.agg [(.int .i64 0), (.str []), (.int .i64 3), (.str []), (.sl true 0 [])])]), (.sl true 0 []), (.sl true 0 [])]), (.agg [(.int .i64 5), (.int .i64 0), (.str []), (.str []), (.sl true 5 [(.agg [(.int .i64 1), (.str []), (.int .i64 0), (.str [120]), (.sl true 0 [])])]), (.sl false 7 [(.agg [(.int .i64 6), (.int .i64 0), (.str []), (.str []), (.sl true 0 []), (.sl true 0 []), (.sl true 0 [])])]), (.sl true 0 [])])])])])], (false, (.im (.int .i64 9)), [some (.c 4 [(.agg [(.str [102]), (.sl false 1 [(.str [97])]), (.sl true 0 []), (.sl false 7 [(.agg [(.int .i64 8), (.int .i64 0), (.str []), (.str []), (.sl true 5 [(.agg [(.int .i64 1), (.str []), (.int .i64 0), (.str [97]), (.sl true 0 [])])]), (.sl true 0 []), (.sl true 0 [])])])]), (.agg [(.str [109, 97, 105, 110]), (.sl true 0 []), (.sl false 2 [(.agg [(.str [120]), (.int .i64 0)]), (.agg [(.str [121]), (.int .i64 2)])]), (.sl false 7 [(.agg [(.int .i64 3), (.int .i64 1), (.str [120]), (.str [102]), (.sl false 5 [(.agg [(.int .i64 0), (.str []), (.int .i64 3), (.str []), (.sl true 0 [])])]), (.sl true 0 []), (.sl true 0 [])]), (.agg [(.int .i64 5), (.int .i64 0), (.str []), (.str []), (.sl true 5 [(.agg [(.int .i64 1), (.str []), (.int .i64 0), (.str [120]), (.sl true 0 [])])]), (.sl false 7 [(.agg [(.int .i64 6), (.int .i64 0), (.str []), (.str []), (.sl true 0 []), (.sl true 0 []), (.sl true 0 [])])]), (.sl true 0 [])])])])])]))
theorem E05r24_1 : runK BkE054 1000 70 24 E05e24_1.1 E05e24_1.2.1 = some E05e24_1.2.2 := by kernel_rfl
def E05e24_2 : List AV × Heap × (Bool × AV × Heap) := ([(.agg [(.ref 0 0 2)]), (.im (.int .i64 1)), (.im (.sl true 1 [(.str [121])]))], [some (.c 4 [(.agg [(.str [102]), (.sl false 1 [(.str [97])]), (.sl true 0 []), (.sl false 7 [(.agg [(.int .i64 8), (.int .i64 0), (.str []), (.str []), (.sl true 5 [(.agg [(.int .i64 1), (.str []), (.int .i64 0), (.str [97]), (.sl true 0 [])])]), (.sl true 0 []), (.sl true 0 [])])])]), (.agg [(.str [109, 97, 105, 110]), (.sl true 0 []), (.sl false 2 [(.agg [(.str [120]), (.int .i64 0)]), (.agg [(.str [121]), (.int .i64 2)])]), (.sl false 7 [(.agg [(.int .i64 3), (.int .i64 1), (.str [120]), (.str [102]), (.sl false 5 [(.agg [(.int .i64 0), (.str []), (.int .i64 3), (.str []), (.sl true 0 [])])]), (.sl true 0 []), (.sl true 0 [])]), (.agg [(.int .i64 5), (.int .i64 0), (.str []), (.str []), (.sl true 5 [(.agg [(.int .i64 1), (.str []), (.int .i64 0), (.str [120]), (.sl true 0 [])])]), (.sl false 7 [(.agg [(.int .i64 6), (.int .i64 0), (.str []), (.str []), (.sl true 0 []), (.sl true 0 []), (.sl true 0 [])])]), (.sl true 0 [])])])])])], (false, (.im (.int .i64 7)), [some (.c 4 [(.agg [(.str [102]), (.sl false 1 [(.str [97])]), (.sl true 0 []), (.sl false 7 [(.agg [(.int .i64 8), (.int .i64 0), (.str []), (.str []), (.sl true 5 [(.agg [(.int .i64 1), (.str []), (.int .i64 0), (.str [97]), (.sl true 0 [])])]), (.sl true 0 []), (.sl true 0 [])])])]), (.agg [(.str [109, 97, 105, 110]), (.sl true 0 []), (.sl false 2 [(.agg [(.str [120]), (.int .i64 0)]), (.agg [(.str [121]), (.int .i64 2)])]), (.sl false 7 [(.agg [(.int .i64 3), (.int .i64 1), (.str [120]), (.str [102]), (.sl false 5 [(.agg [(.int .i64 0), (.str []), (.int .i64 3), (.str []), (.sl true 0 [])])]), (.sl true 0 []), (.sl true 0 [])]), (.agg [(.int .i64 5), (.int .i64 0), (.str []), (.str []), (.sl true 5 [(.agg [(.int .i64 1), (.str []), (.int .i64 0), (.str [120]), (.sl true 0 [])])]), (.sl false 7 [(.agg [(.int .i64 6), (.int .i64 0), (.str []), (.str []), (.sl true 0 []), (.sl true 0 []), (.sl true 0 [])])]), (.sl true 0 [])])])])])]))
theorem E05r24_2 : runK BkE054 1000 70 24 E05e24_2.1 E05e24_2.2.1 = some E05e24_2.2.2 := by kernel_rfl
def E05e24_3 : List AV × Heap × (Bool × AV × Heap) := ([(.agg [(.ref 0 0 2)]), (.im (.int .i64 1)), (.im (.sl true 1 [(.str [122])]))], [some (.c 4 [(.agg [(.str [102]), (.sl false 1 [(.str [97])]), (.sl true 0 []), (.sl false 7 [(.agg [(.int .i64 8), (.int .i64 0), (.str []), (.str []), (.sl true 5 [(.agg [(.int .i64 1), (.str []), (.int .i64 0), (.str [97]), (.sl true 0 [])])]), (.sl true 0 []), (.sl true 0 [])])])]), (.agg [(.str [109, 97, 105, 110]), (.sl true 0 []), (.sl false 2 [(.agg [(.str [120]), (.int .i64 0)]), (.agg [(.str [121]), (.int .i64 2)])]), (.sl false 7 [(.agg [(.int .i64 3), (.int .i64 1), (.str [120]), (.str [102]), (.sl false 5 [(.agg [(.int .i64 0), (.str []), (.int .i64 3), (.str []), (.sl true 0 [])])]), (.sl true 0 []), (.sl true 0 [])]), (.agg [(.int .i64 5), (.int .i64 0), (.str []), (.str []), (.sl true 5 [(.agg [(.int .i64 1), (.str []), (.int .i64 0), (.str [120]), (.sl true 0 [])])]), (.sl false 7 [(.agg [(.int .i64 6), (.int .i64 0), (.str []), (.str []), (.sl true 0 []), (.sl true 0 []), (.sl true 0 [])])]), (.sl true 0 [])])])])])], (false, (.im (.int .i64 6)), [some (.c 4 [(.agg [(.str [102]), (.sl false 1 [(.str [97])]), (.sl true 0 []), (.sl false 7 [(.agg [(.int .i64 8), (.int .i64 0), (.str []), (.str []), (.sl true 5 [(.agg [(.int .i64 1), (.str []), (.int .i64 0), (.str [97]), (.sl true 0 [])])]), (.sl true 0 []), (.sl true 0 [])])])]), (.agg [(.str [109, 97, 105, 110]), (.sl true 0 []), (.sl false 2 [(.agg [(.str [120]), (.int .i64 0)]), (.agg [(.str [121]), (.int .i64 2)])]), (.sl false 7 [(.agg [(.int .i64 3), (.int .i64 1), (.str [120]), (.str [102]), (.sl false 5 [(.agg [(.int .i64 0), (.str []), (.int .i64 3), (.str []), (.sl true 0 [])])]), (.sl true 0 []), (.sl true 0 [])]), (.agg [(.int .i64 5), (.int .i64 0), (.str []), (.str []), (.sl true 5 [(.agg [(.int .i64 1), (.str []), (.int .i64 0), (.str [120]), (.sl true 0 [])])]), (.sl false 7 [(.agg [(.int .i64 6), (.int .i64 0), (.str []), (.str []), (.sl true 0 []), (.sl true 0 []), (.sl true 0 [])])]), (.sl true 0 [])])])])])]))
theorem E05r24_3 : runK BkE054 1000 70 24 E05e24_3.1 E05e24_3.2.1 = some E05e24_3.2.2 := by kernel_rfl
end Go.Proofs.YtkinbnepkpoofaaGreatDoor
/- A table of runs. -/
set_option maxRecDepth 1000000
set_option linter.unusedVariables false
open Go Go.AM
namespace Go.Proofs.YtkinbnepkpoofaaGreatDoor
def E05tab24 : Tabl := [E05e24_0, E05e24_1, E05e24_2, E05e24_3]
theorem E05tab24_ok : OkZ Tryz.prog 24 (tabSz E05tab24) := tab_ok (runK_ok hT hm BkE054_ok 70 24) (by
 refine List.forall_mem_cons.2 ⟨E05r24_0, ?_⟩
 refine List.forall_mem_cons.2 ⟨E05r24_1, ?_⟩
 refine List.forall_mem_cons.2 ⟨E05r24_2, ?_⟩
 refine List.forall_mem_cons.2 ⟨E05r24_3, ?_⟩
 exact fun _ h => nomatch h)
end Go.Proofs.YtkinbnepkpoofaaGreatDoor
/- The chapter's examples are so. -/
set_option maxRecDepth 1000000
set_option linter.unusedVariables false
open Go Go.AM
namespace Go.Proofs.YtkinbnepkpoofaaGreatDoor
noncomputable def BkE055 : BookR Tryz.prog T := bookR Tryz.prog T (fun f => false) ((24, tabSz E05tab24) :: (18, tabSz E05tab18) :: (47, tabSz E05tab47) :: (143, tabSz E05tab143) :: (178, tabSz E05tab178) :: known)
theorem BkE055_ok : BkE055.ok := bookR_ok hn (by
 refine List.forall_mem_cons.2 ⟨E05tab24_ok, ?_⟩
 refine List.forall_mem_cons.2 ⟨E05tab18_ok, ?_⟩
 refine List.forall_mem_cons.2 ⟨E05tab47_ok, ?_⟩
 refine List.forall_mem_cons.2 ⟨E05tab143_ok, ?_⟩
 refine List.forall_mem_cons.2 ⟨E05tab178_ok, ?_⟩
 exact known_ok)
theorem E05top : runK BkE055 1000 70 15 [] [] = some (false, .im (.bool true), []) := by kernel_rfl
theorem E05ok : OkZ Tryz.prog 15 (constSz (false, .im (.bool true), [])) := constSz_ok (runK_ok hT hm BkE055_ok 70 15) E05top
end Go.Proofs.YtkinbnepkpoofaaGreatDoor