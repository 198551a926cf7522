/- Texts joined into one: E08B1 E08S1_0 E08T1 E08B2 E08S2_0 E08T2 E08B3 E08S3_0 E08T3. -/
import Derived.Test.YtkinbnepkpoofaaGreatDoorRa
/- What is known: a book. -/
set_option maxRecDepth 1000000
set_option linter.unusedVariables false
open Go Go.AM
namespace Go.Proofs.YtkinbnepkpoofaaGreatDoor
noncomputable def BkE081 : BookR Tryz.prog T := bookR Tryz.prog T (fun f => Nat.beq f 132) ((178, tabSz E08tab178) :: known)
theorem BkE081_ok : BkE081.ok := bookR_ok hn (by
 refine List.forall_mem_cons.2 ⟨E08tab178_ok, ?_⟩
 exact known_ok)
end Go.Proofs.YtkinbnepkpoofaaGreatDoor
/- Runs. -/
set_option maxRecDepth 1000000
set_option linter.unusedVariables false
open Go Go.AM
namespace Go.Proofs.YtkinbnepkpoofaaGreatDoor
def E08e143_0 : List AV × Heap × (Bool × AV × Heap) := ([(.im (.str [102, 117, 110, 99, 32, 102, 40, 110, 41, 32, 123, 32, 118, 97, 114, 32, 114, 59, 32, 105, 102, 32, 40, 110, 32, 62, 32, 48, 41, 32, 123, 32, 114, 32, 61, 32, 102, 40, 110, 32, 45, 32, 49, 41, 59, 32, 114, 101, 116, 117, 114, 110, 32, 114, 32, 43, 32, 110, 59, 32, 125, 32, 114, 101, 116, 117, 114, 110, 32, 48, 59, 32, 125, 32, 102, 117, 110, 99, 32, 109, 97, 105, 110, 40, 41, 32, 123, 32, 118, 97, 114, 32, 120, 44, 32, 121, 59, 32, 120, 32, 61, 32, 114, 101, 97, 100, 40, 41, 59, 32, 121, 32, 61, 32, 102, 40, 120, 41, 59, 32, 64, 49, 32, 121, 32, 61, 32, 121, 32, 43, 32, 49, 59, 32, 119, 104, 105, 108, 101, 32, 40, 49, 41, 32, 123, 32, 98, 114, 101, 97, 107, 59, 32, 125, 32, 64, 50, 32, 120, 32, 61, 32, 121, 32, 47, 32, 48, 59, 32, 125]))], [], (false, (.tup [(.ref 0 0 81), (.im (.int .i64 170)), (.im (.int .i64 0))]), [some (.c 4 [(.agg [(.int .i64 5), (.str [102, 117, 110, 99]), (.int .u64 0), (.int .i64 0)]), (.agg [(.int .i64 1), (.str [102]), (.int .u64 0), (.int .i64 5)]), (.agg [(.int .i64 4), (.str [40]), (.int .u64 0), (.int .i64 6)]), (.agg [(.int .i64 1), (.str [110]), (.int .u64 0), (.int .i64 7)]), (.agg [(.int .i64 4), (.str [41]), (.int .u64 0), (.int .i64 8)]), (.agg [(.int .i64 4), (.str [123]), (.int .u64 0), (.int .i64 10)]), (.agg [(.int .i64 5), (.str [118, 97, 114]), (.int .u64 0), (.int .i64 12)]), (.agg [(.int .i64 1), (.str [114]), (.int .u64 0), (.int .i64 16)]), (.agg [(.int .i64 4), (.str [59]), (.int .u64 0), (.int .i64 17)]), (.agg [(.int .i64 5), (.str [105, 102]), (.int .u64 0), (.int .i64 19)]), (.agg [(.int .i64 4), (.str [40]), (.int .u64 0), (.int .i64 22)]), (.agg [(.int .i64 1), (.str [110]), (.int .u64 0), (.int .i64 23)]), (.agg [(.int .i64 4), (.str [62]), (.int .u64 0), (.int .i64 25)]), (.agg [(.int .i64 2), (.str [48]), (.int .u64 0), (.int .i64 27)]), (.agg [(.int .i64 4), (.str [41]), (.int .u64 0), (.int .i64 28)]), (.agg [(.int .i64 4), (.str [123]), (.int .u64 0), (.int .i64 30)]), (.agg [(.int .i64 1), (.str [114]), (.int .u64 0), (.int .i64 32)]), (.agg [(.int .i64 4), (.str [61]), (.int .u64 0), (.int .i64 34)]), (.agg [(.int .i64 1), (.str [102]), (.int .u64 0), (.int .i64 36)]), (.agg [(.int .i64 4), (.str [40]), (.int .u64 0), (.int .i64 37)]), (.agg [(.int .i64 1), (.str [110]), (.int .u64 0), (.int .i64 38)]), (.agg [(.int .i64 4), (.str [45]), (.int .u64 0), (.int .i64 40)]), (.agg [(.int .i64 2), (.str [49]), (.int .u64 1), (.int .i64 42)]), (.agg [(.int .i64 4), (.str [41]), (.int .u64 0), (.int .i64 43)]), (.agg [(.int .i64 4), (.str [59]), (.int .u64 0), (.int .i64 44)]), (.agg [(.int .i64 5), (.str [114, 101, 116, 117, 114, 110]), (.int .u64 0), (.int .i64 46)]), (.agg [(.int .i64 1), (.str [114]), (.int .u64 0), (.int .i64 53)]), (.agg [(.int .i64 4), (.str [43]), (.int .u64 0), (.int .i64 55)]), (.agg [(.int .i64 1), (.str [110]), (.int .u64 0), (.int .i64 57)]), (.agg [(.int .i64 4), (.str [59]), (.int .u64 0), (.int .i64 58)]), (.agg [(.int .i64 4), (.str [125]), (.int .u64 0), (.int .i64 60)]), (.agg [(.int .i64 5), (.str [114, 101, 116, 117, 114, 110]), (.int .u64 0), (.int .i64 62)]), (.agg [(.int .i64 2), (.str [48]), (.int .u64 0), (.int .i64 69)]), (.agg [(.int .i64 4), (.str [59]), (.int .u64 0), (.int .i64 70)]), (.agg [(.int .i64 4), (.str [125]), (.int .u64 0), (.int .i64 72)]), (.agg [(.int .i64 5), (.str [102, 117, 110, 99]), (.int .u64 0), (.int .i64 74)]), (.agg [(.int .i64 1), (.str [109, 97, 105, 110]), (.int .u64 0), (.int .i64 79)]), (.agg [(.int .i64 4), (.str [40]), (.int .u64 0), (.int .i64 83)]), (.agg [(.int .i64 4), (.str [41]), (.int .u64 0), (.int .i64 84)]), (.agg [(.int .i64 4), (.str [123]), (.int .u64 0), (.int .i64 86)]), (.agg [(.int .i64 5), (.str [118, 97, 114]), (.int .u64 0), (.int .i64 88)]), (.agg [(.int .i64 1), (.str [120]), (.int .u64 0), (.int .i64 92)]), (.agg [(.int .i64 4), (.str [44]), (.int .u64 0), (.int .i64 93)]), (.agg [(.int .i64 1), (.str [121]), (.int .u64 0), (.int .i64 95)]), (.agg [(.int .i64 4), (.str [59]), (.int .u64 0), (.int .i64 96)]), (.agg [(.int .i64 1), (.str [120]), (.int .u64 0), (.int .i64 98)]), (.agg [(.int .i64 4), (.str [61]), (.int .u64 0), (.int .i64 100)]), (.agg [(.int .i64 5), (.str [114, 101, 97, 100]), (.int .u64 0), (.int .i64 102)]), (.agg [(.int .i64 4), (.str [40]), (.int .u64 0), (.int .i64 106)]), (.agg [(.int .i64 4), (.str [41]), (.int .u64 0), (.int .i64 107)]), (.agg [(.int .i64 4), (.str [59]), (.int .u64 0), (.int .i64 108)]), (.agg [(.int .i64 1), (.str [121]), (.int .u64 0), (.int .i64 110)]), (.agg [(.int .i64 4), (.str [61]), (.int .u64 0), (.int .i64 112)]), (.agg [(.int .i64 1), (.str [102]), (.int .u64 0), (.int .i64 114)]), (.agg [(.int .i64 4), (.str [40]), (.int .u64 0), (.int .i64 115)]), (.agg [(.int .i64 1), (.str [120]), (.int .u64 0), (.int .i64 116)]), (.agg [(.int .i64 4), (.str [41]), (.int .u64 0), (.int .i64 117)]), (.agg [(.int .i64 4), (.str [59]), (.int .u64 0), (.int .i64 118)]), (.agg [(.int .i64 3), (.str [64, 49]), (.int .u64 1), (.int .i64 120)]), (.agg [(.int .i64 1), (.str [121]), (.int .u64 0), (.int .i64 123)]), (.agg [(.int .i64 4), (.str [61]), (.int .u64 0), (.int .i64 125)]), (.agg [(.int .i64 1), (.str [121]), (.int .u64 0), (.int .i64 127)]), (.agg [(.int .i64 4), (.str [43]), (.int .u64 0), (.int .i64 129)]), (.agg [(.int .i64 2), (.str [49]), (.int .u64 1), (.int .i64 131)]), (.agg [(.int .i64 4), (.str [59]), (.int .u64 0), (.int .i64 132)]), (.agg [(.int .i64 5), (.str [119, 104, 105, 108, 101]), (.int .u64 0), (.int .i64 134)]), (.agg [(.int .i64 4), (.str [40]), (.int .u64 0), (.int .i64 140)]), (.agg [(.int .i64 2), (.str [49]), (.int .u64 1), (.int .i64 141)]), (.agg [(.int .i64 4), (.str [41]), (.int .u64 0), (.int .i64 142)]), (.agg [(.int .i64 4), (.str [123]), (.int .u64 0), (.int .i64 144)]), (.agg [(.int .i64 5), (.str [98, 114, 101, 97, 107]), (.int .u64 0), (.int .i64 146)]), (.agg [(.int .i64 4), (.str [59]), (.int .u64 0), (.int .i64 151)]), (.agg [(.int .i64 4), (.str [125]), (.int .u64 0), (.int .i64 153)]), (.agg [(.int .i64 3), (.str [64, 50]), (.int .u64 2), (.int .i64 155)]), (.agg [(.int .i64 1), (.str [120]), (.int .u64 0), (.int .i64 158)]), (.agg [(.int .i64 4), (.str [61]), (.int .u64 0), (.int .i64 160)]), (.agg [(.int .i64 1), (.str [121]), (.int .u64 0), (.int .i64 162)]), (.agg [(.int .i64 4), (.str [47]), (.int .u64 0), (.int .i64 164)]), (.agg [(.int .i64 2), (.str [48]), (.int .u64 0), (.int .i64 166)]), (.agg [(.int .i64 4), (.str [59]), (.int .u64 0), (.int .i64 167)]), (.agg [(.int .i64 4), (.str [125]), (.int .u64 0), (.int .i64 169)])])]))
theorem E08r143_0 : runK BkE081 1000 70 143 E08e143_0.1 E08e143_0.2.1 = some E08e143_0.2.2 := by kernel_rfl
end Go.Proofs.YtkinbnepkpoofaaGreatDoor
/- A table of runs. -/
set_option maxRecDepth 1000000
set_option linter.unusedVariables false
open Go Go.AM
namespace Go.Proofs.YtkinbnepkpoofaaGreatDoor
def E08tab143 : Tabl := [E08e143_0]
theorem E08tab143_ok : OkZ Tryz.prog 143 (tabSz E08tab143) := tab_ok (runK_ok hT hm BkE081_ok 70 143) (by
 refine List.forall_mem_cons.2 ⟨E08r143_0, ?_⟩
 exact fun _ h => nomatch h)
end Go.Proofs.YtkinbnepkpoofaaGreatDoor
/- What is known: a book. -/
set_option maxRecDepth 1000000
set_option linter.unusedVariables false
open Go Go.AM
namespace Go.Proofs.YtkinbnepkpoofaaGreatDoor
noncomputable def BkE082 : BookR Tryz.prog T := bookR Tryz.prog T (fun f => Nat.beq f 132) ((143, tabSz E08tab143) :: (178, tabSz E08tab178) :: known)
theorem BkE082_ok : BkE082.ok := bookR_ok hn (by
 refine List.forall_mem_cons.2 ⟨E08tab143_ok, ?_⟩
 refine List.forall_mem_cons.2 ⟨E08tab178_ok, ?_⟩
 exact known_ok)
end Go.Proofs.YtkinbnepkpoofaaGreatDoor
/- Runs. -/
set_option maxRecDepth 1000000
set_option linter.unusedVariables false
open Go Go.AM
namespace Go.Proofs.YtkinbnepkpoofaaGreatDoor
def E08e47_0 : List AV × Heap × (Bool × AV × Heap) := ([(.im (.str [102, 117, 110, 99, 32, 102, 40, 110, 41, 32, 123, 32, 118, 97, 114, 32, 114, 59, 32, 105, 102, 32, 40, 110, 32, 62, 32, 48, 41, 32, 123, 32, 114, 32, 61, 32, 102, 40, 110, 32, 45, 32, 49, 41, 59, 32, 114, 101, 116, 117, 114, 110, 32, 114, 32, 43, 32, 110, 59, 32, 125, 32, 114, 101, 116, 117, 114, 110, 32, 48, 59, 32, 125, 32, 102, 117, 110, 99, 32, 109, 97, 105, 110, 40, 41, 32, 123, 32, 118, 97, 114, 32, 120, 44, 32, 121, 59, 32, 120, 32, 61, 32, 114, 101, 97, 100, 40, 41, 59, 32, 121, 32, 61, 32, 102, 40, 120, 41, 59, 32, 64, 49, 32, 121, 32, 61, 32, 121, 32, 43, 32, 49, 59, 32, 119, 104, 105, 108, 101, 32, 40, 49, 41, 32, 123, 32, 98, 114, 101, 97, 107, 59, 32, 125, 32, 64, 50, 32, 120, 32, 61, 32, 121, 32, 47, 32, 48, 59, 32, 125]))], [], (false, (.tup [(.agg [(.ref 0 0 2)]), (.im (.int .i64 170)), (.im (.int .i64 0))]), [some (.c 4 [(.agg [(.str [102]), (.sl false 1 [(.str [110])]), (.sl false 2 [(.agg [(.str [114]), (.int .i64 0)])]), (.sl false 7 [(.agg [(.int .i64 4), (.int .i64 0), (.str []), (.str []), (.sl true 5 [(.agg [(.int .i64 4), (.str [62]), (.int .i64 0), (.str []), (.sl true 5 [(.agg [(.int .i64 1), (.str []), (.int .i64 0), (.str [110]), (.sl true 0 [])]), (.agg [(.int .i64 0), (.str []), (.int .i64 0), (.str []), (.sl true 0 [])])])])]), (.sl false 7 [(.agg [(.int .i64 3), (.int .i64 0), (.str [114]), (.str [102]), (.sl false 5 [(.agg [(.int .i64 4), (.str [45]), (.int .i64 0), (.str []), (.sl true 5 [(.agg [(.int .i64 1), (.str []), (.int .i64 0), (.str [110]), (.sl true 0 [])]), (.agg [(.int .i64 0), (.str []), (.int .i64 1), (.str []), (.sl true 0 [])])])])]), (.sl true 0 []), (.sl true 0 [])]), (.agg [(.int .i64 8), (.int .i64 0), (.str []), (.str []), (.sl true 5 [(.agg [(.int .i64 4), (.str [43]), (.int .i64 0), (.str []), (.sl true 5 [(.agg [(.int .i64 1), (.str []), (.int .i64 0), (.str [114]), (.sl true 0 [])]), (.agg [(.int .i64 1), (.str []), (.int .i64 0), (.str [110]), (.sl true 0 [])])])])]), (.sl true 0 []), (.sl true 0 [])])]), (.sl true 0 [])]), (.agg [(.int .i64 8), (.int .i64 0), (.str []), (.str []), (.sl true 5 [(.agg [(.int .i64 0), (.str []), (.int .i64 0), (.str []), (.sl true 0 [])])]), (.sl true 0 []), (.sl true 0 [])])])]), (.agg [(.str [109, 97, 105, 110]), (.sl true 0 []), (.sl false 2 [(.agg [(.str [120]), (.int .i64 0)]), (.agg [(.str [121]), (.int .i64 0)])]), (.sl false 7 [(.agg [(.int .i64 2), (.int .i64 0), (.str [120]), (.str []), (.sl true 0 []), (.sl true 0 []), (.sl true 0 [])]), (.agg [(.int .i64 3), (.int .i64 0), (.str [121]), (.str [102]), (.sl false 5 [(.agg [(.int .i64 1), (.str []), (.int .i64 0), (.str [120]), (.sl true 0 [])])]), (.sl true 0 []), (.sl true 0 [])]), (.agg [(.int .i64 0), (.int .i64 1), (.str [121]), (.str []), (.sl true 5 [(.agg [(.int .i64 4), (.str [43]), (.int .i64 0), (.str []), (.sl true 5 [(.agg [(.int .i64 1), (.str []), (.int .i64 0), (.str [121]), (.sl true 0 [])]), (.agg [(.int .i64 0), (.str []), (.int .i64 1), (.str []), (.sl true 0 [])])])])]), (.sl true 0 []), (.sl true 0 [])]), (.agg [(.int .i64 5), (.int .i64 0), (.str []), (.str []), (.sl true 5 [(.agg [(.int .i64 0), (.str []), (.int .i64 1), (.str []), (.sl true 0 [])])]), (.sl false 7 [(.agg [(.int .i64 6), (.int .i64 0), (.str []), (.str []), (.sl true 0 []), (.sl true 0 []), (.sl true 0 [])])]), (.sl true 0 [])]), (.agg [(.int .i64 0), (.int .i64 2), (.str [120]), (.str []), (.sl true 5 [(.agg [(.int .i64 4), (.str [47]), (.int .i64 0), (.str []), (.sl true 5 [(.agg [(.int .i64 1), (.str []), (.int .i64 0), (.str [121]), (.sl true 0 [])]), (.agg [(.int .i64 0), (.str []), (.int .i64 0), (.str []), (.sl true 0 [])])])])]), (.sl true 0 []), (.sl true 0 [])])])])])]))
theorem E08r47_0 : runK BkE082 1000 70 47 E08e47_0.1 E08e47_0.2.1 = some E08e47_0.2.2 := by kernel_rfl
end Go.Proofs.YtkinbnepkpoofaaGreatDoor
/- A table of runs. -/
set_option maxRecDepth 1000000
set_option linter.unusedVariables false
open Go Go.AM
namespace Go.Proofs.YtkinbnepkpoofaaGreatDoor
def E08tab47 : Tabl := [E08e47_0]
theorem E08tab47_ok : OkZ Tryz.prog 47 (tabSz E08tab47) := tab_ok (runK_ok hT hm BkE082_ok 70 47) (by
 refine List.forall_mem_cons.2 ⟨E08r47_0, ?_⟩
 exact fun _ h => nomatch h)
end Go.Proofs.YtkinbnepkpoofaaGreatDoor
/- What is known: a book. -/
set_option maxRecDepth 1000000
set_option linter.unusedVariables false
open Go Go.AM
namespace Go.Proofs.YtkinbnepkpoofaaGreatDoor
noncomputable def BkE083 : BookR Tryz.prog T := bookR Tryz.prog T (fun f => Nat.beq f 132) ((47, tabSz E08tab47) :: (143, tabSz E08tab143) :: (178, tabSz E08tab178) :: known)
theorem BkE083_ok : BkE083.ok := bookR_ok hn (by
 refine List.forall_mem_cons.2 ⟨E08tab47_ok, ?_⟩
 refine List.forall_mem_cons.2 ⟨E08tab143_ok, ?_⟩
 refine List.forall_mem_cons.2 ⟨E08tab178_ok, ?_⟩
 exact known_ok)
end Go.Proofs.YtkinbnepkpoofaaGreatDoor
/- Runs. -/
set_option maxRecDepth 1000000
set_option linter.unusedVariables false
open Go Go.AM
namespace Go.Proofs.YtkinbnepkpoofaaGreatDoor
def E08e213_0 : List AV × Heap × (Bool × AV × Heap) := ([(.im (.agg [(.int .i64 1), (.str []), (.int .i64 0), (.str [110]), (.sl true 0 [])]))], [], (false, (.im (.bool true)), []))
theorem E08r213_0 : runK BkE083 1000 70 213 E08e213_0.1 E08e213_0.2.1 = some E08e213_0.2.2 := by kernel_rfl
def E08e213_1 : List AV × Heap × (Bool × AV × Heap) := ([(.im (.agg [(.int .i64 0), (.str []), (.int .i64 0), (.str []), (.sl true 0 [])]))], [], (false, (.im (.bool true)), []))
theorem E08r213_1 : runK BkE083 1000 70 213 E08e213_1.1 E08e213_1.2.1 = some E08e213_1.2.2 := by kernel_rfl
def E08e213_2 : List AV × Heap × (Bool × AV × Heap) := ([(.im (.agg [(.int .i64 4), (.str [62]), (.int .i64 0), (.str []), (.sl true 5 [(.agg [(.int .i64 1), (.str []), (.int .i64 0), (.str [110]), (.sl true 0 [])]), (.agg [(.int .i64 0), (.str []), (.int .i64 0), (.str []), (.sl true 0 [])])])]))], [], (false, (.im (.bool true)), []))
theorem E08r213_2 : runK BkE083 1000 70 213 E08e213_2.1 E08e213_2.2.1 = some E08e213_2.2.2 := by kernel_rfl
def E08e213_3 : List AV × Heap × (Bool × AV × Heap) := ([(.im (.agg [(.int .i64 0), (.str []), (.int .i64 1), (.str []), (.sl true 0 [])]))], [], (false, (.im (.bool true)), []))
theorem E08r213_3 : runK BkE083 1000 70 213 E08e213_3.1 E08e213_3.2.1 = some E08e213_3.2.2 := by kernel_rfl
def E08e213_4 : List AV × Heap × (Bool × AV × Heap) := ([(.im (.agg [(.int .i64 4), (.str [45]), (.int .i64 0), (.str []), (.sl true 5 [(.agg [(.int .i64 1), (.str []), (.int .i64 0), (.str [110]), (.sl true 0 [])]), (.agg [(.int .i64 0), (.str []), (.int .i64 1), (.str []), (.sl true 0 [])])])]))], [], (false, (.im (.bool true)), []))
theorem E08r213_4 : runK BkE083 1000 70 213 E08e213_4.1 E08e213_4.2.1 = some E08e213_4.2.2 := by kernel_rfl
def E08e213_5 : List AV × Heap × (Bool × AV × Heap) := ([(.im (.agg [(.int .i64 1), (.str []), (.int .i64 0), (.str [114]), (.sl true 0 [])]))], [], (false, (.im (.bool true)), []))
theorem E08r213_5 : runK BkE083 1000 70 213 E08e213_5.1 E08e213_5.2.1 = some E08e213_5.2.2 := by kernel_rfl
def E08e213_6 : List AV × Heap × (Bool × AV × Heap) := ([(.im (.agg [(.int .i64 4), (.str [43]), (.int .i64 0), (.str []), (.sl true 5 [(.agg [(.int .i64 1), (.str []), (.int .i64 0), (.str [114]), (.sl true 0 [])]), (.agg [(.int .i64 1), (.str []), (.int .i64 0), (.str [110]), (.sl true 0 [])])])]))], [], (false, (.im (.bool true)), []))
theorem E08r213_6 : runK BkE083 1000 70 213 E08e213_6.1 E08e213_6.2.1 = some E08e213_6.2.2 := by kernel_rfl
def E08e213_7 : List AV × Heap × (Bool × AV × Heap) := ([(.im (.agg [(.int .i64 1), (.str []), (.int .i64 0), (.str [120]), (.sl true 0 [])]))], [], (false, (.im (.bool true)), []))
theorem E08r213_7 : runK BkE083 1000 70 213 E08e213_7.1 E08e213_7.2.1 = some E08e213_7.2.2 := by kernel_rfl
def E08e213_8 : List AV × Heap × (Bool × AV × Heap) := ([(.im (.agg [(.int .i64 1), (.str []), (.int .i64 0), (.str [121]), (.sl true 0 [])]))], [], (false, (.im (.bool true)), []))
theorem E08r213_8 : runK BkE083 1000 70 213 E08e213_8.1 E08e213_8.2.1 = some E08e213_8.2.2 := by kernel_rfl
def E08e213_9 : List AV × Heap × (Bool × AV × Heap) := ([(.im (.agg [(.int .i64 4), (.str [43]), (.int .i64 0), (.str []), (.sl true 5 [(.agg [(.int .i64 1), (.str []), (.int .i64 0), (.str [121]), (.sl true 0 [])]), (.agg [(.int .i64 0), (.str []), (.int .i64 1), (.str []), (.sl true 0 [])])])]))], [], (false, (.im (.bool true)), []))
theorem E08r213_9 : runK BkE083 1000 70 213 E08e213_9.1 E08e213_9.2.1 = some E08e213_9.2.2 := by kernel_rfl
def E08e213_10 : List AV × Heap × (Bool × AV × Heap) := ([(.im (.agg [(.int .i64 4), (.str [47]), (.int .i64 0), (.str []), (.sl true 5 [(.agg [(.int .i64 1), (.str []), (.int .i64 0), (.str [121]), (.sl true 0 [])]), (.agg [(.int .i64 0), (.str []), (.int .i64 0), (.str []), (.sl true 0 [])])])]))], [], (false, (.im (.bool true)), []))
theorem E08r213_10 : runK BkE083 1000 70 213 E08e213_10.1 E08e213_10.2.1 = some E08e213_10.2.2 := by kernel_rfl
end Go.Proofs.YtkinbnepkpoofaaGreatDoor
/- A table of runs. -/
set_option maxRecDepth 1000000
set_option linter.unusedVariables false
open Go Go.AM
namespace Go.Proofs.YtkinbnepkpoofaaGreatDoor
def E08tab213 : Tabl := [E08e213_0, E08e213_1, E08e213_2, E08e213_3, E08e213_4, E08e213_5, E08e213_6, E08e213_7, E08e213_8, E08e213_9, E08e213_10]
theorem E08tab213_ok : OkZ Tryz.prog 213 (tabSz E08tab213) := tab_ok (runK_ok hT hm BkE083_ok 70 213) (by
 refine List.forall_mem_cons.2 ⟨E08r213_0, ?_⟩
 refine List.forall_mem_cons.2 ⟨E08r213_1, ?_⟩
 refine List.forall_mem_cons.2 ⟨E08r213_2, ?_⟩
 refine List.forall_mem_cons.2 ⟨E08r213_3, ?_⟩
 refine List.forall_mem_cons.2 ⟨E08r213_4, ?_⟩
 refine List.forall_mem_cons.2 ⟨E08r213_5, ?_⟩
 refine List.forall_mem_cons.2 ⟨E08r213_6, ?_⟩
 refine List.forall_mem_cons.2 ⟨E08r213_7, ?_⟩
 refine List.forall_mem_cons.2 ⟨E08r213_8, ?_⟩
 refine List.forall_mem_cons.2 ⟨E08r213_9, ?_⟩
 refine List.forall_mem_cons.2 ⟨E08r213_10, ?_⟩
 exact fun _ h => nomatch h)
end Go.Proofs.YtkinbnepkpoofaaGreatDoor