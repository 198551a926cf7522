/- Texts joined into one: RCG22. -/
import Derived.Test.YtkinbnepkpoofaaGreatDoorQz
/- Runs of some numbers. -/
set_option maxRecDepth 1000000
set_option linter.unusedVariables false
open Go Go.AM
namespace Go.Proofs.YtkinbnepkpoofaaGreatDoor
def RCe469 : Ent := ([RCc220], [], (false, (.tup [(.im (.int .i64 0)), (.im (.int .i64 (-1)))]), []))
theorem RCr469 : rE (gB RCL5) 18 RCe469 = some RCe469.2.2 := by kernel_rfl
def RCe470 : Ent := ([RCc222], [], (false, (.tup [(.im (.int .i64 0)), (.im (.int .i64 (-1)))]), []))
theorem RCr470 : rE (gB RCL5) 18 RCe470 = some RCe470.2.2 := by kernel_rfl
def RCa22 : Tabl := [RCe469, RCe470]
theorem RCa22_ok : OkZ Tryz.prog 18 (tabSz RCa22) := gT RCL5_ok (fA RCr469 <| fA RCr470 <| nA)
noncomputable def RCM22_0 : List (Nat × Sz) := (18, tabSz RCa22) :: RCL5
theorem RCM22_0_ok : ∀ p ∈ RCM22_0, OkZ Tryz.prog p.1 p.2 := fA RCa22_ok <| RCL5_ok
def RCe471 : Ent := ([(.ptr 0 0 0), RCc69, (.im (.int .i64 1))], [some RCc70, some (.m 9 [(.agg [RCc223, (.im (.sl true 0 [])), (.im (.int .i64 1000)), (.im (.int .i64 28)), (.fn (.func 75) [] [(.ptr 2 0 0), (.ptr 3 0 0), (.ptr 4 0 0)]), (.im (.int .i64 0)), (.im (.int .i64 55)), (.im (.int .i64 0)), (.im (.sl true 0 []))])]), some (.c 1 [(.int .i64 1)]), some RCc73, some (.m 1 [(.ptr 1 0 0)]), some (.m 1 [(.ref 6 0 2)]), some RCc74, some (.c 1 [(.int .i64 28)]), some (.c 1 [(.int .i64 0)])], (true, RCc118, [some RCc70, some RCc224, some (.c 1 [(.int .i64 1)]), some RCc73, some (.m 1 [(.ptr 1 0 0)]), some (.m 1 [(.ref 6 0 2)]), some RCc74, some (.c 1 [(.int .i64 28)]), some (.c 1 [(.int .i64 0)])]))
theorem RCr471 : rE (gB RCM22_0) 220 RCe471 = some RCe471.2.2 := by kernel_rfl
def RCb22_0 : Tabl := [RCe471]
theorem RCb22_0_ok : OkZ Tryz.prog 220 (tabSz RCb22_0) := gT RCM22_0_ok (fA RCr471 <| nA)
noncomputable def RCM22_1 : List (Nat × Sz) := (220, tabSz RCb22_0) :: (18, tabSz RCa22) :: RCL5
theorem RCM22_1_ok : ∀ p ∈ RCM22_1, OkZ Tryz.prog p.1 p.2 := fA RCb22_0_ok <| fA RCa22_ok <| RCL5_ok
def RCe472 : Ent := ([(.ptr 0 0 0), RCc69, (.im (.int .i64 1))], [some RCc70, some (.m 9 [(.agg [RCc223, (.im (.sl true 0 [])), (.im (.int .i64 1000)), (.im (.int .i64 23)), (.fn (.func 75) [] [(.ptr 2 0 0), (.ptr 3 0 0), (.ptr 4 0 0)]), (.im (.int .i64 0)), (.im (.int .i64 45)), (.im (.int .i64 0)), (.im (.sl true 0 []))])]), some (.c 1 [(.int .i64 1)]), some RCc73, some (.m 1 [(.ptr 1 0 0)]), some (.m 1 [(.ref 6 0 2)]), some RCc74, some (.c 1 [(.int .i64 33)]), some (.c 1 [(.int .i64 0)])], (true, RCc118, [some RCc70, some RCc224, some (.c 1 [(.int .i64 1)]), some RCc73, some (.m 1 [(.ptr 1 0 0)]), some (.m 1 [(.ref 6 0 2)]), some RCc74, some (.c 1 [(.int .i64 33)]), some (.c 1 [(.int .i64 0)])]))
theorem RCr472 : rE (gB RCM22_1) 220 RCe472 = some RCe472.2.2 := by kernel_rfl
def RCb22_1 : Tabl := [RCe472]
theorem RCb22_1_ok : OkZ Tryz.prog 220 (tabSz RCb22_1) := gT RCM22_1_ok (fA RCr472 <| nA)
noncomputable def RCM22_2 : List (Nat × Sz) := (220, tabSz RCb22_1) :: (18, tabSz RCa22) :: RCL5
theorem RCM22_2_ok : ∀ p ∈ RCM22_2, OkZ Tryz.prog p.1 p.2 := fA RCb22_1_ok <| fA RCa22_ok <| RCL5_ok
def RCe473 : Ent := ([(.ptr 0 0 0), RCc69, (.im (.int .i64 1))], [some RCc70, some (.m 9 [(.agg [RCc223, (.im (.sl true 0 [])), (.im (.int .i64 1000)), (.im (.int .i64 18)), (.fn (.func 75) [] [(.ptr 2 0 0), (.ptr 3 0 0), (.ptr 4 0 0)]), (.im (.int .i64 0)), (.im (.int .i64 35)), (.im (.int .i64 0)), (.im (.sl true 0 []))])]), some (.c 1 [(.int .i64 1)]), some RCc73, some (.m 1 [(.ptr 1 0 0)]), some (.m 1 [(.ref 6 0 2)]), some RCc74, some (.c 1 [(.int .i64 38)]), some (.c 1 [(.int .i64 0)])], (true, RCc118, [some RCc70, some RCc224, some (.c 1 [(.int .i64 1)]), some RCc73, some (.m 1 [(.ptr 1 0 0)]), some (.m 1 [(.ref 6 0 2)]), some RCc74, some (.c 1 [(.int .i64 38)]), some (.c 1 [(.int .i64 0)])]))
theorem RCr473 : rE (gB RCM22_2) 220 RCe473 = some RCe473.2.2 := by kernel_rfl
def RCb22_2 : Tabl := [RCe473]
theorem RCb22_2_ok : OkZ Tryz.prog 220 (tabSz RCb22_2) := gT RCM22_2_ok (fA RCr473 <| nA)
noncomputable def RCM22_3 : List (Nat × Sz) := (220, tabSz RCb22_2) :: (18, tabSz RCa22) :: RCL5
theorem RCM22_3_ok : ∀ p ∈ RCM22_3, OkZ Tryz.prog p.1 p.2 := fA RCb22_2_ok <| fA RCa22_ok <| RCL5_ok
def RCe474 : Ent := ([(.ptr 0 0 0), RCc69, (.im (.int .i64 1))], [some RCc70, some (.m 9 [(.agg [RCc223, (.im (.sl true 0 [])), (.im (.int .i64 1000)), (.im (.int .i64 13)), (.fn (.func 75) [] [(.ptr 2 0 0), (.ptr 3 0 0), (.ptr 4 0 0)]), (.im (.int .i64 0)), (.im (.int .i64 25)), (.im (.int .i64 0)), (.im (.sl true 0 []))])]), some (.c 1 [(.int .i64 1)]), some RCc73, some (.m 1 [(.ptr 1 0 0)]), some (.m 1 [(.ref 6 0 2)]), some RCc74, some (.c 1 [(.int .i64 43)]), some (.c 1 [(.int .i64 0)])], (true, RCc118, [some RCc70, some RCc224, some (.c 1 [(.int .i64 1)]), some RCc73, some (.m 1 [(.ptr 1 0 0)]), some (.m 1 [(.ref 6 0 2)]), some RCc74, some (.c 1 [(.int .i64 43)]), some (.c 1 [(.int .i64 0)])]))
theorem RCr474 : rE (gB RCM22_3) 220 RCe474 = some RCe474.2.2 := by kernel_rfl
def RCb22_3 : Tabl := [RCe474]
theorem RCb22_3_ok : OkZ Tryz.prog 220 (tabSz RCb22_3) := gT RCM22_3_ok (fA RCr474 <| nA)
noncomputable def RCM22_4 : List (Nat × Sz) := (220, tabSz RCb22_3) :: (18, tabSz RCa22) :: RCL5
theorem RCM22_4_ok : ∀ p ∈ RCM22_4, OkZ Tryz.prog p.1 p.2 := fA RCb22_3_ok <| fA RCa22_ok <| RCL5_ok
def RCe475 : Ent := ([(.ptr 0 0 0), RCc69, (.im (.int .i64 1))], [some RCc70, some (.m 9 [(.agg [RCc223, (.im (.sl true 0 [])), (.im (.int .i64 1000)), (.im (.int .i64 8)), (.fn (.func 75) [] [(.ptr 2 0 0), (.ptr 3 0 0), (.ptr 4 0 0)]), (.im (.int .i64 0)), (.im (.int .i64 15)), (.im (.int .i64 0)), (.im (.sl true 0 []))])]), some (.c 1 [(.int .i64 1)]), some RCc73, some (.m 1 [(.ptr 1 0 0)]), some (.m 1 [(.ref 6 0 2)]), some RCc74, some (.c 1 [(.int .i64 48)]), some (.c 1 [(.int .i64 0)])], (true, RCc118, [some RCc70, some RCc224, some (.c 1 [(.int .i64 1)]), some RCc73, some (.m 1 [(.ptr 1 0 0)]), some (.m 1 [(.ref 6 0 2)]), some RCc74, some (.c 1 [(.int .i64 48)]), some (.c 1 [(.int .i64 0)])]))
theorem RCr475 : rE (gB RCM22_4) 220 RCe475 = some RCe475.2.2 := by kernel_rfl
def RCb22_4 : Tabl := [RCe475]
theorem RCb22_4_ok : OkZ Tryz.prog 220 (tabSz RCb22_4) := gT RCM22_4_ok (fA RCr475 <| nA)
noncomputable def RCM22_5 : List (Nat × Sz) := (220, tabSz RCb22_4) :: (18, tabSz RCa22) :: RCL5
theorem RCM22_5_ok : ∀ p ∈ RCM22_5, OkZ Tryz.prog p.1 p.2 := fA RCb22_4_ok <| fA RCa22_ok <| RCL5_ok
def RCe476 : Ent := ([(.ptr 0 0 0), RCc69, (.im (.int .i64 1))], [some RCc70, some (.m 9 [(.agg [RCc225, (.im (.sl true 0 [])), (.im (.int .i64 1000)), (.im (.int .i64 3)), (.fn (.func 75) [] [(.ptr 2 0 0), (.ptr 3 0 0), (.ptr 4 0 0)]), (.im (.int .i64 0)), (.im (.int .i64 5)), (.im (.int .i64 0)), (.im (.sl true 0 []))])]), some (.c 1 [(.int .i64 1)]), some RCc73, some (.m 1 [(.ptr 1 0 0)]), some (.m 1 [(.ref 6 0 2)]), some RCc74, some (.c 1 [(.int .i64 4)]), some (.c 1 [(.int .i64 0)])], (false, (.im (.int .i64 0)), [some RCc70, some (.m 9 [(.agg [RCc225, (.im (.sl true 0 [])), (.im (.int .i64 1000)), (.im (.int .i64 3)), (.fn (.func 75) [] [(.ptr 2 0 0), (.ptr 3 0 0), (.ptr 4 0 0)]), (.im (.int .i64 0)), (.im (.int .i64 16)), (.im (.int .i64 0)), (.im (.sl true 0 []))])]), some (.c 1 [(.int .i64 1)]), some RCc73, some (.m 1 [(.ptr 1 0 0)]), some (.m 1 [(.ref 6 0 2)]), some RCc74, some (.c 1 [(.int .i64 4)]), some (.c 1 [(.int .i64 6)])]))
theorem RCr476 : rE (gB RCM22_5) 220 RCe476 = some RCe476.2.2 := by kernel_rfl
def RCe477 : Ent := ([(.ptr 0 0 0), RCc69, (.im (.int .i64 1))], [some RCc70, some (.m 9 [(.agg [RCc223, (.im (.sl true 0 [])), (.im (.int .i64 1000)), (.im (.int .i64 3)), (.fn (.func 75) [] [(.ptr 2 0 0), (.ptr 3 0 0), (.ptr 4 0 0)]), (.im (.int .i64 0)), (.im (.int .i64 5)), (.im (.int .i64 0)), (.im (.sl true 0 []))])]), some (.c 1 [(.int .i64 1)]), some RCc73, some (.m 1 [(.ptr 1 0 0)]), some (.m 1 [(.ref 6 0 2)]), some RCc74, some (.c 1 [(.int .i64 53)]), some (.c 1 [(.int .i64 0)])], (true, RCc118, [some RCc70, some RCc224, some (.c 1 [(.int .i64 1)]), some RCc73, some (.m 1 [(.ptr 1 0 0)]), some (.m 1 [(.ref 6 0 2)]), some RCc74, some (.c 1 [(.int .i64 53)]), some (.c 1 [(.int .i64 0)])]))
theorem RCr477 : rE (gB RCM22_5) 220 RCe477 = some RCe477.2.2 := by kernel_rfl
def RCb22_5 : Tabl := [RCe476, RCe477]
theorem RCb22_5_ok : OkZ Tryz.prog 220 (tabSz RCb22_5) := gT RCM22_5_ok (fA RCr476 <| fA RCr477 <| nA)
noncomputable def RCM22_6 : List (Nat × Sz) := (220, tabSz RCb22_5) :: (18, tabSz RCa22) :: RCL5
theorem RCM22_6_ok : ∀ p ∈ RCM22_6, OkZ Tryz.prog p.1 p.2 := fA RCb22_5_ok <| fA RCa22_ok <| RCL5_ok
def RCe478 : Ent := ([RCc220, (.im (.sl true 0 [])), (.im (.int .i64 1000)), (.im (.int .i64 1)), RCc76], [], (false, (.tup [(.agg [(.im (.int .i64 0)), (.im (.int .i64 19)), (.im (.int .i64 (-1))), (.ref 0 0 1)]), (.im (.int .i64 0))]), [some (.c 1 [(.sl false 1 [(.int .i64 15)])])]))
theorem RCr478 : rE (gB RCM22_6) 33 RCe478 = some RCe478.2.2 := by kernel_rfl
def RCe479 : Ent := ([RCc222, (.im (.sl true 0 [])), (.im (.int .i64 1000)), (.im (.int .i64 1)), RCc76], [], (false, (.tup [(.im (.agg [(.int .i64 5), (.int .i64 79), (.int .i64 0), (.sl true 0 [])])), (.im (.int .i64 0))]), []))
theorem RCr479 : rE (gB RCM22_6) 33 RCe479 = some RCe479.2.2 := by kernel_rfl
def RCb22_6 : Tabl := [RCe478, RCe479]
theorem RCb22_6_ok : OkZ Tryz.prog 33 (tabSz RCb22_6) := gT RCM22_6_ok (fA RCr478 <| fA RCr479 <| nA)
def RCz22 : Tabl := RCb22_6
theorem RCz22_ok : OkZ Tryz.prog 33 (tabSz RCz22) := RCb22_6_ok
end Go.Proofs.YtkinbnepkpoofaaGreatDoor