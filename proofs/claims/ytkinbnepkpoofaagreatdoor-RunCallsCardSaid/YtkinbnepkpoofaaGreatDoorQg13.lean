/- Texts joined into one: RCG13. -/
import Derived.Test.YtkinbnepkpoofaaGreatDoorQz
/- Runs of some numbers. -/
set_option maxRecDepth 1000000
set_option linter.unusedVariables false
open Go Go.AM
namespace Go.Proofs.YtkinbnepkpoofaaGreatDoor
def RCe359 : Ent := ([RCc157], [], (false, (.tup [(.im (.int .i64 0)), (.im (.int .i64 (-1)))]), []))
theorem RCr359 : rE (gB RCL5) 18 RCe359 = some RCe359.2.2 := by kernel_rfl
def RCe360 : Ent := ([RCc159], [], (false, (.tup [(.im (.int .i64 0)), (.im (.int .i64 (-1)))]), []))
theorem RCr360 : rE (gB RCL5) 18 RCe360 = some RCe360.2.2 := by kernel_rfl
def RCa13 : Tabl := [RCe359, RCe360]
theorem RCa13_ok : OkZ Tryz.prog 18 (tabSz RCa13) := gT RCL5_ok (fA RCr359 <| fA RCr360 <| nA)
noncomputable def RCM13_0 : List (Nat × Sz) := (18, tabSz RCa13) :: RCL5
theorem RCM13_0_ok : ∀ p ∈ RCM13_0, OkZ Tryz.prog p.1 p.2 := fA RCa13_ok <| RCL5_ok
def RCe361 : Ent := ([(.ptr 0 0 0), RCc69, (.im (.int .i64 1))], [some RCc70, some (.m 9 [(.agg [RCc160, (.im (.sl true 0 [])), (.im (.int .i64 1000)), (.im (.int .i64 28)), (.fn (.func 75) [] [(.ptr 2 0 0), (.ptr 3 0 0), (.ptr 4 0 0)]), (.im (.int .i64 0)), (.im (.int .i64 55)), (.im (.int .i64 0)), (.im (.sl true 0 []))])]), some (.c 1 [(.int .i64 1)]), some RCc73, some (.m 1 [(.ptr 1 0 0)]), some (.m 1 [(.ref 6 0 2)]), some RCc74, some (.c 1 [(.int .i64 19)]), some (.c 1 [(.int .i64 0)])], (true, RCc118, [some RCc70, some RCc161, some (.c 1 [(.int .i64 1)]), some RCc73, some (.m 1 [(.ptr 1 0 0)]), some (.m 1 [(.ref 6 0 2)]), some RCc74, some (.c 1 [(.int .i64 19)]), some (.c 1 [(.int .i64 0)])]))
theorem RCr361 : rE (gB RCM13_0) 220 RCe361 = some RCe361.2.2 := by kernel_rfl
def RCb13_0 : Tabl := [RCe361]
theorem RCb13_0_ok : OkZ Tryz.prog 220 (tabSz RCb13_0) := gT RCM13_0_ok (fA RCr361 <| nA)
noncomputable def RCM13_1 : List (Nat × Sz) := (220, tabSz RCb13_0) :: (18, tabSz RCa13) :: RCL5
theorem RCM13_1_ok : ∀ p ∈ RCM13_1, OkZ Tryz.prog p.1 p.2 := fA RCb13_0_ok <| fA RCa13_ok <| RCL5_ok
def RCe362 : Ent := ([(.ptr 0 0 0), RCc69, (.im (.int .i64 1))], [some RCc70, some (.m 9 [(.agg [RCc160, (.im (.sl true 0 [])), (.im (.int .i64 1000)), (.im (.int .i64 23)), (.fn (.func 75) [] [(.ptr 2 0 0), (.ptr 3 0 0), (.ptr 4 0 0)]), (.im (.int .i64 0)), (.im (.int .i64 45)), (.im (.int .i64 0)), (.im (.sl true 0 []))])]), some (.c 1 [(.int .i64 1)]), some RCc73, some (.m 1 [(.ptr 1 0 0)]), some (.m 1 [(.ref 6 0 2)]), some RCc74, some (.c 1 [(.int .i64 24)]), some (.c 1 [(.int .i64 0)])], (true, RCc118, [some RCc70, some RCc161, some (.c 1 [(.int .i64 1)]), some RCc73, some (.m 1 [(.ptr 1 0 0)]), some (.m 1 [(.ref 6 0 2)]), some RCc74, some (.c 1 [(.int .i64 24)]), some (.c 1 [(.int .i64 0)])]))
theorem RCr362 : rE (gB RCM13_1) 220 RCe362 = some RCe362.2.2 := by kernel_rfl
def RCb13_1 : Tabl := [RCe362]
theorem RCb13_1_ok : OkZ Tryz.prog 220 (tabSz RCb13_1) := gT RCM13_1_ok (fA RCr362 <| nA)
noncomputable def RCM13_2 : List (Nat × Sz) := (220, tabSz RCb13_1) :: (18, tabSz RCa13) :: RCL5
theorem RCM13_2_ok : ∀ p ∈ RCM13_2, OkZ Tryz.prog p.1 p.2 := fA RCb13_1_ok <| fA RCa13_ok <| RCL5_ok
def RCe363 : Ent := ([(.ptr 0 0 0), RCc69, (.im (.int .i64 1))], [some RCc70, some (.m 9 [(.agg [RCc160, (.im (.sl true 0 [])), (.im (.int .i64 1000)), (.im (.int .i64 18)), (.fn (.func 75) [] [(.ptr 2 0 0), (.ptr 3 0 0), (.ptr 4 0 0)]), (.im (.int .i64 0)), (.im (.int .i64 35)), (.im (.int .i64 0)), (.im (.sl true 0 []))])]), some (.c 1 [(.int .i64 1)]), some RCc73, some (.m 1 [(.ptr 1 0 0)]), some (.m 1 [(.ref 6 0 2)]), some RCc74, some (.c 1 [(.int .i64 29)]), some (.c 1 [(.int .i64 0)])], (true, RCc118, [some RCc70, some RCc161, some (.c 1 [(.int .i64 1)]), some RCc73, some (.m 1 [(.ptr 1 0 0)]), some (.m 1 [(.ref 6 0 2)]), some RCc74, some (.c 1 [(.int .i64 29)]), some (.c 1 [(.int .i64 0)])]))
theorem RCr363 : rE (gB RCM13_2) 220 RCe363 = some RCe363.2.2 := by kernel_rfl
def RCb13_2 : Tabl := [RCe363]
theorem RCb13_2_ok : OkZ Tryz.prog 220 (tabSz RCb13_2) := gT RCM13_2_ok (fA RCr363 <| nA)
noncomputable def RCM13_3 : List (Nat × Sz) := (220, tabSz RCb13_2) :: (18, tabSz RCa13) :: RCL5
theorem RCM13_3_ok : ∀ p ∈ RCM13_3, OkZ Tryz.prog p.1 p.2 := fA RCb13_2_ok <| fA RCa13_ok <| RCL5_ok
def RCe364 : Ent := ([(.ptr 0 0 0), RCc69, (.im (.int .i64 1))], [some RCc70, some (.m 9 [(.agg [RCc162, (.im (.sl true 0 [])), (.im (.int .i64 1000)), (.im (.int .i64 13)), (.fn (.func 75) [] [(.ptr 2 0 0), (.ptr 3 0 0), (.ptr 4 0 0)]), (.im (.int .i64 0)), (.im (.int .i64 25)), (.im (.int .i64 0)), (.im (.sl true 0 []))])]), some (.c 1 [(.int .i64 1)]), some RCc73, some (.m 1 [(.ptr 1 0 0)]), some (.m 1 [(.ref 6 0 2)]), some RCc74, some (.c 1 [(.int .i64 3)]), some (.c 1 [(.int .i64 0)])], (false, (.im (.int .i64 0)), [some RCc70, some (.m 9 [(.agg [RCc162, (.im (.sl true 0 [])), (.im (.int .i64 1000)), (.im (.int .i64 13)), (.fn (.func 75) [] [(.ptr 2 0 0), (.ptr 3 0 0), (.ptr 4 0 0)]), (.im (.int .i64 0)), (.im (.int .i64 33)), (.im (.int .i64 0)), (.im (.sl true 0 []))])]), some (.c 1 [(.int .i64 1)]), some RCc73, some (.m 1 [(.ptr 1 0 0)]), some (.m 1 [(.ref 6 0 2)]), some RCc74, some (.c 1 [(.int .i64 3)]), some (.c 1 [(.int .i64 3)])]))
theorem RCr364 : rE (gB RCM13_3) 220 RCe364 = some RCe364.2.2 := by kernel_rfl
def RCe365 : Ent := ([(.ptr 0 0 0), RCc69, (.im (.int .i64 1))], [some RCc70, some (.m 9 [(.agg [RCc160, (.im (.sl true 0 [])), (.im (.int .i64 1000)), (.im (.int .i64 13)), (.fn (.func 75) [] [(.ptr 2 0 0), (.ptr 3 0 0), (.ptr 4 0 0)]), (.im (.int .i64 0)), (.im (.int .i64 25)), (.im (.int .i64 0)), (.im (.sl true 0 []))])]), some (.c 1 [(.int .i64 1)]), some RCc73, some (.m 1 [(.ptr 1 0 0)]), some (.m 1 [(.ref 6 0 2)]), some RCc74, some (.c 1 [(.int .i64 34)]), some (.c 1 [(.int .i64 0)])], (true, RCc118, [some RCc70, some RCc161, some (.c 1 [(.int .i64 1)]), some RCc73, some (.m 1 [(.ptr 1 0 0)]), some (.m 1 [(.ref 6 0 2)]), some RCc74, some (.c 1 [(.int .i64 34)]), some (.c 1 [(.int .i64 0)])]))
theorem RCr365 : rE (gB RCM13_3) 220 RCe365 = some RCe365.2.2 := by kernel_rfl
def RCb13_3 : Tabl := [RCe364, RCe365]
theorem RCb13_3_ok : OkZ Tryz.prog 220 (tabSz RCb13_3) := gT RCM13_3_ok (fA RCr364 <| fA RCr365 <| nA)
noncomputable def RCM13_4 : List (Nat × Sz) := (220, tabSz RCb13_3) :: (18, tabSz RCa13) :: RCL5
theorem RCM13_4_ok : ∀ p ∈ RCM13_4, OkZ Tryz.prog p.1 p.2 := fA RCb13_3_ok <| fA RCa13_ok <| RCL5_ok
def RCe366 : Ent := ([(.ptr 0 0 0), RCc69, (.im (.int .i64 1))], [some RCc70, some (.m 9 [(.agg [RCc162, (.im (.sl true 0 [])), (.im (.int .i64 1000)), (.im (.int .i64 8)), (.fn (.func 75) [] [(.ptr 2 0 0), (.ptr 3 0 0), (.ptr 4 0 0)]), (.im (.int .i64 0)), (.im (.int .i64 15)), (.im (.int .i64 0)), (.im (.sl true 0 []))])]), some (.c 1 [(.int .i64 1)]), some RCc73, some (.m 1 [(.ptr 1 0 0)]), some (.m 1 [(.ref 6 0 2)]), some RCc74, some (.c 1 [(.int .i64 8)]), some (.c 1 [(.int .i64 0)])], (false, (.im (.int .i64 0)), [some RCc70, some (.m 9 [(.agg [RCc162, (.im (.sl true 0 [])), (.im (.int .i64 1000)), (.im (.int .i64 8)), (.fn (.func 75) [] [(.ptr 2 0 0), (.ptr 3 0 0), (.ptr 4 0 0)]), (.im (.int .i64 0)), (.im (.int .i64 38)), (.im (.int .i64 0)), (.im (.sl true 0 []))])]), some (.c 1 [(.int .i64 1)]), some RCc73, some (.m 1 [(.ptr 1 0 0)]), some (.m 1 [(.ref 6 0 2)]), some RCc74, some (.c 1 [(.int .i64 8)]), some (.c 1 [(.int .i64 28)])]))
theorem RCr366 : rE (gB RCM13_4) 220 RCe366 = some RCe366.2.2 := by kernel_rfl
def RCe367 : Ent := ([(.ptr 0 0 0), RCc69, (.im (.int .i64 1))], [some RCc70, some (.m 9 [(.agg [RCc160, (.im (.sl true 0 [])), (.im (.int .i64 1000)), (.im (.int .i64 8)), (.fn (.func 75) [] [(.ptr 2 0 0), (.ptr 3 0 0), (.ptr 4 0 0)]), (.im (.int .i64 0)), (.im (.int .i64 15)), (.im (.int .i64 0)), (.im (.sl true 0 []))])]), some (.c 1 [(.int .i64 1)]), some RCc73, some (.m 1 [(.ptr 1 0 0)]), some (.m 1 [(.ref 6 0 2)]), some RCc74, some (.c 1 [(.int .i64 39)]), some (.c 1 [(.int .i64 0)])], (true, RCc118, [some RCc70, some RCc161, some (.c 1 [(.int .i64 1)]), some RCc73, some (.m 1 [(.ptr 1 0 0)]), some (.m 1 [(.ref 6 0 2)]), some RCc74, some (.c 1 [(.int .i64 39)]), some (.c 1 [(.int .i64 0)])]))
theorem RCr367 : rE (gB RCM13_4) 220 RCe367 = some RCe367.2.2 := by kernel_rfl
def RCb13_4 : Tabl := [RCe366, RCe367]
theorem RCb13_4_ok : OkZ Tryz.prog 220 (tabSz RCb13_4) := gT RCM13_4_ok (fA RCr366 <| fA RCr367 <| nA)
noncomputable def RCM13_5 : List (Nat × Sz) := (220, tabSz RCb13_4) :: (18, tabSz RCa13) :: RCL5
theorem RCM13_5_ok : ∀ p ∈ RCM13_5, OkZ Tryz.prog p.1 p.2 := fA RCb13_4_ok <| fA RCa13_ok <| RCL5_ok
def RCe368 : Ent := ([(.ptr 0 0 0), RCc69, (.im (.int .i64 1))], [some RCc70, some (.m 9 [(.agg [RCc162, (.im (.sl true 0 [])), (.im (.int .i64 1000)), (.im (.int .i64 3)), (.fn (.func 75) [] [(.ptr 2 0 0), (.ptr 3 0 0), (.ptr 4 0 0)]), (.im (.int .i64 0)), (.im (.int .i64 5)), (.im (.int .i64 0)), (.im (.sl true 0 []))])]), some (.c 1 [(.int .i64 1)]), some RCc73, some (.m 1 [(.ptr 1 0 0)]), some (.m 1 [(.ref 6 0 2)]), some RCc74, some (.c 1 [(.int .i64 13)]), some (.c 1 [(.int .i64 0)])], (false, (.im (.int .i64 0)), [some RCc70, some (.m 9 [(.agg [RCc162, (.im (.sl true 0 [])), (.im (.int .i64 1000)), (.im (.int .i64 3)), (.fn (.func 75) [] [(.ptr 2 0 0), (.ptr 3 0 0), (.ptr 4 0 0)]), (.im (.int .i64 0)), (.im (.int .i64 43)), (.im (.int .i64 0)), (.im (.sl true 0 []))])]), some (.c 1 [(.int .i64 1)]), some RCc73, some (.m 1 [(.ptr 1 0 0)]), some (.m 1 [(.ref 6 0 2)]), some RCc74, some (.c 1 [(.int .i64 13)]), some (.c 1 [(.int .i64 78)])]))
theorem RCr368 : rE (gB RCM13_5) 220 RCe368 = some RCe368.2.2 := by kernel_rfl
def RCe369 : Ent := ([(.ptr 0 0 0), RCc69, (.im (.int .i64 1))], [some RCc70, some (.m 9 [(.agg [RCc160, (.im (.sl true 0 [])), (.im (.int .i64 1000)), (.im (.int .i64 3)), (.fn (.func 75) [] [(.ptr 2 0 0), (.ptr 3 0 0), (.ptr 4 0 0)]), (.im (.int .i64 0)), (.im (.int .i64 5)), (.im (.int .i64 0)), (.im (.sl true 0 []))])]), some (.c 1 [(.int .i64 1)]), some RCc73, some (.m 1 [(.ptr 1 0 0)]), some (.m 1 [(.ref 6 0 2)]), some RCc74, some (.c 1 [(.int .i64 44)]), some (.c 1 [(.int .i64 0)])], (true, RCc118, [some RCc70, some RCc161, some (.c 1 [(.int .i64 1)]), some RCc73, some (.m 1 [(.ptr 1 0 0)]), some (.m 1 [(.ref 6 0 2)]), some RCc74, some (.c 1 [(.int .i64 44)]), some (.c 1 [(.int .i64 0)])]))
theorem RCr369 : rE (gB RCM13_5) 220 RCe369 = some RCe369.2.2 := by kernel_rfl
def RCb13_5 : Tabl := [RCe368, RCe369]
theorem RCb13_5_ok : OkZ Tryz.prog 220 (tabSz RCb13_5) := gT RCM13_5_ok (fA RCr368 <| fA RCr369 <| nA)
noncomputable def RCM13_6 : List (Nat × Sz) := (220, tabSz RCb13_5) :: (18, tabSz RCa13) :: RCL5
theorem RCM13_6_ok : ∀ p ∈ RCM13_6, OkZ Tryz.prog p.1 p.2 := fA RCb13_5_ok <| fA RCa13_ok <| RCL5_ok
def RCe370 : Ent := ([RCc157, (.im (.sl true 0 [])), (.im (.int .i64 1000)), (.im (.int .i64 1)), RCc76], [], (false, (.tup [(.agg [(.im (.int .i64 0)), (.im (.int .i64 46)), (.im (.int .i64 (-1))), (.ref 0 0 1)]), (.im (.int .i64 0))]), [some (.c 1 [(.sl false 1 [(.int .i64 105)])])]))
theorem RCr370 : rE (gB RCM13_6) 33 RCe370 = some RCe370.2.2 := by kernel_rfl
def RCe371 : Ent := ([RCc159, (.im (.sl true 0 [])), (.im (.int .i64 1000)), (.im (.int .i64 1)), RCc76], [], (false, (.tup [(.im (.agg [(.int .i64 5), (.int .i64 79), (.int .i64 0), (.sl true 0 [])])), (.im (.int .i64 0))]), []))
theorem RCr371 : rE (gB RCM13_6) 33 RCe371 = some RCe371.2.2 := by kernel_rfl
def RCb13_6 : Tabl := [RCe370, RCe371]
theorem RCb13_6_ok : OkZ Tryz.prog 33 (tabSz RCb13_6) := gT RCM13_6_ok (fA RCr370 <| fA RCr371 <| nA)
def RCz13 : Tabl := RCb13_6
theorem RCz13_ok : OkZ Tryz.prog 33 (tabSz RCz13) := RCb13_6_ok
end Go.Proofs.YtkinbnepkpoofaaGreatDoor