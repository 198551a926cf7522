/- Texts joined into one: RCG15. -/
import Derived.Test.YtkinbnepkpoofaaGreatDoorQz
/- Runs of some numbers. -/
set_option maxRecDepth 1000000
set_option linter.unusedVariables false
open Go Go.AM
namespace Go.Proofs.YtkinbnepkpoofaaGreatDoor
def RCe385 : Ent := ([RCc171], [], (false, (.tup [(.im (.int .i64 0)), (.im (.int .i64 (-1)))]), []))
theorem RCr385 : rE (gB RCL5) 18 RCe385 = some RCe385.2.2 := by kernel_rfl
def RCe386 : Ent := ([RCc173], [], (false, (.tup [(.im (.int .i64 0)), (.im (.int .i64 (-1)))]), []))
theorem RCr386 : rE (gB RCL5) 18 RCe386 = some RCe386.2.2 := by kernel_rfl
def RCa15 : Tabl := [RCe385, RCe386]
theorem RCa15_ok : OkZ Tryz.prog 18 (tabSz RCa15) := gT RCL5_ok (fA RCr385 <| fA RCr386 <| nA)
noncomputable def RCM15_0 : List (Nat × Sz) := (18, tabSz RCa15) :: RCL5
theorem RCM15_0_ok : ∀ p ∈ RCM15_0, OkZ Tryz.prog p.1 p.2 := fA RCa15_ok <| RCL5_ok
def RCe387 : Ent := ([(.ptr 0 0 0), RCc69, (.im (.int .i64 1))], [some RCc70, some (.m 9 [(.agg [RCc174, (.im (.sl true 0 [])), (.im (.int .i64 1000)), (.im (.int .i64 28)), (.fn (.func 75) [] [(.ptr 2 0 0), (.ptr 3 0 0), (.ptr 4 0 0)]), (.im (.int .i64 0)), (.im (.int .i64 55)), (.im (.int .i64 0)), (.im (.sl true 0 []))])]), some (.c 1 [(.int .i64 1)]), some RCc73, some (.m 1 [(.ptr 1 0 0)]), some (.m 1 [(.ref 6 0 2)]), some RCc74, some (.c 1 [(.int .i64 21)]), some (.c 1 [(.int .i64 0)])], (true, RCc118, [some RCc70, some RCc175, some (.c 1 [(.int .i64 1)]), some RCc73, some (.m 1 [(.ptr 1 0 0)]), some (.m 1 [(.ref 6 0 2)]), some RCc74, some (.c 1 [(.int .i64 21)]), some (.c 1 [(.int .i64 0)])]))
theorem RCr387 : rE (gB RCM15_0) 220 RCe387 = some RCe387.2.2 := by kernel_rfl
def RCb15_0 : Tabl := [RCe387]
theorem RCb15_0_ok : OkZ Tryz.prog 220 (tabSz RCb15_0) := gT RCM15_0_ok (fA RCr387 <| nA)
noncomputable def RCM15_1 : List (Nat × Sz) := (220, tabSz RCb15_0) :: (18, tabSz RCa15) :: RCL5
theorem RCM15_1_ok : ∀ p ∈ RCM15_1, OkZ Tryz.prog p.1 p.2 := fA RCb15_0_ok <| fA RCa15_ok <| RCL5_ok
def RCe388 : Ent := ([(.ptr 0 0 0), RCc69, (.im (.int .i64 1))], [some RCc70, some (.m 9 [(.agg [RCc174, (.im (.sl true 0 [])), (.im (.int .i64 1000)), (.im (.int .i64 23)), (.fn (.func 75) [] [(.ptr 2 0 0), (.ptr 3 0 0), (.ptr 4 0 0)]), (.im (.int .i64 0)), (.im (.int .i64 45)), (.im (.int .i64 0)), (.im (.sl true 0 []))])]), some (.c 1 [(.int .i64 1)]), some RCc73, some (.m 1 [(.ptr 1 0 0)]), some (.m 1 [(.ref 6 0 2)]), some RCc74, some (.c 1 [(.int .i64 26)]), some (.c 1 [(.int .i64 0)])], (true, RCc118, [some RCc70, some RCc175, some (.c 1 [(.int .i64 1)]), some RCc73, some (.m 1 [(.ptr 1 0 0)]), some (.m 1 [(.ref 6 0 2)]), some RCc74, some (.c 1 [(.int .i64 26)]), some (.c 1 [(.int .i64 0)])]))
theorem RCr388 : rE (gB RCM15_1) 220 RCe388 = some RCe388.2.2 := by kernel_rfl
def RCb15_1 : Tabl := [RCe388]
theorem RCb15_1_ok : OkZ Tryz.prog 220 (tabSz RCb15_1) := gT RCM15_1_ok (fA RCr388 <| nA)
noncomputable def RCM15_2 : List (Nat × Sz) := (220, tabSz RCb15_1) :: (18, tabSz RCa15) :: RCL5
theorem RCM15_2_ok : ∀ p ∈ RCM15_2, OkZ Tryz.prog p.1 p.2 := fA RCb15_1_ok <| fA RCa15_ok <| RCL5_ok
def RCe389 : Ent := ([(.ptr 0 0 0), RCc69, (.im (.int .i64 1))], [some RCc70, some (.m 9 [(.agg [RCc174, (.im (.sl true 0 [])), (.im (.int .i64 1000)), (.im (.int .i64 18)), (.fn (.func 75) [] [(.ptr 2 0 0), (.ptr 3 0 0), (.ptr 4 0 0)]), (.im (.int .i64 0)), (.im (.int .i64 35)), (.im (.int .i64 0)), (.im (.sl true 0 []))])]), some (.c 1 [(.int .i64 1)]), some RCc73, some (.m 1 [(.ptr 1 0 0)]), some (.m 1 [(.ref 6 0 2)]), some RCc74, some (.c 1 [(.int .i64 31)]), some (.c 1 [(.int .i64 0)])], (true, RCc118, [some RCc70, some RCc175, some (.c 1 [(.int .i64 1)]), some RCc73, some (.m 1 [(.ptr 1 0 0)]), some (.m 1 [(.ref 6 0 2)]), some RCc74, some (.c 1 [(.int .i64 31)]), some (.c 1 [(.int .i64 0)])]))
theorem RCr389 : rE (gB RCM15_2) 220 RCe389 = some RCe389.2.2 := by kernel_rfl
def RCb15_2 : Tabl := [RCe389]
theorem RCb15_2_ok : OkZ Tryz.prog 220 (tabSz RCb15_2) := gT RCM15_2_ok (fA RCr389 <| nA)
noncomputable def RCM15_3 : List (Nat × Sz) := (220, tabSz RCb15_2) :: (18, tabSz RCa15) :: RCL5
theorem RCM15_3_ok : ∀ p ∈ RCM15_3, OkZ Tryz.prog p.1 p.2 := fA RCb15_2_ok <| fA RCa15_ok <| RCL5_ok
def RCe390 : Ent := ([(.ptr 0 0 0), RCc69, (.im (.int .i64 1))], [some RCc70, some (.m 9 [(.agg [RCc176, (.im (.sl true 0 [])), (.im (.int .i64 1000)), (.im (.int .i64 13)), (.fn (.func 75) [] [(.ptr 2 0 0), (.ptr 3 0 0), (.ptr 4 0 0)]), (.im (.int .i64 0)), (.im (.int .i64 25)), (.im (.int .i64 0)), (.im (.sl true 0 []))])]), some (.c 1 [(.int .i64 1)]), some RCc73, some (.m 1 [(.ptr 1 0 0)]), some (.m 1 [(.ref 6 0 2)]), some RCc74, some (.c 1 [(.int .i64 1)]), some (.c 1 [(.int .i64 0)])], (false, (.im (.int .i64 0)), [some RCc70, some (.m 9 [(.agg [RCc176, (.im (.sl true 0 [])), (.im (.int .i64 1000)), (.im (.int .i64 13)), (.fn (.func 75) [] [(.ptr 2 0 0), (.ptr 3 0 0), (.ptr 4 0 0)]), (.im (.int .i64 0)), (.im (.int .i64 27)), (.im (.int .i64 0)), (.im (.sl true 0 []))])]), some (.c 1 [(.int .i64 1)]), some RCc73, some (.m 1 [(.ptr 1 0 0)]), some (.m 1 [(.ref 6 0 2)]), some RCc74, some (.c 1 [(.int .i64 1)]), some (.c 1 [(.int .i64 0)])]))
theorem RCr390 : rE (gB RCM15_3) 220 RCe390 = some RCe390.2.2 := by kernel_rfl
def RCe391 : Ent := ([(.ptr 0 0 0), RCc69, (.im (.int .i64 1))], [some RCc70, some (.m 9 [(.agg [RCc174, (.im (.sl true 0 [])), (.im (.int .i64 1000)), (.im (.int .i64 13)), (.fn (.func 75) [] [(.ptr 2 0 0), (.ptr 3 0 0), (.ptr 4 0 0)]), (.im (.int .i64 0)), (.im (.int .i64 25)), (.im (.int .i64 0)), (.im (.sl true 0 []))])]), some (.c 1 [(.int .i64 1)]), some RCc73, some (.m 1 [(.ptr 1 0 0)]), some (.m 1 [(.ref 6 0 2)]), some RCc74, some (.c 1 [(.int .i64 36)]), some (.c 1 [(.int .i64 0)])], (true, RCc118, [some RCc70, some RCc175, some (.c 1 [(.int .i64 1)]), some RCc73, some (.m 1 [(.ptr 1 0 0)]), some (.m 1 [(.ref 6 0 2)]), some RCc74, some (.c 1 [(.int .i64 36)]), some (.c 1 [(.int .i64 0)])]))
theorem RCr391 : rE (gB RCM15_3) 220 RCe391 = some RCe391.2.2 := by kernel_rfl
def RCb15_3 : Tabl := [RCe390, RCe391]
theorem RCb15_3_ok : OkZ Tryz.prog 220 (tabSz RCb15_3) := gT RCM15_3_ok (fA RCr390 <| fA RCr391 <| nA)
noncomputable def RCM15_4 : List (Nat × Sz) := (220, tabSz RCb15_3) :: (18, tabSz RCa15) :: RCL5
theorem RCM15_4_ok : ∀ p ∈ RCM15_4, OkZ Tryz.prog p.1 p.2 := fA RCb15_3_ok <| fA RCa15_ok <| RCL5_ok
def RCe392 : Ent := ([(.ptr 0 0 0), RCc69, (.im (.int .i64 1))], [some RCc70, some (.m 9 [(.agg [RCc176, (.im (.sl true 0 [])), (.im (.int .i64 1000)), (.im (.int .i64 8)), (.fn (.func 75) [] [(.ptr 2 0 0), (.ptr 3 0 0), (.ptr 4 0 0)]), (.im (.int .i64 0)), (.im (.int .i64 15)), (.im (.int .i64 0)), (.im (.sl true 0 []))])]), some (.c 1 [(.int .i64 1)]), some RCc73, some (.m 1 [(.ptr 1 0 0)]), some (.m 1 [(.ref 6 0 2)]), some RCc74, some (.c 1 [(.int .i64 6)]), some (.c 1 [(.int .i64 0)])], (false, (.im (.int .i64 0)), [some RCc70, some (.m 9 [(.agg [RCc176, (.im (.sl true 0 [])), (.im (.int .i64 1000)), (.im (.int .i64 8)), (.fn (.func 75) [] [(.ptr 2 0 0), (.ptr 3 0 0), (.ptr 4 0 0)]), (.im (.int .i64 0)), (.im (.int .i64 32)), (.im (.int .i64 0)), (.im (.sl true 0 []))])]), some (.c 1 [(.int .i64 1)]), some RCc73, some (.m 1 [(.ptr 1 0 0)]), some (.m 1 [(.ref 6 0 2)]), some RCc74, some (.c 1 [(.int .i64 6)]), some (.c 1 [(.int .i64 15)])]))
theorem RCr392 : rE (gB RCM15_4) 220 RCe392 = some RCe392.2.2 := by kernel_rfl
def RCe393 : Ent := ([(.ptr 0 0 0), RCc69, (.im (.int .i64 1))], [some RCc70, some (.m 9 [(.agg [RCc174, (.im (.sl true 0 [])), (.im (.int .i64 1000)), (.im (.int .i64 8)), (.fn (.func 75) [] [(.ptr 2 0 0), (.ptr 3 0 0), (.ptr 4 0 0)]), (.im (.int .i64 0)), (.im (.int .i64 15)), (.im (.int .i64 0)), (.im (.sl true 0 []))])]), some (.c 1 [(.int .i64 1)]), some RCc73, some (.m 1 [(.ptr 1 0 0)]), some (.m 1 [(.ref 6 0 2)]), some RCc74, some (.c 1 [(.int .i64 41)]), some (.c 1 [(.int .i64 0)])], (true, RCc118, [some RCc70, some RCc175, some (.c 1 [(.int .i64 1)]), some RCc73, some (.m 1 [(.ptr 1 0 0)]), some (.m 1 [(.ref 6 0 2)]), some RCc74, some (.c 1 [(.int .i64 41)]), some (.c 1 [(.int .i64 0)])]))
theorem RCr393 : rE (gB RCM15_4) 220 RCe393 = some RCe393.2.2 := by kernel_rfl
def RCb15_4 : Tabl := [RCe392, RCe393]
theorem RCb15_4_ok : OkZ Tryz.prog 220 (tabSz RCb15_4) := gT RCM15_4_ok (fA RCr392 <| fA RCr393 <| nA)
noncomputable def RCM15_5 : List (Nat × Sz) := (220, tabSz RCb15_4) :: (18, tabSz RCa15) :: RCL5
theorem RCM15_5_ok : ∀ p ∈ RCM15_5, OkZ Tryz.prog p.1 p.2 := fA RCb15_4_ok <| fA RCa15_ok <| RCL5_ok
def RCe394 : Ent := ([(.ptr 0 0 0), RCc69, (.im (.int .i64 1))], [some RCc70, some (.m 9 [(.agg [RCc176, (.im (.sl true 0 [])), (.im (.int .i64 1000)), (.im (.int .i64 3)), (.fn (.func 75) [] [(.ptr 2 0 0), (.ptr 3 0 0), (.ptr 4 0 0)]), (.im (.int .i64 0)), (.im (.int .i64 5)), (.im (.int .i64 0)), (.im (.sl true 0 []))])]), some (.c 1 [(.int .i64 1)]), some RCc73, some (.m 1 [(.ptr 1 0 0)]), some (.m 1 [(.ref 6 0 2)]), some RCc74, some (.c 1 [(.int .i64 11)]), some (.c 1 [(.int .i64 0)])], (false, (.im (.int .i64 0)), [some RCc70, some (.m 9 [(.agg [RCc176, (.im (.sl true 0 [])), (.im (.int .i64 1000)), (.im (.int .i64 3)), (.fn (.func 75) [] [(.ptr 2 0 0), (.ptr 3 0 0), (.ptr 4 0 0)]), (.im (.int .i64 0)), (.im (.int .i64 37)), (.im (.int .i64 0)), (.im (.sl true 0 []))])]), some (.c 1 [(.int .i64 1)]), some RCc73, some (.m 1 [(.ptr 1 0 0)]), some (.m 1 [(.ref 6 0 2)]), some RCc74, some (.c 1 [(.int .i64 11)]), some (.c 1 [(.int .i64 55)])]))
theorem RCr394 : rE (gB RCM15_5) 220 RCe394 = some RCe394.2.2 := by kernel_rfl
def RCe395 : Ent := ([(.ptr 0 0 0), RCc69, (.im (.int .i64 1))], [some RCc70, some (.m 9 [(.agg [RCc174, (.im (.sl true 0 [])), (.im (.int .i64 1000)), (.im (.int .i64 3)), (.fn (.func 75) [] [(.ptr 2 0 0), (.ptr 3 0 0), (.ptr 4 0 0)]), (.im (.int .i64 0)), (.im (.int .i64 5)), (.im (.int .i64 0)), (.im (.sl true 0 []))])]), some (.c 1 [(.int .i64 1)]), some RCc73, some (.m 1 [(.ptr 1 0 0)]), some (.m 1 [(.ref 6 0 2)]), some RCc74, some (.c 1 [(.int .i64 46)]), some (.c 1 [(.int .i64 0)])], (true, RCc118, [some RCc70, some RCc175, some (.c 1 [(.int .i64 1)]), some RCc73, some (.m 1 [(.ptr 1 0 0)]), some (.m 1 [(.ref 6 0 2)]), some RCc74, some (.c 1 [(.int .i64 46)]), some (.c 1 [(.int .i64 0)])]))
theorem RCr395 : rE (gB RCM15_5) 220 RCe395 = some RCe395.2.2 := by kernel_rfl
def RCb15_5 : Tabl := [RCe394, RCe395]
theorem RCb15_5_ok : OkZ Tryz.prog 220 (tabSz RCb15_5) := gT RCM15_5_ok (fA RCr394 <| fA RCr395 <| nA)
noncomputable def RCM15_6 : List (Nat × Sz) := (220, tabSz RCb15_5) :: (18, tabSz RCa15) :: RCL5
theorem RCM15_6_ok : ∀ p ∈ RCM15_6, OkZ Tryz.prog p.1 p.2 := fA RCb15_5_ok <| fA RCa15_ok <| RCL5_ok
def RCe396 : Ent := ([RCc171, (.im (.sl true 0 [])), (.im (.int .i64 1000)), (.im (.int .i64 1)), RCc76], [], (false, (.tup [(.agg [(.im (.int .i64 0)), (.im (.int .i64 40)), (.im (.int .i64 (-1))), (.ref 0 0 1)]), (.im (.int .i64 0))]), [some (.c 1 [(.sl false 1 [(.int .i64 78)])])]))
theorem RCr396 : rE (gB RCM15_6) 33 RCe396 = some RCe396.2.2 := by kernel_rfl
def RCe397 : Ent := ([RCc173, (.im (.sl true 0 [])), (.im (.int .i64 1000)), (.im (.int .i64 1)), RCc76], [], (false, (.tup [(.im (.agg [(.int .i64 5), (.int .i64 79), (.int .i64 0), (.sl true 0 [])])), (.im (.int .i64 0))]), []))
theorem RCr397 : rE (gB RCM15_6) 33 RCe397 = some RCe397.2.2 := by kernel_rfl
def RCb15_6 : Tabl := [RCe396, RCe397]
theorem RCb15_6_ok : OkZ Tryz.prog 33 (tabSz RCb15_6) := gT RCM15_6_ok (fA RCr396 <| fA RCr397 <| nA)
def RCz15 : Tabl := RCb15_6
theorem RCz15_ok : OkZ Tryz.prog 33 (tabSz RCz15) := RCb15_6_ok
end Go.Proofs.YtkinbnepkpoofaaGreatDoor