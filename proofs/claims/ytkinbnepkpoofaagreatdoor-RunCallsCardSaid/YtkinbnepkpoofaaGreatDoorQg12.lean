/- Texts joined into one: RCG12. -/
import Derived.Test.YtkinbnepkpoofaaGreatDoorQz
/- Runs of some numbers. -/
set_option maxRecDepth 1000000
set_option linter.unusedVariables false
open Go Go.AM
namespace Go.Proofs.YtkinbnepkpoofaaGreatDoor
def RCe346 : Ent := ([RCc150], [], (false, (.tup [(.im (.int .i64 0)), (.im (.int .i64 (-1)))]), []))
theorem RCr346 : rE (gB RCL5) 18 RCe346 = some RCe346.2.2 := by kernel_rfl
def RCe347 : Ent := ([RCc152], [], (false, (.tup [(.im (.int .i64 0)), (.im (.int .i64 (-1)))]), []))
theorem RCr347 : rE (gB RCL5) 18 RCe347 = some RCe347.2.2 := by kernel_rfl
def RCa12 : Tabl := [RCe346, RCe347]
theorem RCa12_ok : OkZ Tryz.prog 18 (tabSz RCa12) := gT RCL5_ok (fA RCr346 <| fA RCr347 <| nA)
noncomputable def RCM12_0 : List (Nat × Sz) := (18, tabSz RCa12) :: RCL5
theorem RCM12_0_ok : ∀ p ∈ RCM12_0, OkZ Tryz.prog p.1 p.2 := fA RCa12_ok <| RCL5_ok
def RCe348 : Ent := ([(.ptr 0 0 0), RCc69, (.im (.int .i64 1))], [some RCc70, some (.m 9 [(.agg [RCc153, (.im (.sl true 0 [])), (.im (.int .i64 1000)), (.im (.int .i64 28)), (.fn (.func 75) [] [(.ptr 2 0 0), (.ptr 3 0 0), (.ptr 4 0 0)]), (.im (.int .i64 0)), (.im (.int .i64 55)), (.im (.int .i64 0)), (.im (.sl true 0 []))])]), some (.c 1 [(.int .i64 1)]), some RCc73, some (.m 1 [(.ptr 1 0 0)]), some (.m 1 [(.ref 6 0 2)]), some RCc74, some (.c 1 [(.int .i64 18)]), some (.c 1 [(.int .i64 0)])], (true, RCc118, [some RCc70, some RCc154, some (.c 1 [(.int .i64 1)]), some RCc73, some (.m 1 [(.ptr 1 0 0)]), some (.m 1 [(.ref 6 0 2)]), some RCc74, some (.c 1 [(.int .i64 18)]), some (.c 1 [(.int .i64 0)])]))
theorem RCr348 : rE (gB RCM12_0) 220 RCe348 = some RCe348.2.2 := by kernel_rfl
def RCb12_0 : Tabl := [RCe348]
theorem RCb12_0_ok : OkZ Tryz.prog 220 (tabSz RCb12_0) := gT RCM12_0_ok (fA RCr348 <| nA)
noncomputable def RCM12_1 : List (Nat × Sz) := (220, tabSz RCb12_0) :: (18, tabSz RCa12) :: RCL5
theorem RCM12_1_ok : ∀ p ∈ RCM12_1, OkZ Tryz.prog p.1 p.2 := fA RCb12_0_ok <| fA RCa12_ok <| RCL5_ok
def RCe349 : Ent := ([(.ptr 0 0 0), RCc69, (.im (.int .i64 1))], [some RCc70, some (.m 9 [(.agg [RCc153, (.im (.sl true 0 [])), (.im (.int .i64 1000)), (.im (.int .i64 23)), (.fn (.func 75) [] [(.ptr 2 0 0), (.ptr 3 0 0), (.ptr 4 0 0)]), (.im (.int .i64 0)), (.im (.int .i64 45)), (.im (.int .i64 0)), (.im (.sl true 0 []))])]), some (.c 1 [(.int .i64 1)]), some RCc73, some (.m 1 [(.ptr 1 0 0)]), some (.m 1 [(.ref 6 0 2)]), some RCc74, some (.c 1 [(.int .i64 23)]), some (.c 1 [(.int .i64 0)])], (true, RCc118, [some RCc70, some RCc154, some (.c 1 [(.int .i64 1)]), some RCc73, some (.m 1 [(.ptr 1 0 0)]), some (.m 1 [(.ref 6 0 2)]), some RCc74, some (.c 1 [(.int .i64 23)]), some (.c 1 [(.int .i64 0)])]))
theorem RCr349 : rE (gB RCM12_1) 220 RCe349 = some RCe349.2.2 := by kernel_rfl
def RCb12_1 : Tabl := [RCe349]
theorem RCb12_1_ok : OkZ Tryz.prog 220 (tabSz RCb12_1) := gT RCM12_1_ok (fA RCr349 <| nA)
noncomputable def RCM12_2 : List (Nat × Sz) := (220, tabSz RCb12_1) :: (18, tabSz RCa12) :: RCL5
theorem RCM12_2_ok : ∀ p ∈ RCM12_2, OkZ Tryz.prog p.1 p.2 := fA RCb12_1_ok <| fA RCa12_ok <| RCL5_ok
def RCe350 : Ent := ([(.ptr 0 0 0), RCc69, (.im (.int .i64 1))], [some RCc70, some (.m 9 [(.agg [RCc153, (.im (.sl true 0 [])), (.im (.int .i64 1000)), (.im (.int .i64 18)), (.fn (.func 75) [] [(.ptr 2 0 0), (.ptr 3 0 0), (.ptr 4 0 0)]), (.im (.int .i64 0)), (.im (.int .i64 35)), (.im (.int .i64 0)), (.im (.sl true 0 []))])]), some (.c 1 [(.int .i64 1)]), some RCc73, some (.m 1 [(.ptr 1 0 0)]), some (.m 1 [(.ref 6 0 2)]), some RCc74, some (.c 1 [(.int .i64 28)]), some (.c 1 [(.int .i64 0)])], (true, RCc118, [some RCc70, some RCc154, some (.c 1 [(.int .i64 1)]), some RCc73, some (.m 1 [(.ptr 1 0 0)]), some (.m 1 [(.ref 6 0 2)]), some RCc74, some (.c 1 [(.int .i64 28)]), some (.c 1 [(.int .i64 0)])]))
theorem RCr350 : rE (gB RCM12_2) 220 RCe350 = some RCe350.2.2 := by kernel_rfl
def RCb12_2 : Tabl := [RCe350]
theorem RCb12_2_ok : OkZ Tryz.prog 220 (tabSz RCb12_2) := gT RCM12_2_ok (fA RCr350 <| nA)
noncomputable def RCM12_3 : List (Nat × Sz) := (220, tabSz RCb12_2) :: (18, tabSz RCa12) :: RCL5
theorem RCM12_3_ok : ∀ p ∈ RCM12_3, OkZ Tryz.prog p.1 p.2 := fA RCb12_2_ok <| fA RCa12_ok <| RCL5_ok
def RCe351 : Ent := ([(.ptr 0 0 0), RCc69, (.im (.int .i64 1))], [some RCc70, some (.m 9 [(.agg [RCc155, (.im (.sl true 0 [])), (.im (.int .i64 1000)), (.im (.int .i64 13)), (.fn (.func 75) [] [(.ptr 2 0 0), (.ptr 3 0 0), (.ptr 4 0 0)]), (.im (.int .i64 0)), (.im (.int .i64 25)), (.im (.int .i64 0)), (.im (.sl true 0 []))])]), some (.c 1 [(.int .i64 1)]), some RCc73, some (.m 1 [(.ptr 1 0 0)]), some (.m 1 [(.ref 6 0 2)]), some RCc74, some (.c 1 [(.int .i64 4)]), some (.c 1 [(.int .i64 0)])], (false, (.im (.int .i64 0)), [some RCc70, some (.m 9 [(.agg [RCc155, (.im (.sl true 0 [])), (.im (.int .i64 1000)), (.im (.int .i64 13)), (.fn (.func 75) [] [(.ptr 2 0 0), (.ptr 3 0 0), (.ptr 4 0 0)]), (.im (.int .i64 0)), (.im (.int .i64 36)), (.im (.int .i64 0)), (.im (.sl true 0 []))])]), some (.c 1 [(.int .i64 1)]), some RCc73, some (.m 1 [(.ptr 1 0 0)]), some (.m 1 [(.ref 6 0 2)]), some RCc74, some (.c 1 [(.int .i64 4)]), some (.c 1 [(.int .i64 6)])]))
theorem RCr351 : rE (gB RCM12_3) 220 RCe351 = some RCe351.2.2 := by kernel_rfl
def RCe352 : Ent := ([(.ptr 0 0 0), RCc69, (.im (.int .i64 1))], [some RCc70, some (.m 9 [(.agg [RCc153, (.im (.sl true 0 [])), (.im (.int .i64 1000)), (.im (.int .i64 13)), (.fn (.func 75) [] [(.ptr 2 0 0), (.ptr 3 0 0), (.ptr 4 0 0)]), (.im (.int .i64 0)), (.im (.int .i64 25)), (.im (.int .i64 0)), (.im (.sl true 0 []))])]), some (.c 1 [(.int .i64 1)]), some RCc73, some (.m 1 [(.ptr 1 0 0)]), some (.m 1 [(.ref 6 0 2)]), some RCc74, some (.c 1 [(.int .i64 33)]), some (.c 1 [(.int .i64 0)])], (true, RCc118, [some RCc70, some RCc154, some (.c 1 [(.int .i64 1)]), some RCc73, some (.m 1 [(.ptr 1 0 0)]), some (.m 1 [(.ref 6 0 2)]), some RCc74, some (.c 1 [(.int .i64 33)]), some (.c 1 [(.int .i64 0)])]))
theorem RCr352 : rE (gB RCM12_3) 220 RCe352 = some RCe352.2.2 := by kernel_rfl
def RCb12_3 : Tabl := [RCe351, RCe352]
theorem RCb12_3_ok : OkZ Tryz.prog 220 (tabSz RCb12_3) := gT RCM12_3_ok (fA RCr351 <| fA RCr352 <| nA)
noncomputable def RCM12_4 : List (Nat × Sz) := (220, tabSz RCb12_3) :: (18, tabSz RCa12) :: RCL5
theorem RCM12_4_ok : ∀ p ∈ RCM12_4, OkZ Tryz.prog p.1 p.2 := fA RCb12_3_ok <| fA RCa12_ok <| RCL5_ok
def RCe353 : Ent := ([(.ptr 0 0 0), RCc69, (.im (.int .i64 1))], [some RCc70, some (.m 9 [(.agg [RCc155, (.im (.sl true 0 [])), (.im (.int .i64 1000)), (.im (.int .i64 8)), (.fn (.func 75) [] [(.ptr 2 0 0), (.ptr 3 0 0), (.ptr 4 0 0)]), (.im (.int .i64 0)), (.im (.int .i64 15)), (.im (.int .i64 0)), (.im (.sl true 0 []))])]), some (.c 1 [(.int .i64 1)]), some RCc73, some (.m 1 [(.ptr 1 0 0)]), some (.m 1 [(.ref 6 0 2)]), some RCc74, some (.c 1 [(.int .i64 9)]), some (.c 1 [(.int .i64 0)])], (false, (.im (.int .i64 0)), [some RCc70, some (.m 9 [(.agg [RCc155, (.im (.sl true 0 [])), (.im (.int .i64 1000)), (.im (.int .i64 8)), (.fn (.func 75) [] [(.ptr 2 0 0), (.ptr 3 0 0), (.ptr 4 0 0)]), (.im (.int .i64 0)), (.im (.int .i64 41)), (.im (.int .i64 0)), (.im (.sl true 0 []))])]), some (.c 1 [(.int .i64 1)]), some RCc73, some (.m 1 [(.ptr 1 0 0)]), some (.m 1 [(.ref 6 0 2)]), some RCc74, some (.c 1 [(.int .i64 9)]), some (.c 1 [(.int .i64 36)])]))
theorem RCr353 : rE (gB RCM12_4) 220 RCe353 = some RCe353.2.2 := by kernel_rfl
def RCe354 : Ent := ([(.ptr 0 0 0), RCc69, (.im (.int .i64 1))], [some RCc70, some (.m 9 [(.agg [RCc153, (.im (.sl true 0 [])), (.im (.int .i64 1000)), (.im (.int .i64 8)), (.fn (.func 75) [] [(.ptr 2 0 0), (.ptr 3 0 0), (.ptr 4 0 0)]), (.im (.int .i64 0)), (.im (.int .i64 15)), (.im (.int .i64 0)), (.im (.sl true 0 []))])]), some (.c 1 [(.int .i64 1)]), some RCc73, some (.m 1 [(.ptr 1 0 0)]), some (.m 1 [(.ref 6 0 2)]), some RCc74, some (.c 1 [(.int .i64 38)]), some (.c 1 [(.int .i64 0)])], (true, RCc118, [some RCc70, some RCc154, some (.c 1 [(.int .i64 1)]), some RCc73, some (.m 1 [(.ptr 1 0 0)]), some (.m 1 [(.ref 6 0 2)]), some RCc74, some (.c 1 [(.int .i64 38)]), some (.c 1 [(.int .i64 0)])]))
theorem RCr354 : rE (gB RCM12_4) 220 RCe354 = some RCe354.2.2 := by kernel_rfl
def RCb12_4 : Tabl := [RCe353, RCe354]
theorem RCb12_4_ok : OkZ Tryz.prog 220 (tabSz RCb12_4) := gT RCM12_4_ok (fA RCr353 <| fA RCr354 <| nA)
noncomputable def RCM12_5 : List (Nat × Sz) := (220, tabSz RCb12_4) :: (18, tabSz RCa12) :: RCL5
theorem RCM12_5_ok : ∀ p ∈ RCM12_5, OkZ Tryz.prog p.1 p.2 := fA RCb12_4_ok <| fA RCa12_ok <| RCL5_ok
def RCe355 : Ent := ([(.ptr 0 0 0), RCc69, (.im (.int .i64 1))], [some RCc70, some (.m 9 [(.agg [RCc155, (.im (.sl true 0 [])), (.im (.int .i64 1000)), (.im (.int .i64 3)), (.fn (.func 75) [] [(.ptr 2 0 0), (.ptr 3 0 0), (.ptr 4 0 0)]), (.im (.int .i64 0)), (.im (.int .i64 5)), (.im (.int .i64 0)), (.im (.sl true 0 []))])]), some (.c 1 [(.int .i64 1)]), some RCc73, some (.m 1 [(.ptr 1 0 0)]), some (.m 1 [(.ref 6 0 2)]), some RCc74, some (.c 1 [(.int .i64 14)]), some (.c 1 [(.int .i64 0)])], (false, (.im (.int .i64 0)), [some RCc70, some (.m 9 [(.agg [RCc155, (.im (.sl true 0 [])), (.im (.int .i64 1000)), (.im (.int .i64 3)), (.fn (.func 75) [] [(.ptr 2 0 0), (.ptr 3 0 0), (.ptr 4 0 0)]), (.im (.int .i64 0)), (.im (.int .i64 46)), (.im (.int .i64 0)), (.im (.sl true 0 []))])]), some (.c 1 [(.int .i64 1)]), some RCc73, some (.m 1 [(.ptr 1 0 0)]), some (.m 1 [(.ref 6 0 2)]), some RCc74, some (.c 1 [(.int .i64 14)]), some (.c 1 [(.int .i64 91)])]))
theorem RCr355 : rE (gB RCM12_5) 220 RCe355 = some RCe355.2.2 := by kernel_rfl
def RCe356 : Ent := ([(.ptr 0 0 0), RCc69, (.im (.int .i64 1))], [some RCc70, some (.m 9 [(.agg [RCc153, (.im (.sl true 0 [])), (.im (.int .i64 1000)), (.im (.int .i64 3)), (.fn (.func 75) [] [(.ptr 2 0 0), (.ptr 3 0 0), (.ptr 4 0 0)]), (.im (.int .i64 0)), (.im (.int .i64 5)), (.im (.int .i64 0)), (.im (.sl true 0 []))])]), some (.c 1 [(.int .i64 1)]), some RCc73, some (.m 1 [(.ptr 1 0 0)]), some (.m 1 [(.ref 6 0 2)]), some RCc74, some (.c 1 [(.int .i64 43)]), some (.c 1 [(.int .i64 0)])], (true, RCc118, [some RCc70, some RCc154, some (.c 1 [(.int .i64 1)]), some RCc73, some (.m 1 [(.ptr 1 0 0)]), some (.m 1 [(.ref 6 0 2)]), some RCc74, some (.c 1 [(.int .i64 43)]), some (.c 1 [(.int .i64 0)])]))
theorem RCr356 : rE (gB RCM12_5) 220 RCe356 = some RCe356.2.2 := by kernel_rfl
def RCb12_5 : Tabl := [RCe355, RCe356]
theorem RCb12_5_ok : OkZ Tryz.prog 220 (tabSz RCb12_5) := gT RCM12_5_ok (fA RCr355 <| fA RCr356 <| nA)
noncomputable def RCM12_6 : List (Nat × Sz) := (220, tabSz RCb12_5) :: (18, tabSz RCa12) :: RCL5
theorem RCM12_6_ok : ∀ p ∈ RCM12_6, OkZ Tryz.prog p.1 p.2 := fA RCb12_5_ok <| fA RCa12_ok <| RCL5_ok
def RCe357 : Ent := ([RCc150, (.im (.sl true 0 [])), (.im (.int .i64 1000)), (.im (.int .i64 1)), RCc76], [], (false, (.tup [(.agg [(.im (.int .i64 0)), (.im (.int .i64 49)), (.im (.int .i64 (-1))), (.ref 0 0 1)]), (.im (.int .i64 0))]), [some (.c 1 [(.sl false 1 [(.int .i64 120)])])]))
theorem RCr357 : rE (gB RCM12_6) 33 RCe357 = some RCe357.2.2 := by kernel_rfl
def RCe358 : Ent := ([RCc152, (.im (.sl true 0 [])), (.im (.int .i64 1000)), (.im (.int .i64 1)), RCc76], [], (false, (.tup [(.im (.agg [(.int .i64 5), (.int .i64 79), (.int .i64 0), (.sl true 0 [])])), (.im (.int .i64 0))]), []))
theorem RCr358 : rE (gB RCM12_6) 33 RCe358 = some RCe358.2.2 := by kernel_rfl
def RCb12_6 : Tabl := [RCe357, RCe358]
theorem RCb12_6_ok : OkZ Tryz.prog 33 (tabSz RCb12_6) := gT RCM12_6_ok (fA RCr357 <| fA RCr358 <| nA)
def RCz12 : Tabl := RCb12_6
theorem RCz12_ok : OkZ Tryz.prog 33 (tabSz RCz12) := RCb12_6_ok
end Go.Proofs.YtkinbnepkpoofaaGreatDoor