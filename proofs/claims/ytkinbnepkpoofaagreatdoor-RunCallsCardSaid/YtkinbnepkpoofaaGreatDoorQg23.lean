/- Texts joined into one: RCG23. -/
import Derived.Test.YtkinbnepkpoofaaGreatDoorQz
/- Runs of some numbers. -/
set_option maxRecDepth 1000000
set_option linter.unusedVariables false
open Go Go.AM
namespace Go.Proofs.YtkinbnepkpoofaaGreatDoor
def RCe480 : Ent := ([RCc227], [], (false, (.tup [(.im (.int .i64 0)), (.im (.int .i64 (-1)))]), []))
theorem RCr480 : rE (gB RCL5) 18 RCe480 = some RCe480.2.2 := by kernel_rfl
def RCe481 : Ent := ([RCc229], [], (false, (.tup [(.im (.int .i64 0)), (.im (.int .i64 (-1)))]), []))
theorem RCr481 : rE (gB RCL5) 18 RCe481 = some RCe481.2.2 := by kernel_rfl
def RCa23 : Tabl := [RCe480, RCe481]
theorem RCa23_ok : OkZ Tryz.prog 18 (tabSz RCa23) := gT RCL5_ok (fA RCr480 <| fA RCr481 <| nA)
noncomputable def RCM23_0 : List (Nat × Sz) := (18, tabSz RCa23) :: RCL5
theorem RCM23_0_ok : ∀ p ∈ RCM23_0, OkZ Tryz.prog p.1 p.2 := fA RCa23_ok <| RCL5_ok
def RCe482 : Ent := ([(.ptr 0 0 0), RCc69, (.im (.int .i64 1))], [some RCc70, some (.m 9 [(.agg [RCc230, (.im (.sl true 0 [])), (.im (.int .i64 1000)), (.im (.int .i64 28)), (.fn (.func 75) [] [(.ptr 2 0 0), (.ptr 3 0 0), (.ptr 4 0 0)]), (.im (.int .i64 0)), (.im (.int .i64 55)), (.im (.int .i64 0)), (.im (.sl true 0 []))])]), some (.c 1 [(.int .i64 1)]), some RCc73, some (.m 1 [(.ptr 1 0 0)]), some (.m 1 [(.ref 6 0 2)]), some RCc74, some (.c 1 [(.int .i64 29)]), some (.c 1 [(.int .i64 0)])], (true, RCc118, [some RCc70, some RCc231, some (.c 1 [(.int .i64 1)]), some RCc73, some (.m 1 [(.ptr 1 0 0)]), some (.m 1 [(.ref 6 0 2)]), some RCc74, some (.c 1 [(.int .i64 29)]), some (.c 1 [(.int .i64 0)])]))
theorem RCr482 : rE (gB RCM23_0) 220 RCe482 = some RCe482.2.2 := by kernel_rfl
def RCb23_0 : Tabl := [RCe482]
theorem RCb23_0_ok : OkZ Tryz.prog 220 (tabSz RCb23_0) := gT RCM23_0_ok (fA RCr482 <| nA)
noncomputable def RCM23_1 : List (Nat × Sz) := (220, tabSz RCb23_0) :: (18, tabSz RCa23) :: RCL5
theorem RCM23_1_ok : ∀ p ∈ RCM23_1, OkZ Tryz.prog p.1 p.2 := fA RCb23_0_ok <| fA RCa23_ok <| RCL5_ok
def RCe483 : Ent := ([(.ptr 0 0 0), RCc69, (.im (.int .i64 1))], [some RCc70, some (.m 9 [(.agg [RCc230, (.im (.sl true 0 [])), (.im (.int .i64 1000)), (.im (.int .i64 23)), (.fn (.func 75) [] [(.ptr 2 0 0), (.ptr 3 0 0), (.ptr 4 0 0)]), (.im (.int .i64 0)), (.im (.int .i64 45)), (.im (.int .i64 0)), (.im (.sl true 0 []))])]), some (.c 1 [(.int .i64 1)]), some RCc73, some (.m 1 [(.ptr 1 0 0)]), some (.m 1 [(.ref 6 0 2)]), some RCc74, some (.c 1 [(.int .i64 34)]), some (.c 1 [(.int .i64 0)])], (true, RCc118, [some RCc70, some RCc231, some (.c 1 [(.int .i64 1)]), some RCc73, some (.m 1 [(.ptr 1 0 0)]), some (.m 1 [(.ref 6 0 2)]), some RCc74, some (.c 1 [(.int .i64 34)]), some (.c 1 [(.int .i64 0)])]))
theorem RCr483 : rE (gB RCM23_1) 220 RCe483 = some RCe483.2.2 := by kernel_rfl
def RCb23_1 : Tabl := [RCe483]
theorem RCb23_1_ok : OkZ Tryz.prog 220 (tabSz RCb23_1) := gT RCM23_1_ok (fA RCr483 <| nA)
noncomputable def RCM23_2 : List (Nat × Sz) := (220, tabSz RCb23_1) :: (18, tabSz RCa23) :: RCL5
theorem RCM23_2_ok : ∀ p ∈ RCM23_2, OkZ Tryz.prog p.1 p.2 := fA RCb23_1_ok <| fA RCa23_ok <| RCL5_ok
def RCe484 : Ent := ([(.ptr 0 0 0), RCc69, (.im (.int .i64 1))], [some RCc70, some (.m 9 [(.agg [RCc230, (.im (.sl true 0 [])), (.im (.int .i64 1000)), (.im (.int .i64 18)), (.fn (.func 75) [] [(.ptr 2 0 0), (.ptr 3 0 0), (.ptr 4 0 0)]), (.im (.int .i64 0)), (.im (.int .i64 35)), (.im (.int .i64 0)), (.im (.sl true 0 []))])]), some (.c 1 [(.int .i64 1)]), some RCc73, some (.m 1 [(.ptr 1 0 0)]), some (.m 1 [(.ref 6 0 2)]), some RCc74, some (.c 1 [(.int .i64 39)]), some (.c 1 [(.int .i64 0)])], (true, RCc118, [some RCc70, some RCc231, some (.c 1 [(.int .i64 1)]), some RCc73, some (.m 1 [(.ptr 1 0 0)]), some (.m 1 [(.ref 6 0 2)]), some RCc74, some (.c 1 [(.int .i64 39)]), some (.c 1 [(.int .i64 0)])]))
theorem RCr484 : rE (gB RCM23_2) 220 RCe484 = some RCe484.2.2 := by kernel_rfl
def RCb23_2 : Tabl := [RCe484]
theorem RCb23_2_ok : OkZ Tryz.prog 220 (tabSz RCb23_2) := gT RCM23_2_ok (fA RCr484 <| nA)
noncomputable def RCM23_3 : List (Nat × Sz) := (220, tabSz RCb23_2) :: (18, tabSz RCa23) :: RCL5
theorem RCM23_3_ok : ∀ p ∈ RCM23_3, OkZ Tryz.prog p.1 p.2 := fA RCb23_2_ok <| fA RCa23_ok <| RCL5_ok
def RCe485 : Ent := ([(.ptr 0 0 0), RCc69, (.im (.int .i64 1))], [some RCc70, some (.m 9 [(.agg [RCc230, (.im (.sl true 0 [])), (.im (.int .i64 1000)), (.im (.int .i64 13)), (.fn (.func 75) [] [(.ptr 2 0 0), (.ptr 3 0 0), (.ptr 4 0 0)]), (.im (.int .i64 0)), (.im (.int .i64 25)), (.im (.int .i64 0)), (.im (.sl true 0 []))])]), some (.c 1 [(.int .i64 1)]), some RCc73, some (.m 1 [(.ptr 1 0 0)]), some (.m 1 [(.ref 6 0 2)]), some RCc74, some (.c 1 [(.int .i64 44)]), some (.c 1 [(.int .i64 0)])], (true, RCc118, [some RCc70, some RCc231, some (.c 1 [(.int .i64 1)]), some RCc73, some (.m 1 [(.ptr 1 0 0)]), some (.m 1 [(.ref 6 0 2)]), some RCc74, some (.c 1 [(.int .i64 44)]), some (.c 1 [(.int .i64 0)])]))
theorem RCr485 : rE (gB RCM23_3) 220 RCe485 = some RCe485.2.2 := by kernel_rfl
def RCb23_3 : Tabl := [RCe485]
theorem RCb23_3_ok : OkZ Tryz.prog 220 (tabSz RCb23_3) := gT RCM23_3_ok (fA RCr485 <| nA)
noncomputable def RCM23_4 : List (Nat × Sz) := (220, tabSz RCb23_3) :: (18, tabSz RCa23) :: RCL5
theorem RCM23_4_ok : ∀ p ∈ RCM23_4, OkZ Tryz.prog p.1 p.2 := fA RCb23_3_ok <| fA RCa23_ok <| RCL5_ok
def RCe486 : Ent := ([(.ptr 0 0 0), RCc69, (.im (.int .i64 1))], [some RCc70, some (.m 9 [(.agg [RCc230, (.im (.sl true 0 [])), (.im (.int .i64 1000)), (.im (.int .i64 8)), (.fn (.func 75) [] [(.ptr 2 0 0), (.ptr 3 0 0), (.ptr 4 0 0)]), (.im (.int .i64 0)), (.im (.int .i64 15)), (.im (.int .i64 0)), (.im (.sl true 0 []))])]), some (.c 1 [(.int .i64 1)]), some RCc73, some (.m 1 [(.ptr 1 0 0)]), some (.m 1 [(.ref 6 0 2)]), some RCc74, some (.c 1 [(.int .i64 49)]), some (.c 1 [(.int .i64 0)])], (true, RCc118, [some RCc70, some RCc231, some (.c 1 [(.int .i64 1)]), some RCc73, some (.m 1 [(.ptr 1 0 0)]), some (.m 1 [(.ref 6 0 2)]), some RCc74, some (.c 1 [(.int .i64 49)]), some (.c 1 [(.int .i64 0)])]))
theorem RCr486 : rE (gB RCM23_4) 220 RCe486 = some RCe486.2.2 := by kernel_rfl
def RCb23_4 : Tabl := [RCe486]
theorem RCb23_4_ok : OkZ Tryz.prog 220 (tabSz RCb23_4) := gT RCM23_4_ok (fA RCr486 <| nA)
noncomputable def RCM23_5 : List (Nat × Sz) := (220, tabSz RCb23_4) :: (18, tabSz RCa23) :: RCL5
theorem RCM23_5_ok : ∀ p ∈ RCM23_5, OkZ Tryz.prog p.1 p.2 := fA RCb23_4_ok <| fA RCa23_ok <| RCL5_ok
def RCe487 : Ent := ([(.ptr 0 0 0), RCc69, (.im (.int .i64 1))], [some RCc70, some (.m 9 [(.agg [RCc232, (.im (.sl true 0 [])), (.im (.int .i64 1000)), (.im (.int .i64 3)), (.fn (.func 75) [] [(.ptr 2 0 0), (.ptr 3 0 0), (.ptr 4 0 0)]), (.im (.int .i64 0)), (.im (.int .i64 5)), (.im (.int .i64 0)), (.im (.sl true 0 []))])]), some (.c 1 [(.int .i64 1)]), some RCc73, some (.m 1 [(.ptr 1 0 0)]), some (.m 1 [(.ref 6 0 2)]), some RCc74, some (.c 1 [(.int .i64 3)]), some (.c 1 [(.int .i64 0)])], (false, (.im (.int .i64 0)), [some RCc70, some (.m 9 [(.agg [RCc232, (.im (.sl true 0 [])), (.im (.int .i64 1000)), (.im (.int .i64 3)), (.fn (.func 75) [] [(.ptr 2 0 0), (.ptr 3 0 0), (.ptr 4 0 0)]), (.im (.int .i64 0)), (.im (.int .i64 13)), (.im (.int .i64 0)), (.im (.sl true 0 []))])]), some (.c 1 [(.int .i64 1)]), some RCc73, some (.m 1 [(.ptr 1 0 0)]), some (.m 1 [(.ref 6 0 2)]), some RCc74, some (.c 1 [(.int .i64 3)]), some (.c 1 [(.int .i64 3)])]))
theorem RCr487 : rE (gB RCM23_5) 220 RCe487 = some RCe487.2.2 := by kernel_rfl
def RCe488 : Ent := ([(.ptr 0 0 0), RCc69, (.im (.int .i64 1))], [some RCc70, some (.m 9 [(.agg [RCc230, (.im (.sl true 0 [])), (.im (.int .i64 1000)), (.im (.int .i64 3)), (.fn (.func 75) [] [(.ptr 2 0 0), (.ptr 3 0 0), (.ptr 4 0 0)]), (.im (.int .i64 0)), (.im (.int .i64 5)), (.im (.int .i64 0)), (.im (.sl true 0 []))])]), some (.c 1 [(.int .i64 1)]), some RCc73, some (.m 1 [(.ptr 1 0 0)]), some (.m 1 [(.ref 6 0 2)]), some RCc74, some (.c 1 [(.int .i64 54)]), some (.c 1 [(.int .i64 0)])], (true, RCc118, [some RCc70, some RCc231, some (.c 1 [(.int .i64 1)]), some RCc73, some (.m 1 [(.ptr 1 0 0)]), some (.m 1 [(.ref 6 0 2)]), some RCc74, some (.c 1 [(.int .i64 54)]), some (.c 1 [(.int .i64 0)])]))
theorem RCr488 : rE (gB RCM23_5) 220 RCe488 = some RCe488.2.2 := by kernel_rfl
def RCb23_5 : Tabl := [RCe487, RCe488]
theorem RCb23_5_ok : OkZ Tryz.prog 220 (tabSz RCb23_5) := gT RCM23_5_ok (fA RCr487 <| fA RCr488 <| nA)
noncomputable def RCM23_6 : List (Nat × Sz) := (220, tabSz RCb23_5) :: (18, tabSz RCa23) :: RCL5
theorem RCM23_6_ok : ∀ p ∈ RCM23_6, OkZ Tryz.prog p.1 p.2 := fA RCb23_5_ok <| fA RCa23_ok <| RCL5_ok
def RCe489 : Ent := ([RCc227, (.im (.sl true 0 [])), (.im (.int .i64 1000)), (.im (.int .i64 1)), RCc76], [], (false, (.tup [(.agg [(.im (.int .i64 0)), (.im (.int .i64 16)), (.im (.int .i64 (-1))), (.ref 0 0 1)]), (.im (.int .i64 0))]), [some (.c 1 [(.sl false 1 [(.int .i64 10)])])]))
theorem RCr489 : rE (gB RCM23_6) 33 RCe489 = some RCe489.2.2 := by kernel_rfl
def RCe490 : Ent := ([RCc229, (.im (.sl true 0 [])), (.im (.int .i64 1000)), (.im (.int .i64 1)), RCc76], [], (false, (.tup [(.im (.agg [(.int .i64 5), (.int .i64 79), (.int .i64 0), (.sl true 0 [])])), (.im (.int .i64 0))]), []))
theorem RCr490 : rE (gB RCM23_6) 33 RCe490 = some RCe490.2.2 := by kernel_rfl
def RCb23_6 : Tabl := [RCe489, RCe490]
theorem RCb23_6_ok : OkZ Tryz.prog 33 (tabSz RCb23_6) := gT RCM23_6_ok (fA RCr489 <| fA RCr490 <| nA)
def RCz23 : Tabl := RCb23_6
theorem RCz23_ok : OkZ Tryz.prog 33 (tabSz RCz23) := RCb23_6_ok
end Go.Proofs.YtkinbnepkpoofaaGreatDoor