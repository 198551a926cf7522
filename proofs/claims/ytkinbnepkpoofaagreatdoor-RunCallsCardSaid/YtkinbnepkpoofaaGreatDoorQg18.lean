/- Texts joined into one: RCG18. -/
import Derived.Test.YtkinbnepkpoofaaGreatDoorQz
/- Runs of some numbers. -/
set_option maxRecDepth 1000000
set_option linter.unusedVariables false
open Go Go.AM
namespace Go.Proofs.YtkinbnepkpoofaaGreatDoor
def RCe422 : Ent := ([RCc192], [], (false, (.tup [(.im (.int .i64 0)), (.im (.int .i64 (-1)))]), []))
theorem RCr422 : rE (gB RCL5) 18 RCe422 = some RCe422.2.2 := by kernel_rfl
def RCe423 : Ent := ([RCc194], [], (false, (.tup [(.im (.int .i64 0)), (.im (.int .i64 (-1)))]), []))
theorem RCr423 : rE (gB RCL5) 18 RCe423 = some RCe423.2.2 := by kernel_rfl
def RCa18 : Tabl := [RCe422, RCe423]
theorem RCa18_ok : OkZ Tryz.prog 18 (tabSz RCa18) := gT RCL5_ok (fA RCr422 <| fA RCr423 <| nA)
noncomputable def RCM18_0 : List (Nat × Sz) := (18, tabSz RCa18) :: RCL5
theorem RCM18_0_ok : ∀ p ∈ RCM18_0, OkZ Tryz.prog p.1 p.2 := fA RCa18_ok <| RCL5_ok
def RCe424 : Ent := ([(.ptr 0 0 0), RCc69, (.im (.int .i64 1))], [some RCc70, some (.m 9 [(.agg [RCc195, (.im (.sl true 0 [])), (.im (.int .i64 1000)), (.im (.int .i64 28)), (.fn (.func 75) [] [(.ptr 2 0 0), (.ptr 3 0 0), (.ptr 4 0 0)]), (.im (.int .i64 0)), (.im (.int .i64 55)), (.im (.int .i64 0)), (.im (.sl true 0 []))])]), some (.c 1 [(.int .i64 1)]), some RCc73, some (.m 1 [(.ptr 1 0 0)]), some (.m 1 [(.ref 6 0 2)]), some RCc74, some (.c 1 [(.int .i64 24)]), some (.c 1 [(.int .i64 0)])], (true, RCc118, [some RCc70, some RCc196, some (.c 1 [(.int .i64 1)]), some RCc73, some (.m 1 [(.ptr 1 0 0)]), some (.m 1 [(.ref 6 0 2)]), some RCc74, some (.c 1 [(.int .i64 24)]), some (.c 1 [(.int .i64 0)])]))
theorem RCr424 : rE (gB RCM18_0) 220 RCe424 = some RCe424.2.2 := by kernel_rfl
def RCb18_0 : Tabl := [RCe424]
theorem RCb18_0_ok : OkZ Tryz.prog 220 (tabSz RCb18_0) := gT RCM18_0_ok (fA RCr424 <| nA)
noncomputable def RCM18_1 : List (Nat × Sz) := (220, tabSz RCb18_0) :: (18, tabSz RCa18) :: RCL5
theorem RCM18_1_ok : ∀ p ∈ RCM18_1, OkZ Tryz.prog p.1 p.2 := fA RCb18_0_ok <| fA RCa18_ok <| RCL5_ok
def RCe425 : Ent := ([(.ptr 0 0 0), RCc69, (.im (.int .i64 1))], [some RCc70, some (.m 9 [(.agg [RCc195, (.im (.sl true 0 [])), (.im (.int .i64 1000)), (.im (.int .i64 23)), (.fn (.func 75) [] [(.ptr 2 0 0), (.ptr 3 0 0), (.ptr 4 0 0)]), (.im (.int .i64 0)), (.im (.int .i64 45)), (.im (.int .i64 0)), (.im (.sl true 0 []))])]), some (.c 1 [(.int .i64 1)]), some RCc73, some (.m 1 [(.ptr 1 0 0)]), some (.m 1 [(.ref 6 0 2)]), some RCc74, some (.c 1 [(.int .i64 29)]), some (.c 1 [(.int .i64 0)])], (true, RCc118, [some RCc70, some RCc196, some (.c 1 [(.int .i64 1)]), some RCc73, some (.m 1 [(.ptr 1 0 0)]), some (.m 1 [(.ref 6 0 2)]), some RCc74, some (.c 1 [(.int .i64 29)]), some (.c 1 [(.int .i64 0)])]))
theorem RCr425 : rE (gB RCM18_1) 220 RCe425 = some RCe425.2.2 := by kernel_rfl
def RCb18_1 : Tabl := [RCe425]
theorem RCb18_1_ok : OkZ Tryz.prog 220 (tabSz RCb18_1) := gT RCM18_1_ok (fA RCr425 <| nA)
noncomputable def RCM18_2 : List (Nat × Sz) := (220, tabSz RCb18_1) :: (18, tabSz RCa18) :: RCL5
theorem RCM18_2_ok : ∀ p ∈ RCM18_2, OkZ Tryz.prog p.1 p.2 := fA RCb18_1_ok <| fA RCa18_ok <| RCL5_ok
def RCe426 : Ent := ([(.ptr 0 0 0), RCc69, (.im (.int .i64 1))], [some RCc70, some (.m 9 [(.agg [RCc195, (.im (.sl true 0 [])), (.im (.int .i64 1000)), (.im (.int .i64 18)), (.fn (.func 75) [] [(.ptr 2 0 0), (.ptr 3 0 0), (.ptr 4 0 0)]), (.im (.int .i64 0)), (.im (.int .i64 35)), (.im (.int .i64 0)), (.im (.sl true 0 []))])]), some (.c 1 [(.int .i64 1)]), some RCc73, some (.m 1 [(.ptr 1 0 0)]), some (.m 1 [(.ref 6 0 2)]), some RCc74, some (.c 1 [(.int .i64 34)]), some (.c 1 [(.int .i64 0)])], (true, RCc118, [some RCc70, some RCc196, some (.c 1 [(.int .i64 1)]), some RCc73, some (.m 1 [(.ptr 1 0 0)]), some (.m 1 [(.ref 6 0 2)]), some RCc74, some (.c 1 [(.int .i64 34)]), some (.c 1 [(.int .i64 0)])]))
theorem RCr426 : rE (gB RCM18_2) 220 RCe426 = some RCe426.2.2 := by kernel_rfl
def RCb18_2 : Tabl := [RCe426]
theorem RCb18_2_ok : OkZ Tryz.prog 220 (tabSz RCb18_2) := gT RCM18_2_ok (fA RCr426 <| nA)
noncomputable def RCM18_3 : List (Nat × Sz) := (220, tabSz RCb18_2) :: (18, tabSz RCa18) :: RCL5
theorem RCM18_3_ok : ∀ p ∈ RCM18_3, OkZ Tryz.prog p.1 p.2 := fA RCb18_2_ok <| fA RCa18_ok <| RCL5_ok
def RCe427 : Ent := ([(.ptr 0 0 0), RCc69, (.im (.int .i64 1))], [some RCc70, some (.m 9 [(.agg [RCc195, (.im (.sl true 0 [])), (.im (.int .i64 1000)), (.im (.int .i64 13)), (.fn (.func 75) [] [(.ptr 2 0 0), (.ptr 3 0 0), (.ptr 4 0 0)]), (.im (.int .i64 0)), (.im (.int .i64 25)), (.im (.int .i64 0)), (.im (.sl true 0 []))])]), some (.c 1 [(.int .i64 1)]), some RCc73, some (.m 1 [(.ptr 1 0 0)]), some (.m 1 [(.ref 6 0 2)]), some RCc74, some (.c 1 [(.int .i64 39)]), some (.c 1 [(.int .i64 0)])], (true, RCc118, [some RCc70, some RCc196, some (.c 1 [(.int .i64 1)]), some RCc73, some (.m 1 [(.ptr 1 0 0)]), some (.m 1 [(.ref 6 0 2)]), some RCc74, some (.c 1 [(.int .i64 39)]), some (.c 1 [(.int .i64 0)])]))
theorem RCr427 : rE (gB RCM18_3) 220 RCe427 = some RCe427.2.2 := by kernel_rfl
def RCb18_3 : Tabl := [RCe427]
theorem RCb18_3_ok : OkZ Tryz.prog 220 (tabSz RCb18_3) := gT RCM18_3_ok (fA RCr427 <| nA)
noncomputable def RCM18_4 : List (Nat × Sz) := (220, tabSz RCb18_3) :: (18, tabSz RCa18) :: RCL5
theorem RCM18_4_ok : ∀ p ∈ RCM18_4, OkZ Tryz.prog p.1 p.2 := fA RCb18_3_ok <| fA RCa18_ok <| RCL5_ok
def RCe428 : Ent := ([(.ptr 0 0 0), RCc69, (.im (.int .i64 1))], [some RCc70, some (.m 9 [(.agg [RCc197, (.im (.sl true 0 [])), (.im (.int .i64 1000)), (.im (.int .i64 8)), (.fn (.func 75) [] [(.ptr 2 0 0), (.ptr 3 0 0), (.ptr 4 0 0)]), (.im (.int .i64 0)), (.im (.int .i64 15)), (.im (.int .i64 0)), (.im (.sl true 0 []))])]), some (.c 1 [(.int .i64 1)]), some RCc73, some (.m 1 [(.ptr 1 0 0)]), some (.m 1 [(.ref 6 0 2)]), some RCc74, some (.c 1 [(.int .i64 3)]), some (.c 1 [(.int .i64 0)])], (false, (.im (.int .i64 0)), [some RCc70, some (.m 9 [(.agg [RCc197, (.im (.sl true 0 [])), (.im (.int .i64 1000)), (.im (.int .i64 8)), (.fn (.func 75) [] [(.ptr 2 0 0), (.ptr 3 0 0), (.ptr 4 0 0)]), (.im (.int .i64 0)), (.im (.int .i64 23)), (.im (.int .i64 0)), (.im (.sl true 0 []))])]), some (.c 1 [(.int .i64 1)]), some RCc73, some (.m 1 [(.ptr 1 0 0)]), some (.m 1 [(.ref 6 0 2)]), some RCc74, some (.c 1 [(.int .i64 3)]), some (.c 1 [(.int .i64 3)])]))
theorem RCr428 : rE (gB RCM18_4) 220 RCe428 = some RCe428.2.2 := by kernel_rfl
def RCe429 : Ent := ([(.ptr 0 0 0), RCc69, (.im (.int .i64 1))], [some RCc70, some (.m 9 [(.agg [RCc195, (.im (.sl true 0 [])), (.im (.int .i64 1000)), (.im (.int .i64 8)), (.fn (.func 75) [] [(.ptr 2 0 0), (.ptr 3 0 0), (.ptr 4 0 0)]), (.im (.int .i64 0)), (.im (.int .i64 15)), (.im (.int .i64 0)), (.im (.sl true 0 []))])]), some (.c 1 [(.int .i64 1)]), some RCc73, some (.m 1 [(.ptr 1 0 0)]), some (.m 1 [(.ref 6 0 2)]), some RCc74, some (.c 1 [(.int .i64 44)]), some (.c 1 [(.int .i64 0)])], (true, RCc118, [some RCc70, some RCc196, some (.c 1 [(.int .i64 1)]), some RCc73, some (.m 1 [(.ptr 1 0 0)]), some (.m 1 [(.ref 6 0 2)]), some RCc74, some (.c 1 [(.int .i64 44)]), some (.c 1 [(.int .i64 0)])]))
theorem RCr429 : rE (gB RCM18_4) 220 RCe429 = some RCe429.2.2 := by kernel_rfl
def RCb18_4 : Tabl := [RCe428, RCe429]
theorem RCb18_4_ok : OkZ Tryz.prog 220 (tabSz RCb18_4) := gT RCM18_4_ok (fA RCr428 <| fA RCr429 <| nA)
noncomputable def RCM18_5 : List (Nat × Sz) := (220, tabSz RCb18_4) :: (18, tabSz RCa18) :: RCL5
theorem RCM18_5_ok : ∀ p ∈ RCM18_5, OkZ Tryz.prog p.1 p.2 := fA RCb18_4_ok <| fA RCa18_ok <| RCL5_ok
def RCe430 : Ent := ([(.ptr 0 0 0), RCc69, (.im (.int .i64 1))], [some RCc70, some (.m 9 [(.agg [RCc197, (.im (.sl true 0 [])), (.im (.int .i64 1000)), (.im (.int .i64 3)), (.fn (.func 75) [] [(.ptr 2 0 0), (.ptr 3 0 0), (.ptr 4 0 0)]), (.im (.int .i64 0)), (.im (.int .i64 5)), (.im (.int .i64 0)), (.im (.sl true 0 []))])]), some (.c 1 [(.int .i64 1)]), some RCc73, some (.m 1 [(.ptr 1 0 0)]), some (.m 1 [(.ref 6 0 2)]), some RCc74, some (.c 1 [(.int .i64 8)]), some (.c 1 [(.int .i64 0)])], (false, (.im (.int .i64 0)), [some RCc70, some (.m 9 [(.agg [RCc197, (.im (.sl true 0 [])), (.im (.int .i64 1000)), (.im (.int .i64 3)), (.fn (.func 75) [] [(.ptr 2 0 0), (.ptr 3 0 0), (.ptr 4 0 0)]), (.im (.int .i64 0)), (.im (.int .i64 28)), (.im (.int .i64 0)), (.im (.sl true 0 []))])]), some (.c 1 [(.int .i64 1)]), some RCc73, some (.m 1 [(.ptr 1 0 0)]), some (.m 1 [(.ref 6 0 2)]), some RCc74, some (.c 1 [(.int .i64 8)]), some (.c 1 [(.int .i64 28)])]))
theorem RCr430 : rE (gB RCM18_5) 220 RCe430 = some RCe430.2.2 := by kernel_rfl
def RCe431 : Ent := ([(.ptr 0 0 0), RCc69, (.im (.int .i64 1))], [some RCc70, some (.m 9 [(.agg [RCc195, (.im (.sl true 0 [])), (.im (.int .i64 1000)), (.im (.int .i64 3)), (.fn (.func 75) [] [(.ptr 2 0 0), (.ptr 3 0 0), (.ptr 4 0 0)]), (.im (.int .i64 0)), (.im (.int .i64 5)), (.im (.int .i64 0)), (.im (.sl true 0 []))])]), some (.c 1 [(.int .i64 1)]), some RCc73, some (.m 1 [(.ptr 1 0 0)]), some (.m 1 [(.ref 6 0 2)]), some RCc74, some (.c 1 [(.int .i64 49)]), some (.c 1 [(.int .i64 0)])], (true, RCc118, [some RCc70, some RCc196, some (.c 1 [(.int .i64 1)]), some RCc73, some (.m 1 [(.ptr 1 0 0)]), some (.m 1 [(.ref 6 0 2)]), some RCc74, some (.c 1 [(.int .i64 49)]), some (.c 1 [(.int .i64 0)])]))
theorem RCr431 : rE (gB RCM18_5) 220 RCe431 = some RCe431.2.2 := by kernel_rfl
def RCb18_5 : Tabl := [RCe430, RCe431]
theorem RCb18_5_ok : OkZ Tryz.prog 220 (tabSz RCb18_5) := gT RCM18_5_ok (fA RCr430 <| fA RCr431 <| nA)
noncomputable def RCM18_6 : List (Nat × Sz) := (220, tabSz RCb18_5) :: (18, tabSz RCa18) :: RCL5
theorem RCM18_6_ok : ∀ p ∈ RCM18_6, OkZ Tryz.prog p.1 p.2 := fA RCb18_5_ok <| fA RCa18_ok <| RCL5_ok
def RCe432 : Ent := ([RCc192, (.im (.sl true 0 [])), (.im (.int .i64 1000)), (.im (.int .i64 1)), RCc76], [], (false, (.tup [(.agg [(.im (.int .i64 0)), (.im (.int .i64 31)), (.im (.int .i64 (-1))), (.ref 0 0 1)]), (.im (.int .i64 0))]), [some (.c 1 [(.sl false 1 [(.int .i64 45)])])]))
theorem RCr432 : rE (gB RCM18_6) 33 RCe432 = some RCe432.2.2 := by kernel_rfl
def RCe433 : Ent := ([RCc194, (.im (.sl true 0 [])), (.im (.int .i64 1000)), (.im (.int .i64 1)), RCc76], [], (false, (.tup [(.im (.agg [(.int .i64 5), (.int .i64 79), (.int .i64 0), (.sl true 0 [])])), (.im (.int .i64 0))]), []))
theorem RCr433 : rE (gB RCM18_6) 33 RCe433 = some RCe433.2.2 := by kernel_rfl
def RCb18_6 : Tabl := [RCe432, RCe433]
theorem RCb18_6_ok : OkZ Tryz.prog 33 (tabSz RCb18_6) := gT RCM18_6_ok (fA RCr432 <| fA RCr433 <| nA)
def RCz18 : Tabl := RCb18_6
theorem RCz18_ok : OkZ Tryz.prog 33 (tabSz RCz18) := RCb18_6_ok
end Go.Proofs.YtkinbnepkpoofaaGreatDoor