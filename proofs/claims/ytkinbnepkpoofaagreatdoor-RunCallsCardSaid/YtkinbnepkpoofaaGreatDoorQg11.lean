/- Texts joined into one: RCG11. -/
import Derived.Test.YtkinbnepkpoofaaGreatDoorQz
/- Runs of some numbers. -/
set_option maxRecDepth 1000000
set_option linter.unusedVariables false
open Go Go.AM
namespace Go.Proofs.YtkinbnepkpoofaaGreatDoor
def RCe333 : Ent := ([RCc143], [], (false, (.tup [(.im (.int .i64 0)), (.im (.int .i64 (-1)))]), []))
theorem RCr333 : rE (gB RCL5) 18 RCe333 = some RCe333.2.2 := by kernel_rfl
def RCe334 : Ent := ([RCc145], [], (false, (.tup [(.im (.int .i64 0)), (.im (.int .i64 (-1)))]), []))
theorem RCr334 : rE (gB RCL5) 18 RCe334 = some RCe334.2.2 := by kernel_rfl
def RCa11 : Tabl := [RCe333, RCe334]
theorem RCa11_ok : OkZ Tryz.prog 18 (tabSz RCa11) := gT RCL5_ok (fA RCr333 <| fA RCr334 <| nA)
noncomputable def RCM11_0 : List (Nat × Sz) := (18, tabSz RCa11) :: RCL5
theorem RCM11_0_ok : ∀ p ∈ RCM11_0, OkZ Tryz.prog p.1 p.2 := fA RCa11_ok <| RCL5_ok
def RCe335 : Ent := ([(.ptr 0 0 0), RCc69, (.im (.int .i64 1))], [some RCc70, some (.m 9 [(.agg [RCc146, (.im (.sl true 0 [])), (.im (.int .i64 1000)), (.im (.int .i64 28)), (.fn (.func 75) [] [(.ptr 2 0 0), (.ptr 3 0 0), (.ptr 4 0 0)]), (.im (.int .i64 0)), (.im (.int .i64 55)), (.im (.int .i64 0)), (.im (.sl true 0 []))])]), some (.c 1 [(.int .i64 1)]), some RCc73, some (.m 1 [(.ptr 1 0 0)]), some (.m 1 [(.ref 6 0 2)]), some RCc74, some (.c 1 [(.int .i64 17)]), some (.c 1 [(.int .i64 0)])], (true, RCc118, [some RCc70, some RCc147, some (.c 1 [(.int .i64 1)]), some RCc73, some (.m 1 [(.ptr 1 0 0)]), some (.m 1 [(.ref 6 0 2)]), some RCc74, some (.c 1 [(.int .i64 17)]), some (.c 1 [(.int .i64 0)])]))
theorem RCr335 : rE (gB RCM11_0) 220 RCe335 = some RCe335.2.2 := by kernel_rfl
def RCb11_0 : Tabl := [RCe335]
theorem RCb11_0_ok : OkZ Tryz.prog 220 (tabSz RCb11_0) := gT RCM11_0_ok (fA RCr335 <| nA)
noncomputable def RCM11_1 : List (Nat × Sz) := (220, tabSz RCb11_0) :: (18, tabSz RCa11) :: RCL5
theorem RCM11_1_ok : ∀ p ∈ RCM11_1, OkZ Tryz.prog p.1 p.2 := fA RCb11_0_ok <| fA RCa11_ok <| RCL5_ok
def RCe336 : Ent := ([(.ptr 0 0 0), RCc69, (.im (.int .i64 1))], [some RCc70, some (.m 9 [(.agg [RCc146, (.im (.sl true 0 [])), (.im (.int .i64 1000)), (.im (.int .i64 23)), (.fn (.func 75) [] [(.ptr 2 0 0), (.ptr 3 0 0), (.ptr 4 0 0)]), (.im (.int .i64 0)), (.im (.int .i64 45)), (.im (.int .i64 0)), (.im (.sl true 0 []))])]), some (.c 1 [(.int .i64 1)]), some RCc73, some (.m 1 [(.ptr 1 0 0)]), some (.m 1 [(.ref 6 0 2)]), some RCc74, some (.c 1 [(.int .i64 22)]), some (.c 1 [(.int .i64 0)])], (true, RCc118, [some RCc70, some RCc147, some (.c 1 [(.int .i64 1)]), some RCc73, some (.m 1 [(.ptr 1 0 0)]), some (.m 1 [(.ref 6 0 2)]), some RCc74, some (.c 1 [(.int .i64 22)]), some (.c 1 [(.int .i64 0)])]))
theorem RCr336 : rE (gB RCM11_1) 220 RCe336 = some RCe336.2.2 := by kernel_rfl
def RCb11_1 : Tabl := [RCe336]
theorem RCb11_1_ok : OkZ Tryz.prog 220 (tabSz RCb11_1) := gT RCM11_1_ok (fA RCr336 <| nA)
noncomputable def RCM11_2 : List (Nat × Sz) := (220, tabSz RCb11_1) :: (18, tabSz RCa11) :: RCL5
theorem RCM11_2_ok : ∀ p ∈ RCM11_2, OkZ Tryz.prog p.1 p.2 := fA RCb11_1_ok <| fA RCa11_ok <| RCL5_ok
def RCe337 : Ent := ([(.ptr 0 0 0), RCc69, (.im (.int .i64 1))], [some RCc70, some (.m 9 [(.agg [RCc146, (.im (.sl true 0 [])), (.im (.int .i64 1000)), (.im (.int .i64 18)), (.fn (.func 75) [] [(.ptr 2 0 0), (.ptr 3 0 0), (.ptr 4 0 0)]), (.im (.int .i64 0)), (.im (.int .i64 35)), (.im (.int .i64 0)), (.im (.sl true 0 []))])]), some (.c 1 [(.int .i64 1)]), some RCc73, some (.m 1 [(.ptr 1 0 0)]), some (.m 1 [(.ref 6 0 2)]), some RCc74, some (.c 1 [(.int .i64 27)]), some (.c 1 [(.int .i64 0)])], (true, RCc118, [some RCc70, some RCc147, some (.c 1 [(.int .i64 1)]), some RCc73, some (.m 1 [(.ptr 1 0 0)]), some (.m 1 [(.ref 6 0 2)]), some RCc74, some (.c 1 [(.int .i64 27)]), some (.c 1 [(.int .i64 0)])]))
theorem RCr337 : rE (gB RCM11_2) 220 RCe337 = some RCe337.2.2 := by kernel_rfl
def RCb11_2 : Tabl := [RCe337]
theorem RCb11_2_ok : OkZ Tryz.prog 220 (tabSz RCb11_2) := gT RCM11_2_ok (fA RCr337 <| nA)
noncomputable def RCM11_3 : List (Nat × Sz) := (220, tabSz RCb11_2) :: (18, tabSz RCa11) :: RCL5
theorem RCM11_3_ok : ∀ p ∈ RCM11_3, OkZ Tryz.prog p.1 p.2 := fA RCb11_2_ok <| fA RCa11_ok <| RCL5_ok
def RCe338 : Ent := ([(.ptr 0 0 0), RCc69, (.im (.int .i64 1))], [some RCc70, some (.m 9 [(.agg [RCc148, (.im (.sl true 0 [])), (.im (.int .i64 1000)), (.im (.int .i64 13)), (.fn (.func 75) [] [(.ptr 2 0 0), (.ptr 3 0 0), (.ptr 4 0 0)]), (.im (.int .i64 0)), (.im (.int .i64 25)), (.im (.int .i64 0)), (.im (.sl true 0 []))])]), some (.c 1 [(.int .i64 1)]), some RCc73, some (.m 1 [(.ptr 1 0 0)]), some (.m 1 [(.ref 6 0 2)]), some RCc74, some (.c 1 [(.int .i64 5)]), some (.c 1 [(.int .i64 0)])], (false, (.im (.int .i64 0)), [some RCc70, some (.m 9 [(.agg [RCc148, (.im (.sl true 0 [])), (.im (.int .i64 1000)), (.im (.int .i64 13)), (.fn (.func 75) [] [(.ptr 2 0 0), (.ptr 3 0 0), (.ptr 4 0 0)]), (.im (.int .i64 0)), (.im (.int .i64 39)), (.im (.int .i64 0)), (.im (.sl true 0 []))])]), some (.c 1 [(.int .i64 1)]), some RCc73, some (.m 1 [(.ptr 1 0 0)]), some (.m 1 [(.ref 6 0 2)]), some RCc74, some (.c 1 [(.int .i64 5)]), some (.c 1 [(.int .i64 10)])]))
theorem RCr338 : rE (gB RCM11_3) 220 RCe338 = some RCe338.2.2 := by kernel_rfl
def RCe339 : Ent := ([(.ptr 0 0 0), RCc69, (.im (.int .i64 1))], [some RCc70, some (.m 9 [(.agg [RCc146, (.im (.sl true 0 [])), (.im (.int .i64 1000)), (.im (.int .i64 13)), (.fn (.func 75) [] [(.ptr 2 0 0), (.ptr 3 0 0), (.ptr 4 0 0)]), (.im (.int .i64 0)), (.im (.int .i64 25)), (.im (.int .i64 0)), (.im (.sl true 0 []))])]), some (.c 1 [(.int .i64 1)]), some RCc73, some (.m 1 [(.ptr 1 0 0)]), some (.m 1 [(.ref 6 0 2)]), some RCc74, some (.c 1 [(.int .i64 32)]), some (.c 1 [(.int .i64 0)])], (true, RCc118, [some RCc70, some RCc147, some (.c 1 [(.int .i64 1)]), some RCc73, some (.m 1 [(.ptr 1 0 0)]), some (.m 1 [(.ref 6 0 2)]), some RCc74, some (.c 1 [(.int .i64 32)]), some (.c 1 [(.int .i64 0)])]))
theorem RCr339 : rE (gB RCM11_3) 220 RCe339 = some RCe339.2.2 := by kernel_rfl
def RCb11_3 : Tabl := [RCe338, RCe339]
theorem RCb11_3_ok : OkZ Tryz.prog 220 (tabSz RCb11_3) := gT RCM11_3_ok (fA RCr338 <| fA RCr339 <| nA)
noncomputable def RCM11_4 : List (Nat × Sz) := (220, tabSz RCb11_3) :: (18, tabSz RCa11) :: RCL5
theorem RCM11_4_ok : ∀ p ∈ RCM11_4, OkZ Tryz.prog p.1 p.2 := fA RCb11_3_ok <| fA RCa11_ok <| RCL5_ok
def RCe340 : Ent := ([(.ptr 0 0 0), RCc69, (.im (.int .i64 1))], [some RCc70, some (.m 9 [(.agg [RCc148, (.im (.sl true 0 [])), (.im (.int .i64 1000)), (.im (.int .i64 8)), (.fn (.func 75) [] [(.ptr 2 0 0), (.ptr 3 0 0), (.ptr 4 0 0)]), (.im (.int .i64 0)), (.im (.int .i64 15)), (.im (.int .i64 0)), (.im (.sl true 0 []))])]), some (.c 1 [(.int .i64 1)]), some RCc73, some (.m 1 [(.ptr 1 0 0)]), some (.m 1 [(.ref 6 0 2)]), some RCc74, some (.c 1 [(.int .i64 10)]), some (.c 1 [(.int .i64 0)])], (false, (.im (.int .i64 0)), [some RCc70, some (.m 9 [(.agg [RCc148, (.im (.sl true 0 [])), (.im (.int .i64 1000)), (.im (.int .i64 8)), (.fn (.func 75) [] [(.ptr 2 0 0), (.ptr 3 0 0), (.ptr 4 0 0)]), (.im (.int .i64 0)), (.im (.int .i64 44)), (.im (.int .i64 0)), (.im (.sl true 0 []))])]), some (.c 1 [(.int .i64 1)]), some RCc73, some (.m 1 [(.ptr 1 0 0)]), some (.m 1 [(.ref 6 0 2)]), some RCc74, some (.c 1 [(.int .i64 10)]), some (.c 1 [(.int .i64 45)])]))
theorem RCr340 : rE (gB RCM11_4) 220 RCe340 = some RCe340.2.2 := by kernel_rfl
def RCe341 : Ent := ([(.ptr 0 0 0), RCc69, (.im (.int .i64 1))], [some RCc70, some (.m 9 [(.agg [RCc146, (.im (.sl true 0 [])), (.im (.int .i64 1000)), (.im (.int .i64 8)), (.fn (.func 75) [] [(.ptr 2 0 0), (.ptr 3 0 0), (.ptr 4 0 0)]), (.im (.int .i64 0)), (.im (.int .i64 15)), (.im (.int .i64 0)), (.im (.sl true 0 []))])]), some (.c 1 [(.int .i64 1)]), some RCc73, some (.m 1 [(.ptr 1 0 0)]), some (.m 1 [(.ref 6 0 2)]), some RCc74, some (.c 1 [(.int .i64 37)]), some (.c 1 [(.int .i64 0)])], (true, RCc118, [some RCc70, some RCc147, some (.c 1 [(.int .i64 1)]), some RCc73, some (.m 1 [(.ptr 1 0 0)]), some (.m 1 [(.ref 6 0 2)]), some RCc74, some (.c 1 [(.int .i64 37)]), some (.c 1 [(.int .i64 0)])]))
theorem RCr341 : rE (gB RCM11_4) 220 RCe341 = some RCe341.2.2 := by kernel_rfl
def RCb11_4 : Tabl := [RCe340, RCe341]
theorem RCb11_4_ok : OkZ Tryz.prog 220 (tabSz RCb11_4) := gT RCM11_4_ok (fA RCr340 <| fA RCr341 <| nA)
noncomputable def RCM11_5 : List (Nat × Sz) := (220, tabSz RCb11_4) :: (18, tabSz RCa11) :: RCL5
theorem RCM11_5_ok : ∀ p ∈ RCM11_5, OkZ Tryz.prog p.1 p.2 := fA RCb11_4_ok <| fA RCa11_ok <| RCL5_ok
def RCe342 : Ent := ([(.ptr 0 0 0), RCc69, (.im (.int .i64 1))], [some RCc70, some (.m 9 [(.agg [RCc148, (.im (.sl true 0 [])), (.im (.int .i64 1000)), (.im (.int .i64 3)), (.fn (.func 75) [] [(.ptr 2 0 0), (.ptr 3 0 0), (.ptr 4 0 0)]), (.im (.int .i64 0)), (.im (.int .i64 5)), (.im (.int .i64 0)), (.im (.sl true 0 []))])]), some (.c 1 [(.int .i64 1)]), some RCc73, some (.m 1 [(.ptr 1 0 0)]), some (.m 1 [(.ref 6 0 2)]), some RCc74, some (.c 1 [(.int .i64 15)]), some (.c 1 [(.int .i64 0)])], (false, (.im (.int .i64 0)), [some RCc70, some (.m 9 [(.agg [RCc148, (.im (.sl true 0 [])), (.im (.int .i64 1000)), (.im (.int .i64 3)), (.fn (.func 75) [] [(.ptr 2 0 0), (.ptr 3 0 0), (.ptr 4 0 0)]), (.im (.int .i64 0)), (.im (.int .i64 49)), (.im (.int .i64 0)), (.im (.sl true 0 []))])]), some (.c 1 [(.int .i64 1)]), some RCc73, some (.m 1 [(.ptr 1 0 0)]), some (.m 1 [(.ref 6 0 2)]), some RCc74, some (.c 1 [(.int .i64 15)]), some (.c 1 [(.int .i64 105)])]))
theorem RCr342 : rE (gB RCM11_5) 220 RCe342 = some RCe342.2.2 := by kernel_rfl
def RCe343 : Ent := ([(.ptr 0 0 0), RCc69, (.im (.int .i64 1))], [some RCc70, some (.m 9 [(.agg [RCc146, (.im (.sl true 0 [])), (.im (.int .i64 1000)), (.im (.int .i64 3)), (.fn (.func 75) [] [(.ptr 2 0 0), (.ptr 3 0 0), (.ptr 4 0 0)]), (.im (.int .i64 0)), (.im (.int .i64 5)), (.im (.int .i64 0)), (.im (.sl true 0 []))])]), some (.c 1 [(.int .i64 1)]), some RCc73, some (.m 1 [(.ptr 1 0 0)]), some (.m 1 [(.ref 6 0 2)]), some RCc74, some (.c 1 [(.int .i64 42)]), some (.c 1 [(.int .i64 0)])], (true, RCc118, [some RCc70, some RCc147, some (.c 1 [(.int .i64 1)]), some RCc73, some (.m 1 [(.ptr 1 0 0)]), some (.m 1 [(.ref 6 0 2)]), some RCc74, some (.c 1 [(.int .i64 42)]), some (.c 1 [(.int .i64 0)])]))
theorem RCr343 : rE (gB RCM11_5) 220 RCe343 = some RCe343.2.2 := by kernel_rfl
def RCb11_5 : Tabl := [RCe342, RCe343]
theorem RCb11_5_ok : OkZ Tryz.prog 220 (tabSz RCb11_5) := gT RCM11_5_ok (fA RCr342 <| fA RCr343 <| nA)
noncomputable def RCM11_6 : List (Nat × Sz) := (220, tabSz RCb11_5) :: (18, tabSz RCa11) :: RCL5
theorem RCM11_6_ok : ∀ p ∈ RCM11_6, OkZ Tryz.prog p.1 p.2 := fA RCb11_5_ok <| fA RCa11_ok <| RCL5_ok
def RCe344 : Ent := ([RCc143, (.im (.sl true 0 [])), (.im (.int .i64 1000)), (.im (.int .i64 1)), RCc76], [], (false, (.tup [(.agg [(.im (.int .i64 0)), (.im (.int .i64 52)), (.im (.int .i64 (-1))), (.ref 0 0 1)]), (.im (.int .i64 0))]), [some (.c 1 [(.sl false 1 [(.int .i64 136)])])]))
theorem RCr344 : rE (gB RCM11_6) 33 RCe344 = some RCe344.2.2 := by kernel_rfl
def RCe345 : Ent := ([RCc145, (.im (.sl true 0 [])), (.im (.int .i64 1000)), (.im (.int .i64 1)), RCc76], [], (false, (.tup [(.im (.agg [(.int .i64 5), (.int .i64 79), (.int .i64 0), (.sl true 0 [])])), (.im (.int .i64 0))]), []))
theorem RCr345 : rE (gB RCM11_6) 33 RCe345 = some RCe345.2.2 := by kernel_rfl
def RCb11_6 : Tabl := [RCe344, RCe345]
theorem RCb11_6_ok : OkZ Tryz.prog 33 (tabSz RCb11_6) := gT RCM11_6_ok (fA RCr344 <| fA RCr345 <| nA)
def RCz11 : Tabl := RCb11_6
theorem RCz11_ok : OkZ Tryz.prog 33 (tabSz RCz11) := RCb11_6_ok
end Go.Proofs.YtkinbnepkpoofaaGreatDoor