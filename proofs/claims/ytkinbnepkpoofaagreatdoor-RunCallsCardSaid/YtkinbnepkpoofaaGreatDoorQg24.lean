/- Texts joined into one: RCG24. -/
import Derived.Test.YtkinbnepkpoofaaGreatDoorQz
/- Runs of some numbers. -/
set_option maxRecDepth 1000000
set_option linter.unusedVariables false
open Go Go.AM
namespace Go.Proofs.YtkinbnepkpoofaaGreatDoor
def RCe491 : Ent := ([RCc234], [], (false, (.tup [(.im (.int .i64 0)), (.im (.int .i64 (-1)))]), []))
theorem RCr491 : rE (gB RCL5) 18 RCe491 = some RCe491.2.2 := by kernel_rfl
def RCe492 : Ent := ([RCc236], [], (false, (.tup [(.im (.int .i64 0)), (.im (.int .i64 (-1)))]), []))
theorem RCr492 : rE (gB RCL5) 18 RCe492 = some RCe492.2.2 := by kernel_rfl
def RCa24 : Tabl := [RCe491, RCe492]
theorem RCa24_ok : OkZ Tryz.prog 18 (tabSz RCa24) := gT RCL5_ok (fA RCr491 <| fA RCr492 <| nA)
noncomputable def RCM24_0 : List (Nat × Sz) := (18, tabSz RCa24) :: RCL5
theorem RCM24_0_ok : ∀ p ∈ RCM24_0, OkZ Tryz.prog p.1 p.2 := fA RCa24_ok <| RCL5_ok
def RCe493 : Ent := ([(.ptr 0 0 0), RCc69, (.im (.int .i64 1))], [some RCc70, some (.m 9 [(.agg [RCc237, (.im (.sl true 0 [])), (.im (.int .i64 1000)), (.im (.int .i64 28)), (.fn (.func 75) [] [(.ptr 2 0 0), (.ptr 3 0 0), (.ptr 4 0 0)]), (.im (.int .i64 0)), (.im (.int .i64 55)), (.im (.int .i64 0)), (.im (.sl true 0 []))])]), some (.c 1 [(.int .i64 1)]), some RCc73, some (.m 1 [(.ptr 1 0 0)]), some (.m 1 [(.ref 6 0 2)]), some RCc74, some (.c 1 [(.int .i64 30)]), some (.c 1 [(.int .i64 0)])], (true, RCc118, [some RCc70, some RCc238, some (.c 1 [(.int .i64 1)]), some RCc73, some (.m 1 [(.ptr 1 0 0)]), some (.m 1 [(.ref 6 0 2)]), some RCc74, some (.c 1 [(.int .i64 30)]), some (.c 1 [(.int .i64 0)])]))
theorem RCr493 : rE (gB RCM24_0) 220 RCe493 = some RCe493.2.2 := by kernel_rfl
def RCb24_0 : Tabl := [RCe493]
theorem RCb24_0_ok : OkZ Tryz.prog 220 (tabSz RCb24_0) := gT RCM24_0_ok (fA RCr493 <| nA)
noncomputable def RCM24_1 : List (Nat × Sz) := (220, tabSz RCb24_0) :: (18, tabSz RCa24) :: RCL5
theorem RCM24_1_ok : ∀ p ∈ RCM24_1, OkZ Tryz.prog p.1 p.2 := fA RCb24_0_ok <| fA RCa24_ok <| RCL5_ok
def RCe494 : Ent := ([(.ptr 0 0 0), RCc69, (.im (.int .i64 1))], [some RCc70, some (.m 9 [(.agg [RCc237, (.im (.sl true 0 [])), (.im (.int .i64 1000)), (.im (.int .i64 23)), (.fn (.func 75) [] [(.ptr 2 0 0), (.ptr 3 0 0), (.ptr 4 0 0)]), (.im (.int .i64 0)), (.im (.int .i64 45)), (.im (.int .i64 0)), (.im (.sl true 0 []))])]), some (.c 1 [(.int .i64 1)]), some RCc73, some (.m 1 [(.ptr 1 0 0)]), some (.m 1 [(.ref 6 0 2)]), some RCc74, some (.c 1 [(.int .i64 35)]), some (.c 1 [(.int .i64 0)])], (true, RCc118, [some RCc70, some RCc238, some (.c 1 [(.int .i64 1)]), some RCc73, some (.m 1 [(.ptr 1 0 0)]), some (.m 1 [(.ref 6 0 2)]), some RCc74, some (.c 1 [(.int .i64 35)]), some (.c 1 [(.int .i64 0)])]))
theorem RCr494 : rE (gB RCM24_1) 220 RCe494 = some RCe494.2.2 := by kernel_rfl
def RCb24_1 : Tabl := [RCe494]
theorem RCb24_1_ok : OkZ Tryz.prog 220 (tabSz RCb24_1) := gT RCM24_1_ok (fA RCr494 <| nA)
noncomputable def RCM24_2 : List (Nat × Sz) := (220, tabSz RCb24_1) :: (18, tabSz RCa24) :: RCL5
theorem RCM24_2_ok : ∀ p ∈ RCM24_2, OkZ Tryz.prog p.1 p.2 := fA RCb24_1_ok <| fA RCa24_ok <| RCL5_ok
def RCe495 : Ent := ([(.ptr 0 0 0), RCc69, (.im (.int .i64 1))], [some RCc70, some (.m 9 [(.agg [RCc237, (.im (.sl true 0 [])), (.im (.int .i64 1000)), (.im (.int .i64 18)), (.fn (.func 75) [] [(.ptr 2 0 0), (.ptr 3 0 0), (.ptr 4 0 0)]), (.im (.int .i64 0)), (.im (.int .i64 35)), (.im (.int .i64 0)), (.im (.sl true 0 []))])]), some (.c 1 [(.int .i64 1)]), some RCc73, some (.m 1 [(.ptr 1 0 0)]), some (.m 1 [(.ref 6 0 2)]), some RCc74, some (.c 1 [(.int .i64 40)]), some (.c 1 [(.int .i64 0)])], (true, RCc118, [some RCc70, some RCc238, some (.c 1 [(.int .i64 1)]), some RCc73, some (.m 1 [(.ptr 1 0 0)]), some (.m 1 [(.ref 6 0 2)]), some RCc74, some (.c 1 [(.int .i64 40)]), some (.c 1 [(.int .i64 0)])]))
theorem RCr495 : rE (gB RCM24_2) 220 RCe495 = some RCe495.2.2 := by kernel_rfl
def RCb24_2 : Tabl := [RCe495]
theorem RCb24_2_ok : OkZ Tryz.prog 220 (tabSz RCb24_2) := gT RCM24_2_ok (fA RCr495 <| nA)
noncomputable def RCM24_3 : List (Nat × Sz) := (220, tabSz RCb24_2) :: (18, tabSz RCa24) :: RCL5
theorem RCM24_3_ok : ∀ p ∈ RCM24_3, OkZ Tryz.prog p.1 p.2 := fA RCb24_2_ok <| fA RCa24_ok <| RCL5_ok
def RCe496 : Ent := ([(.ptr 0 0 0), RCc69, (.im (.int .i64 1))], [some RCc70, some (.m 9 [(.agg [RCc237, (.im (.sl true 0 [])), (.im (.int .i64 1000)), (.im (.int .i64 13)), (.fn (.func 75) [] [(.ptr 2 0 0), (.ptr 3 0 0), (.ptr 4 0 0)]), (.im (.int .i64 0)), (.im (.int .i64 25)), (.im (.int .i64 0)), (.im (.sl true 0 []))])]), some (.c 1 [(.int .i64 1)]), some RCc73, some (.m 1 [(.ptr 1 0 0)]), some (.m 1 [(.ref 6 0 2)]), some RCc74, some (.c 1 [(.int .i64 45)]), some (.c 1 [(.int .i64 0)])], (true, RCc118, [some RCc70, some RCc238, some (.c 1 [(.int .i64 1)]), some RCc73, some (.m 1 [(.ptr 1 0 0)]), some (.m 1 [(.ref 6 0 2)]), some RCc74, some (.c 1 [(.int .i64 45)]), some (.c 1 [(.int .i64 0)])]))
theorem RCr496 : rE (gB RCM24_3) 220 RCe496 = some RCe496.2.2 := by kernel_rfl
def RCb24_3 : Tabl := [RCe496]
theorem RCb24_3_ok : OkZ Tryz.prog 220 (tabSz RCb24_3) := gT RCM24_3_ok (fA RCr496 <| nA)
noncomputable def RCM24_4 : List (Nat × Sz) := (220, tabSz RCb24_3) :: (18, tabSz RCa24) :: RCL5
theorem RCM24_4_ok : ∀ p ∈ RCM24_4, OkZ Tryz.prog p.1 p.2 := fA RCb24_3_ok <| fA RCa24_ok <| RCL5_ok
def RCe497 : Ent := ([(.ptr 0 0 0), RCc69, (.im (.int .i64 1))], [some RCc70, some (.m 9 [(.agg [RCc237, (.im (.sl true 0 [])), (.im (.int .i64 1000)), (.im (.int .i64 8)), (.fn (.func 75) [] [(.ptr 2 0 0), (.ptr 3 0 0), (.ptr 4 0 0)]), (.im (.int .i64 0)), (.im (.int .i64 15)), (.im (.int .i64 0)), (.im (.sl true 0 []))])]), some (.c 1 [(.int .i64 1)]), some RCc73, some (.m 1 [(.ptr 1 0 0)]), some (.m 1 [(.ref 6 0 2)]), some RCc74, some (.c 1 [(.int .i64 50)]), some (.c 1 [(.int .i64 0)])], (true, RCc118, [some RCc70, some RCc238, some (.c 1 [(.int .i64 1)]), some RCc73, some (.m 1 [(.ptr 1 0 0)]), some (.m 1 [(.ref 6 0 2)]), some RCc74, some (.c 1 [(.int .i64 50)]), some (.c 1 [(.int .i64 0)])]))
theorem RCr497 : rE (gB RCM24_4) 220 RCe497 = some RCe497.2.2 := by kernel_rfl
def RCb24_4 : Tabl := [RCe497]
theorem RCb24_4_ok : OkZ Tryz.prog 220 (tabSz RCb24_4) := gT RCM24_4_ok (fA RCr497 <| nA)
noncomputable def RCM24_5 : List (Nat × Sz) := (220, tabSz RCb24_4) :: (18, tabSz RCa24) :: RCL5
theorem RCM24_5_ok : ∀ p ∈ RCM24_5, OkZ Tryz.prog p.1 p.2 := fA RCb24_4_ok <| fA RCa24_ok <| RCL5_ok
def RCe498 : Ent := ([(.ptr 0 0 0), RCc69, (.im (.int .i64 1))], [some RCc70, some (.m 9 [(.agg [RCc239, (.im (.sl true 0 [])), (.im (.int .i64 1000)), (.im (.int .i64 3)), (.fn (.func 75) [] [(.ptr 2 0 0), (.ptr 3 0 0), (.ptr 4 0 0)]), (.im (.int .i64 0)), (.im (.int .i64 5)), (.im (.int .i64 0)), (.im (.sl true 0 []))])]), some (.c 1 [(.int .i64 1)]), some RCc73, some (.m 1 [(.ptr 1 0 0)]), some (.m 1 [(.ref 6 0 2)]), some RCc74, some (.c 1 [(.int .i64 2)]), some (.c 1 [(.int .i64 0)])], (false, (.im (.int .i64 0)), [some RCc70, some (.m 9 [(.agg [RCc239, (.im (.sl true 0 [])), (.im (.int .i64 1000)), (.im (.int .i64 3)), (.fn (.func 75) [] [(.ptr 2 0 0), (.ptr 3 0 0), (.ptr 4 0 0)]), (.im (.int .i64 0)), (.im (.int .i64 10)), (.im (.int .i64 0)), (.im (.sl true 0 []))])]), some (.c 1 [(.int .i64 1)]), some RCc73, some (.m 1 [(.ptr 1 0 0)]), some (.m 1 [(.ref 6 0 2)]), some RCc74, some (.c 1 [(.int .i64 2)]), some (.c 1 [(.int .i64 1)])]))
theorem RCr498 : rE (gB RCM24_5) 220 RCe498 = some RCe498.2.2 := by kernel_rfl
def RCe499 : Ent := ([(.ptr 0 0 0), RCc69, (.im (.int .i64 1))], [some RCc70, some (.m 9 [(.agg [RCc237, (.im (.sl true 0 [])), (.im (.int .i64 1000)), (.im (.int .i64 3)), (.fn (.func 75) [] [(.ptr 2 0 0), (.ptr 3 0 0), (.ptr 4 0 0)]), (.im (.int .i64 0)), (.im (.int .i64 5)), (.im (.int .i64 0)), (.im (.sl true 0 []))])]), some (.c 1 [(.int .i64 1)]), some RCc73, some (.m 1 [(.ptr 1 0 0)]), some (.m 1 [(.ref 6 0 2)]), some RCc74, some (.c 1 [(.int .i64 55)]), some (.c 1 [(.int .i64 0)])], (true, RCc118, [some RCc70, some RCc238, some (.c 1 [(.int .i64 1)]), some RCc73, some (.m 1 [(.ptr 1 0 0)]), some (.m 1 [(.ref 6 0 2)]), some RCc74, some (.c 1 [(.int .i64 55)]), some (.c 1 [(.int .i64 0)])]))
theorem RCr499 : rE (gB RCM24_5) 220 RCe499 = some RCe499.2.2 := by kernel_rfl
def RCb24_5 : Tabl := [RCe498, RCe499]
theorem RCb24_5_ok : OkZ Tryz.prog 220 (tabSz RCb24_5) := gT RCM24_5_ok (fA RCr498 <| fA RCr499 <| nA)
noncomputable def RCM24_6 : List (Nat × Sz) := (220, tabSz RCb24_5) :: (18, tabSz RCa24) :: RCL5
theorem RCM24_6_ok : ∀ p ∈ RCM24_6, OkZ Tryz.prog p.1 p.2 := fA RCb24_5_ok <| fA RCa24_ok <| RCL5_ok
def RCe500 : Ent := ([RCc234, (.im (.sl true 0 [])), (.im (.int .i64 1000)), (.im (.int .i64 1)), RCc76], [], (false, (.tup [(.agg [(.im (.int .i64 0)), (.im (.int .i64 13)), (.im (.int .i64 (-1))), (.ref 0 0 1)]), (.im (.int .i64 0))]), [some (.c 1 [(.sl false 1 [(.int .i64 6)])])]))
theorem RCr500 : rE (gB RCM24_6) 33 RCe500 = some RCe500.2.2 := by kernel_rfl
def RCe501 : Ent := ([RCc236, (.im (.sl true 0 [])), (.im (.int .i64 1000)), (.im (.int .i64 1)), RCc76], [], (false, (.tup [(.im (.agg [(.int .i64 5), (.int .i64 79), (.int .i64 0), (.sl true 0 [])])), (.im (.int .i64 0))]), []))
theorem RCr501 : rE (gB RCM24_6) 33 RCe501 = some RCe501.2.2 := by kernel_rfl
def RCb24_6 : Tabl := [RCe500, RCe501]
theorem RCb24_6_ok : OkZ Tryz.prog 33 (tabSz RCb24_6) := gT RCM24_6_ok (fA RCr500 <| fA RCr501 <| nA)
def RCz24 : Tabl := RCb24_6
theorem RCz24_ok : OkZ Tryz.prog 33 (tabSz RCz24) := RCb24_6_ok
end Go.Proofs.YtkinbnepkpoofaaGreatDoor