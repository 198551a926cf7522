/- Texts joined into one: RCG27. -/
import Derived.Test.YtkinbnepkpoofaaGreatDoorQz
/- Runs of some numbers. -/
set_option maxRecDepth 1000000
set_option linter.unusedVariables false
open Go Go.AM
namespace Go.Proofs.YtkinbnepkpoofaaGreatDoor
def RCe523 : Ent := ([RCc252], [], (false, (.tup [(.im (.int .i64 0)), (.im (.int .i64 (-1)))]), []))
theorem RCr523 : rE (gB RCL5) 18 RCe523 = some RCe523.2.2 := by kernel_rfl
def RCe524 : Ent := ([RCc254], [], (false, (.tup [(.im (.int .i64 0)), (.im (.int .i64 (-1)))]), []))
theorem RCr524 : rE (gB RCL5) 18 RCe524 = some RCe524.2.2 := by kernel_rfl
def RCa27 : Tabl := [RCe523, RCe524]
theorem RCa27_ok : OkZ Tryz.prog 18 (tabSz RCa27) := gT RCL5_ok (fA RCr523 <| fA RCr524 <| nA)
noncomputable def RCM27_0 : List (Nat × Sz) := (18, tabSz RCa27) :: RCL5
theorem RCM27_0_ok : ∀ p ∈ RCM27_0, OkZ Tryz.prog p.1 p.2 := fA RCa27_ok <| RCL5_ok
def RCe525 : Ent := ([(.ptr 0 0 0), RCc69, (.im (.int .i64 1))], [some RCc70, some (.m 9 [(.agg [RCc255, (.im (.sl true 0 [])), (.im (.int .i64 1000)), (.im (.int .i64 28)), (.fn (.func 75) [] [(.ptr 2 0 0), (.ptr 3 0 0), (.ptr 4 0 0)]), (.im (.int .i64 0)), (.im (.int .i64 55)), (.im (.int .i64 0)), (.im (.sl true 0 []))])]), some (.c 1 [(.int .i64 1)]), some RCc73, some (.m 1 [(.ptr 1 0 0)]), some (.m 1 [(.ref 6 0 2)]), some RCc74, some (.c 1 [(.int .i64 33)]), some (.c 1 [(.int .i64 0)])], (true, RCc118, [some RCc70, some RCc256, some (.c 1 [(.int .i64 1)]), some RCc73, some (.m 1 [(.ptr 1 0 0)]), some (.m 1 [(.ref 6 0 2)]), some RCc74, some (.c 1 [(.int .i64 33)]), some (.c 1 [(.int .i64 0)])]))
theorem RCr525 : rE (gB RCM27_0) 220 RCe525 = some RCe525.2.2 := by kernel_rfl
def RCb27_0 : Tabl := [RCe525]
theorem RCb27_0_ok : OkZ Tryz.prog 220 (tabSz RCb27_0) := gT RCM27_0_ok (fA RCr525 <| nA)
noncomputable def RCM27_1 : List (Nat × Sz) := (220, tabSz RCb27_0) :: (18, tabSz RCa27) :: RCL5
theorem RCM27_1_ok : ∀ p ∈ RCM27_1, OkZ Tryz.prog p.1 p.2 := fA RCb27_0_ok <| fA RCa27_ok <| RCL5_ok
def RCe526 : Ent := ([(.ptr 0 0 0), RCc69, (.im (.int .i64 1))], [some RCc70, some (.m 9 [(.agg [RCc255, (.im (.sl true 0 [])), (.im (.int .i64 1000)), (.im (.int .i64 23)), (.fn (.func 75) [] [(.ptr 2 0 0), (.ptr 3 0 0), (.ptr 4 0 0)]), (.im (.int .i64 0)), (.im (.int .i64 45)), (.im (.int .i64 0)), (.im (.sl true 0 []))])]), some (.c 1 [(.int .i64 1)]), some RCc73, some (.m 1 [(.ptr 1 0 0)]), some (.m 1 [(.ref 6 0 2)]), some RCc74, some (.c 1 [(.int .i64 38)]), some (.c 1 [(.int .i64 0)])], (true, RCc118, [some RCc70, some RCc256, some (.c 1 [(.int .i64 1)]), some RCc73, some (.m 1 [(.ptr 1 0 0)]), some (.m 1 [(.ref 6 0 2)]), some RCc74, some (.c 1 [(.int .i64 38)]), some (.c 1 [(.int .i64 0)])]))
theorem RCr526 : rE (gB RCM27_1) 220 RCe526 = some RCe526.2.2 := by kernel_rfl
def RCb27_1 : Tabl := [RCe526]
theorem RCb27_1_ok : OkZ Tryz.prog 220 (tabSz RCb27_1) := gT RCM27_1_ok (fA RCr526 <| nA)
noncomputable def RCM27_2 : List (Nat × Sz) := (220, tabSz RCb27_1) :: (18, tabSz RCa27) :: RCL5
theorem RCM27_2_ok : ∀ p ∈ RCM27_2, OkZ Tryz.prog p.1 p.2 := fA RCb27_1_ok <| fA RCa27_ok <| RCL5_ok
def RCe527 : Ent := ([(.ptr 0 0 0), RCc69, (.im (.int .i64 1))], [some RCc70, some (.m 9 [(.agg [RCc255, (.im (.sl true 0 [])), (.im (.int .i64 1000)), (.im (.int .i64 18)), (.fn (.func 75) [] [(.ptr 2 0 0), (.ptr 3 0 0), (.ptr 4 0 0)]), (.im (.int .i64 0)), (.im (.int .i64 35)), (.im (.int .i64 0)), (.im (.sl true 0 []))])]), some (.c 1 [(.int .i64 1)]), some RCc73, some (.m 1 [(.ptr 1 0 0)]), some (.m 1 [(.ref 6 0 2)]), some RCc74, some (.c 1 [(.int .i64 43)]), some (.c 1 [(.int .i64 0)])], (true, RCc118, [some RCc70, some RCc256, some (.c 1 [(.int .i64 1)]), some RCc73, some (.m 1 [(.ptr 1 0 0)]), some (.m 1 [(.ref 6 0 2)]), some RCc74, some (.c 1 [(.int .i64 43)]), some (.c 1 [(.int .i64 0)])]))
theorem RCr527 : rE (gB RCM27_2) 220 RCe527 = some RCe527.2.2 := by kernel_rfl
def RCb27_2 : Tabl := [RCe527]
theorem RCb27_2_ok : OkZ Tryz.prog 220 (tabSz RCb27_2) := gT RCM27_2_ok (fA RCr527 <| nA)
noncomputable def RCM27_3 : List (Nat × Sz) := (220, tabSz RCb27_2) :: (18, tabSz RCa27) :: RCL5
theorem RCM27_3_ok : ∀ p ∈ RCM27_3, OkZ Tryz.prog p.1 p.2 := fA RCb27_2_ok <| fA RCa27_ok <| RCL5_ok
def RCe528 : Ent := ([(.ptr 0 0 0), RCc69, (.im (.int .i64 1))], [some RCc70, some (.m 9 [(.agg [RCc255, (.im (.sl true 0 [])), (.im (.int .i64 1000)), (.im (.int .i64 13)), (.fn (.func 75) [] [(.ptr 2 0 0), (.ptr 3 0 0), (.ptr 4 0 0)]), (.im (.int .i64 0)), (.im (.int .i64 25)), (.im (.int .i64 0)), (.im (.sl true 0 []))])]), some (.c 1 [(.int .i64 1)]), some RCc73, some (.m 1 [(.ptr 1 0 0)]), some (.m 1 [(.ref 6 0 2)]), some RCc74, some (.c 1 [(.int .i64 48)]), some (.c 1 [(.int .i64 0)])], (true, RCc118, [some RCc70, some RCc256, some (.c 1 [(.int .i64 1)]), some RCc73, some (.m 1 [(.ptr 1 0 0)]), some (.m 1 [(.ref 6 0 2)]), some RCc74, some (.c 1 [(.int .i64 48)]), some (.c 1 [(.int .i64 0)])]))
theorem RCr528 : rE (gB RCM27_3) 220 RCe528 = some RCe528.2.2 := by kernel_rfl
def RCb27_3 : Tabl := [RCe528]
theorem RCb27_3_ok : OkZ Tryz.prog 220 (tabSz RCb27_3) := gT RCM27_3_ok (fA RCr528 <| nA)
noncomputable def RCM27_4 : List (Nat × Sz) := (220, tabSz RCb27_3) :: (18, tabSz RCa27) :: RCL5
theorem RCM27_4_ok : ∀ p ∈ RCM27_4, OkZ Tryz.prog p.1 p.2 := fA RCb27_3_ok <| fA RCa27_ok <| RCL5_ok
def RCe529 : Ent := ([(.ptr 0 0 0), RCc69, (.im (.int .i64 1))], [some RCc70, some (.m 9 [(.agg [RCc255, (.im (.sl true 0 [])), (.im (.int .i64 1000)), (.im (.int .i64 8)), (.fn (.func 75) [] [(.ptr 2 0 0), (.ptr 3 0 0), (.ptr 4 0 0)]), (.im (.int .i64 0)), (.im (.int .i64 15)), (.im (.int .i64 0)), (.im (.sl true 0 []))])]), some (.c 1 [(.int .i64 1)]), some RCc73, some (.m 1 [(.ptr 1 0 0)]), some (.m 1 [(.ref 6 0 2)]), some RCc74, some (.c 1 [(.int .i64 53)]), some (.c 1 [(.int .i64 0)])], (true, RCc118, [some RCc70, some RCc256, some (.c 1 [(.int .i64 1)]), some RCc73, some (.m 1 [(.ptr 1 0 0)]), some (.m 1 [(.ref 6 0 2)]), some RCc74, some (.c 1 [(.int .i64 53)]), some (.c 1 [(.int .i64 0)])]))
theorem RCr529 : rE (gB RCM27_4) 220 RCe529 = some RCe529.2.2 := by kernel_rfl
def RCb27_4 : Tabl := [RCe529]
theorem RCb27_4_ok : OkZ Tryz.prog 220 (tabSz RCb27_4) := gT RCM27_4_ok (fA RCr529 <| nA)
noncomputable def RCM27_5 : List (Nat × Sz) := (220, tabSz RCb27_4) :: (18, tabSz RCa27) :: RCL5
theorem RCM27_5_ok : ∀ p ∈ RCM27_5, OkZ Tryz.prog p.1 p.2 := fA RCb27_4_ok <| fA RCa27_ok <| RCL5_ok
def RCe530 : Ent := ([(.ptr 0 0 0), RCc69, (.im (.int .i64 1))], [some RCc70, some (.m 9 [(.agg [RCc255, (.im (.sl true 0 [])), (.im (.int .i64 1000)), (.im (.int .i64 3)), (.fn (.func 75) [] [(.ptr 2 0 0), (.ptr 3 0 0), (.ptr 4 0 0)]), (.im (.int .i64 0)), (.im (.int .i64 5)), (.im (.int .i64 0)), (.im (.sl true 0 []))])]), some (.c 1 [(.int .i64 1)]), some RCc73, some (.m 1 [(.ptr 1 0 0)]), some (.m 1 [(.ref 6 0 2)]), some RCc74, some (.c 1 [(.int .i64 58)]), some (.c 1 [(.int .i64 0)])], (true, RCc118, [some RCc70, some RCc256, some (.c 1 [(.int .i64 1)]), some RCc73, some (.m 1 [(.ptr 1 0 0)]), some (.m 1 [(.ref 6 0 2)]), some RCc74, some (.c 1 [(.int .i64 58)]), some (.c 1 [(.int .i64 0)])]))
theorem RCr530 : rE (gB RCM27_5) 220 RCe530 = some RCe530.2.2 := by kernel_rfl
def RCb27_5 : Tabl := [RCe530]
theorem RCb27_5_ok : OkZ Tryz.prog 220 (tabSz RCb27_5) := gT RCM27_5_ok (fA RCr530 <| nA)
noncomputable def RCM27_6 : List (Nat × Sz) := (220, tabSz RCb27_5) :: (18, tabSz RCa27) :: RCL5
theorem RCM27_6_ok : ∀ p ∈ RCM27_6, OkZ Tryz.prog p.1 p.2 := fA RCb27_5_ok <| fA RCa27_ok <| RCL5_ok
def RCe531 : Ent := ([RCc252, (.im (.sl true 0 [])), (.im (.int .i64 1000)), (.im (.int .i64 1)), RCc76], [], (false, (.tup [(.agg [(.im (.int .i64 0)), (.im (.int .i64 4)), (.im (.int .i64 (-1))), (.ref 0 0 1)]), (.im (.int .i64 0))]), [some (.c 1 [(.sl false 1 [(.int .i64 0)])])]))
theorem RCr531 : rE (gB RCM27_6) 33 RCe531 = some RCe531.2.2 := by kernel_rfl
def RCe532 : Ent := ([RCc254, (.im (.sl true 0 [])), (.im (.int .i64 1000)), (.im (.int .i64 1)), RCc76], [], (false, (.tup [(.im (.agg [(.int .i64 5), (.int .i64 79), (.int .i64 0), (.sl true 0 [])])), (.im (.int .i64 0))]), []))
theorem RCr532 : rE (gB RCM27_6) 33 RCe532 = some RCe532.2.2 := by kernel_rfl
def RCb27_6 : Tabl := [RCe531, RCe532]
theorem RCb27_6_ok : OkZ Tryz.prog 33 (tabSz RCb27_6) := gT RCM27_6_ok (fA RCr531 <| fA RCr532 <| nA)
def RCz27 : Tabl := RCb27_6
theorem RCz27_ok : OkZ Tryz.prog 33 (tabSz RCz27) := RCb27_6_ok
end Go.Proofs.YtkinbnepkpoofaaGreatDoor