/- Texts joined into one: RCG9. -/
import Derived.Test.YtkinbnepkpoofaaGreatDoorQz
/- Runs of some numbers. -/
set_option maxRecDepth 1000000
set_option linter.unusedVariables false
open Go Go.AM
namespace Go.Proofs.YtkinbnepkpoofaaGreatDoor
def RCe305 : Ent := ([RCc129], [], (false, (.tup [(.im (.int .i64 0)), (.im (.int .i64 (-1)))]), []))
theorem RCr305 : rE (gB RCL5) 18 RCe305 = some RCe305.2.2 := by kernel_rfl
def RCe306 : Ent := ([RCc131], [], (false, (.tup [(.im (.int .i64 0)), (.im (.int .i64 (-1)))]), []))
theorem RCr306 : rE (gB RCL5) 18 RCe306 = some RCe306.2.2 := by kernel_rfl
def RCa9 : Tabl := [RCe305, RCe306]
theorem RCa9_ok : OkZ Tryz.prog 18 (tabSz RCa9) := gT RCL5_ok (fA RCr305 <| fA RCr306 <| nA)
noncomputable def RCM9_0 : List (Nat × Sz) := (18, tabSz RCa9) :: RCL5
theorem RCM9_0_ok : ∀ p ∈ RCM9_0, OkZ Tryz.prog p.1 p.2 := fA RCa9_ok <| RCL5_ok
def RCe307 : Ent := ([(.ptr 0 0 0), RCc69, (.im (.int .i64 1))], [some RCc70, some (.m 9 [(.agg [RCc132, (.im (.sl true 0 [])), (.im (.int .i64 1000)), (.im (.int .i64 28)), (.fn (.func 75) [] [(.ptr 2 0 0), (.ptr 3 0 0), (.ptr 4 0 0)]), (.im (.int .i64 0)), (.im (.int .i64 55)), (.im (.int .i64 0)), (.im (.sl true 0 []))])]), some (.c 1 [(.int .i64 1)]), some RCc73, some (.m 1 [(.ptr 1 0 0)]), some (.m 1 [(.ref 6 0 2)]), some RCc74, some (.c 1 [(.int .i64 15)]), some (.c 1 [(.int .i64 0)])], (true, RCc118, [some RCc70, some RCc133, some (.c 1 [(.int .i64 1)]), some RCc73, some (.m 1 [(.ptr 1 0 0)]), some (.m 1 [(.ref 6 0 2)]), some RCc74, some (.c 1 [(.int .i64 15)]), some (.c 1 [(.int .i64 0)])]))
theorem RCr307 : rE (gB RCM9_0) 220 RCe307 = some RCe307.2.2 := by kernel_rfl
def RCb9_0 : Tabl := [RCe307]
theorem RCb9_0_ok : OkZ Tryz.prog 220 (tabSz RCb9_0) := gT RCM9_0_ok (fA RCr307 <| nA)
noncomputable def RCM9_1 : List (Nat × Sz) := (220, tabSz RCb9_0) :: (18, tabSz RCa9) :: RCL5
theorem RCM9_1_ok : ∀ p ∈ RCM9_1, OkZ Tryz.prog p.1 p.2 := fA RCb9_0_ok <| fA RCa9_ok <| RCL5_ok
def RCe308 : Ent := ([(.ptr 0 0 0), RCc69, (.im (.int .i64 1))], [some RCc70, some (.m 9 [(.agg [RCc132, (.im (.sl true 0 [])), (.im (.int .i64 1000)), (.im (.int .i64 23)), (.fn (.func 75) [] [(.ptr 2 0 0), (.ptr 3 0 0), (.ptr 4 0 0)]), (.im (.int .i64 0)), (.im (.int .i64 45)), (.im (.int .i64 0)), (.im (.sl true 0 []))])]), some (.c 1 [(.int .i64 1)]), some RCc73, some (.m 1 [(.ptr 1 0 0)]), some (.m 1 [(.ref 6 0 2)]), some RCc74, some (.c 1 [(.int .i64 20)]), some (.c 1 [(.int .i64 0)])], (true, RCc118, [some RCc70, some RCc133, some (.c 1 [(.int .i64 1)]), some RCc73, some (.m 1 [(.ptr 1 0 0)]), some (.m 1 [(.ref 6 0 2)]), some RCc74, some (.c 1 [(.int .i64 20)]), some (.c 1 [(.int .i64 0)])]))
theorem RCr308 : rE (gB RCM9_1) 220 RCe308 = some RCe308.2.2 := by kernel_rfl
def RCb9_1 : Tabl := [RCe308]
theorem RCb9_1_ok : OkZ Tryz.prog 220 (tabSz RCb9_1) := gT RCM9_1_ok (fA RCr308 <| nA)
noncomputable def RCM9_2 : List (Nat × Sz) := (220, tabSz RCb9_1) :: (18, tabSz RCa9) :: RCL5
theorem RCM9_2_ok : ∀ p ∈ RCM9_2, OkZ Tryz.prog p.1 p.2 := fA RCb9_1_ok <| fA RCa9_ok <| RCL5_ok
def RCe309 : Ent := ([(.ptr 0 0 0), RCc69, (.im (.int .i64 1))], [some RCc70, some (.m 9 [(.agg [RCc134, (.im (.sl true 0 [])), (.im (.int .i64 1000)), (.im (.int .i64 18)), (.fn (.func 75) [] [(.ptr 2 0 0), (.ptr 3 0 0), (.ptr 4 0 0)]), (.im (.int .i64 0)), (.im (.int .i64 35)), (.im (.int .i64 0)), (.im (.sl true 0 []))])]), some (.c 1 [(.int .i64 1)]), some RCc73, some (.m 1 [(.ptr 1 0 0)]), some (.m 1 [(.ref 6 0 2)]), some RCc74, some (.c 1 [(.int .i64 2)]), some (.c 1 [(.int .i64 0)])], (false, (.im (.int .i64 0)), [some RCc70, some (.m 9 [(.agg [RCc134, (.im (.sl true 0 [])), (.im (.int .i64 1000)), (.im (.int .i64 18)), (.fn (.func 75) [] [(.ptr 2 0 0), (.ptr 3 0 0), (.ptr 4 0 0)]), (.im (.int .i64 0)), (.im (.int .i64 40)), (.im (.int .i64 0)), (.im (.sl true 0 []))])]), some (.c 1 [(.int .i64 1)]), some RCc73, some (.m 1 [(.ptr 1 0 0)]), some (.m 1 [(.ref 6 0 2)]), some RCc74, some (.c 1 [(.int .i64 2)]), some (.c 1 [(.int .i64 1)])]))
theorem RCr309 : rE (gB RCM9_2) 220 RCe309 = some RCe309.2.2 := by kernel_rfl
def RCe310 : Ent := ([(.ptr 0 0 0), RCc69, (.im (.int .i64 1))], [some RCc70, some (.m 9 [(.agg [RCc132, (.im (.sl true 0 [])), (.im (.int .i64 1000)), (.im (.int .i64 18)), (.fn (.func 75) [] [(.ptr 2 0 0), (.ptr 3 0 0), (.ptr 4 0 0)]), (.im (.int .i64 0)), (.im (.int .i64 35)), (.im (.int .i64 0)), (.im (.sl true 0 []))])]), some (.c 1 [(.int .i64 1)]), some RCc73, some (.m 1 [(.ptr 1 0 0)]), some (.m 1 [(.ref 6 0 2)]), some RCc74, some (.c 1 [(.int .i64 25)]), some (.c 1 [(.int .i64 0)])], (true, RCc118, [some RCc70, some RCc133, some (.c 1 [(.int .i64 1)]), some RCc73, some (.m 1 [(.ptr 1 0 0)]), some (.m 1 [(.ref 6 0 2)]), some RCc74, some (.c 1 [(.int .i64 25)]), some (.c 1 [(.int .i64 0)])]))
theorem RCr310 : rE (gB RCM9_2) 220 RCe310 = some RCe310.2.2 := by kernel_rfl
def RCb9_2 : Tabl := [RCe309, RCe310]
theorem RCb9_2_ok : OkZ Tryz.prog 220 (tabSz RCb9_2) := gT RCM9_2_ok (fA RCr309 <| fA RCr310 <| nA)
noncomputable def RCM9_3 : List (Nat × Sz) := (220, tabSz RCb9_2) :: (18, tabSz RCa9) :: RCL5
theorem RCM9_3_ok : ∀ p ∈ RCM9_3, OkZ Tryz.prog p.1 p.2 := fA RCb9_2_ok <| fA RCa9_ok <| RCL5_ok
def RCe311 : Ent := ([(.ptr 0 0 0), RCc69, (.im (.int .i64 1))], [some RCc70, some (.m 9 [(.agg [RCc134, (.im (.sl true 0 [])), (.im (.int .i64 1000)), (.im (.int .i64 13)), (.fn (.func 75) [] [(.ptr 2 0 0), (.ptr 3 0 0), (.ptr 4 0 0)]), (.im (.int .i64 0)), (.im (.int .i64 25)), (.im (.int .i64 0)), (.im (.sl true 0 []))])]), some (.c 1 [(.int .i64 1)]), some RCc73, some (.m 1 [(.ptr 1 0 0)]), some (.m 1 [(.ref 6 0 2)]), some RCc74, some (.c 1 [(.int .i64 7)]), some (.c 1 [(.int .i64 0)])], (false, (.im (.int .i64 0)), [some RCc70, some (.m 9 [(.agg [RCc134, (.im (.sl true 0 [])), (.im (.int .i64 1000)), (.im (.int .i64 13)), (.fn (.func 75) [] [(.ptr 2 0 0), (.ptr 3 0 0), (.ptr 4 0 0)]), (.im (.int .i64 0)), (.im (.int .i64 45)), (.im (.int .i64 0)), (.im (.sl true 0 []))])]), some (.c 1 [(.int .i64 1)]), some RCc73, some (.m 1 [(.ptr 1 0 0)]), some (.m 1 [(.ref 6 0 2)]), some RCc74, some (.c 1 [(.int .i64 7)]), some (.c 1 [(.int .i64 21)])]))
theorem RCr311 : rE (gB RCM9_3) 220 RCe311 = some RCe311.2.2 := by kernel_rfl
def RCe312 : Ent := ([(.ptr 0 0 0), RCc69, (.im (.int .i64 1))], [some RCc70, some (.m 9 [(.agg [RCc132, (.im (.sl true 0 [])), (.im (.int .i64 1000)), (.im (.int .i64 13)), (.fn (.func 75) [] [(.ptr 2 0 0), (.ptr 3 0 0), (.ptr 4 0 0)]), (.im (.int .i64 0)), (.im (.int .i64 25)), (.im (.int .i64 0)), (.im (.sl true 0 []))])]), some (.c 1 [(.int .i64 1)]), some RCc73, some (.m 1 [(.ptr 1 0 0)]), some (.m 1 [(.ref 6 0 2)]), some RCc74, some (.c 1 [(.int .i64 30)]), some (.c 1 [(.int .i64 0)])], (true, RCc118, [some RCc70, some RCc133, some (.c 1 [(.int .i64 1)]), some RCc73, some (.m 1 [(.ptr 1 0 0)]), some (.m 1 [(.ref 6 0 2)]), some RCc74, some (.c 1 [(.int .i64 30)]), some (.c 1 [(.int .i64 0)])]))
theorem RCr312 : rE (gB RCM9_3) 220 RCe312 = some RCe312.2.2 := by kernel_rfl
def RCb9_3 : Tabl := [RCe311, RCe312]
theorem RCb9_3_ok : OkZ Tryz.prog 220 (tabSz RCb9_3) := gT RCM9_3_ok (fA RCr311 <| fA RCr312 <| nA)
noncomputable def RCM9_4 : List (Nat × Sz) := (220, tabSz RCb9_3) :: (18, tabSz RCa9) :: RCL5
theorem RCM9_4_ok : ∀ p ∈ RCM9_4, OkZ Tryz.prog p.1 p.2 := fA RCb9_3_ok <| fA RCa9_ok <| RCL5_ok
def RCe313 : Ent := ([(.ptr 0 0 0), RCc69, (.im (.int .i64 1))], [some RCc70, some (.m 9 [(.agg [RCc134, (.im (.sl true 0 [])), (.im (.int .i64 1000)), (.im (.int .i64 8)), (.fn (.func 75) [] [(.ptr 2 0 0), (.ptr 3 0 0), (.ptr 4 0 0)]), (.im (.int .i64 0)), (.im (.int .i64 15)), (.im (.int .i64 0)), (.im (.sl true 0 []))])]), some (.c 1 [(.int .i64 1)]), some RCc73, some (.m 1 [(.ptr 1 0 0)]), some (.m 1 [(.ref 6 0 2)]), some RCc74, some (.c 1 [(.int .i64 12)]), some (.c 1 [(.int .i64 0)])], (false, (.im (.int .i64 0)), [some RCc70, some (.m 9 [(.agg [RCc134, (.im (.sl true 0 [])), (.im (.int .i64 1000)), (.im (.int .i64 8)), (.fn (.func 75) [] [(.ptr 2 0 0), (.ptr 3 0 0), (.ptr 4 0 0)]), (.im (.int .i64 0)), (.im (.int .i64 50)), (.im (.int .i64 0)), (.im (.sl true 0 []))])]), some (.c 1 [(.int .i64 1)]), some RCc73, some (.m 1 [(.ptr 1 0 0)]), some (.m 1 [(.ref 6 0 2)]), some RCc74, some (.c 1 [(.int .i64 12)]), some (.c 1 [(.int .i64 66)])]))
theorem RCr313 : rE (gB RCM9_4) 220 RCe313 = some RCe313.2.2 := by kernel_rfl
def RCe314 : Ent := ([(.ptr 0 0 0), RCc69, (.im (.int .i64 1))], [some RCc70, some (.m 9 [(.agg [RCc132, (.im (.sl true 0 [])), (.im (.int .i64 1000)), (.im (.int .i64 8)), (.fn (.func 75) [] [(.ptr 2 0 0), (.ptr 3 0 0), (.ptr 4 0 0)]), (.im (.int .i64 0)), (.im (.int .i64 15)), (.im (.int .i64 0)), (.im (.sl true 0 []))])]), some (.c 1 [(.int .i64 1)]), some RCc73, some (.m 1 [(.ptr 1 0 0)]), some (.m 1 [(.ref 6 0 2)]), some RCc74, some (.c 1 [(.int .i64 35)]), some (.c 1 [(.int .i64 0)])], (true, RCc118, [some RCc70, some RCc133, some (.c 1 [(.int .i64 1)]), some RCc73, some (.m 1 [(.ptr 1 0 0)]), some (.m 1 [(.ref 6 0 2)]), some RCc74, some (.c 1 [(.int .i64 35)]), some (.c 1 [(.int .i64 0)])]))
theorem RCr314 : rE (gB RCM9_4) 220 RCe314 = some RCe314.2.2 := by kernel_rfl
def RCb9_4 : Tabl := [RCe313, RCe314]
theorem RCb9_4_ok : OkZ Tryz.prog 220 (tabSz RCb9_4) := gT RCM9_4_ok (fA RCr313 <| fA RCr314 <| nA)
noncomputable def RCM9_5 : List (Nat × Sz) := (220, tabSz RCb9_4) :: (18, tabSz RCa9) :: RCL5
theorem RCM9_5_ok : ∀ p ∈ RCM9_5, OkZ Tryz.prog p.1 p.2 := fA RCb9_4_ok <| fA RCa9_ok <| RCL5_ok
def RCe315 : Ent := ([(.ptr 0 0 0), RCc69, (.im (.int .i64 1))], [some RCc70, some (.m 9 [(.agg [RCc134, (.im (.sl true 0 [])), (.im (.int .i64 1000)), (.im (.int .i64 3)), (.fn (.func 75) [] [(.ptr 2 0 0), (.ptr 3 0 0), (.ptr 4 0 0)]), (.im (.int .i64 0)), (.im (.int .i64 5)), (.im (.int .i64 0)), (.im (.sl true 0 []))])]), some (.c 1 [(.int .i64 1)]), some RCc73, some (.m 1 [(.ptr 1 0 0)]), some (.m 1 [(.ref 6 0 2)]), some RCc74, some (.c 1 [(.int .i64 17)]), some (.c 1 [(.int .i64 0)])], (false, (.im (.int .i64 0)), [some RCc70, some (.m 9 [(.agg [RCc134, (.im (.sl true 0 [])), (.im (.int .i64 1000)), (.im (.int .i64 3)), (.fn (.func 75) [] [(.ptr 2 0 0), (.ptr 3 0 0), (.ptr 4 0 0)]), (.im (.int .i64 0)), (.im (.int .i64 55)), (.im (.int .i64 0)), (.im (.sl true 0 []))])]), some (.c 1 [(.int .i64 1)]), some RCc73, some (.m 1 [(.ptr 1 0 0)]), some (.m 1 [(.ref 6 0 2)]), some RCc74, some (.c 1 [(.int .i64 17)]), some (.c 1 [(.int .i64 136)])]))
theorem RCr315 : rE (gB RCM9_5) 220 RCe315 = some RCe315.2.2 := by kernel_rfl
def RCe316 : Ent := ([(.ptr 0 0 0), RCc69, (.im (.int .i64 1))], [some RCc70, some (.m 9 [(.agg [RCc132, (.im (.sl true 0 [])), (.im (.int .i64 1000)), (.im (.int .i64 3)), (.fn (.func 75) [] [(.ptr 2 0 0), (.ptr 3 0 0), (.ptr 4 0 0)]), (.im (.int .i64 0)), (.im (.int .i64 5)), (.im (.int .i64 0)), (.im (.sl true 0 []))])]), some (.c 1 [(.int .i64 1)]), some RCc73, some (.m 1 [(.ptr 1 0 0)]), some (.m 1 [(.ref 6 0 2)]), some RCc74, some (.c 1 [(.int .i64 40)]), some (.c 1 [(.int .i64 0)])], (true, RCc118, [some RCc70, some RCc133, some (.c 1 [(.int .i64 1)]), some RCc73, some (.m 1 [(.ptr 1 0 0)]), some (.m 1 [(.ref 6 0 2)]), some RCc74, some (.c 1 [(.int .i64 40)]), some (.c 1 [(.int .i64 0)])]))
theorem RCr316 : rE (gB RCM9_5) 220 RCe316 = some RCe316.2.2 := by kernel_rfl
def RCb9_5 : Tabl := [RCe315, RCe316]
theorem RCb9_5_ok : OkZ Tryz.prog 220 (tabSz RCb9_5) := gT RCM9_5_ok (fA RCr315 <| fA RCr316 <| nA)
noncomputable def RCM9_6 : List (Nat × Sz) := (220, tabSz RCb9_5) :: (18, tabSz RCa9) :: RCL5
theorem RCM9_6_ok : ∀ p ∈ RCM9_6, OkZ Tryz.prog p.1 p.2 := fA RCb9_5_ok <| fA RCa9_ok <| RCL5_ok
def RCe317 : Ent := ([RCc129, (.im (.sl true 0 [])), (.im (.int .i64 1000)), (.im (.int .i64 1)), RCc76], [], (false, (.tup [(.agg [(.im (.int .i64 0)), (.im (.int .i64 58)), (.im (.int .i64 (-1))), (.ref 0 0 1)]), (.im (.int .i64 0))]), [some (.c 1 [(.sl false 1 [(.int .i64 171)])])]))
theorem RCr317 : rE (gB RCM9_6) 33 RCe317 = some RCe317.2.2 := by kernel_rfl
def RCe318 : Ent := ([RCc131, (.im (.sl true 0 [])), (.im (.int .i64 1000)), (.im (.int .i64 1)), RCc76], [], (false, (.tup [(.im (.agg [(.int .i64 5), (.int .i64 79), (.int .i64 0), (.sl true 0 [])])), (.im (.int .i64 0))]), []))
theorem RCr318 : rE (gB RCM9_6) 33 RCe318 = some RCe318.2.2 := by kernel_rfl
def RCb9_6 : Tabl := [RCe317, RCe318]
theorem RCb9_6_ok : OkZ Tryz.prog 33 (tabSz RCb9_6) := gT RCM9_6_ok (fA RCr317 <| fA RCr318 <| nA)
def RCz9 : Tabl := RCb9_6
theorem RCz9_ok : OkZ Tryz.prog 33 (tabSz RCz9) := RCb9_6_ok
end Go.Proofs.YtkinbnepkpoofaaGreatDoor