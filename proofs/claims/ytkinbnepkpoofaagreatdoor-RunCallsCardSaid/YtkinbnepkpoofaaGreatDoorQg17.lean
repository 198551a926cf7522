/- Texts joined into one: RCG17. -/
import Derived.Test.YtkinbnepkpoofaaGreatDoorQz
/- Runs of some numbers. -/
set_option maxRecDepth 1000000
set_option linter.unusedVariables false
open Go Go.AM
namespace Go.Proofs.YtkinbnepkpoofaaGreatDoor
def RCe410 : Ent := ([RCc185], [], (false, (.tup [(.im (.int .i64 0)), (.im (.int .i64 (-1)))]), []))
theorem RCr410 : rE (gB RCL5) 18 RCe410 = some RCe410.2.2 := by kernel_rfl
def RCe411 : Ent := ([RCc187], [], (false, (.tup [(.im (.int .i64 0)), (.im (.int .i64 (-1)))]), []))
theorem RCr411 : rE (gB RCL5) 18 RCe411 = some RCe411.2.2 := by kernel_rfl
def RCa17 : Tabl := [RCe410, RCe411]
theorem RCa17_ok : OkZ Tryz.prog 18 (tabSz RCa17) := gT RCL5_ok (fA RCr410 <| fA RCr411 <| nA)
noncomputable def RCM17_0 : List (Nat × Sz) := (18, tabSz RCa17) :: RCL5
theorem RCM17_0_ok : ∀ p ∈ RCM17_0, OkZ Tryz.prog p.1 p.2 := fA RCa17_ok <| RCL5_ok
def RCe412 : Ent := ([(.ptr 0 0 0), RCc69, (.im (.int .i64 1))], [some RCc70, some (.m 9 [(.agg [RCc188, (.im (.sl true 0 [])), (.im (.int .i64 1000)), (.im (.int .i64 28)), (.fn (.func 75) [] [(.ptr 2 0 0), (.ptr 3 0 0), (.ptr 4 0 0)]), (.im (.int .i64 0)), (.im (.int .i64 55)), (.im (.int .i64 0)), (.im (.sl true 0 []))])]), some (.c 1 [(.int .i64 1)]), some RCc73, some (.m 1 [(.ptr 1 0 0)]), some (.m 1 [(.ref 6 0 2)]), some RCc74, some (.c 1 [(.int .i64 23)]), some (.c 1 [(.int .i64 0)])], (true, RCc118, [some RCc70, some RCc189, some (.c 1 [(.int .i64 1)]), some RCc73, some (.m 1 [(.ptr 1 0 0)]), some (.m 1 [(.ref 6 0 2)]), some RCc74, some (.c 1 [(.int .i64 23)]), some (.c 1 [(.int .i64 0)])]))
theorem RCr412 : rE (gB RCM17_0) 220 RCe412 = some RCe412.2.2 := by kernel_rfl
def RCb17_0 : Tabl := [RCe412]
theorem RCb17_0_ok : OkZ Tryz.prog 220 (tabSz RCb17_0) := gT RCM17_0_ok (fA RCr412 <| nA)
noncomputable def RCM17_1 : List (Nat × Sz) := (220, tabSz RCb17_0) :: (18, tabSz RCa17) :: RCL5
theorem RCM17_1_ok : ∀ p ∈ RCM17_1, OkZ Tryz.prog p.1 p.2 := fA RCb17_0_ok <| fA RCa17_ok <| RCL5_ok
def RCe413 : Ent := ([(.ptr 0 0 0), RCc69, (.im (.int .i64 1))], [some RCc70, some (.m 9 [(.agg [RCc188, (.im (.sl true 0 [])), (.im (.int .i64 1000)), (.im (.int .i64 23)), (.fn (.func 75) [] [(.ptr 2 0 0), (.ptr 3 0 0), (.ptr 4 0 0)]), (.im (.int .i64 0)), (.im (.int .i64 45)), (.im (.int .i64 0)), (.im (.sl true 0 []))])]), some (.c 1 [(.int .i64 1)]), some RCc73, some (.m 1 [(.ptr 1 0 0)]), some (.m 1 [(.ref 6 0 2)]), some RCc74, some (.c 1 [(.int .i64 28)]), some (.c 1 [(.int .i64 0)])], (true, RCc118, [some RCc70, some RCc189, some (.c 1 [(.int .i64 1)]), some RCc73, some (.m 1 [(.ptr 1 0 0)]), some (.m 1 [(.ref 6 0 2)]), some RCc74, some (.c 1 [(.int .i64 28)]), some (.c 1 [(.int .i64 0)])]))
theorem RCr413 : rE (gB RCM17_1) 220 RCe413 = some RCe413.2.2 := by kernel_rfl
def RCb17_1 : Tabl := [RCe413]
theorem RCb17_1_ok : OkZ Tryz.prog 220 (tabSz RCb17_1) := gT RCM17_1_ok (fA RCr413 <| nA)
noncomputable def RCM17_2 : List (Nat × Sz) := (220, tabSz RCb17_1) :: (18, tabSz RCa17) :: RCL5
theorem RCM17_2_ok : ∀ p ∈ RCM17_2, OkZ Tryz.prog p.1 p.2 := fA RCb17_1_ok <| fA RCa17_ok <| RCL5_ok
def RCe414 : Ent := ([(.ptr 0 0 0), RCc69, (.im (.int .i64 1))], [some RCc70, some (.m 9 [(.agg [RCc188, (.im (.sl true 0 [])), (.im (.int .i64 1000)), (.im (.int .i64 18)), (.fn (.func 75) [] [(.ptr 2 0 0), (.ptr 3 0 0), (.ptr 4 0 0)]), (.im (.int .i64 0)), (.im (.int .i64 35)), (.im (.int .i64 0)), (.im (.sl true 0 []))])]), some (.c 1 [(.int .i64 1)]), some RCc73, some (.m 1 [(.ptr 1 0 0)]), some (.m 1 [(.ref 6 0 2)]), some RCc74, some (.c 1 [(.int .i64 33)]), some (.c 1 [(.int .i64 0)])], (true, RCc118, [some RCc70, some RCc189, some (.c 1 [(.int .i64 1)]), some RCc73, some (.m 1 [(.ptr 1 0 0)]), some (.m 1 [(.ref 6 0 2)]), some RCc74, some (.c 1 [(.int .i64 33)]), some (.c 1 [(.int .i64 0)])]))
theorem RCr414 : rE (gB RCM17_2) 220 RCe414 = some RCe414.2.2 := by kernel_rfl
def RCb17_2 : Tabl := [RCe414]
theorem RCb17_2_ok : OkZ Tryz.prog 220 (tabSz RCb17_2) := gT RCM17_2_ok (fA RCr414 <| nA)
noncomputable def RCM17_3 : List (Nat × Sz) := (220, tabSz RCb17_2) :: (18, tabSz RCa17) :: RCL5
theorem RCM17_3_ok : ∀ p ∈ RCM17_3, OkZ Tryz.prog p.1 p.2 := fA RCb17_2_ok <| fA RCa17_ok <| RCL5_ok
def RCe415 : Ent := ([(.ptr 0 0 0), RCc69, (.im (.int .i64 1))], [some RCc70, some (.m 9 [(.agg [RCc188, (.im (.sl true 0 [])), (.im (.int .i64 1000)), (.im (.int .i64 13)), (.fn (.func 75) [] [(.ptr 2 0 0), (.ptr 3 0 0), (.ptr 4 0 0)]), (.im (.int .i64 0)), (.im (.int .i64 25)), (.im (.int .i64 0)), (.im (.sl true 0 []))])]), some (.c 1 [(.int .i64 1)]), some RCc73, some (.m 1 [(.ptr 1 0 0)]), some (.m 1 [(.ref 6 0 2)]), some RCc74, some (.c 1 [(.int .i64 38)]), some (.c 1 [(.int .i64 0)])], (true, RCc118, [some RCc70, some RCc189, some (.c 1 [(.int .i64 1)]), some RCc73, some (.m 1 [(.ptr 1 0 0)]), some (.m 1 [(.ref 6 0 2)]), some RCc74, some (.c 1 [(.int .i64 38)]), some (.c 1 [(.int .i64 0)])]))
theorem RCr415 : rE (gB RCM17_3) 220 RCe415 = some RCe415.2.2 := by kernel_rfl
def RCb17_3 : Tabl := [RCe415]
theorem RCb17_3_ok : OkZ Tryz.prog 220 (tabSz RCb17_3) := gT RCM17_3_ok (fA RCr415 <| nA)
noncomputable def RCM17_4 : List (Nat × Sz) := (220, tabSz RCb17_3) :: (18, tabSz RCa17) :: RCL5
theorem RCM17_4_ok : ∀ p ∈ RCM17_4, OkZ Tryz.prog p.1 p.2 := fA RCb17_3_ok <| fA RCa17_ok <| RCL5_ok
def RCe416 : Ent := ([(.ptr 0 0 0), RCc69, (.im (.int .i64 1))], [some RCc70, some (.m 9 [(.agg [RCc190, (.im (.sl true 0 [])), (.im (.int .i64 1000)), (.im (.int .i64 8)), (.fn (.func 75) [] [(.ptr 2 0 0), (.ptr 3 0 0), (.ptr 4 0 0)]), (.im (.int .i64 0)), (.im (.int .i64 15)), (.im (.int .i64 0)), (.im (.sl true 0 []))])]), some (.c 1 [(.int .i64 1)]), some RCc73, some (.m 1 [(.ptr 1 0 0)]), some (.m 1 [(.ref 6 0 2)]), some RCc74, some (.c 1 [(.int .i64 4)]), some (.c 1 [(.int .i64 0)])], (false, (.im (.int .i64 0)), [some RCc70, some (.m 9 [(.agg [RCc190, (.im (.sl true 0 [])), (.im (.int .i64 1000)), (.im (.int .i64 8)), (.fn (.func 75) [] [(.ptr 2 0 0), (.ptr 3 0 0), (.ptr 4 0 0)]), (.im (.int .i64 0)), (.im (.int .i64 26)), (.im (.int .i64 0)), (.im (.sl true 0 []))])]), some (.c 1 [(.int .i64 1)]), some RCc73, some (.m 1 [(.ptr 1 0 0)]), some (.m 1 [(.ref 6 0 2)]), some RCc74, some (.c 1 [(.int .i64 4)]), some (.c 1 [(.int .i64 6)])]))
theorem RCr416 : rE (gB RCM17_4) 220 RCe416 = some RCe416.2.2 := by kernel_rfl
def RCe417 : Ent := ([(.ptr 0 0 0), RCc69, (.im (.int .i64 1))], [some RCc70, some (.m 9 [(.agg [RCc188, (.im (.sl true 0 [])), (.im (.int .i64 1000)), (.im (.int .i64 8)), (.fn (.func 75) [] [(.ptr 2 0 0), (.ptr 3 0 0), (.ptr 4 0 0)]), (.im (.int .i64 0)), (.im (.int .i64 15)), (.im (.int .i64 0)), (.im (.sl true 0 []))])]), some (.c 1 [(.int .i64 1)]), some RCc73, some (.m 1 [(.ptr 1 0 0)]), some (.m 1 [(.ref 6 0 2)]), some RCc74, some (.c 1 [(.int .i64 43)]), some (.c 1 [(.int .i64 0)])], (true, RCc118, [some RCc70, some RCc189, some (.c 1 [(.int .i64 1)]), some RCc73, some (.m 1 [(.ptr 1 0 0)]), some (.m 1 [(.ref 6 0 2)]), some RCc74, some (.c 1 [(.int .i64 43)]), some (.c 1 [(.int .i64 0)])]))
theorem RCr417 : rE (gB RCM17_4) 220 RCe417 = some RCe417.2.2 := by kernel_rfl
def RCb17_4 : Tabl := [RCe416, RCe417]
theorem RCb17_4_ok : OkZ Tryz.prog 220 (tabSz RCb17_4) := gT RCM17_4_ok (fA RCr416 <| fA RCr417 <| nA)
noncomputable def RCM17_5 : List (Nat × Sz) := (220, tabSz RCb17_4) :: (18, tabSz RCa17) :: RCL5
theorem RCM17_5_ok : ∀ p ∈ RCM17_5, OkZ Tryz.prog p.1 p.2 := fA RCb17_4_ok <| fA RCa17_ok <| RCL5_ok
def RCe418 : Ent := ([(.ptr 0 0 0), RCc69, (.im (.int .i64 1))], [some RCc70, some (.m 9 [(.agg [RCc190, (.im (.sl true 0 [])), (.im (.int .i64 1000)), (.im (.int .i64 3)), (.fn (.func 75) [] [(.ptr 2 0 0), (.ptr 3 0 0), (.ptr 4 0 0)]), (.im (.int .i64 0)), (.im (.int .i64 5)), (.im (.int .i64 0)), (.im (.sl true 0 []))])]), some (.c 1 [(.int .i64 1)]), some RCc73, some (.m 1 [(.ptr 1 0 0)]), some (.m 1 [(.ref 6 0 2)]), some RCc74, some (.c 1 [(.int .i64 9)]), some (.c 1 [(.int .i64 0)])], (false, (.im (.int .i64 0)), [some RCc70, some (.m 9 [(.agg [RCc190, (.im (.sl true 0 [])), (.im (.int .i64 1000)), (.im (.int .i64 3)), (.fn (.func 75) [] [(.ptr 2 0 0), (.ptr 3 0 0), (.ptr 4 0 0)]), (.im (.int .i64 0)), (.im (.int .i64 31)), (.im (.int .i64 0)), (.im (.sl true 0 []))])]), some (.c 1 [(.int .i64 1)]), some RCc73, some (.m 1 [(.ptr 1 0 0)]), some (.m 1 [(.ref 6 0 2)]), some RCc74, some (.c 1 [(.int .i64 9)]), some (.c 1 [(.int .i64 36)])]))
theorem RCr418 : rE (gB RCM17_5) 220 RCe418 = some RCe418.2.2 := by kernel_rfl
def RCe419 : Ent := ([(.ptr 0 0 0), RCc69, (.im (.int .i64 1))], [some RCc70, some (.m 9 [(.agg [RCc188, (.im (.sl true 0 [])), (.im (.int .i64 1000)), (.im (.int .i64 3)), (.fn (.func 75) [] [(.ptr 2 0 0), (.ptr 3 0 0), (.ptr 4 0 0)]), (.im (.int .i64 0)), (.im (.int .i64 5)), (.im (.int .i64 0)), (.im (.sl true 0 []))])]), some (.c 1 [(.int .i64 1)]), some RCc73, some (.m 1 [(.ptr 1 0 0)]), some (.m 1 [(.ref 6 0 2)]), some RCc74, some (.c 1 [(.int .i64 48)]), some (.c 1 [(.int .i64 0)])], (true, RCc118, [some RCc70, some RCc189, some (.c 1 [(.int .i64 1)]), some RCc73, some (.m 1 [(.ptr 1 0 0)]), some (.m 1 [(.ref 6 0 2)]), some RCc74, some (.c 1 [(.int .i64 48)]), some (.c 1 [(.int .i64 0)])]))
theorem RCr419 : rE (gB RCM17_5) 220 RCe419 = some RCe419.2.2 := by kernel_rfl
def RCb17_5 : Tabl := [RCe418, RCe419]
theorem RCb17_5_ok : OkZ Tryz.prog 220 (tabSz RCb17_5) := gT RCM17_5_ok (fA RCr418 <| fA RCr419 <| nA)
noncomputable def RCM17_6 : List (Nat × Sz) := (220, tabSz RCb17_5) :: (18, tabSz RCa17) :: RCL5
theorem RCM17_6_ok : ∀ p ∈ RCM17_6, OkZ Tryz.prog p.1 p.2 := fA RCb17_5_ok <| fA RCa17_ok <| RCL5_ok
def RCe420 : Ent := ([RCc185, (.im (.sl true 0 [])), (.im (.int .i64 1000)), (.im (.int .i64 1)), RCc76], [], (false, (.tup [(.agg [(.im (.int .i64 0)), (.im (.int .i64 34)), (.im (.int .i64 (-1))), (.ref 0 0 1)]), (.im (.int .i64 0))]), [some (.c 1 [(.sl false 1 [(.int .i64 55)])])]))
theorem RCr420 : rE (gB RCM17_6) 33 RCe420 = some RCe420.2.2 := by kernel_rfl
def RCe421 : Ent := ([RCc187, (.im (.sl true 0 [])), (.im (.int .i64 1000)), (.im (.int .i64 1)), RCc76], [], (false, (.tup [(.im (.agg [(.int .i64 5), (.int .i64 79), (.int .i64 0), (.sl true 0 [])])), (.im (.int .i64 0))]), []))
theorem RCr421 : rE (gB RCM17_6) 33 RCe421 = some RCe421.2.2 := by kernel_rfl
def RCb17_6 : Tabl := [RCe420, RCe421]
theorem RCb17_6_ok : OkZ Tryz.prog 33 (tabSz RCb17_6) := gT RCM17_6_ok (fA RCr420 <| fA RCr421 <| nA)
def RCz17 : Tabl := RCb17_6
theorem RCz17_ok : OkZ Tryz.prog 33 (tabSz RCz17) := RCb17_6_ok
end Go.Proofs.YtkinbnepkpoofaaGreatDoor