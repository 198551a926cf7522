/- Texts joined into one: RCG8. -/
import Derived.Test.YtkinbnepkpoofaaGreatDoorQz
/- Runs of some numbers. -/
set_option maxRecDepth 1000000
set_option linter.unusedVariables false
open Go Go.AM
namespace Go.Proofs.YtkinbnepkpoofaaGreatDoor
def RCe291 : Ent := ([RCc122], [], (false, (.tup [(.im (.int .i64 0)), (.im (.int .i64 (-1)))]), []))
theorem RCr291 : rE (gB RCL5) 18 RCe291 = some RCe291.2.2 := by kernel_rfl
def RCe292 : Ent := ([RCc124], [], (false, (.tup [(.im (.int .i64 0)), (.im (.int .i64 (-1)))]), []))
theorem RCr292 : rE (gB RCL5) 18 RCe292 = some RCe292.2.2 := by kernel_rfl
def RCa8 : Tabl := [RCe291, RCe292]
theorem RCa8_ok : OkZ Tryz.prog 18 (tabSz RCa8) := gT RCL5_ok (fA RCr291 <| fA RCr292 <| nA)
noncomputable def RCM8_0 : List (Nat × Sz) := (18, tabSz RCa8) :: RCL5
theorem RCM8_0_ok : ∀ p ∈ RCM8_0, OkZ Tryz.prog p.1 p.2 := fA RCa8_ok <| RCL5_ok
def RCe293 : Ent := ([(.ptr 0 0 0), RCc69, (.im (.int .i64 1))], [some RCc70, some (.m 9 [(.agg [RCc125, (.im (.sl true 0 [])), (.im (.int .i64 1000)), (.im (.int .i64 28)), (.fn (.func 75) [] [(.ptr 2 0 0), (.ptr 3 0 0), (.ptr 4 0 0)]), (.im (.int .i64 0)), (.im (.int .i64 55)), (.im (.int .i64 0)), (.im (.sl true 0 []))])]), some (.c 1 [(.int .i64 1)]), some RCc73, some (.m 1 [(.ptr 1 0 0)]), some (.m 1 [(.ref 6 0 2)]), some RCc74, some (.c 1 [(.int .i64 14)]), some (.c 1 [(.int .i64 0)])], (true, RCc118, [some RCc70, some RCc126, some (.c 1 [(.int .i64 1)]), some RCc73, some (.m 1 [(.ptr 1 0 0)]), some (.m 1 [(.ref 6 0 2)]), some RCc74, some (.c 1 [(.int .i64 14)]), some (.c 1 [(.int .i64 0)])]))
theorem RCr293 : rE (gB RCM8_0) 220 RCe293 = some RCe293.2.2 := by kernel_rfl
def RCb8_0 : Tabl := [RCe293]
theorem RCb8_0_ok : OkZ Tryz.prog 220 (tabSz RCb8_0) := gT RCM8_0_ok (fA RCr293 <| nA)
noncomputable def RCM8_1 : List (Nat × Sz) := (220, tabSz RCb8_0) :: (18, tabSz RCa8) :: RCL5
theorem RCM8_1_ok : ∀ p ∈ RCM8_1, OkZ Tryz.prog p.1 p.2 := fA RCb8_0_ok <| fA RCa8_ok <| RCL5_ok
def RCe294 : Ent := ([(.ptr 0 0 0), RCc69, (.im (.int .i64 1))], [some RCc70, some (.m 9 [(.agg [RCc125, (.im (.sl true 0 [])), (.im (.int .i64 1000)), (.im (.int .i64 23)), (.fn (.func 75) [] [(.ptr 2 0 0), (.ptr 3 0 0), (.ptr 4 0 0)]), (.im (.int .i64 0)), (.im (.int .i64 45)), (.im (.int .i64 0)), (.im (.sl true 0 []))])]), some (.c 1 [(.int .i64 1)]), some RCc73, some (.m 1 [(.ptr 1 0 0)]), some (.m 1 [(.ref 6 0 2)]), some RCc74, some (.c 1 [(.int .i64 19)]), some (.c 1 [(.int .i64 0)])], (true, RCc118, [some RCc70, some RCc126, some (.c 1 [(.int .i64 1)]), some RCc73, some (.m 1 [(.ptr 1 0 0)]), some (.m 1 [(.ref 6 0 2)]), some RCc74, some (.c 1 [(.int .i64 19)]), some (.c 1 [(.int .i64 0)])]))
theorem RCr294 : rE (gB RCM8_1) 220 RCe294 = some RCe294.2.2 := by kernel_rfl
def RCb8_1 : Tabl := [RCe294]
theorem RCb8_1_ok : OkZ Tryz.prog 220 (tabSz RCb8_1) := gT RCM8_1_ok (fA RCr294 <| nA)
noncomputable def RCM8_2 : List (Nat × Sz) := (220, tabSz RCb8_1) :: (18, tabSz RCa8) :: RCL5
theorem RCM8_2_ok : ∀ p ∈ RCM8_2, OkZ Tryz.prog p.1 p.2 := fA RCb8_1_ok <| fA RCa8_ok <| RCL5_ok
def RCe295 : Ent := ([(.ptr 0 0 0), RCc69, (.im (.int .i64 1))], [some RCc70, some (.m 9 [(.agg [RCc127, (.im (.sl true 0 [])), (.im (.int .i64 1000)), (.im (.int .i64 18)), (.fn (.func 75) [] [(.ptr 2 0 0), (.ptr 3 0 0), (.ptr 4 0 0)]), (.im (.int .i64 0)), (.im (.int .i64 35)), (.im (.int .i64 0)), (.im (.sl true 0 []))])]), some (.c 1 [(.int .i64 1)]), some RCc73, some (.m 1 [(.ptr 1 0 0)]), some (.m 1 [(.ref 6 0 2)]), some RCc74, some (.c 1 [(.int .i64 3)]), some (.c 1 [(.int .i64 0)])], (false, (.im (.int .i64 0)), [some RCc70, some (.m 9 [(.agg [RCc127, (.im (.sl true 0 [])), (.im (.int .i64 1000)), (.im (.int .i64 18)), (.fn (.func 75) [] [(.ptr 2 0 0), (.ptr 3 0 0), (.ptr 4 0 0)]), (.im (.int .i64 0)), (.im (.int .i64 43)), (.im (.int .i64 0)), (.im (.sl true 0 []))])]), some (.c 1 [(.int .i64 1)]), some RCc73, some (.m 1 [(.ptr 1 0 0)]), some (.m 1 [(.ref 6 0 2)]), some RCc74, some (.c 1 [(.int .i64 3)]), some (.c 1 [(.int .i64 3)])]))
theorem RCr295 : rE (gB RCM8_2) 220 RCe295 = some RCe295.2.2 := by kernel_rfl
def RCe296 : Ent := ([(.ptr 0 0 0), RCc69, (.im (.int .i64 1))], [some RCc70, some (.m 9 [(.agg [RCc125, (.im (.sl true 0 [])), (.im (.int .i64 1000)), (.im (.int .i64 18)), (.fn (.func 75) [] [(.ptr 2 0 0), (.ptr 3 0 0), (.ptr 4 0 0)]), (.im (.int .i64 0)), (.im (.int .i64 35)), (.im (.int .i64 0)), (.im (.sl true 0 []))])]), some (.c 1 [(.int .i64 1)]), some RCc73, some (.m 1 [(.ptr 1 0 0)]), some (.m 1 [(.ref 6 0 2)]), some RCc74, some (.c 1 [(.int .i64 24)]), some (.c 1 [(.int .i64 0)])], (true, RCc118, [some RCc70, some RCc126, some (.c 1 [(.int .i64 1)]), some RCc73, some (.m 1 [(.ptr 1 0 0)]), some (.m 1 [(.ref 6 0 2)]), some RCc74, some (.c 1 [(.int .i64 24)]), some (.c 1 [(.int .i64 0)])]))
theorem RCr296 : rE (gB RCM8_2) 220 RCe296 = some RCe296.2.2 := by kernel_rfl
def RCb8_2 : Tabl := [RCe295, RCe296]
theorem RCb8_2_ok : OkZ Tryz.prog 220 (tabSz RCb8_2) := gT RCM8_2_ok (fA RCr295 <| fA RCr296 <| nA)
noncomputable def RCM8_3 : List (Nat × Sz) := (220, tabSz RCb8_2) :: (18, tabSz RCa8) :: RCL5
theorem RCM8_3_ok : ∀ p ∈ RCM8_3, OkZ Tryz.prog p.1 p.2 := fA RCb8_2_ok <| fA RCa8_ok <| RCL5_ok
def RCe297 : Ent := ([(.ptr 0 0 0), RCc69, (.im (.int .i64 1))], [some RCc70, some (.m 9 [(.agg [RCc127, (.im (.sl true 0 [])), (.im (.int .i64 1000)), (.im (.int .i64 13)), (.fn (.func 75) [] [(.ptr 2 0 0), (.ptr 3 0 0), (.ptr 4 0 0)]), (.im (.int .i64 0)), (.im (.int .i64 25)), (.im (.int .i64 0)), (.im (.sl true 0 []))])]), some (.c 1 [(.int .i64 1)]), some RCc73, some (.m 1 [(.ptr 1 0 0)]), some (.m 1 [(.ref 6 0 2)]), some RCc74, some (.c 1 [(.int .i64 8)]), some (.c 1 [(.int .i64 0)])], (false, (.im (.int .i64 0)), [some RCc70, some (.m 9 [(.agg [RCc127, (.im (.sl true 0 [])), (.im (.int .i64 1000)), (.im (.int .i64 13)), (.fn (.func 75) [] [(.ptr 2 0 0), (.ptr 3 0 0), (.ptr 4 0 0)]), (.im (.int .i64 0)), (.im (.int .i64 48)), (.im (.int .i64 0)), (.im (.sl true 0 []))])]), some (.c 1 [(.int .i64 1)]), some RCc73, some (.m 1 [(.ptr 1 0 0)]), some (.m 1 [(.ref 6 0 2)]), some RCc74, some (.c 1 [(.int .i64 8)]), some (.c 1 [(.int .i64 28)])]))
theorem RCr297 : rE (gB RCM8_3) 220 RCe297 = some RCe297.2.2 := by kernel_rfl
def RCe298 : Ent := ([(.ptr 0 0 0), RCc69, (.im (.int .i64 1))], [some RCc70, some (.m 9 [(.agg [RCc125, (.im (.sl true 0 [])), (.im (.int .i64 1000)), (.im (.int .i64 13)), (.fn (.func 75) [] [(.ptr 2 0 0), (.ptr 3 0 0), (.ptr 4 0 0)]), (.im (.int .i64 0)), (.im (.int .i64 25)), (.im (.int .i64 0)), (.im (.sl true 0 []))])]), some (.c 1 [(.int .i64 1)]), some RCc73, some (.m 1 [(.ptr 1 0 0)]), some (.m 1 [(.ref 6 0 2)]), some RCc74, some (.c 1 [(.int .i64 29)]), some (.c 1 [(.int .i64 0)])], (true, RCc118, [some RCc70, some RCc126, some (.c 1 [(.int .i64 1)]), some RCc73, some (.m 1 [(.ptr 1 0 0)]), some (.m 1 [(.ref 6 0 2)]), some RCc74, some (.c 1 [(.int .i64 29)]), some (.c 1 [(.int .i64 0)])]))
theorem RCr298 : rE (gB RCM8_3) 220 RCe298 = some RCe298.2.2 := by kernel_rfl
def RCb8_3 : Tabl := [RCe297, RCe298]
theorem RCb8_3_ok : OkZ Tryz.prog 220 (tabSz RCb8_3) := gT RCM8_3_ok (fA RCr297 <| fA RCr298 <| nA)
noncomputable def RCM8_4 : List (Nat × Sz) := (220, tabSz RCb8_3) :: (18, tabSz RCa8) :: RCL5
theorem RCM8_4_ok : ∀ p ∈ RCM8_4, OkZ Tryz.prog p.1 p.2 := fA RCb8_3_ok <| fA RCa8_ok <| RCL5_ok
def RCe299 : Ent := ([(.ptr 0 0 0), RCc69, (.im (.int .i64 1))], [some RCc70, some (.m 9 [(.agg [RCc127, (.im (.sl true 0 [])), (.im (.int .i64 1000)), (.im (.int .i64 8)), (.fn (.func 75) [] [(.ptr 2 0 0), (.ptr 3 0 0), (.ptr 4 0 0)]), (.im (.int .i64 0)), (.im (.int .i64 15)), (.im (.int .i64 0)), (.im (.sl true 0 []))])]), some (.c 1 [(.int .i64 1)]), some RCc73, some (.m 1 [(.ptr 1 0 0)]), some (.m 1 [(.ref 6 0 2)]), some RCc74, some (.c 1 [(.int .i64 13)]), some (.c 1 [(.int .i64 0)])], (false, (.im (.int .i64 0)), [some RCc70, some (.m 9 [(.agg [RCc127, (.im (.sl true 0 [])), (.im (.int .i64 1000)), (.im (.int .i64 8)), (.fn (.func 75) [] [(.ptr 2 0 0), (.ptr 3 0 0), (.ptr 4 0 0)]), (.im (.int .i64 0)), (.im (.int .i64 53)), (.im (.int .i64 0)), (.im (.sl true 0 []))])]), some (.c 1 [(.int .i64 1)]), some RCc73, some (.m 1 [(.ptr 1 0 0)]), some (.m 1 [(.ref 6 0 2)]), some RCc74, some (.c 1 [(.int .i64 13)]), some (.c 1 [(.int .i64 78)])]))
theorem RCr299 : rE (gB RCM8_4) 220 RCe299 = some RCe299.2.2 := by kernel_rfl
def RCe300 : Ent := ([(.ptr 0 0 0), RCc69, (.im (.int .i64 1))], [some RCc70, some (.m 9 [(.agg [RCc125, (.im (.sl true 0 [])), (.im (.int .i64 1000)), (.im (.int .i64 8)), (.fn (.func 75) [] [(.ptr 2 0 0), (.ptr 3 0 0), (.ptr 4 0 0)]), (.im (.int .i64 0)), (.im (.int .i64 15)), (.im (.int .i64 0)), (.im (.sl true 0 []))])]), some (.c 1 [(.int .i64 1)]), some RCc73, some (.m 1 [(.ptr 1 0 0)]), some (.m 1 [(.ref 6 0 2)]), some RCc74, some (.c 1 [(.int .i64 34)]), some (.c 1 [(.int .i64 0)])], (true, RCc118, [some RCc70, some RCc126, some (.c 1 [(.int .i64 1)]), some RCc73, some (.m 1 [(.ptr 1 0 0)]), some (.m 1 [(.ref 6 0 2)]), some RCc74, some (.c 1 [(.int .i64 34)]), some (.c 1 [(.int .i64 0)])]))
theorem RCr300 : rE (gB RCM8_4) 220 RCe300 = some RCe300.2.2 := by kernel_rfl
def RCb8_4 : Tabl := [RCe299, RCe300]
theorem RCb8_4_ok : OkZ Tryz.prog 220 (tabSz RCb8_4) := gT RCM8_4_ok (fA RCr299 <| fA RCr300 <| nA)
noncomputable def RCM8_5 : List (Nat × Sz) := (220, tabSz RCb8_4) :: (18, tabSz RCa8) :: RCL5
theorem RCM8_5_ok : ∀ p ∈ RCM8_5, OkZ Tryz.prog p.1 p.2 := fA RCb8_4_ok <| fA RCa8_ok <| RCL5_ok
def RCe301 : Ent := ([(.ptr 0 0 0), RCc69, (.im (.int .i64 1))], [some RCc70, some (.m 9 [(.agg [RCc127, (.im (.sl true 0 [])), (.im (.int .i64 1000)), (.im (.int .i64 3)), (.fn (.func 75) [] [(.ptr 2 0 0), (.ptr 3 0 0), (.ptr 4 0 0)]), (.im (.int .i64 0)), (.im (.int .i64 5)), (.im (.int .i64 0)), (.im (.sl true 0 []))])]), some (.c 1 [(.int .i64 1)]), some RCc73, some (.m 1 [(.ptr 1 0 0)]), some (.m 1 [(.ref 6 0 2)]), some RCc74, some (.c 1 [(.int .i64 18)]), some (.c 1 [(.int .i64 0)])], (false, (.im (.int .i64 0)), [some RCc70, some (.m 9 [(.agg [RCc127, (.im (.sl true 0 [])), (.im (.int .i64 1000)), (.im (.int .i64 3)), (.fn (.func 75) [] [(.ptr 2 0 0), (.ptr 3 0 0), (.ptr 4 0 0)]), (.im (.int .i64 0)), (.im (.int .i64 58)), (.im (.int .i64 0)), (.im (.sl true 0 []))])]), some (.c 1 [(.int .i64 1)]), some RCc73, some (.m 1 [(.ptr 1 0 0)]), some (.m 1 [(.ref 6 0 2)]), some RCc74, some (.c 1 [(.int .i64 18)]), some (.c 1 [(.int .i64 153)])]))
theorem RCr301 : rE (gB RCM8_5) 220 RCe301 = some RCe301.2.2 := by kernel_rfl
def RCe302 : Ent := ([(.ptr 0 0 0), RCc69, (.im (.int .i64 1))], [some RCc70, some (.m 9 [(.agg [RCc125, (.im (.sl true 0 [])), (.im (.int .i64 1000)), (.im (.int .i64 3)), (.fn (.func 75) [] [(.ptr 2 0 0), (.ptr 3 0 0), (.ptr 4 0 0)]), (.im (.int .i64 0)), (.im (.int .i64 5)), (.im (.int .i64 0)), (.im (.sl true 0 []))])]), some (.c 1 [(.int .i64 1)]), some RCc73, some (.m 1 [(.ptr 1 0 0)]), some (.m 1 [(.ref 6 0 2)]), some RCc74, some (.c 1 [(.int .i64 39)]), some (.c 1 [(.int .i64 0)])], (true, RCc118, [some RCc70, some RCc126, some (.c 1 [(.int .i64 1)]), some RCc73, some (.m 1 [(.ptr 1 0 0)]), some (.m 1 [(.ref 6 0 2)]), some RCc74, some (.c 1 [(.int .i64 39)]), some (.c 1 [(.int .i64 0)])]))
theorem RCr302 : rE (gB RCM8_5) 220 RCe302 = some RCe302.2.2 := by kernel_rfl
def RCb8_5 : Tabl := [RCe301, RCe302]
theorem RCb8_5_ok : OkZ Tryz.prog 220 (tabSz RCb8_5) := gT RCM8_5_ok (fA RCr301 <| fA RCr302 <| nA)
noncomputable def RCM8_6 : List (Nat × Sz) := (220, tabSz RCb8_5) :: (18, tabSz RCa8) :: RCL5
theorem RCM8_6_ok : ∀ p ∈ RCM8_6, OkZ Tryz.prog p.1 p.2 := fA RCb8_5_ok <| fA RCa8_ok <| RCL5_ok
def RCe303 : Ent := ([RCc122, (.im (.sl true 0 [])), (.im (.int .i64 1000)), (.im (.int .i64 1)), RCc76], [], (false, (.tup [(.agg [(.im (.int .i64 0)), (.im (.int .i64 61)), (.im (.int .i64 (-1))), (.ref 0 0 1)]), (.im (.int .i64 0))]), [some (.c 1 [(.sl false 1 [(.int .i64 190)])])]))
theorem RCr303 : rE (gB RCM8_6) 33 RCe303 = some RCe303.2.2 := by kernel_rfl
def RCe304 : Ent := ([RCc124, (.im (.sl true 0 [])), (.im (.int .i64 1000)), (.im (.int .i64 1)), RCc76], [], (false, (.tup [(.im (.agg [(.int .i64 5), (.int .i64 79), (.int .i64 0), (.sl true 0 [])])), (.im (.int .i64 0))]), []))
theorem RCr304 : rE (gB RCM8_6) 33 RCe304 = some RCe304.2.2 := by kernel_rfl
def RCb8_6 : Tabl := [RCe303, RCe304]
theorem RCb8_6_ok : OkZ Tryz.prog 33 (tabSz RCb8_6) := gT RCM8_6_ok (fA RCr303 <| fA RCr304 <| nA)
def RCz8 : Tabl := RCb8_6
theorem RCz8_ok : OkZ Tryz.prog 33 (tabSz RCz8) := RCb8_6_ok
end Go.Proofs.YtkinbnepkpoofaaGreatDoor