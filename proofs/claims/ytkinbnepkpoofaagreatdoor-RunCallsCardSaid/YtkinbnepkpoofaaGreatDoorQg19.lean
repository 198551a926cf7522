/- Texts joined into one: RCG19. -/
import Derived.Test.YtkinbnepkpoofaaGreatDoorQz
/- Runs of some numbers. -/
set_option maxRecDepth 1000000
set_option linter.unusedVariables false
open Go Go.AM
namespace Go.Proofs.YtkinbnepkpoofaaGreatDoor
def RCe434 : Ent := ([RCc199], [], (false, (.tup [(.im (.int .i64 0)), (.im (.int .i64 (-1)))]), []))
theorem RCr434 : rE (gB RCL5) 18 RCe434 = some RCe434.2.2 := by kernel_rfl
def RCe435 : Ent := ([RCc201], [], (false, (.tup [(.im (.int .i64 0)), (.im (.int .i64 (-1)))]), []))
theorem RCr435 : rE (gB RCL5) 18 RCe435 = some RCe435.2.2 := by kernel_rfl
def RCa19 : Tabl := [RCe434, RCe435]
theorem RCa19_ok : OkZ Tryz.prog 18 (tabSz RCa19) := gT RCL5_ok (fA RCr434 <| fA RCr435 <| nA)
noncomputable def RCM19_0 : List (Nat × Sz) := (18, tabSz RCa19) :: RCL5
theorem RCM19_0_ok : ∀ p ∈ RCM19_0, OkZ Tryz.prog p.1 p.2 := fA RCa19_ok <| RCL5_ok
def RCe436 : Ent := ([(.ptr 0 0 0), RCc69, (.im (.int .i64 1))], [some RCc70, some (.m 9 [(.agg [RCc202, (.im (.sl true 0 [])), (.im (.int .i64 1000)), (.im (.int .i64 28)), (.fn (.func 75) [] [(.ptr 2 0 0), (.ptr 3 0 0), (.ptr 4 0 0)]), (.im (.int .i64 0)), (.im (.int .i64 55)), (.im (.int .i64 0)), (.im (.sl true 0 []))])]), some (.c 1 [(.int .i64 1)]), some RCc73, some (.m 1 [(.ptr 1 0 0)]), some (.m 1 [(.ref 6 0 2)]), some RCc74, some (.c 1 [(.int .i64 25)]), some (.c 1 [(.int .i64 0)])], (true, RCc118, [some RCc70, some RCc203, some (.c 1 [(.int .i64 1)]), some RCc73, some (.m 1 [(.ptr 1 0 0)]), some (.m 1 [(.ref 6 0 2)]), some RCc74, some (.c 1 [(.int .i64 25)]), some (.c 1 [(.int .i64 0)])]))
theorem RCr436 : rE (gB RCM19_0) 220 RCe436 = some RCe436.2.2 := by kernel_rfl
def RCb19_0 : Tabl := [RCe436]
theorem RCb19_0_ok : OkZ Tryz.prog 220 (tabSz RCb19_0) := gT RCM19_0_ok (fA RCr436 <| nA)
noncomputable def RCM19_1 : List (Nat × Sz) := (220, tabSz RCb19_0) :: (18, tabSz RCa19) :: RCL5
theorem RCM19_1_ok : ∀ p ∈ RCM19_1, OkZ Tryz.prog p.1 p.2 := fA RCb19_0_ok <| fA RCa19_ok <| RCL5_ok
def RCe437 : Ent := ([(.ptr 0 0 0), RCc69, (.im (.int .i64 1))], [some RCc70, some (.m 9 [(.agg [RCc202, (.im (.sl true 0 [])), (.im (.int .i64 1000)), (.im (.int .i64 23)), (.fn (.func 75) [] [(.ptr 2 0 0), (.ptr 3 0 0), (.ptr 4 0 0)]), (.im (.int .i64 0)), (.im (.int .i64 45)), (.im (.int .i64 0)), (.im (.sl true 0 []))])]), some (.c 1 [(.int .i64 1)]), some RCc73, some (.m 1 [(.ptr 1 0 0)]), some (.m 1 [(.ref 6 0 2)]), some RCc74, some (.c 1 [(.int .i64 30)]), some (.c 1 [(.int .i64 0)])], (true, RCc118, [some RCc70, some RCc203, some (.c 1 [(.int .i64 1)]), some RCc73, some (.m 1 [(.ptr 1 0 0)]), some (.m 1 [(.ref 6 0 2)]), some RCc74, some (.c 1 [(.int .i64 30)]), some (.c 1 [(.int .i64 0)])]))
theorem RCr437 : rE (gB RCM19_1) 220 RCe437 = some RCe437.2.2 := by kernel_rfl
def RCb19_1 : Tabl := [RCe437]
theorem RCb19_1_ok : OkZ Tryz.prog 220 (tabSz RCb19_1) := gT RCM19_1_ok (fA RCr437 <| nA)
noncomputable def RCM19_2 : List (Nat × Sz) := (220, tabSz RCb19_1) :: (18, tabSz RCa19) :: RCL5
theorem RCM19_2_ok : ∀ p ∈ RCM19_2, OkZ Tryz.prog p.1 p.2 := fA RCb19_1_ok <| fA RCa19_ok <| RCL5_ok
def RCe438 : Ent := ([(.ptr 0 0 0), RCc69, (.im (.int .i64 1))], [some RCc70, some (.m 9 [(.agg [RCc202, (.im (.sl true 0 [])), (.im (.int .i64 1000)), (.im (.int .i64 18)), (.fn (.func 75) [] [(.ptr 2 0 0), (.ptr 3 0 0), (.ptr 4 0 0)]), (.im (.int .i64 0)), (.im (.int .i64 35)), (.im (.int .i64 0)), (.im (.sl true 0 []))])]), some (.c 1 [(.int .i64 1)]), some RCc73, some (.m 1 [(.ptr 1 0 0)]), some (.m 1 [(.ref 6 0 2)]), some RCc74, some (.c 1 [(.int .i64 35)]), some (.c 1 [(.int .i64 0)])], (true, RCc118, [some RCc70, some RCc203, some (.c 1 [(.int .i64 1)]), some RCc73, some (.m 1 [(.ptr 1 0 0)]), some (.m 1 [(.ref 6 0 2)]), some RCc74, some (.c 1 [(.int .i64 35)]), some (.c 1 [(.int .i64 0)])]))
theorem RCr438 : rE (gB RCM19_2) 220 RCe438 = some RCe438.2.2 := by kernel_rfl
def RCb19_2 : Tabl := [RCe438]
theorem RCb19_2_ok : OkZ Tryz.prog 220 (tabSz RCb19_2) := gT RCM19_2_ok (fA RCr438 <| nA)
noncomputable def RCM19_3 : List (Nat × Sz) := (220, tabSz RCb19_2) :: (18, tabSz RCa19) :: RCL5
theorem RCM19_3_ok : ∀ p ∈ RCM19_3, OkZ Tryz.prog p.1 p.2 := fA RCb19_2_ok <| fA RCa19_ok <| RCL5_ok
def RCe439 : Ent := ([(.ptr 0 0 0), RCc69, (.im (.int .i64 1))], [some RCc70, some (.m 9 [(.agg [RCc202, (.im (.sl true 0 [])), (.im (.int .i64 1000)), (.im (.int .i64 13)), (.fn (.func 75) [] [(.ptr 2 0 0), (.ptr 3 0 0), (.ptr 4 0 0)]), (.im (.int .i64 0)), (.im (.int .i64 25)), (.im (.int .i64 0)), (.im (.sl true 0 []))])]), some (.c 1 [(.int .i64 1)]), some RCc73, some (.m 1 [(.ptr 1 0 0)]), some (.m 1 [(.ref 6 0 2)]), some RCc74, some (.c 1 [(.int .i64 40)]), some (.c 1 [(.int .i64 0)])], (true, RCc118, [some RCc70, some RCc203, some (.c 1 [(.int .i64 1)]), some RCc73, some (.m 1 [(.ptr 1 0 0)]), some (.m 1 [(.ref 6 0 2)]), some RCc74, some (.c 1 [(.int .i64 40)]), some (.c 1 [(.int .i64 0)])]))
theorem RCr439 : rE (gB RCM19_3) 220 RCe439 = some RCe439.2.2 := by kernel_rfl
def RCb19_3 : Tabl := [RCe439]
theorem RCb19_3_ok : OkZ Tryz.prog 220 (tabSz RCb19_3) := gT RCM19_3_ok (fA RCr439 <| nA)
noncomputable def RCM19_4 : List (Nat × Sz) := (220, tabSz RCb19_3) :: (18, tabSz RCa19) :: RCL5
theorem RCM19_4_ok : ∀ p ∈ RCM19_4, OkZ Tryz.prog p.1 p.2 := fA RCb19_3_ok <| fA RCa19_ok <| RCL5_ok
def RCe440 : Ent := ([(.ptr 0 0 0), RCc69, (.im (.int .i64 1))], [some RCc70, some (.m 9 [(.agg [RCc204, (.im (.sl true 0 [])), (.im (.int .i64 1000)), (.im (.int .i64 8)), (.fn (.func 75) [] [(.ptr 2 0 0), (.ptr 3 0 0), (.ptr 4 0 0)]), (.im (.int .i64 0)), (.im (.int .i64 15)), (.im (.int .i64 0)), (.im (.sl true 0 []))])]), some (.c 1 [(.int .i64 1)]), some RCc73, some (.m 1 [(.ptr 1 0 0)]), some (.m 1 [(.ref 6 0 2)]), some RCc74, some (.c 1 [(.int .i64 2)]), some (.c 1 [(.int .i64 0)])], (false, (.im (.int .i64 0)), [some RCc70, some (.m 9 [(.agg [RCc204, (.im (.sl true 0 [])), (.im (.int .i64 1000)), (.im (.int .i64 8)), (.fn (.func 75) [] [(.ptr 2 0 0), (.ptr 3 0 0), (.ptr 4 0 0)]), (.im (.int .i64 0)), (.im (.int .i64 20)), (.im (.int .i64 0)), (.im (.sl true 0 []))])]), some (.c 1 [(.int .i64 1)]), some RCc73, some (.m 1 [(.ptr 1 0 0)]), some (.m 1 [(.ref 6 0 2)]), some RCc74, some (.c 1 [(.int .i64 2)]), some (.c 1 [(.int .i64 1)])]))
theorem RCr440 : rE (gB RCM19_4) 220 RCe440 = some RCe440.2.2 := by kernel_rfl
def RCe441 : Ent := ([(.ptr 0 0 0), RCc69, (.im (.int .i64 1))], [some RCc70, some (.m 9 [(.agg [RCc202, (.im (.sl true 0 [])), (.im (.int .i64 1000)), (.im (.int .i64 8)), (.fn (.func 75) [] [(.ptr 2 0 0), (.ptr 3 0 0), (.ptr 4 0 0)]), (.im (.int .i64 0)), (.im (.int .i64 15)), (.im (.int .i64 0)), (.im (.sl true 0 []))])]), some (.c 1 [(.int .i64 1)]), some RCc73, some (.m 1 [(.ptr 1 0 0)]), some (.m 1 [(.ref 6 0 2)]), some RCc74, some (.c 1 [(.int .i64 45)]), some (.c 1 [(.int .i64 0)])], (true, RCc118, [some RCc70, some RCc203, some (.c 1 [(.int .i64 1)]), some RCc73, some (.m 1 [(.ptr 1 0 0)]), some (.m 1 [(.ref 6 0 2)]), some RCc74, some (.c 1 [(.int .i64 45)]), some (.c 1 [(.int .i64 0)])]))
theorem RCr441 : rE (gB RCM19_4) 220 RCe441 = some RCe441.2.2 := by kernel_rfl
def RCb19_4 : Tabl := [RCe440, RCe441]
theorem RCb19_4_ok : OkZ Tryz.prog 220 (tabSz RCb19_4) := gT RCM19_4_ok (fA RCr440 <| fA RCr441 <| nA)
noncomputable def RCM19_5 : List (Nat × Sz) := (220, tabSz RCb19_4) :: (18, tabSz RCa19) :: RCL5
theorem RCM19_5_ok : ∀ p ∈ RCM19_5, OkZ Tryz.prog p.1 p.2 := fA RCb19_4_ok <| fA RCa19_ok <| RCL5_ok
def RCe442 : Ent := ([(.ptr 0 0 0), RCc69, (.im (.int .i64 1))], [some RCc70, some (.m 9 [(.agg [RCc204, (.im (.sl true 0 [])), (.im (.int .i64 1000)), (.im (.int .i64 3)), (.fn (.func 75) [] [(.ptr 2 0 0), (.ptr 3 0 0), (.ptr 4 0 0)]), (.im (.int .i64 0)), (.im (.int .i64 5)), (.im (.int .i64 0)), (.im (.sl true 0 []))])]), some (.c 1 [(.int .i64 1)]), some RCc73, some (.m 1 [(.ptr 1 0 0)]), some (.m 1 [(.ref 6 0 2)]), some RCc74, some (.c 1 [(.int .i64 7)]), some (.c 1 [(.int .i64 0)])], (false, (.im (.int .i64 0)), [some RCc70, some (.m 9 [(.agg [RCc204, (.im (.sl true 0 [])), (.im (.int .i64 1000)), (.im (.int .i64 3)), (.fn (.func 75) [] [(.ptr 2 0 0), (.ptr 3 0 0), (.ptr 4 0 0)]), (.im (.int .i64 0)), (.im (.int .i64 25)), (.im (.int .i64 0)), (.im (.sl true 0 []))])]), some (.c 1 [(.int .i64 1)]), some RCc73, some (.m 1 [(.ptr 1 0 0)]), some (.m 1 [(.ref 6 0 2)]), some RCc74, some (.c 1 [(.int .i64 7)]), some (.c 1 [(.int .i64 21)])]))
theorem RCr442 : rE (gB RCM19_5) 220 RCe442 = some RCe442.2.2 := by kernel_rfl
def RCe443 : Ent := ([(.ptr 0 0 0), RCc69, (.im (.int .i64 1))], [some RCc70, some (.m 9 [(.agg [RCc202, (.im (.sl true 0 [])), (.im (.int .i64 1000)), (.im (.int .i64 3)), (.fn (.func 75) [] [(.ptr 2 0 0), (.ptr 3 0 0), (.ptr 4 0 0)]), (.im (.int .i64 0)), (.im (.int .i64 5)), (.im (.int .i64 0)), (.im (.sl true 0 []))])]), some (.c 1 [(.int .i64 1)]), some RCc73, some (.m 1 [(.ptr 1 0 0)]), some (.m 1 [(.ref 6 0 2)]), some RCc74, some (.c 1 [(.int .i64 50)]), some (.c 1 [(.int .i64 0)])], (true, RCc118, [some RCc70, some RCc203, some (.c 1 [(.int .i64 1)]), some RCc73, some (.m 1 [(.ptr 1 0 0)]), some (.m 1 [(.ref 6 0 2)]), some RCc74, some (.c 1 [(.int .i64 50)]), some (.c 1 [(.int .i64 0)])]))
theorem RCr443 : rE (gB RCM19_5) 220 RCe443 = some RCe443.2.2 := by kernel_rfl
def RCb19_5 : Tabl := [RCe442, RCe443]
theorem RCb19_5_ok : OkZ Tryz.prog 220 (tabSz RCb19_5) := gT RCM19_5_ok (fA RCr442 <| fA RCr443 <| nA)
noncomputable def RCM19_6 : List (Nat × Sz) := (220, tabSz RCb19_5) :: (18, tabSz RCa19) :: RCL5
theorem RCM19_6_ok : ∀ p ∈ RCM19_6, OkZ Tryz.prog p.1 p.2 := fA RCb19_5_ok <| fA RCa19_ok <| RCL5_ok
def RCe444 : Ent := ([RCc199, (.im (.sl true 0 [])), (.im (.int .i64 1000)), (.im (.int .i64 1)), RCc76], [], (false, (.tup [(.agg [(.im (.int .i64 0)), (.im (.int .i64 28)), (.im (.int .i64 (-1))), (.ref 0 0 1)]), (.im (.int .i64 0))]), [some (.c 1 [(.sl false 1 [(.int .i64 36)])])]))
theorem RCr444 : rE (gB RCM19_6) 33 RCe444 = some RCe444.2.2 := by kernel_rfl
def RCe445 : Ent := ([RCc201, (.im (.sl true 0 [])), (.im (.int .i64 1000)), (.im (.int .i64 1)), RCc76], [], (false, (.tup [(.im (.agg [(.int .i64 5), (.int .i64 79), (.int .i64 0), (.sl true 0 [])])), (.im (.int .i64 0))]), []))
theorem RCr445 : rE (gB RCM19_6) 33 RCe445 = some RCe445.2.2 := by kernel_rfl
def RCb19_6 : Tabl := [RCe444, RCe445]
theorem RCb19_6_ok : OkZ Tryz.prog 33 (tabSz RCb19_6) := gT RCM19_6_ok (fA RCr444 <| fA RCr445 <| nA)
def RCz19 : Tabl := RCb19_6
theorem RCz19_ok : OkZ Tryz.prog 33 (tabSz RCz19) := RCb19_6_ok
end Go.Proofs.YtkinbnepkpoofaaGreatDoor