/- Texts joined into one: RCG10. -/
import Derived.Test.YtkinbnepkpoofaaGreatDoorQz
/- Runs of some numbers. -/
set_option maxRecDepth 1000000
set_option linter.unusedVariables false
open Go Go.AM
namespace Go.Proofs.YtkinbnepkpoofaaGreatDoor
def RCe319 : Ent := ([RCc136], [], (false, (.tup [(.im (.int .i64 0)), (.im (.int .i64 (-1)))]), []))
theorem RCr319 : rE (gB RCL5) 18 RCe319 = some RCe319.2.2 := by kernel_rfl
def RCe320 : Ent := ([RCc138], [], (false, (.tup [(.im (.int .i64 0)), (.im (.int .i64 (-1)))]), []))
theorem RCr320 : rE (gB RCL5) 18 RCe320 = some RCe320.2.2 := by kernel_rfl
def RCa10 : Tabl := [RCe319, RCe320]
theorem RCa10_ok : OkZ Tryz.prog 18 (tabSz RCa10) := gT RCL5_ok (fA RCr319 <| fA RCr320 <| nA)
noncomputable def RCM10_0 : List (Nat × Sz) := (18, tabSz RCa10) :: RCL5
theorem RCM10_0_ok : ∀ p ∈ RCM10_0, OkZ Tryz.prog p.1 p.2 := fA RCa10_ok <| RCL5_ok
def RCe321 : Ent := ([(.ptr 0 0 0), RCc69, (.im (.int .i64 1))], [some RCc70, some (.m 9 [(.agg [RCc139, (.im (.sl true 0 [])), (.im (.int .i64 1000)), (.im (.int .i64 28)), (.fn (.func 75) [] [(.ptr 2 0 0), (.ptr 3 0 0), (.ptr 4 0 0)]), (.im (.int .i64 0)), (.im (.int .i64 55)), (.im (.int .i64 0)), (.im (.sl true 0 []))])]), some (.c 1 [(.int .i64 1)]), some RCc73, some (.m 1 [(.ptr 1 0 0)]), some (.m 1 [(.ref 6 0 2)]), some RCc74, some (.c 1 [(.int .i64 16)]), some (.c 1 [(.int .i64 0)])], (true, RCc118, [some RCc70, some RCc140, some (.c 1 [(.int .i64 1)]), some RCc73, some (.m 1 [(.ptr 1 0 0)]), some (.m 1 [(.ref 6 0 2)]), some RCc74, some (.c 1 [(.int .i64 16)]), some (.c 1 [(.int .i64 0)])]))
theorem RCr321 : rE (gB RCM10_0) 220 RCe321 = some RCe321.2.2 := by kernel_rfl
def RCb10_0 : Tabl := [RCe321]
theorem RCb10_0_ok : OkZ Tryz.prog 220 (tabSz RCb10_0) := gT RCM10_0_ok (fA RCr321 <| nA)
noncomputable def RCM10_1 : List (Nat × Sz) := (220, tabSz RCb10_0) :: (18, tabSz RCa10) :: RCL5
theorem RCM10_1_ok : ∀ p ∈ RCM10_1, OkZ Tryz.prog p.1 p.2 := fA RCb10_0_ok <| fA RCa10_ok <| RCL5_ok
def RCe322 : Ent := ([(.ptr 0 0 0), RCc69, (.im (.int .i64 1))], [some RCc70, some (.m 9 [(.agg [RCc139, (.im (.sl true 0 [])), (.im (.int .i64 1000)), (.im (.int .i64 23)), (.fn (.func 75) [] [(.ptr 2 0 0), (.ptr 3 0 0), (.ptr 4 0 0)]), (.im (.int .i64 0)), (.im (.int .i64 45)), (.im (.int .i64 0)), (.im (.sl true 0 []))])]), some (.c 1 [(.int .i64 1)]), some RCc73, some (.m 1 [(.ptr 1 0 0)]), some (.m 1 [(.ref 6 0 2)]), some RCc74, some (.c 1 [(.int .i64 21)]), some (.c 1 [(.int .i64 0)])], (true, RCc118, [some RCc70, some RCc140, some (.c 1 [(.int .i64 1)]), some RCc73, some (.m 1 [(.ptr 1 0 0)]), some (.m 1 [(.ref 6 0 2)]), some RCc74, some (.c 1 [(.int .i64 21)]), some (.c 1 [(.int .i64 0)])]))
theorem RCr322 : rE (gB RCM10_1) 220 RCe322 = some RCe322.2.2 := by kernel_rfl
def RCb10_1 : Tabl := [RCe322]
theorem RCb10_1_ok : OkZ Tryz.prog 220 (tabSz RCb10_1) := gT RCM10_1_ok (fA RCr322 <| nA)
noncomputable def RCM10_2 : List (Nat × Sz) := (220, tabSz RCb10_1) :: (18, tabSz RCa10) :: RCL5
theorem RCM10_2_ok : ∀ p ∈ RCM10_2, OkZ Tryz.prog p.1 p.2 := fA RCb10_1_ok <| fA RCa10_ok <| RCL5_ok
def RCe323 : Ent := ([(.ptr 0 0 0), RCc69, (.im (.int .i64 1))], [some RCc70, some (.m 9 [(.agg [RCc141, (.im (.sl true 0 [])), (.im (.int .i64 1000)), (.im (.int .i64 18)), (.fn (.func 75) [] [(.ptr 2 0 0), (.ptr 3 0 0), (.ptr 4 0 0)]), (.im (.int .i64 0)), (.im (.int .i64 35)), (.im (.int .i64 0)), (.im (.sl true 0 []))])]), some (.c 1 [(.int .i64 1)]), some RCc73, some (.m 1 [(.ptr 1 0 0)]), some (.m 1 [(.ref 6 0 2)]), some RCc74, some (.c 1 [(.int .i64 1)]), some (.c 1 [(.int .i64 0)])], (false, (.im (.int .i64 0)), [some RCc70, some (.m 9 [(.agg [RCc141, (.im (.sl true 0 [])), (.im (.int .i64 1000)), (.im (.int .i64 18)), (.fn (.func 75) [] [(.ptr 2 0 0), (.ptr 3 0 0), (.ptr 4 0 0)]), (.im (.int .i64 0)), (.im (.int .i64 37)), (.im (.int .i64 0)), (.im (.sl true 0 []))])]), some (.c 1 [(.int .i64 1)]), some RCc73, some (.m 1 [(.ptr 1 0 0)]), some (.m 1 [(.ref 6 0 2)]), some RCc74, some (.c 1 [(.int .i64 1)]), some (.c 1 [(.int .i64 0)])]))
theorem RCr323 : rE (gB RCM10_2) 220 RCe323 = some RCe323.2.2 := by kernel_rfl
def RCe324 : Ent := ([(.ptr 0 0 0), RCc69, (.im (.int .i64 1))], [some RCc70, some (.m 9 [(.agg [RCc139, (.im (.sl true 0 [])), (.im (.int .i64 1000)), (.im (.int .i64 18)), (.fn (.func 75) [] [(.ptr 2 0 0), (.ptr 3 0 0), (.ptr 4 0 0)]), (.im (.int .i64 0)), (.im (.int .i64 35)), (.im (.int .i64 0)), (.im (.sl true 0 []))])]), some (.c 1 [(.int .i64 1)]), some RCc73, some (.m 1 [(.ptr 1 0 0)]), some (.m 1 [(.ref 6 0 2)]), some RCc74, some (.c 1 [(.int .i64 26)]), some (.c 1 [(.int .i64 0)])], (true, RCc118, [some RCc70, some RCc140, some (.c 1 [(.int .i64 1)]), some RCc73, some (.m 1 [(.ptr 1 0 0)]), some (.m 1 [(.ref 6 0 2)]), some RCc74, some (.c 1 [(.int .i64 26)]), some (.c 1 [(.int .i64 0)])]))
theorem RCr324 : rE (gB RCM10_2) 220 RCe324 = some RCe324.2.2 := by kernel_rfl
def RCb10_2 : Tabl := [RCe323, RCe324]
theorem RCb10_2_ok : OkZ Tryz.prog 220 (tabSz RCb10_2) := gT RCM10_2_ok (fA RCr323 <| fA RCr324 <| nA)
noncomputable def RCM10_3 : List (Nat × Sz) := (220, tabSz RCb10_2) :: (18, tabSz RCa10) :: RCL5
theorem RCM10_3_ok : ∀ p ∈ RCM10_3, OkZ Tryz.prog p.1 p.2 := fA RCb10_2_ok <| fA RCa10_ok <| RCL5_ok
def RCe325 : Ent := ([(.ptr 0 0 0), RCc69, (.im (.int .i64 1))], [some RCc70, some (.m 9 [(.agg [RCc141, (.im (.sl true 0 [])), (.im (.int .i64 1000)), (.im (.int .i64 13)), (.fn (.func 75) [] [(.ptr 2 0 0), (.ptr 3 0 0), (.ptr 4 0 0)]), (.im (.int .i64 0)), (.im (.int .i64 25)), (.im (.int .i64 0)), (.im (.sl true 0 []))])]), some (.c 1 [(.int .i64 1)]), some RCc73, some (.m 1 [(.ptr 1 0 0)]), some (.m 1 [(.ref 6 0 2)]), some RCc74, some (.c 1 [(.int .i64 6)]), some (.c 1 [(.int .i64 0)])], (false, (.im (.int .i64 0)), [some RCc70, some (.m 9 [(.agg [RCc141, (.im (.sl true 0 [])), (.im (.int .i64 1000)), (.im (.int .i64 13)), (.fn (.func 75) [] [(.ptr 2 0 0), (.ptr 3 0 0), (.ptr 4 0 0)]), (.im (.int .i64 0)), (.im (.int .i64 42)), (.im (.int .i64 0)), (.im (.sl true 0 []))])]), some (.c 1 [(.int .i64 1)]), some RCc73, some (.m 1 [(.ptr 1 0 0)]), some (.m 1 [(.ref 6 0 2)]), some RCc74, some (.c 1 [(.int .i64 6)]), some (.c 1 [(.int .i64 15)])]))
theorem RCr325 : rE (gB RCM10_3) 220 RCe325 = some RCe325.2.2 := by kernel_rfl
def RCe326 : Ent := ([(.ptr 0 0 0), RCc69, (.im (.int .i64 1))], [some RCc70, some (.m 9 [(.agg [RCc139, (.im (.sl true 0 [])), (.im (.int .i64 1000)), (.im (.int .i64 13)), (.fn (.func 75) [] [(.ptr 2 0 0), (.ptr 3 0 0), (.ptr 4 0 0)]), (.im (.int .i64 0)), (.im (.int .i64 25)), (.im (.int .i64 0)), (.im (.sl true 0 []))])]), some (.c 1 [(.int .i64 1)]), some RCc73, some (.m 1 [(.ptr 1 0 0)]), some (.m 1 [(.ref 6 0 2)]), some RCc74, some (.c 1 [(.int .i64 31)]), some (.c 1 [(.int .i64 0)])], (true, RCc118, [some RCc70, some RCc140, some (.c 1 [(.int .i64 1)]), some RCc73, some (.m 1 [(.ptr 1 0 0)]), some (.m 1 [(.ref 6 0 2)]), some RCc74, some (.c 1 [(.int .i64 31)]), some (.c 1 [(.int .i64 0)])]))
theorem RCr326 : rE (gB RCM10_3) 220 RCe326 = some RCe326.2.2 := by kernel_rfl
def RCb10_3 : Tabl := [RCe325, RCe326]
theorem RCb10_3_ok : OkZ Tryz.prog 220 (tabSz RCb10_3) := gT RCM10_3_ok (fA RCr325 <| fA RCr326 <| nA)
noncomputable def RCM10_4 : List (Nat × Sz) := (220, tabSz RCb10_3) :: (18, tabSz RCa10) :: RCL5
theorem RCM10_4_ok : ∀ p ∈ RCM10_4, OkZ Tryz.prog p.1 p.2 := fA RCb10_3_ok <| fA RCa10_ok <| RCL5_ok
def RCe327 : Ent := ([(.ptr 0 0 0), RCc69, (.im (.int .i64 1))], [some RCc70, some (.m 9 [(.agg [RCc141, (.im (.sl true 0 [])), (.im (.int .i64 1000)), (.im (.int .i64 8)), (.fn (.func 75) [] [(.ptr 2 0 0), (.ptr 3 0 0), (.ptr 4 0 0)]), (.im (.int .i64 0)), (.im (.int .i64 15)), (.im (.int .i64 0)), (.im (.sl true 0 []))])]), some (.c 1 [(.int .i64 1)]), some RCc73, some (.m 1 [(.ptr 1 0 0)]), some (.m 1 [(.ref 6 0 2)]), some RCc74, some (.c 1 [(.int .i64 11)]), some (.c 1 [(.int .i64 0)])], (false, (.im (.int .i64 0)), [some RCc70, some (.m 9 [(.agg [RCc141, (.im (.sl true 0 [])), (.im (.int .i64 1000)), (.im (.int .i64 8)), (.fn (.func 75) [] [(.ptr 2 0 0), (.ptr 3 0 0), (.ptr 4 0 0)]), (.im (.int .i64 0)), (.im (.int .i64 47)), (.im (.int .i64 0)), (.im (.sl true 0 []))])]), some (.c 1 [(.int .i64 1)]), some RCc73, some (.m 1 [(.ptr 1 0 0)]), some (.m 1 [(.ref 6 0 2)]), some RCc74, some (.c 1 [(.int .i64 11)]), some (.c 1 [(.int .i64 55)])]))
theorem RCr327 : rE (gB RCM10_4) 220 RCe327 = some RCe327.2.2 := by kernel_rfl
def RCe328 : Ent := ([(.ptr 0 0 0), RCc69, (.im (.int .i64 1))], [some RCc70, some (.m 9 [(.agg [RCc139, (.im (.sl true 0 [])), (.im (.int .i64 1000)), (.im (.int .i64 8)), (.fn (.func 75) [] [(.ptr 2 0 0), (.ptr 3 0 0), (.ptr 4 0 0)]), (.im (.int .i64 0)), (.im (.int .i64 15)), (.im (.int .i64 0)), (.im (.sl true 0 []))])]), some (.c 1 [(.int .i64 1)]), some RCc73, some (.m 1 [(.ptr 1 0 0)]), some (.m 1 [(.ref 6 0 2)]), some RCc74, some (.c 1 [(.int .i64 36)]), some (.c 1 [(.int .i64 0)])], (true, RCc118, [some RCc70, some RCc140, some (.c 1 [(.int .i64 1)]), some RCc73, some (.m 1 [(.ptr 1 0 0)]), some (.m 1 [(.ref 6 0 2)]), some RCc74, some (.c 1 [(.int .i64 36)]), some (.c 1 [(.int .i64 0)])]))
theorem RCr328 : rE (gB RCM10_4) 220 RCe328 = some RCe328.2.2 := by kernel_rfl
def RCb10_4 : Tabl := [RCe327, RCe328]
theorem RCb10_4_ok : OkZ Tryz.prog 220 (tabSz RCb10_4) := gT RCM10_4_ok (fA RCr327 <| fA RCr328 <| nA)
noncomputable def RCM10_5 : List (Nat × Sz) := (220, tabSz RCb10_4) :: (18, tabSz RCa10) :: RCL5
theorem RCM10_5_ok : ∀ p ∈ RCM10_5, OkZ Tryz.prog p.1 p.2 := fA RCb10_4_ok <| fA RCa10_ok <| RCL5_ok
def RCe329 : Ent := ([(.ptr 0 0 0), RCc69, (.im (.int .i64 1))], [some RCc70, some (.m 9 [(.agg [RCc141, (.im (.sl true 0 [])), (.im (.int .i64 1000)), (.im (.int .i64 3)), (.fn (.func 75) [] [(.ptr 2 0 0), (.ptr 3 0 0), (.ptr 4 0 0)]), (.im (.int .i64 0)), (.im (.int .i64 5)), (.im (.int .i64 0)), (.im (.sl true 0 []))])]), some (.c 1 [(.int .i64 1)]), some RCc73, some (.m 1 [(.ptr 1 0 0)]), some (.m 1 [(.ref 6 0 2)]), some RCc74, some (.c 1 [(.int .i64 16)]), some (.c 1 [(.int .i64 0)])], (false, (.im (.int .i64 0)), [some RCc70, some (.m 9 [(.agg [RCc141, (.im (.sl true 0 [])), (.im (.int .i64 1000)), (.im (.int .i64 3)), (.fn (.func 75) [] [(.ptr 2 0 0), (.ptr 3 0 0), (.ptr 4 0 0)]), (.im (.int .i64 0)), (.im (.int .i64 52)), (.im (.int .i64 0)), (.im (.sl true 0 []))])]), some (.c 1 [(.int .i64 1)]), some RCc73, some (.m 1 [(.ptr 1 0 0)]), some (.m 1 [(.ref 6 0 2)]), some RCc74, some (.c 1 [(.int .i64 16)]), some (.c 1 [(.int .i64 120)])]))
theorem RCr329 : rE (gB RCM10_5) 220 RCe329 = some RCe329.2.2 := by kernel_rfl
def RCe330 : Ent := ([(.ptr 0 0 0), RCc69, (.im (.int .i64 1))], [some RCc70, some (.m 9 [(.agg [RCc139, (.im (.sl true 0 [])), (.im (.int .i64 1000)), (.im (.int .i64 3)), (.fn (.func 75) [] [(.ptr 2 0 0), (.ptr 3 0 0), (.ptr 4 0 0)]), (.im (.int .i64 0)), (.im (.int .i64 5)), (.im (.int .i64 0)), (.im (.sl true 0 []))])]), some (.c 1 [(.int .i64 1)]), some RCc73, some (.m 1 [(.ptr 1 0 0)]), some (.m 1 [(.ref 6 0 2)]), some RCc74, some (.c 1 [(.int .i64 41)]), some (.c 1 [(.int .i64 0)])], (true, RCc118, [some RCc70, some RCc140, some (.c 1 [(.int .i64 1)]), some RCc73, some (.m 1 [(.ptr 1 0 0)]), some (.m 1 [(.ref 6 0 2)]), some RCc74, some (.c 1 [(.int .i64 41)]), some (.c 1 [(.int .i64 0)])]))
theorem RCr330 : rE (gB RCM10_5) 220 RCe330 = some RCe330.2.2 := by kernel_rfl
def RCb10_5 : Tabl := [RCe329, RCe330]
theorem RCb10_5_ok : OkZ Tryz.prog 220 (tabSz RCb10_5) := gT RCM10_5_ok (fA RCr329 <| fA RCr330 <| nA)
noncomputable def RCM10_6 : List (Nat × Sz) := (220, tabSz RCb10_5) :: (18, tabSz RCa10) :: RCL5
theorem RCM10_6_ok : ∀ p ∈ RCM10_6, OkZ Tryz.prog p.1 p.2 := fA RCb10_5_ok <| fA RCa10_ok <| RCL5_ok
def RCe331 : Ent := ([RCc136, (.im (.sl true 0 [])), (.im (.int .i64 1000)), (.im (.int .i64 1)), RCc76], [], (false, (.tup [(.agg [(.im (.int .i64 0)), (.im (.int .i64 55)), (.im (.int .i64 (-1))), (.ref 0 0 1)]), (.im (.int .i64 0))]), [some (.c 1 [(.sl false 1 [(.int .i64 153)])])]))
theorem RCr331 : rE (gB RCM10_6) 33 RCe331 = some RCe331.2.2 := by kernel_rfl
def RCe332 : Ent := ([RCc138, (.im (.sl true 0 [])), (.im (.int .i64 1000)), (.im (.int .i64 1)), RCc76], [], (false, (.tup [(.im (.agg [(.int .i64 5), (.int .i64 79), (.int .i64 0), (.sl true 0 [])])), (.im (.int .i64 0))]), []))
theorem RCr332 : rE (gB RCM10_6) 33 RCe332 = some RCe332.2.2 := by kernel_rfl
def RCb10_6 : Tabl := [RCe331, RCe332]
theorem RCb10_6_ok : OkZ Tryz.prog 33 (tabSz RCb10_6) := gT RCM10_6_ok (fA RCr331 <| fA RCr332 <| nA)
def RCz10 : Tabl := RCb10_6
theorem RCz10_ok : OkZ Tryz.prog 33 (tabSz RCz10) := RCb10_6_ok
end Go.Proofs.YtkinbnepkpoofaaGreatDoor