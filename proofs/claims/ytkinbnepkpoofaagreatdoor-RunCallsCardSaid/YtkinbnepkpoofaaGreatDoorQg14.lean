/- Texts joined into one: RCG14. -/
import Derived.Test.YtkinbnepkpoofaaGreatDoorQz
/- Runs of some numbers. -/
set_option maxRecDepth 1000000
set_option linter.unusedVariables false
open Go Go.AM
namespace Go.Proofs.YtkinbnepkpoofaaGreatDoor
def RCe372 : Ent := ([RCc164], [], (false, (.tup [(.im (.int .i64 0)), (.im (.int .i64 (-1)))]), []))
theorem RCr372 : rE (gB RCL5) 18 RCe372 = some RCe372.2.2 := by kernel_rfl
def RCe373 : Ent := ([RCc166], [], (false, (.tup [(.im (.int .i64 0)), (.im (.int .i64 (-1)))]), []))
theorem RCr373 : rE (gB RCL5) 18 RCe373 = some RCe373.2.2 := by kernel_rfl
def RCa14 : Tabl := [RCe372, RCe373]
theorem RCa14_ok : OkZ Tryz.prog 18 (tabSz RCa14) := gT RCL5_ok (fA RCr372 <| fA RCr373 <| nA)
noncomputable def RCM14_0 : List (Nat × Sz) := (18, tabSz RCa14) :: RCL5
theorem RCM14_0_ok : ∀ p ∈ RCM14_0, OkZ Tryz.prog p.1 p.2 := fA RCa14_ok <| RCL5_ok
def RCe374 : Ent := ([(.ptr 0 0 0), RCc69, (.im (.int .i64 1))], [some RCc70, some (.m 9 [(.agg [RCc167, (.im (.sl true 0 [])), (.im (.int .i64 1000)), (.im (.int .i64 28)), (.fn (.func 75) [] [(.ptr 2 0 0), (.ptr 3 0 0), (.ptr 4 0 0)]), (.im (.int .i64 0)), (.im (.int .i64 55)), (.im (.int .i64 0)), (.im (.sl true 0 []))])]), some (.c 1 [(.int .i64 1)]), some RCc73, some (.m 1 [(.ptr 1 0 0)]), some (.m 1 [(.ref 6 0 2)]), some RCc74, some (.c 1 [(.int .i64 20)]), some (.c 1 [(.int .i64 0)])], (true, RCc118, [some RCc70, some RCc168, some (.c 1 [(.int .i64 1)]), some RCc73, some (.m 1 [(.ptr 1 0 0)]), some (.m 1 [(.ref 6 0 2)]), some RCc74, some (.c 1 [(.int .i64 20)]), some (.c 1 [(.int .i64 0)])]))
theorem RCr374 : rE (gB RCM14_0) 220 RCe374 = some RCe374.2.2 := by kernel_rfl
def RCb14_0 : Tabl := [RCe374]
theorem RCb14_0_ok : OkZ Tryz.prog 220 (tabSz RCb14_0) := gT RCM14_0_ok (fA RCr374 <| nA)
noncomputable def RCM14_1 : List (Nat × Sz) := (220, tabSz RCb14_0) :: (18, tabSz RCa14) :: RCL5
theorem RCM14_1_ok : ∀ p ∈ RCM14_1, OkZ Tryz.prog p.1 p.2 := fA RCb14_0_ok <| fA RCa14_ok <| RCL5_ok
def RCe375 : Ent := ([(.ptr 0 0 0), RCc69, (.im (.int .i64 1))], [some RCc70, some (.m 9 [(.agg [RCc167, (.im (.sl true 0 [])), (.im (.int .i64 1000)), (.im (.int .i64 23)), (.fn (.func 75) [] [(.ptr 2 0 0), (.ptr 3 0 0), (.ptr 4 0 0)]), (.im (.int .i64 0)), (.im (.int .i64 45)), (.im (.int .i64 0)), (.im (.sl true 0 []))])]), some (.c 1 [(.int .i64 1)]), some RCc73, some (.m 1 [(.ptr 1 0 0)]), some (.m 1 [(.ref 6 0 2)]), some RCc74, some (.c 1 [(.int .i64 25)]), some (.c 1 [(.int .i64 0)])], (true, RCc118, [some RCc70, some RCc168, some (.c 1 [(.int .i64 1)]), some RCc73, some (.m 1 [(.ptr 1 0 0)]), some (.m 1 [(.ref 6 0 2)]), some RCc74, some (.c 1 [(.int .i64 25)]), some (.c 1 [(.int .i64 0)])]))
theorem RCr375 : rE (gB RCM14_1) 220 RCe375 = some RCe375.2.2 := by kernel_rfl
def RCb14_1 : Tabl := [RCe375]
theorem RCb14_1_ok : OkZ Tryz.prog 220 (tabSz RCb14_1) := gT RCM14_1_ok (fA RCr375 <| nA)
noncomputable def RCM14_2 : List (Nat × Sz) := (220, tabSz RCb14_1) :: (18, tabSz RCa14) :: RCL5
theorem RCM14_2_ok : ∀ p ∈ RCM14_2, OkZ Tryz.prog p.1 p.2 := fA RCb14_1_ok <| fA RCa14_ok <| RCL5_ok
def RCe376 : Ent := ([(.ptr 0 0 0), RCc69, (.im (.int .i64 1))], [some RCc70, some (.m 9 [(.agg [RCc167, (.im (.sl true 0 [])), (.im (.int .i64 1000)), (.im (.int .i64 18)), (.fn (.func 75) [] [(.ptr 2 0 0), (.ptr 3 0 0), (.ptr 4 0 0)]), (.im (.int .i64 0)), (.im (.int .i64 35)), (.im (.int .i64 0)), (.im (.sl true 0 []))])]), some (.c 1 [(.int .i64 1)]), some RCc73, some (.m 1 [(.ptr 1 0 0)]), some (.m 1 [(.ref 6 0 2)]), some RCc74, some (.c 1 [(.int .i64 30)]), some (.c 1 [(.int .i64 0)])], (true, RCc118, [some RCc70, some RCc168, some (.c 1 [(.int .i64 1)]), some RCc73, some (.m 1 [(.ptr 1 0 0)]), some (.m 1 [(.ref 6 0 2)]), some RCc74, some (.c 1 [(.int .i64 30)]), some (.c 1 [(.int .i64 0)])]))
theorem RCr376 : rE (gB RCM14_2) 220 RCe376 = some RCe376.2.2 := by kernel_rfl
def RCb14_2 : Tabl := [RCe376]
theorem RCb14_2_ok : OkZ Tryz.prog 220 (tabSz RCb14_2) := gT RCM14_2_ok (fA RCr376 <| nA)
noncomputable def RCM14_3 : List (Nat × Sz) := (220, tabSz RCb14_2) :: (18, tabSz RCa14) :: RCL5
theorem RCM14_3_ok : ∀ p ∈ RCM14_3, OkZ Tryz.prog p.1 p.2 := fA RCb14_2_ok <| fA RCa14_ok <| RCL5_ok
def RCe377 : Ent := ([(.ptr 0 0 0), RCc69, (.im (.int .i64 1))], [some RCc70, some (.m 9 [(.agg [RCc169, (.im (.sl true 0 [])), (.im (.int .i64 1000)), (.im (.int .i64 13)), (.fn (.func 75) [] [(.ptr 2 0 0), (.ptr 3 0 0), (.ptr 4 0 0)]), (.im (.int .i64 0)), (.im (.int .i64 25)), (.im (.int .i64 0)), (.im (.sl true 0 []))])]), some (.c 1 [(.int .i64 1)]), some RCc73, some (.m 1 [(.ptr 1 0 0)]), some (.m 1 [(.ref 6 0 2)]), some RCc74, some (.c 1 [(.int .i64 2)]), some (.c 1 [(.int .i64 0)])], (false, (.im (.int .i64 0)), [some RCc70, some (.m 9 [(.agg [RCc169, (.im (.sl true 0 [])), (.im (.int .i64 1000)), (.im (.int .i64 13)), (.fn (.func 75) [] [(.ptr 2 0 0), (.ptr 3 0 0), (.ptr 4 0 0)]), (.im (.int .i64 0)), (.im (.int .i64 30)), (.im (.int .i64 0)), (.im (.sl true 0 []))])]), some (.c 1 [(.int .i64 1)]), some RCc73, some (.m 1 [(.ptr 1 0 0)]), some (.m 1 [(.ref 6 0 2)]), some RCc74, some (.c 1 [(.int .i64 2)]), some (.c 1 [(.int .i64 1)])]))
theorem RCr377 : rE (gB RCM14_3) 220 RCe377 = some RCe377.2.2 := by kernel_rfl
def RCe378 : Ent := ([(.ptr 0 0 0), RCc69, (.im (.int .i64 1))], [some RCc70, some (.m 9 [(.agg [RCc167, (.im (.sl true 0 [])), (.im (.int .i64 1000)), (.im (.int .i64 13)), (.fn (.func 75) [] [(.ptr 2 0 0), (.ptr 3 0 0), (.ptr 4 0 0)]), (.im (.int .i64 0)), (.im (.int .i64 25)), (.im (.int .i64 0)), (.im (.sl true 0 []))])]), some (.c 1 [(.int .i64 1)]), some RCc73, some (.m 1 [(.ptr 1 0 0)]), some (.m 1 [(.ref 6 0 2)]), some RCc74, some (.c 1 [(.int .i64 35)]), some (.c 1 [(.int .i64 0)])], (true, RCc118, [some RCc70, some RCc168, some (.c 1 [(.int .i64 1)]), some RCc73, some (.m 1 [(.ptr 1 0 0)]), some (.m 1 [(.ref 6 0 2)]), some RCc74, some (.c 1 [(.int .i64 35)]), some (.c 1 [(.int .i64 0)])]))
theorem RCr378 : rE (gB RCM14_3) 220 RCe378 = some RCe378.2.2 := by kernel_rfl
def RCb14_3 : Tabl := [RCe377, RCe378]
theorem RCb14_3_ok : OkZ Tryz.prog 220 (tabSz RCb14_3) := gT RCM14_3_ok (fA RCr377 <| fA RCr378 <| nA)
noncomputable def RCM14_4 : List (Nat × Sz) := (220, tabSz RCb14_3) :: (18, tabSz RCa14) :: RCL5
theorem RCM14_4_ok : ∀ p ∈ RCM14_4, OkZ Tryz.prog p.1 p.2 := fA RCb14_3_ok <| fA RCa14_ok <| RCL5_ok
def RCe379 : Ent := ([(.ptr 0 0 0), RCc69, (.im (.int .i64 1))], [some RCc70, some (.m 9 [(.agg [RCc169, (.im (.sl true 0 [])), (.im (.int .i64 1000)), (.im (.int .i64 8)), (.fn (.func 75) [] [(.ptr 2 0 0), (.ptr 3 0 0), (.ptr 4 0 0)]), (.im (.int .i64 0)), (.im (.int .i64 15)), (.im (.int .i64 0)), (.im (.sl true 0 []))])]), some (.c 1 [(.int .i64 1)]), some RCc73, some (.m 1 [(.ptr 1 0 0)]), some (.m 1 [(.ref 6 0 2)]), some RCc74, some (.c 1 [(.int .i64 7)]), some (.c 1 [(.int .i64 0)])], (false, (.im (.int .i64 0)), [some RCc70, some (.m 9 [(.agg [RCc169, (.im (.sl true 0 [])), (.im (.int .i64 1000)), (.im (.int .i64 8)), (.fn (.func 75) [] [(.ptr 2 0 0), (.ptr 3 0 0), (.ptr 4 0 0)]), (.im (.int .i64 0)), (.im (.int .i64 35)), (.im (.int .i64 0)), (.im (.sl true 0 []))])]), some (.c 1 [(.int .i64 1)]), some RCc73, some (.m 1 [(.ptr 1 0 0)]), some (.m 1 [(.ref 6 0 2)]), some RCc74, some (.c 1 [(.int .i64 7)]), some (.c 1 [(.int .i64 21)])]))
theorem RCr379 : rE (gB RCM14_4) 220 RCe379 = some RCe379.2.2 := by kernel_rfl
def RCe380 : Ent := ([(.ptr 0 0 0), RCc69, (.im (.int .i64 1))], [some RCc70, some (.m 9 [(.agg [RCc167, (.im (.sl true 0 [])), (.im (.int .i64 1000)), (.im (.int .i64 8)), (.fn (.func 75) [] [(.ptr 2 0 0), (.ptr 3 0 0), (.ptr 4 0 0)]), (.im (.int .i64 0)), (.im (.int .i64 15)), (.im (.int .i64 0)), (.im (.sl true 0 []))])]), some (.c 1 [(.int .i64 1)]), some RCc73, some (.m 1 [(.ptr 1 0 0)]), some (.m 1 [(.ref 6 0 2)]), some RCc74, some (.c 1 [(.int .i64 40)]), some (.c 1 [(.int .i64 0)])], (true, RCc118, [some RCc70, some RCc168, some (.c 1 [(.int .i64 1)]), some RCc73, some (.m 1 [(.ptr 1 0 0)]), some (.m 1 [(.ref 6 0 2)]), some RCc74, some (.c 1 [(.int .i64 40)]), some (.c 1 [(.int .i64 0)])]))
theorem RCr380 : rE (gB RCM14_4) 220 RCe380 = some RCe380.2.2 := by kernel_rfl
def RCb14_4 : Tabl := [RCe379, RCe380]
theorem RCb14_4_ok : OkZ Tryz.prog 220 (tabSz RCb14_4) := gT RCM14_4_ok (fA RCr379 <| fA RCr380 <| nA)
noncomputable def RCM14_5 : List (Nat × Sz) := (220, tabSz RCb14_4) :: (18, tabSz RCa14) :: RCL5
theorem RCM14_5_ok : ∀ p ∈ RCM14_5, OkZ Tryz.prog p.1 p.2 := fA RCb14_4_ok <| fA RCa14_ok <| RCL5_ok
def RCe381 : Ent := ([(.ptr 0 0 0), RCc69, (.im (.int .i64 1))], [some RCc70, some (.m 9 [(.agg [RCc169, (.im (.sl true 0 [])), (.im (.int .i64 1000)), (.im (.int .i64 3)), (.fn (.func 75) [] [(.ptr 2 0 0), (.ptr 3 0 0), (.ptr 4 0 0)]), (.im (.int .i64 0)), (.im (.int .i64 5)), (.im (.int .i64 0)), (.im (.sl true 0 []))])]), some (.c 1 [(.int .i64 1)]), some RCc73, some (.m 1 [(.ptr 1 0 0)]), some (.m 1 [(.ref 6 0 2)]), some RCc74, some (.c 1 [(.int .i64 12)]), some (.c 1 [(.int .i64 0)])], (false, (.im (.int .i64 0)), [some RCc70, some (.m 9 [(.agg [RCc169, (.im (.sl true 0 [])), (.im (.int .i64 1000)), (.im (.int .i64 3)), (.fn (.func 75) [] [(.ptr 2 0 0), (.ptr 3 0 0), (.ptr 4 0 0)]), (.im (.int .i64 0)), (.im (.int .i64 40)), (.im (.int .i64 0)), (.im (.sl true 0 []))])]), some (.c 1 [(.int .i64 1)]), some RCc73, some (.m 1 [(.ptr 1 0 0)]), some (.m 1 [(.ref 6 0 2)]), some RCc74, some (.c 1 [(.int .i64 12)]), some (.c 1 [(.int .i64 66)])]))
theorem RCr381 : rE (gB RCM14_5) 220 RCe381 = some RCe381.2.2 := by kernel_rfl
def RCe382 : Ent := ([(.ptr 0 0 0), RCc69, (.im (.int .i64 1))], [some RCc70, some (.m 9 [(.agg [RCc167, (.im (.sl true 0 [])), (.im (.int .i64 1000)), (.im (.int .i64 3)), (.fn (.func 75) [] [(.ptr 2 0 0), (.ptr 3 0 0), (.ptr 4 0 0)]), (.im (.int .i64 0)), (.im (.int .i64 5)), (.im (.int .i64 0)), (.im (.sl true 0 []))])]), some (.c 1 [(.int .i64 1)]), some RCc73, some (.m 1 [(.ptr 1 0 0)]), some (.m 1 [(.ref 6 0 2)]), some RCc74, some (.c 1 [(.int .i64 45)]), some (.c 1 [(.int .i64 0)])], (true, RCc118, [some RCc70, some RCc168, some (.c 1 [(.int .i64 1)]), some RCc73, some (.m 1 [(.ptr 1 0 0)]), some (.m 1 [(.ref 6 0 2)]), some RCc74, some (.c 1 [(.int .i64 45)]), some (.c 1 [(.int .i64 0)])]))
theorem RCr382 : rE (gB RCM14_5) 220 RCe382 = some RCe382.2.2 := by kernel_rfl
def RCb14_5 : Tabl := [RCe381, RCe382]
theorem RCb14_5_ok : OkZ Tryz.prog 220 (tabSz RCb14_5) := gT RCM14_5_ok (fA RCr381 <| fA RCr382 <| nA)
noncomputable def RCM14_6 : List (Nat × Sz) := (220, tabSz RCb14_5) :: (18, tabSz RCa14) :: RCL5
theorem RCM14_6_ok : ∀ p ∈ RCM14_6, OkZ Tryz.prog p.1 p.2 := fA RCb14_5_ok <| fA RCa14_ok <| RCL5_ok
def RCe383 : Ent := ([RCc164, (.im (.sl true 0 [])), (.im (.int .i64 1000)), (.im (.int .i64 1)), RCc76], [], (false, (.tup [(.agg [(.im (.int .i64 0)), (.im (.int .i64 43)), (.im (.int .i64 (-1))), (.ref 0 0 1)]), (.im (.int .i64 0))]), [some (.c 1 [(.sl false 1 [(.int .i64 91)])])]))
theorem RCr383 : rE (gB RCM14_6) 33 RCe383 = some RCe383.2.2 := by kernel_rfl
def RCe384 : Ent := ([RCc166, (.im (.sl true 0 [])), (.im (.int .i64 1000)), (.im (.int .i64 1)), RCc76], [], (false, (.tup [(.im (.agg [(.int .i64 5), (.int .i64 79), (.int .i64 0), (.sl true 0 [])])), (.im (.int .i64 0))]), []))
theorem RCr384 : rE (gB RCM14_6) 33 RCe384 = some RCe384.2.2 := by kernel_rfl
def RCb14_6 : Tabl := [RCe383, RCe384]
theorem RCb14_6_ok : OkZ Tryz.prog 33 (tabSz RCb14_6) := gT RCM14_6_ok (fA RCr383 <| fA RCr384 <| nA)
def RCz14 : Tabl := RCb14_6
theorem RCz14_ok : OkZ Tryz.prog 33 (tabSz RCz14) := RCb14_6_ok
end Go.Proofs.YtkinbnepkpoofaaGreatDoor