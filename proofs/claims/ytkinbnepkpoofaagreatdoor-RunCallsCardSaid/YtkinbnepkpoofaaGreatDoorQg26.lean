/- Texts joined into one: RCG26. -/
import Derived.Test.YtkinbnepkpoofaaGreatDoorQz
/- Runs of some numbers. -/
set_option maxRecDepth 1000000
set_option linter.unusedVariables false
open Go Go.AM
namespace Go.Proofs.YtkinbnepkpoofaaGreatDoor
def RCe513 : Ent := ([RCc247], [], (false, (.tup [(.im (.int .i64 0)), (.im (.int .i64 (-1)))]), []))
theorem RCr513 : rE (gB RCL5) 18 RCe513 = some RCe513.2.2 := by kernel_rfl
def RCe514 : Ent := ([RCc249], [], (false, (.tup [(.im (.int .i64 0)), (.im (.int .i64 (-1)))]), []))
theorem RCr514 : rE (gB RCL5) 18 RCe514 = some RCe514.2.2 := by kernel_rfl
def RCa26 : Tabl := [RCe513, RCe514]
theorem RCa26_ok : OkZ Tryz.prog 18 (tabSz RCa26) := gT RCL5_ok (fA RCr513 <| fA RCr514 <| nA)
noncomputable def RCM26_0 : List (Nat × Sz) := (18, tabSz RCa26) :: RCL5
theorem RCM26_0_ok : ∀ p ∈ RCM26_0, OkZ Tryz.prog p.1 p.2 := fA RCa26_ok <| RCL5_ok
def RCe515 : Ent := ([(.ptr 0 0 0), RCc69, (.im (.int .i64 1))], [some RCc70, some (.m 9 [(.agg [RCc250, (.im (.sl true 0 [])), (.im (.int .i64 1000)), (.im (.int .i64 28)), (.fn (.func 75) [] [(.ptr 2 0 0), (.ptr 3 0 0), (.ptr 4 0 0)]), (.im (.int .i64 0)), (.im (.int .i64 55)), (.im (.int .i64 0)), (.im (.sl true 0 []))])]), some (.c 1 [(.int .i64 1)]), some RCc73, some (.m 1 [(.ptr 1 0 0)]), some (.m 1 [(.ref 6 0 2)]), some RCc74, some (.c 1 [(.int .i64 32)]), some (.c 1 [(.int .i64 0)])], (true, RCc118, [some RCc70, some RCc251, some (.c 1 [(.int .i64 1)]), some RCc73, some (.m 1 [(.ptr 1 0 0)]), some (.m 1 [(.ref 6 0 2)]), some RCc74, some (.c 1 [(.int .i64 32)]), some (.c 1 [(.int .i64 0)])]))
theorem RCr515 : rE (gB RCM26_0) 220 RCe515 = some RCe515.2.2 := by kernel_rfl
def RCb26_0 : Tabl := [RCe515]
theorem RCb26_0_ok : OkZ Tryz.prog 220 (tabSz RCb26_0) := gT RCM26_0_ok (fA RCr515 <| nA)
noncomputable def RCM26_1 : List (Nat × Sz) := (220, tabSz RCb26_0) :: (18, tabSz RCa26) :: RCL5
theorem RCM26_1_ok : ∀ p ∈ RCM26_1, OkZ Tryz.prog p.1 p.2 := fA RCb26_0_ok <| fA RCa26_ok <| RCL5_ok
def RCe516 : Ent := ([(.ptr 0 0 0), RCc69, (.im (.int .i64 1))], [some RCc70, some (.m 9 [(.agg [RCc250, (.im (.sl true 0 [])), (.im (.int .i64 1000)), (.im (.int .i64 23)), (.fn (.func 75) [] [(.ptr 2 0 0), (.ptr 3 0 0), (.ptr 4 0 0)]), (.im (.int .i64 0)), (.im (.int .i64 45)), (.im (.int .i64 0)), (.im (.sl true 0 []))])]), some (.c 1 [(.int .i64 1)]), some RCc73, some (.m 1 [(.ptr 1 0 0)]), some (.m 1 [(.ref 6 0 2)]), some RCc74, some (.c 1 [(.int .i64 37)]), some (.c 1 [(.int .i64 0)])], (true, RCc118, [some RCc70, some RCc251, some (.c 1 [(.int .i64 1)]), some RCc73, some (.m 1 [(.ptr 1 0 0)]), some (.m 1 [(.ref 6 0 2)]), some RCc74, some (.c 1 [(.int .i64 37)]), some (.c 1 [(.int .i64 0)])]))
theorem RCr516 : rE (gB RCM26_1) 220 RCe516 = some RCe516.2.2 := by kernel_rfl
def RCb26_1 : Tabl := [RCe516]
theorem RCb26_1_ok : OkZ Tryz.prog 220 (tabSz RCb26_1) := gT RCM26_1_ok (fA RCr516 <| nA)
noncomputable def RCM26_2 : List (Nat × Sz) := (220, tabSz RCb26_1) :: (18, tabSz RCa26) :: RCL5
theorem RCM26_2_ok : ∀ p ∈ RCM26_2, OkZ Tryz.prog p.1 p.2 := fA RCb26_1_ok <| fA RCa26_ok <| RCL5_ok
def RCe517 : Ent := ([(.ptr 0 0 0), RCc69, (.im (.int .i64 1))], [some RCc70, some (.m 9 [(.agg [RCc250, (.im (.sl true 0 [])), (.im (.int .i64 1000)), (.im (.int .i64 18)), (.fn (.func 75) [] [(.ptr 2 0 0), (.ptr 3 0 0), (.ptr 4 0 0)]), (.im (.int .i64 0)), (.im (.int .i64 35)), (.im (.int .i64 0)), (.im (.sl true 0 []))])]), some (.c 1 [(.int .i64 1)]), some RCc73, some (.m 1 [(.ptr 1 0 0)]), some (.m 1 [(.ref 6 0 2)]), some RCc74, some (.c 1 [(.int .i64 42)]), some (.c 1 [(.int .i64 0)])], (true, RCc118, [some RCc70, some RCc251, some (.c 1 [(.int .i64 1)]), some RCc73, some (.m 1 [(.ptr 1 0 0)]), some (.m 1 [(.ref 6 0 2)]), some RCc74, some (.c 1 [(.int .i64 42)]), some (.c 1 [(.int .i64 0)])]))
theorem RCr517 : rE (gB RCM26_2) 220 RCe517 = some RCe517.2.2 := by kernel_rfl
def RCb26_2 : Tabl := [RCe517]
theorem RCb26_2_ok : OkZ Tryz.prog 220 (tabSz RCb26_2) := gT RCM26_2_ok (fA RCr517 <| nA)
noncomputable def RCM26_3 : List (Nat × Sz) := (220, tabSz RCb26_2) :: (18, tabSz RCa26) :: RCL5
theorem RCM26_3_ok : ∀ p ∈ RCM26_3, OkZ Tryz.prog p.1 p.2 := fA RCb26_2_ok <| fA RCa26_ok <| RCL5_ok
def RCe518 : Ent := ([(.ptr 0 0 0), RCc69, (.im (.int .i64 1))], [some RCc70, some (.m 9 [(.agg [RCc250, (.im (.sl true 0 [])), (.im (.int .i64 1000)), (.im (.int .i64 13)), (.fn (.func 75) [] [(.ptr 2 0 0), (.ptr 3 0 0), (.ptr 4 0 0)]), (.im (.int .i64 0)), (.im (.int .i64 25)), (.im (.int .i64 0)), (.im (.sl true 0 []))])]), some (.c 1 [(.int .i64 1)]), some RCc73, some (.m 1 [(.ptr 1 0 0)]), some (.m 1 [(.ref 6 0 2)]), some RCc74, some (.c 1 [(.int .i64 47)]), some (.c 1 [(.int .i64 0)])], (true, RCc118, [some RCc70, some RCc251, some (.c 1 [(.int .i64 1)]), some RCc73, some (.m 1 [(.ptr 1 0 0)]), some (.m 1 [(.ref 6 0 2)]), some RCc74, some (.c 1 [(.int .i64 47)]), some (.c 1 [(.int .i64 0)])]))
theorem RCr518 : rE (gB RCM26_3) 220 RCe518 = some RCe518.2.2 := by kernel_rfl
def RCb26_3 : Tabl := [RCe518]
theorem RCb26_3_ok : OkZ Tryz.prog 220 (tabSz RCb26_3) := gT RCM26_3_ok (fA RCr518 <| nA)
noncomputable def RCM26_4 : List (Nat × Sz) := (220, tabSz RCb26_3) :: (18, tabSz RCa26) :: RCL5
theorem RCM26_4_ok : ∀ p ∈ RCM26_4, OkZ Tryz.prog p.1 p.2 := fA RCb26_3_ok <| fA RCa26_ok <| RCL5_ok
def RCe519 : Ent := ([(.ptr 0 0 0), RCc69, (.im (.int .i64 1))], [some RCc70, some (.m 9 [(.agg [RCc250, (.im (.sl true 0 [])), (.im (.int .i64 1000)), (.im (.int .i64 8)), (.fn (.func 75) [] [(.ptr 2 0 0), (.ptr 3 0 0), (.ptr 4 0 0)]), (.im (.int .i64 0)), (.im (.int .i64 15)), (.im (.int .i64 0)), (.im (.sl true 0 []))])]), some (.c 1 [(.int .i64 1)]), some RCc73, some (.m 1 [(.ptr 1 0 0)]), some (.m 1 [(.ref 6 0 2)]), some RCc74, some (.c 1 [(.int .i64 52)]), some (.c 1 [(.int .i64 0)])], (true, RCc118, [some RCc70, some RCc251, some (.c 1 [(.int .i64 1)]), some RCc73, some (.m 1 [(.ptr 1 0 0)]), some (.m 1 [(.ref 6 0 2)]), some RCc74, some (.c 1 [(.int .i64 52)]), some (.c 1 [(.int .i64 0)])]))
theorem RCr519 : rE (gB RCM26_4) 220 RCe519 = some RCe519.2.2 := by kernel_rfl
def RCb26_4 : Tabl := [RCe519]
theorem RCb26_4_ok : OkZ Tryz.prog 220 (tabSz RCb26_4) := gT RCM26_4_ok (fA RCr519 <| nA)
noncomputable def RCM26_5 : List (Nat × Sz) := (220, tabSz RCb26_4) :: (18, tabSz RCa26) :: RCL5
theorem RCM26_5_ok : ∀ p ∈ RCM26_5, OkZ Tryz.prog p.1 p.2 := fA RCb26_4_ok <| fA RCa26_ok <| RCL5_ok
def RCe520 : Ent := ([(.ptr 0 0 0), RCc69, (.im (.int .i64 1))], [some RCc70, some (.m 9 [(.agg [RCc250, (.im (.sl true 0 [])), (.im (.int .i64 1000)), (.im (.int .i64 3)), (.fn (.func 75) [] [(.ptr 2 0 0), (.ptr 3 0 0), (.ptr 4 0 0)]), (.im (.int .i64 0)), (.im (.int .i64 5)), (.im (.int .i64 0)), (.im (.sl true 0 []))])]), some (.c 1 [(.int .i64 1)]), some RCc73, some (.m 1 [(.ptr 1 0 0)]), some (.m 1 [(.ref 6 0 2)]), some RCc74, some (.c 1 [(.int .i64 57)]), some (.c 1 [(.int .i64 0)])], (true, RCc118, [some RCc70, some RCc251, some (.c 1 [(.int .i64 1)]), some RCc73, some (.m 1 [(.ptr 1 0 0)]), some (.m 1 [(.ref 6 0 2)]), some RCc74, some (.c 1 [(.int .i64 57)]), some (.c 1 [(.int .i64 0)])]))
theorem RCr520 : rE (gB RCM26_5) 220 RCe520 = some RCe520.2.2 := by kernel_rfl
def RCb26_5 : Tabl := [RCe520]
theorem RCb26_5_ok : OkZ Tryz.prog 220 (tabSz RCb26_5) := gT RCM26_5_ok (fA RCr520 <| nA)
noncomputable def RCM26_6 : List (Nat × Sz) := (220, tabSz RCb26_5) :: (18, tabSz RCa26) :: RCL5
theorem RCM26_6_ok : ∀ p ∈ RCM26_6, OkZ Tryz.prog p.1 p.2 := fA RCb26_5_ok <| fA RCa26_ok <| RCL5_ok
def RCe521 : Ent := ([RCc247, (.im (.sl true 0 [])), (.im (.int .i64 1000)), (.im (.int .i64 1)), RCc76], [], (false, (.tup [(.agg [(.im (.int .i64 0)), (.im (.int .i64 7)), (.im (.int .i64 (-1))), (.ref 0 0 1)]), (.im (.int .i64 0))]), [some (.c 1 [(.sl false 1 [(.int .i64 1)])])]))
theorem RCr521 : rE (gB RCM26_6) 33 RCe521 = some RCe521.2.2 := by kernel_rfl
def RCe522 : Ent := ([RCc249, (.im (.sl true 0 [])), (.im (.int .i64 1000)), (.im (.int .i64 1)), RCc76], [], (false, (.tup [(.im (.agg [(.int .i64 5), (.int .i64 79), (.int .i64 0), (.sl true 0 [])])), (.im (.int .i64 0))]), []))
theorem RCr522 : rE (gB RCM26_6) 33 RCe522 = some RCe522.2.2 := by kernel_rfl
def RCb26_6 : Tabl := [RCe521, RCe522]
theorem RCb26_6_ok : OkZ Tryz.prog 33 (tabSz RCb26_6) := gT RCM26_6_ok (fA RCr521 <| fA RCr522 <| nA)
def RCz26 : Tabl := RCb26_6
theorem RCz26_ok : OkZ Tryz.prog 33 (tabSz RCz26) := RCb26_6_ok
end Go.Proofs.YtkinbnepkpoofaaGreatDoor