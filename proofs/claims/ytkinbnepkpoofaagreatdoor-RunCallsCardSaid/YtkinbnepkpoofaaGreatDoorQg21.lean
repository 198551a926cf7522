/- Texts joined into one: RCG21. -/
import Derived.Test.YtkinbnepkpoofaaGreatDoorQz
/- Runs of some numbers. -/
set_option maxRecDepth 1000000
set_option linter.unusedVariables false
open Go Go.AM
namespace Go.Proofs.YtkinbnepkpoofaaGreatDoor
def RCe458 : Ent := ([RCc213], [], (false, (.tup [(.im (.int .i64 0)), (.im (.int .i64 (-1)))]), []))
theorem RCr458 : rE (gB RCL5) 18 RCe458 = some RCe458.2.2 := by kernel_rfl
def RCe459 : Ent := ([RCc215], [], (false, (.tup [(.im (.int .i64 0)), (.im (.int .i64 (-1)))]), []))
theorem RCr459 : rE (gB RCL5) 18 RCe459 = some RCe459.2.2 := by kernel_rfl
def RCa21 : Tabl := [RCe458, RCe459]
theorem RCa21_ok : OkZ Tryz.prog 18 (tabSz RCa21) := gT RCL5_ok (fA RCr458 <| fA RCr459 <| nA)
noncomputable def RCM21_0 : List (Nat × Sz) := (18, tabSz RCa21) :: RCL5
theorem RCM21_0_ok : ∀ p ∈ RCM21_0, OkZ Tryz.prog p.1 p.2 := fA RCa21_ok <| RCL5_ok
def RCe460 : Ent := ([(.ptr 0 0 0), RCc69, (.im (.int .i64 1))], [some RCc70, some (.m 9 [(.agg [RCc216, (.im (.sl true 0 [])), (.im (.int .i64 1000)), (.im (.int .i64 28)), (.fn (.func 75) [] [(.ptr 2 0 0), (.ptr 3 0 0), (.ptr 4 0 0)]), (.im (.int .i64 0)), (.im (.int .i64 55)), (.im (.int .i64 0)), (.im (.sl true 0 []))])]), some (.c 1 [(.int .i64 1)]), some RCc73, some (.m 1 [(.ptr 1 0 0)]), some (.m 1 [(.ref 6 0 2)]), some RCc74, some (.c 1 [(.int .i64 27)]), some (.c 1 [(.int .i64 0)])], (true, RCc118, [some RCc70, some RCc217, some (.c 1 [(.int .i64 1)]), some RCc73, some (.m 1 [(.ptr 1 0 0)]), some (.m 1 [(.ref 6 0 2)]), some RCc74, some (.c 1 [(.int .i64 27)]), some (.c 1 [(.int .i64 0)])]))
theorem RCr460 : rE (gB RCM21_0) 220 RCe460 = some RCe460.2.2 := by kernel_rfl
def RCb21_0 : Tabl := [RCe460]
theorem RCb21_0_ok : OkZ Tryz.prog 220 (tabSz RCb21_0) := gT RCM21_0_ok (fA RCr460 <| nA)
noncomputable def RCM21_1 : List (Nat × Sz) := (220, tabSz RCb21_0) :: (18, tabSz RCa21) :: RCL5
theorem RCM21_1_ok : ∀ p ∈ RCM21_1, OkZ Tryz.prog p.1 p.2 := fA RCb21_0_ok <| fA RCa21_ok <| RCL5_ok
def RCe461 : Ent := ([(.ptr 0 0 0), RCc69, (.im (.int .i64 1))], [some RCc70, some (.m 9 [(.agg [RCc216, (.im (.sl true 0 [])), (.im (.int .i64 1000)), (.im (.int .i64 23)), (.fn (.func 75) [] [(.ptr 2 0 0), (.ptr 3 0 0), (.ptr 4 0 0)]), (.im (.int .i64 0)), (.im (.int .i64 45)), (.im (.int .i64 0)), (.im (.sl true 0 []))])]), some (.c 1 [(.int .i64 1)]), some RCc73, some (.m 1 [(.ptr 1 0 0)]), some (.m 1 [(.ref 6 0 2)]), some RCc74, some (.c 1 [(.int .i64 32)]), some (.c 1 [(.int .i64 0)])], (true, RCc118, [some RCc70, some RCc217, some (.c 1 [(.int .i64 1)]), some RCc73, some (.m 1 [(.ptr 1 0 0)]), some (.m 1 [(.ref 6 0 2)]), some RCc74, some (.c 1 [(.int .i64 32)]), some (.c 1 [(.int .i64 0)])]))
theorem RCr461 : rE (gB RCM21_1) 220 RCe461 = some RCe461.2.2 := by kernel_rfl
def RCb21_1 : Tabl := [RCe461]
theorem RCb21_1_ok : OkZ Tryz.prog 220 (tabSz RCb21_1) := gT RCM21_1_ok (fA RCr461 <| nA)
noncomputable def RCM21_2 : List (Nat × Sz) := (220, tabSz RCb21_1) :: (18, tabSz RCa21) :: RCL5
theorem RCM21_2_ok : ∀ p ∈ RCM21_2, OkZ Tryz.prog p.1 p.2 := fA RCb21_1_ok <| fA RCa21_ok <| RCL5_ok
def RCe462 : Ent := ([(.ptr 0 0 0), RCc69, (.im (.int .i64 1))], [some RCc70, some (.m 9 [(.agg [RCc216, (.im (.sl true 0 [])), (.im (.int .i64 1000)), (.im (.int .i64 18)), (.fn (.func 75) [] [(.ptr 2 0 0), (.ptr 3 0 0), (.ptr 4 0 0)]), (.im (.int .i64 0)), (.im (.int .i64 35)), (.im (.int .i64 0)), (.im (.sl true 0 []))])]), some (.c 1 [(.int .i64 1)]), some RCc73, some (.m 1 [(.ptr 1 0 0)]), some (.m 1 [(.ref 6 0 2)]), some RCc74, some (.c 1 [(.int .i64 37)]), some (.c 1 [(.int .i64 0)])], (true, RCc118, [some RCc70, some RCc217, some (.c 1 [(.int .i64 1)]), some RCc73, some (.m 1 [(.ptr 1 0 0)]), some (.m 1 [(.ref 6 0 2)]), some RCc74, some (.c 1 [(.int .i64 37)]), some (.c 1 [(.int .i64 0)])]))
theorem RCr462 : rE (gB RCM21_2) 220 RCe462 = some RCe462.2.2 := by kernel_rfl
def RCb21_2 : Tabl := [RCe462]
theorem RCb21_2_ok : OkZ Tryz.prog 220 (tabSz RCb21_2) := gT RCM21_2_ok (fA RCr462 <| nA)
noncomputable def RCM21_3 : List (Nat × Sz) := (220, tabSz RCb21_2) :: (18, tabSz RCa21) :: RCL5
theorem RCM21_3_ok : ∀ p ∈ RCM21_3, OkZ Tryz.prog p.1 p.2 := fA RCb21_2_ok <| fA RCa21_ok <| RCL5_ok
def RCe463 : Ent := ([(.ptr 0 0 0), RCc69, (.im (.int .i64 1))], [some RCc70, some (.m 9 [(.agg [RCc216, (.im (.sl true 0 [])), (.im (.int .i64 1000)), (.im (.int .i64 13)), (.fn (.func 75) [] [(.ptr 2 0 0), (.ptr 3 0 0), (.ptr 4 0 0)]), (.im (.int .i64 0)), (.im (.int .i64 25)), (.im (.int .i64 0)), (.im (.sl true 0 []))])]), some (.c 1 [(.int .i64 1)]), some RCc73, some (.m 1 [(.ptr 1 0 0)]), some (.m 1 [(.ref 6 0 2)]), some RCc74, some (.c 1 [(.int .i64 42)]), some (.c 1 [(.int .i64 0)])], (true, RCc118, [some RCc70, some RCc217, some (.c 1 [(.int .i64 1)]), some RCc73, some (.m 1 [(.ptr 1 0 0)]), some (.m 1 [(.ref 6 0 2)]), some RCc74, some (.c 1 [(.int .i64 42)]), some (.c 1 [(.int .i64 0)])]))
theorem RCr463 : rE (gB RCM21_3) 220 RCe463 = some RCe463.2.2 := by kernel_rfl
def RCb21_3 : Tabl := [RCe463]
theorem RCb21_3_ok : OkZ Tryz.prog 220 (tabSz RCb21_3) := gT RCM21_3_ok (fA RCr463 <| nA)
noncomputable def RCM21_4 : List (Nat × Sz) := (220, tabSz RCb21_3) :: (18, tabSz RCa21) :: RCL5
theorem RCM21_4_ok : ∀ p ∈ RCM21_4, OkZ Tryz.prog p.1 p.2 := fA RCb21_3_ok <| fA RCa21_ok <| RCL5_ok
def RCe464 : Ent := ([(.ptr 0 0 0), RCc69, (.im (.int .i64 1))], [some RCc70, some (.m 9 [(.agg [RCc216, (.im (.sl true 0 [])), (.im (.int .i64 1000)), (.im (.int .i64 8)), (.fn (.func 75) [] [(.ptr 2 0 0), (.ptr 3 0 0), (.ptr 4 0 0)]), (.im (.int .i64 0)), (.im (.int .i64 15)), (.im (.int .i64 0)), (.im (.sl true 0 []))])]), some (.c 1 [(.int .i64 1)]), some RCc73, some (.m 1 [(.ptr 1 0 0)]), some (.m 1 [(.ref 6 0 2)]), some RCc74, some (.c 1 [(.int .i64 47)]), some (.c 1 [(.int .i64 0)])], (true, RCc118, [some RCc70, some RCc217, some (.c 1 [(.int .i64 1)]), some RCc73, some (.m 1 [(.ptr 1 0 0)]), some (.m 1 [(.ref 6 0 2)]), some RCc74, some (.c 1 [(.int .i64 47)]), some (.c 1 [(.int .i64 0)])]))
theorem RCr464 : rE (gB RCM21_4) 220 RCe464 = some RCe464.2.2 := by kernel_rfl
def RCb21_4 : Tabl := [RCe464]
theorem RCb21_4_ok : OkZ Tryz.prog 220 (tabSz RCb21_4) := gT RCM21_4_ok (fA RCr464 <| nA)
noncomputable def RCM21_5 : List (Nat × Sz) := (220, tabSz RCb21_4) :: (18, tabSz RCa21) :: RCL5
theorem RCM21_5_ok : ∀ p ∈ RCM21_5, OkZ Tryz.prog p.1 p.2 := fA RCb21_4_ok <| fA RCa21_ok <| RCL5_ok
def RCe465 : Ent := ([(.ptr 0 0 0), RCc69, (.im (.int .i64 1))], [some RCc70, some (.m 9 [(.agg [RCc218, (.im (.sl true 0 [])), (.im (.int .i64 1000)), (.im (.int .i64 3)), (.fn (.func 75) [] [(.ptr 2 0 0), (.ptr 3 0 0), (.ptr 4 0 0)]), (.im (.int .i64 0)), (.im (.int .i64 5)), (.im (.int .i64 0)), (.im (.sl true 0 []))])]), some (.c 1 [(.int .i64 1)]), some RCc73, some (.m 1 [(.ptr 1 0 0)]), some (.m 1 [(.ref 6 0 2)]), some RCc74, some (.c 1 [(.int .i64 5)]), some (.c 1 [(.int .i64 0)])], (false, (.im (.int .i64 0)), [some RCc70, some (.m 9 [(.agg [RCc218, (.im (.sl true 0 [])), (.im (.int .i64 1000)), (.im (.int .i64 3)), (.fn (.func 75) [] [(.ptr 2 0 0), (.ptr 3 0 0), (.ptr 4 0 0)]), (.im (.int .i64 0)), (.im (.int .i64 19)), (.im (.int .i64 0)), (.im (.sl true 0 []))])]), some (.c 1 [(.int .i64 1)]), some RCc73, some (.m 1 [(.ptr 1 0 0)]), some (.m 1 [(.ref 6 0 2)]), some RCc74, some (.c 1 [(.int .i64 5)]), some (.c 1 [(.int .i64 10)])]))
theorem RCr465 : rE (gB RCM21_5) 220 RCe465 = some RCe465.2.2 := by kernel_rfl
def RCe466 : Ent := ([(.ptr 0 0 0), RCc69, (.im (.int .i64 1))], [some RCc70, some (.m 9 [(.agg [RCc216, (.im (.sl true 0 [])), (.im (.int .i64 1000)), (.im (.int .i64 3)), (.fn (.func 75) [] [(.ptr 2 0 0), (.ptr 3 0 0), (.ptr 4 0 0)]), (.im (.int .i64 0)), (.im (.int .i64 5)), (.im (.int .i64 0)), (.im (.sl true 0 []))])]), some (.c 1 [(.int .i64 1)]), some RCc73, some (.m 1 [(.ptr 1 0 0)]), some (.m 1 [(.ref 6 0 2)]), some RCc74, some (.c 1 [(.int .i64 52)]), some (.c 1 [(.int .i64 0)])], (true, RCc118, [some RCc70, some RCc217, some (.c 1 [(.int .i64 1)]), some RCc73, some (.m 1 [(.ptr 1 0 0)]), some (.m 1 [(.ref 6 0 2)]), some RCc74, some (.c 1 [(.int .i64 52)]), some (.c 1 [(.int .i64 0)])]))
theorem RCr466 : rE (gB RCM21_5) 220 RCe466 = some RCe466.2.2 := by kernel_rfl
def RCb21_5 : Tabl := [RCe465, RCe466]
theorem RCb21_5_ok : OkZ Tryz.prog 220 (tabSz RCb21_5) := gT RCM21_5_ok (fA RCr465 <| fA RCr466 <| nA)
noncomputable def RCM21_6 : List (Nat × Sz) := (220, tabSz RCb21_5) :: (18, tabSz RCa21) :: RCL5
theorem RCM21_6_ok : ∀ p ∈ RCM21_6, OkZ Tryz.prog p.1 p.2 := fA RCb21_5_ok <| fA RCa21_ok <| RCL5_ok
def RCe467 : Ent := ([RCc213, (.im (.sl true 0 [])), (.im (.int .i64 1000)), (.im (.int .i64 1)), RCc76], [], (false, (.tup [(.agg [(.im (.int .i64 0)), (.im (.int .i64 22)), (.im (.int .i64 (-1))), (.ref 0 0 1)]), (.im (.int .i64 0))]), [some (.c 1 [(.sl false 1 [(.int .i64 21)])])]))
theorem RCr467 : rE (gB RCM21_6) 33 RCe467 = some RCe467.2.2 := by kernel_rfl
def RCe468 : Ent := ([RCc215, (.im (.sl true 0 [])), (.im (.int .i64 1000)), (.im (.int .i64 1)), RCc76], [], (false, (.tup [(.im (.agg [(.int .i64 5), (.int .i64 79), (.int .i64 0), (.sl true 0 [])])), (.im (.int .i64 0))]), []))
theorem RCr468 : rE (gB RCM21_6) 33 RCe468 = some RCe468.2.2 := by kernel_rfl
def RCb21_6 : Tabl := [RCe467, RCe468]
theorem RCb21_6_ok : OkZ Tryz.prog 33 (tabSz RCb21_6) := gT RCM21_6_ok (fA RCr467 <| fA RCr468 <| nA)
def RCz21 : Tabl := RCb21_6
theorem RCz21_ok : OkZ Tryz.prog 33 (tabSz RCz21) := RCb21_6_ok
end Go.Proofs.YtkinbnepkpoofaaGreatDoor