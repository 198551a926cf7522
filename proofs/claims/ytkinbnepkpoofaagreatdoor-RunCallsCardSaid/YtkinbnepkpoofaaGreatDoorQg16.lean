/- Texts joined into one: RCG16. -/
import Derived.Test.YtkinbnepkpoofaaGreatDoorQz
/- Runs of some numbers. -/
set_option maxRecDepth 1000000
set_option linter.unusedVariables false
open Go Go.AM
namespace Go.Proofs.YtkinbnepkpoofaaGreatDoor
def RCe398 : Ent := ([RCc178], [], (false, (.tup [(.im (.int .i64 0)), (.im (.int .i64 (-1)))]), []))
theorem RCr398 : rE (gB RCL5) 18 RCe398 = some RCe398.2.2 := by kernel_rfl
def RCe399 : Ent := ([RCc180], [], (false, (.tup [(.im (.int .i64 0)), (.im (.int .i64 (-1)))]), []))
theorem RCr399 : rE (gB RCL5) 18 RCe399 = some RCe399.2.2 := by kernel_rfl
def RCa16 : Tabl := [RCe398, RCe399]
theorem RCa16_ok : OkZ Tryz.prog 18 (tabSz RCa16) := gT RCL5_ok (fA RCr398 <| fA RCr399 <| nA)
noncomputable def RCM16_0 : List (Nat × Sz) := (18, tabSz RCa16) :: RCL5
theorem RCM16_0_ok : ∀ p ∈ RCM16_0, OkZ Tryz.prog p.1 p.2 := fA RCa16_ok <| RCL5_ok
def RCe400 : Ent := ([(.ptr 0 0 0), RCc69, (.im (.int .i64 1))], [some RCc70, some (.m 9 [(.agg [RCc181, (.im (.sl true 0 [])), (.im (.int .i64 1000)), (.im (.int .i64 28)), (.fn (.func 75) [] [(.ptr 2 0 0), (.ptr 3 0 0), (.ptr 4 0 0)]), (.im (.int .i64 0)), (.im (.int .i64 55)), (.im (.int .i64 0)), (.im (.sl true 0 []))])]), some (.c 1 [(.int .i64 1)]), some RCc73, some (.m 1 [(.ptr 1 0 0)]), some (.m 1 [(.ref 6 0 2)]), some RCc74, some (.c 1 [(.int .i64 22)]), some (.c 1 [(.int .i64 0)])], (true, RCc118, [some RCc70, some RCc182, some (.c 1 [(.int .i64 1)]), some RCc73, some (.m 1 [(.ptr 1 0 0)]), some (.m 1 [(.ref 6 0 2)]), some RCc74, some (.c 1 [(.int .i64 22)]), some (.c 1 [(.int .i64 0)])]))
theorem RCr400 : rE (gB RCM16_0) 220 RCe400 = some RCe400.2.2 := by kernel_rfl
def RCb16_0 : Tabl := [RCe400]
theorem RCb16_0_ok : OkZ Tryz.prog 220 (tabSz RCb16_0) := gT RCM16_0_ok (fA RCr400 <| nA)
noncomputable def RCM16_1 : List (Nat × Sz) := (220, tabSz RCb16_0) :: (18, tabSz RCa16) :: RCL5
theorem RCM16_1_ok : ∀ p ∈ RCM16_1, OkZ Tryz.prog p.1 p.2 := fA RCb16_0_ok <| fA RCa16_ok <| RCL5_ok
def RCe401 : Ent := ([(.ptr 0 0 0), RCc69, (.im (.int .i64 1))], [some RCc70, some (.m 9 [(.agg [RCc181, (.im (.sl true 0 [])), (.im (.int .i64 1000)), (.im (.int .i64 23)), (.fn (.func 75) [] [(.ptr 2 0 0), (.ptr 3 0 0), (.ptr 4 0 0)]), (.im (.int .i64 0)), (.im (.int .i64 45)), (.im (.int .i64 0)), (.im (.sl true 0 []))])]), some (.c 1 [(.int .i64 1)]), some RCc73, some (.m 1 [(.ptr 1 0 0)]), some (.m 1 [(.ref 6 0 2)]), some RCc74, some (.c 1 [(.int .i64 27)]), some (.c 1 [(.int .i64 0)])], (true, RCc118, [some RCc70, some RCc182, some (.c 1 [(.int .i64 1)]), some RCc73, some (.m 1 [(.ptr 1 0 0)]), some (.m 1 [(.ref 6 0 2)]), some RCc74, some (.c 1 [(.int .i64 27)]), some (.c 1 [(.int .i64 0)])]))
theorem RCr401 : rE (gB RCM16_1) 220 RCe401 = some RCe401.2.2 := by kernel_rfl
def RCb16_1 : Tabl := [RCe401]
theorem RCb16_1_ok : OkZ Tryz.prog 220 (tabSz RCb16_1) := gT RCM16_1_ok (fA RCr401 <| nA)
noncomputable def RCM16_2 : List (Nat × Sz) := (220, tabSz RCb16_1) :: (18, tabSz RCa16) :: RCL5
theorem RCM16_2_ok : ∀ p ∈ RCM16_2, OkZ Tryz.prog p.1 p.2 := fA RCb16_1_ok <| fA RCa16_ok <| RCL5_ok
def RCe402 : Ent := ([(.ptr 0 0 0), RCc69, (.im (.int .i64 1))], [some RCc70, some (.m 9 [(.agg [RCc181, (.im (.sl true 0 [])), (.im (.int .i64 1000)), (.im (.int .i64 18)), (.fn (.func 75) [] [(.ptr 2 0 0), (.ptr 3 0 0), (.ptr 4 0 0)]), (.im (.int .i64 0)), (.im (.int .i64 35)), (.im (.int .i64 0)), (.im (.sl true 0 []))])]), some (.c 1 [(.int .i64 1)]), some RCc73, some (.m 1 [(.ptr 1 0 0)]), some (.m 1 [(.ref 6 0 2)]), some RCc74, some (.c 1 [(.int .i64 32)]), some (.c 1 [(.int .i64 0)])], (true, RCc118, [some RCc70, some RCc182, some (.c 1 [(.int .i64 1)]), some RCc73, some (.m 1 [(.ptr 1 0 0)]), some (.m 1 [(.ref 6 0 2)]), some RCc74, some (.c 1 [(.int .i64 32)]), some (.c 1 [(.int .i64 0)])]))
theorem RCr402 : rE (gB RCM16_2) 220 RCe402 = some RCe402.2.2 := by kernel_rfl
def RCb16_2 : Tabl := [RCe402]
theorem RCb16_2_ok : OkZ Tryz.prog 220 (tabSz RCb16_2) := gT RCM16_2_ok (fA RCr402 <| nA)
noncomputable def RCM16_3 : List (Nat × Sz) := (220, tabSz RCb16_2) :: (18, tabSz RCa16) :: RCL5
theorem RCM16_3_ok : ∀ p ∈ RCM16_3, OkZ Tryz.prog p.1 p.2 := fA RCb16_2_ok <| fA RCa16_ok <| RCL5_ok
def RCe403 : Ent := ([(.ptr 0 0 0), RCc69, (.im (.int .i64 1))], [some RCc70, some (.m 9 [(.agg [RCc181, (.im (.sl true 0 [])), (.im (.int .i64 1000)), (.im (.int .i64 13)), (.fn (.func 75) [] [(.ptr 2 0 0), (.ptr 3 0 0), (.ptr 4 0 0)]), (.im (.int .i64 0)), (.im (.int .i64 25)), (.im (.int .i64 0)), (.im (.sl true 0 []))])]), some (.c 1 [(.int .i64 1)]), some RCc73, some (.m 1 [(.ptr 1 0 0)]), some (.m 1 [(.ref 6 0 2)]), some RCc74, some (.c 1 [(.int .i64 37)]), some (.c 1 [(.int .i64 0)])], (true, RCc118, [some RCc70, some RCc182, some (.c 1 [(.int .i64 1)]), some RCc73, some (.m 1 [(.ptr 1 0 0)]), some (.m 1 [(.ref 6 0 2)]), some RCc74, some (.c 1 [(.int .i64 37)]), some (.c 1 [(.int .i64 0)])]))
theorem RCr403 : rE (gB RCM16_3) 220 RCe403 = some RCe403.2.2 := by kernel_rfl
def RCb16_3 : Tabl := [RCe403]
theorem RCb16_3_ok : OkZ Tryz.prog 220 (tabSz RCb16_3) := gT RCM16_3_ok (fA RCr403 <| nA)
noncomputable def RCM16_4 : List (Nat × Sz) := (220, tabSz RCb16_3) :: (18, tabSz RCa16) :: RCL5
theorem RCM16_4_ok : ∀ p ∈ RCM16_4, OkZ Tryz.prog p.1 p.2 := fA RCb16_3_ok <| fA RCa16_ok <| RCL5_ok
def RCe404 : Ent := ([(.ptr 0 0 0), RCc69, (.im (.int .i64 1))], [some RCc70, some (.m 9 [(.agg [RCc183, (.im (.sl true 0 [])), (.im (.int .i64 1000)), (.im (.int .i64 8)), (.fn (.func 75) [] [(.ptr 2 0 0), (.ptr 3 0 0), (.ptr 4 0 0)]), (.im (.int .i64 0)), (.im (.int .i64 15)), (.im (.int .i64 0)), (.im (.sl true 0 []))])]), some (.c 1 [(.int .i64 1)]), some RCc73, some (.m 1 [(.ptr 1 0 0)]), some (.m 1 [(.ref 6 0 2)]), some RCc74, some (.c 1 [(.int .i64 5)]), some (.c 1 [(.int .i64 0)])], (false, (.im (.int .i64 0)), [some RCc70, some (.m 9 [(.agg [RCc183, (.im (.sl true 0 [])), (.im (.int .i64 1000)), (.im (.int .i64 8)), (.fn (.func 75) [] [(.ptr 2 0 0), (.ptr 3 0 0), (.ptr 4 0 0)]), (.im (.int .i64 0)), (.im (.int .i64 29)), (.im (.int .i64 0)), (.im (.sl true 0 []))])]), some (.c 1 [(.int .i64 1)]), some RCc73, some (.m 1 [(.ptr 1 0 0)]), some (.m 1 [(.ref 6 0 2)]), some RCc74, some (.c 1 [(.int .i64 5)]), some (.c 1 [(.int .i64 10)])]))
theorem RCr404 : rE (gB RCM16_4) 220 RCe404 = some RCe404.2.2 := by kernel_rfl
def RCe405 : Ent := ([(.ptr 0 0 0), RCc69, (.im (.int .i64 1))], [some RCc70, some (.m 9 [(.agg [RCc181, (.im (.sl true 0 [])), (.im (.int .i64 1000)), (.im (.int .i64 8)), (.fn (.func 75) [] [(.ptr 2 0 0), (.ptr 3 0 0), (.ptr 4 0 0)]), (.im (.int .i64 0)), (.im (.int .i64 15)), (.im (.int .i64 0)), (.im (.sl true 0 []))])]), some (.c 1 [(.int .i64 1)]), some RCc73, some (.m 1 [(.ptr 1 0 0)]), some (.m 1 [(.ref 6 0 2)]), some RCc74, some (.c 1 [(.int .i64 42)]), some (.c 1 [(.int .i64 0)])], (true, RCc118, [some RCc70, some RCc182, some (.c 1 [(.int .i64 1)]), some RCc73, some (.m 1 [(.ptr 1 0 0)]), some (.m 1 [(.ref 6 0 2)]), some RCc74, some (.c 1 [(.int .i64 42)]), some (.c 1 [(.int .i64 0)])]))
theorem RCr405 : rE (gB RCM16_4) 220 RCe405 = some RCe405.2.2 := by kernel_rfl
def RCb16_4 : Tabl := [RCe404, RCe405]
theorem RCb16_4_ok : OkZ Tryz.prog 220 (tabSz RCb16_4) := gT RCM16_4_ok (fA RCr404 <| fA RCr405 <| nA)
noncomputable def RCM16_5 : List (Nat × Sz) := (220, tabSz RCb16_4) :: (18, tabSz RCa16) :: RCL5
theorem RCM16_5_ok : ∀ p ∈ RCM16_5, OkZ Tryz.prog p.1 p.2 := fA RCb16_4_ok <| fA RCa16_ok <| RCL5_ok
def RCe406 : Ent := ([(.ptr 0 0 0), RCc69, (.im (.int .i64 1))], [some RCc70, some (.m 9 [(.agg [RCc183, (.im (.sl true 0 [])), (.im (.int .i64 1000)), (.im (.int .i64 3)), (.fn (.func 75) [] [(.ptr 2 0 0), (.ptr 3 0 0), (.ptr 4 0 0)]), (.im (.int .i64 0)), (.im (.int .i64 5)), (.im (.int .i64 0)), (.im (.sl true 0 []))])]), some (.c 1 [(.int .i64 1)]), some RCc73, some (.m 1 [(.ptr 1 0 0)]), some (.m 1 [(.ref 6 0 2)]), some RCc74, some (.c 1 [(.int .i64 10)]), some (.c 1 [(.int .i64 0)])], (false, (.im (.int .i64 0)), [some RCc70, some (.m 9 [(.agg [RCc183, (.im (.sl true 0 [])), (.im (.int .i64 1000)), (.im (.int .i64 3)), (.fn (.func 75) [] [(.ptr 2 0 0), (.ptr 3 0 0), (.ptr 4 0 0)]), (.im (.int .i64 0)), (.im (.int .i64 34)), (.im (.int .i64 0)), (.im (.sl true 0 []))])]), some (.c 1 [(.int .i64 1)]), some RCc73, some (.m 1 [(.ptr 1 0 0)]), some (.m 1 [(.ref 6 0 2)]), some RCc74, some (.c 1 [(.int .i64 10)]), some (.c 1 [(.int .i64 45)])]))
theorem RCr406 : rE (gB RCM16_5) 220 RCe406 = some RCe406.2.2 := by kernel_rfl
def RCe407 : Ent := ([(.ptr 0 0 0), RCc69, (.im (.int .i64 1))], [some RCc70, some (.m 9 [(.agg [RCc181, (.im (.sl true 0 [])), (.im (.int .i64 1000)), (.im (.int .i64 3)), (.fn (.func 75) [] [(.ptr 2 0 0), (.ptr 3 0 0), (.ptr 4 0 0)]), (.im (.int .i64 0)), (.im (.int .i64 5)), (.im (.int .i64 0)), (.im (.sl true 0 []))])]), some (.c 1 [(.int .i64 1)]), some RCc73, some (.m 1 [(.ptr 1 0 0)]), some (.m 1 [(.ref 6 0 2)]), some RCc74, some (.c 1 [(.int .i64 47)]), some (.c 1 [(.int .i64 0)])], (true, RCc118, [some RCc70, some RCc182, some (.c 1 [(.int .i64 1)]), some RCc73, some (.m 1 [(.ptr 1 0 0)]), some (.m 1 [(.ref 6 0 2)]), some RCc74, some (.c 1 [(.int .i64 47)]), some (.c 1 [(.int .i64 0)])]))
theorem RCr407 : rE (gB RCM16_5) 220 RCe407 = some RCe407.2.2 := by kernel_rfl
def RCb16_5 : Tabl := [RCe406, RCe407]
theorem RCb16_5_ok : OkZ Tryz.prog 220 (tabSz RCb16_5) := gT RCM16_5_ok (fA RCr406 <| fA RCr407 <| nA)
noncomputable def RCM16_6 : List (Nat × Sz) := (220, tabSz RCb16_5) :: (18, tabSz RCa16) :: RCL5
theorem RCM16_6_ok : ∀ p ∈ RCM16_6, OkZ Tryz.prog p.1 p.2 := fA RCb16_5_ok <| fA RCa16_ok <| RCL5_ok
def RCe408 : Ent := ([RCc178, (.im (.sl true 0 [])), (.im (.int .i64 1000)), (.im (.int .i64 1)), RCc76], [], (false, (.tup [(.agg [(.im (.int .i64 0)), (.im (.int .i64 37)), (.im (.int .i64 (-1))), (.ref 0 0 1)]), (.im (.int .i64 0))]), [some (.c 1 [(.sl false 1 [(.int .i64 66)])])]))
theorem RCr408 : rE (gB RCM16_6) 33 RCe408 = some RCe408.2.2 := by kernel_rfl
def RCe409 : Ent := ([RCc180, (.im (.sl true 0 [])), (.im (.int .i64 1000)), (.im (.int .i64 1)), RCc76], [], (false, (.tup [(.im (.agg [(.int .i64 5), (.int .i64 79), (.int .i64 0), (.sl true 0 [])])), (.im (.int .i64 0))]), []))
theorem RCr409 : rE (gB RCM16_6) 33 RCe409 = some RCe409.2.2 := by kernel_rfl
def RCb16_6 : Tabl := [RCe408, RCe409]
theorem RCb16_6_ok : OkZ Tryz.prog 33 (tabSz RCb16_6) := gT RCM16_6_ok (fA RCr408 <| fA RCr409 <| nA)
def RCz16 : Tabl := RCb16_6
theorem RCz16_ok : OkZ Tryz.prog 33 (tabSz RCz16) := RCb16_6_ok
end Go.Proofs.YtkinbnepkpoofaaGreatDoor