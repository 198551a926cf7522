/- Texts joined into one: RCG7. -/
import Derived.Test.YtkinbnepkpoofaaGreatDoorQz
/- Runs of some numbers. -/
set_option maxRecDepth 1000000
set_option linter.unusedVariables false
open Go Go.AM
namespace Go.Proofs.YtkinbnepkpoofaaGreatDoor
def RCe277 : Ent := ([RCc114], [], (false, (.tup [(.im (.int .i64 0)), (.im (.int .i64 (-1)))]), []))
theorem RCr277 : rE (gB RCL5) 18 RCe277 = some RCe277.2.2 := by kernel_rfl
def RCe278 : Ent := ([RCc116], [], (false, (.tup [(.im (.int .i64 0)), (.im (.int .i64 (-1)))]), []))
theorem RCr278 : rE (gB RCL5) 18 RCe278 = some RCe278.2.2 := by kernel_rfl
def RCa7 : Tabl := [RCe277, RCe278]
theorem RCa7_ok : OkZ Tryz.prog 18 (tabSz RCa7) := gT RCL5_ok (fA RCr277 <| fA RCr278 <| nA)
noncomputable def RCM7_0 : List (Nat × Sz) := (18, tabSz RCa7) :: RCL5
theorem RCM7_0_ok : ∀ p ∈ RCM7_0, OkZ Tryz.prog p.1 p.2 := fA RCa7_ok <| RCL5_ok
def RCe279 : Ent := ([(.ptr 0 0 0), RCc69, (.im (.int .i64 1))], [some RCc70, some (.m 9 [(.agg [RCc117, (.im (.sl true 0 [])), (.im (.int .i64 1000)), (.im (.int .i64 28)), (.fn (.func 75) [] [(.ptr 2 0 0), (.ptr 3 0 0), (.ptr 4 0 0)]), (.im (.int .i64 0)), (.im (.int .i64 55)), (.im (.int .i64 0)), (.im (.sl true 0 []))])]), some (.c 1 [(.int .i64 1)]), some RCc73, some (.m 1 [(.ptr 1 0 0)]), some (.m 1 [(.ref 6 0 2)]), some RCc74, some (.c 1 [(.int .i64 13)]), some (.c 1 [(.int .i64 0)])], (true, RCc118, [some RCc70, some RCc119, some (.c 1 [(.int .i64 1)]), some RCc73, some (.m 1 [(.ptr 1 0 0)]), some (.m 1 [(.ref 6 0 2)]), some RCc74, some (.c 1 [(.int .i64 13)]), some (.c 1 [(.int .i64 0)])]))
theorem RCr279 : rE (gB RCM7_0) 220 RCe279 = some RCe279.2.2 := by kernel_rfl
def RCb7_0 : Tabl := [RCe279]
theorem RCb7_0_ok : OkZ Tryz.prog 220 (tabSz RCb7_0) := gT RCM7_0_ok (fA RCr279 <| nA)
noncomputable def RCM7_1 : List (Nat × Sz) := (220, tabSz RCb7_0) :: (18, tabSz RCa7) :: RCL5
theorem RCM7_1_ok : ∀ p ∈ RCM7_1, OkZ Tryz.prog p.1 p.2 := fA RCb7_0_ok <| fA RCa7_ok <| RCL5_ok
def RCe280 : Ent := ([(.ptr 0 0 0), RCc69, (.im (.int .i64 1))], [some RCc70, some (.m 9 [(.agg [RCc117, (.im (.sl true 0 [])), (.im (.int .i64 1000)), (.im (.int .i64 23)), (.fn (.func 75) [] [(.ptr 2 0 0), (.ptr 3 0 0), (.ptr 4 0 0)]), (.im (.int .i64 0)), (.im (.int .i64 45)), (.im (.int .i64 0)), (.im (.sl true 0 []))])]), some (.c 1 [(.int .i64 1)]), some RCc73, some (.m 1 [(.ptr 1 0 0)]), some (.m 1 [(.ref 6 0 2)]), some RCc74, some (.c 1 [(.int .i64 18)]), some (.c 1 [(.int .i64 0)])], (true, RCc118, [some RCc70, some RCc119, some (.c 1 [(.int .i64 1)]), some RCc73, some (.m 1 [(.ptr 1 0 0)]), some (.m 1 [(.ref 6 0 2)]), some RCc74, some (.c 1 [(.int .i64 18)]), some (.c 1 [(.int .i64 0)])]))
theorem RCr280 : rE (gB RCM7_1) 220 RCe280 = some RCe280.2.2 := by kernel_rfl
def RCb7_1 : Tabl := [RCe280]
theorem RCb7_1_ok : OkZ Tryz.prog 220 (tabSz RCb7_1) := gT RCM7_1_ok (fA RCr280 <| nA)
noncomputable def RCM7_2 : List (Nat × Sz) := (220, tabSz RCb7_1) :: (18, tabSz RCa7) :: RCL5
theorem RCM7_2_ok : ∀ p ∈ RCM7_2, OkZ Tryz.prog p.1 p.2 := fA RCb7_1_ok <| fA RCa7_ok <| RCL5_ok
def RCe281 : Ent := ([(.ptr 0 0 0), RCc69, (.im (.int .i64 1))], [some RCc70, some (.m 9 [(.agg [RCc120, (.im (.sl true 0 [])), (.im (.int .i64 1000)), (.im (.int .i64 18)), (.fn (.func 75) [] [(.ptr 2 0 0), (.ptr 3 0 0), (.ptr 4 0 0)]), (.im (.int .i64 0)), (.im (.int .i64 35)), (.im (.int .i64 0)), (.im (.sl true 0 []))])]), some (.c 1 [(.int .i64 1)]), some RCc73, some (.m 1 [(.ptr 1 0 0)]), some (.m 1 [(.ref 6 0 2)]), some RCc74, some (.c 1 [(.int .i64 4)]), some (.c 1 [(.int .i64 0)])], (false, (.im (.int .i64 0)), [some RCc70, some (.m 9 [(.agg [RCc120, (.im (.sl true 0 [])), (.im (.int .i64 1000)), (.im (.int .i64 18)), (.fn (.func 75) [] [(.ptr 2 0 0), (.ptr 3 0 0), (.ptr 4 0 0)]), (.im (.int .i64 0)), (.im (.int .i64 46)), (.im (.int .i64 0)), (.im (.sl true 0 []))])]), some (.c 1 [(.int .i64 1)]), some RCc73, some (.m 1 [(.ptr 1 0 0)]), some (.m 1 [(.ref 6 0 2)]), some RCc74, some (.c 1 [(.int .i64 4)]), some (.c 1 [(.int .i64 6)])]))
theorem RCr281 : rE (gB RCM7_2) 220 RCe281 = some RCe281.2.2 := by kernel_rfl
def RCe282 : Ent := ([(.ptr 0 0 0), RCc69, (.im (.int .i64 1))], [some RCc70, some (.m 9 [(.agg [RCc117, (.im (.sl true 0 [])), (.im (.int .i64 1000)), (.im (.int .i64 18)), (.fn (.func 75) [] [(.ptr 2 0 0), (.ptr 3 0 0), (.ptr 4 0 0)]), (.im (.int .i64 0)), (.im (.int .i64 35)), (.im (.int .i64 0)), (.im (.sl true 0 []))])]), some (.c 1 [(.int .i64 1)]), some RCc73, some (.m 1 [(.ptr 1 0 0)]), some (.m 1 [(.ref 6 0 2)]), some RCc74, some (.c 1 [(.int .i64 23)]), some (.c 1 [(.int .i64 0)])], (true, RCc118, [some RCc70, some RCc119, some (.c 1 [(.int .i64 1)]), some RCc73, some (.m 1 [(.ptr 1 0 0)]), some (.m 1 [(.ref 6 0 2)]), some RCc74, some (.c 1 [(.int .i64 23)]), some (.c 1 [(.int .i64 0)])]))
theorem RCr282 : rE (gB RCM7_2) 220 RCe282 = some RCe282.2.2 := by kernel_rfl
def RCb7_2 : Tabl := [RCe281, RCe282]
theorem RCb7_2_ok : OkZ Tryz.prog 220 (tabSz RCb7_2) := gT RCM7_2_ok (fA RCr281 <| fA RCr282 <| nA)
noncomputable def RCM7_3 : List (Nat × Sz) := (220, tabSz RCb7_2) :: (18, tabSz RCa7) :: RCL5
theorem RCM7_3_ok : ∀ p ∈ RCM7_3, OkZ Tryz.prog p.1 p.2 := fA RCb7_2_ok <| fA RCa7_ok <| RCL5_ok
def RCe283 : Ent := ([(.ptr 0 0 0), RCc69, (.im (.int .i64 1))], [some RCc70, some (.m 9 [(.agg [RCc120, (.im (.sl true 0 [])), (.im (.int .i64 1000)), (.im (.int .i64 13)), (.fn (.func 75) [] [(.ptr 2 0 0), (.ptr 3 0 0), (.ptr 4 0 0)]), (.im (.int .i64 0)), (.im (.int .i64 25)), (.im (.int .i64 0)), (.im (.sl true 0 []))])]), some (.c 1 [(.int .i64 1)]), some RCc73, some (.m 1 [(.ptr 1 0 0)]), some (.m 1 [(.ref 6 0 2)]), some RCc74, some (.c 1 [(.int .i64 9)]), some (.c 1 [(.int .i64 0)])], (false, (.im (.int .i64 0)), [some RCc70, some (.m 9 [(.agg [RCc120, (.im (.sl true 0 [])), (.im (.int .i64 1000)), (.im (.int .i64 13)), (.fn (.func 75) [] [(.ptr 2 0 0), (.ptr 3 0 0), (.ptr 4 0 0)]), (.im (.int .i64 0)), (.im (.int .i64 51)), (.im (.int .i64 0)), (.im (.sl true 0 []))])]), some (.c 1 [(.int .i64 1)]), some RCc73, some (.m 1 [(.ptr 1 0 0)]), some (.m 1 [(.ref 6 0 2)]), some RCc74, some (.c 1 [(.int .i64 9)]), some (.c 1 [(.int .i64 36)])]))
theorem RCr283 : rE (gB RCM7_3) 220 RCe283 = some RCe283.2.2 := by kernel_rfl
def RCe284 : Ent := ([(.ptr 0 0 0), RCc69, (.im (.int .i64 1))], [some RCc70, some (.m 9 [(.agg [RCc117, (.im (.sl true 0 [])), (.im (.int .i64 1000)), (.im (.int .i64 13)), (.fn (.func 75) [] [(.ptr 2 0 0), (.ptr 3 0 0), (.ptr 4 0 0)]), (.im (.int .i64 0)), (.im (.int .i64 25)), (.im (.int .i64 0)), (.im (.sl true 0 []))])]), some (.c 1 [(.int .i64 1)]), some RCc73, some (.m 1 [(.ptr 1 0 0)]), some (.m 1 [(.ref 6 0 2)]), some RCc74, some (.c 1 [(.int .i64 28)]), some (.c 1 [(.int .i64 0)])], (true, RCc118, [some RCc70, some RCc119, some (.c 1 [(.int .i64 1)]), some RCc73, some (.m 1 [(.ptr 1 0 0)]), some (.m 1 [(.ref 6 0 2)]), some RCc74, some (.c 1 [(.int .i64 28)]), some (.c 1 [(.int .i64 0)])]))
theorem RCr284 : rE (gB RCM7_3) 220 RCe284 = some RCe284.2.2 := by kernel_rfl
def RCb7_3 : Tabl := [RCe283, RCe284]
theorem RCb7_3_ok : OkZ Tryz.prog 220 (tabSz RCb7_3) := gT RCM7_3_ok (fA RCr283 <| fA RCr284 <| nA)
noncomputable def RCM7_4 : List (Nat × Sz) := (220, tabSz RCb7_3) :: (18, tabSz RCa7) :: RCL5
theorem RCM7_4_ok : ∀ p ∈ RCM7_4, OkZ Tryz.prog p.1 p.2 := fA RCb7_3_ok <| fA RCa7_ok <| RCL5_ok
def RCe285 : Ent := ([(.ptr 0 0 0), RCc69, (.im (.int .i64 1))], [some RCc70, some (.m 9 [(.agg [RCc120, (.im (.sl true 0 [])), (.im (.int .i64 1000)), (.im (.int .i64 8)), (.fn (.func 75) [] [(.ptr 2 0 0), (.ptr 3 0 0), (.ptr 4 0 0)]), (.im (.int .i64 0)), (.im (.int .i64 15)), (.im (.int .i64 0)), (.im (.sl true 0 []))])]), some (.c 1 [(.int .i64 1)]), some RCc73, some (.m 1 [(.ptr 1 0 0)]), some (.m 1 [(.ref 6 0 2)]), some RCc74, some (.c 1 [(.int .i64 14)]), some (.c 1 [(.int .i64 0)])], (false, (.im (.int .i64 0)), [some RCc70, some (.m 9 [(.agg [RCc120, (.im (.sl true 0 [])), (.im (.int .i64 1000)), (.im (.int .i64 8)), (.fn (.func 75) [] [(.ptr 2 0 0), (.ptr 3 0 0), (.ptr 4 0 0)]), (.im (.int .i64 0)), (.im (.int .i64 56)), (.im (.int .i64 0)), (.im (.sl true 0 []))])]), some (.c 1 [(.int .i64 1)]), some RCc73, some (.m 1 [(.ptr 1 0 0)]), some (.m 1 [(.ref 6 0 2)]), some RCc74, some (.c 1 [(.int .i64 14)]), some (.c 1 [(.int .i64 91)])]))
theorem RCr285 : rE (gB RCM7_4) 220 RCe285 = some RCe285.2.2 := by kernel_rfl
def RCe286 : Ent := ([(.ptr 0 0 0), RCc69, (.im (.int .i64 1))], [some RCc70, some (.m 9 [(.agg [RCc117, (.im (.sl true 0 [])), (.im (.int .i64 1000)), (.im (.int .i64 8)), (.fn (.func 75) [] [(.ptr 2 0 0), (.ptr 3 0 0), (.ptr 4 0 0)]), (.im (.int .i64 0)), (.im (.int .i64 15)), (.im (.int .i64 0)), (.im (.sl true 0 []))])]), some (.c 1 [(.int .i64 1)]), some RCc73, some (.m 1 [(.ptr 1 0 0)]), some (.m 1 [(.ref 6 0 2)]), some RCc74, some (.c 1 [(.int .i64 33)]), some (.c 1 [(.int .i64 0)])], (true, RCc118, [some RCc70, some RCc119, some (.c 1 [(.int .i64 1)]), some RCc73, some (.m 1 [(.ptr 1 0 0)]), some (.m 1 [(.ref 6 0 2)]), some RCc74, some (.c 1 [(.int .i64 33)]), some (.c 1 [(.int .i64 0)])]))
theorem RCr286 : rE (gB RCM7_4) 220 RCe286 = some RCe286.2.2 := by kernel_rfl
def RCb7_4 : Tabl := [RCe285, RCe286]
theorem RCb7_4_ok : OkZ Tryz.prog 220 (tabSz RCb7_4) := gT RCM7_4_ok (fA RCr285 <| fA RCr286 <| nA)
noncomputable def RCM7_5 : List (Nat × Sz) := (220, tabSz RCb7_4) :: (18, tabSz RCa7) :: RCL5
theorem RCM7_5_ok : ∀ p ∈ RCM7_5, OkZ Tryz.prog p.1 p.2 := fA RCb7_4_ok <| fA RCa7_ok <| RCL5_ok
def RCe287 : Ent := ([(.ptr 0 0 0), RCc69, (.im (.int .i64 1))], [some RCc70, some (.m 9 [(.agg [RCc120, (.im (.sl true 0 [])), (.im (.int .i64 1000)), (.im (.int .i64 3)), (.fn (.func 75) [] [(.ptr 2 0 0), (.ptr 3 0 0), (.ptr 4 0 0)]), (.im (.int .i64 0)), (.im (.int .i64 5)), (.im (.int .i64 0)), (.im (.sl true 0 []))])]), some (.c 1 [(.int .i64 1)]), some RCc73, some (.m 1 [(.ptr 1 0 0)]), some (.m 1 [(.ref 6 0 2)]), some RCc74, some (.c 1 [(.int .i64 19)]), some (.c 1 [(.int .i64 0)])], (false, (.im (.int .i64 0)), [some RCc70, some (.m 9 [(.agg [RCc120, (.im (.sl true 0 [])), (.im (.int .i64 1000)), (.im (.int .i64 3)), (.fn (.func 75) [] [(.ptr 2 0 0), (.ptr 3 0 0), (.ptr 4 0 0)]), (.im (.int .i64 0)), (.im (.int .i64 61)), (.im (.int .i64 0)), (.im (.sl true 0 []))])]), some (.c 1 [(.int .i64 1)]), some RCc73, some (.m 1 [(.ptr 1 0 0)]), some (.m 1 [(.ref 6 0 2)]), some RCc74, some (.c 1 [(.int .i64 19)]), some (.c 1 [(.int .i64 171)])]))
theorem RCr287 : rE (gB RCM7_5) 220 RCe287 = some RCe287.2.2 := by kernel_rfl
def RCe288 : Ent := ([(.ptr 0 0 0), RCc69, (.im (.int .i64 1))], [some RCc70, some (.m 9 [(.agg [RCc117, (.im (.sl true 0 [])), (.im (.int .i64 1000)), (.im (.int .i64 3)), (.fn (.func 75) [] [(.ptr 2 0 0), (.ptr 3 0 0), (.ptr 4 0 0)]), (.im (.int .i64 0)), (.im (.int .i64 5)), (.im (.int .i64 0)), (.im (.sl true 0 []))])]), some (.c 1 [(.int .i64 1)]), some RCc73, some (.m 1 [(.ptr 1 0 0)]), some (.m 1 [(.ref 6 0 2)]), some RCc74, some (.c 1 [(.int .i64 38)]), some (.c 1 [(.int .i64 0)])], (true, RCc118, [some RCc70, some RCc119, some (.c 1 [(.int .i64 1)]), some RCc73, some (.m 1 [(.ptr 1 0 0)]), some (.m 1 [(.ref 6 0 2)]), some RCc74, some (.c 1 [(.int .i64 38)]), some (.c 1 [(.int .i64 0)])]))
theorem RCr288 : rE (gB RCM7_5) 220 RCe288 = some RCe288.2.2 := by kernel_rfl
def RCb7_5 : Tabl := [RCe287, RCe288]
theorem RCb7_5_ok : OkZ Tryz.prog 220 (tabSz RCb7_5) := gT RCM7_5_ok (fA RCr287 <| fA RCr288 <| nA)
noncomputable def RCM7_6 : List (Nat × Sz) := (220, tabSz RCb7_5) :: (18, tabSz RCa7) :: RCL5
theorem RCM7_6_ok : ∀ p ∈ RCM7_6, OkZ Tryz.prog p.1 p.2 := fA RCb7_5_ok <| fA RCa7_ok <| RCL5_ok
def RCe289 : Ent := ([RCc114, (.im (.sl true 0 [])), (.im (.int .i64 1000)), (.im (.int .i64 1)), RCc76], [], (false, (.tup [(.agg [(.im (.int .i64 0)), (.im (.int .i64 64)), (.im (.int .i64 (-1))), (.ref 0 0 1)]), (.im (.int .i64 0))]), [some (.c 1 [(.sl false 1 [(.int .i64 210)])])]))
theorem RCr289 : rE (gB RCM7_6) 33 RCe289 = some RCe289.2.2 := by kernel_rfl
def RCe290 : Ent := ([RCc116, (.im (.sl true 0 [])), (.im (.int .i64 1000)), (.im (.int .i64 1)), RCc76], [], (false, (.tup [(.im (.agg [(.int .i64 5), (.int .i64 79), (.int .i64 0), (.sl true 0 [])])), (.im (.int .i64 0))]), []))
theorem RCr290 : rE (gB RCM7_6) 33 RCe290 = some RCe290.2.2 := by kernel_rfl
def RCb7_6 : Tabl := [RCe289, RCe290]
theorem RCb7_6_ok : OkZ Tryz.prog 33 (tabSz RCb7_6) := gT RCM7_6_ok (fA RCr289 <| fA RCr290 <| nA)
def RCz7 : Tabl := RCb7_6
theorem RCz7_ok : OkZ Tryz.prog 33 (tabSz RCz7) := RCb7_6_ok
end Go.Proofs.YtkinbnepkpoofaaGreatDoor