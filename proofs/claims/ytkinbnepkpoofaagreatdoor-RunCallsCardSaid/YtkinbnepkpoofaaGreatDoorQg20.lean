/- Texts joined into one: RCG20. -/
import Derived.Test.YtkinbnepkpoofaaGreatDoorQz
/- Runs of some numbers. -/
set_option maxRecDepth 1000000
set_option linter.unusedVariables false
open Go Go.AM
namespace Go.Proofs.YtkinbnepkpoofaaGreatDoor
def RCe446 : Ent := ([RCc206], [], (false, (.tup [(.im (.int .i64 0)), (.im (.int .i64 (-1)))]), []))
theorem RCr446 : rE (gB RCL5) 18 RCe446 = some RCe446.2.2 := by kernel_rfl
def RCe447 : Ent := ([RCc208], [], (false, (.tup [(.im (.int .i64 0)), (.im (.int .i64 (-1)))]), []))
theorem RCr447 : rE (gB RCL5) 18 RCe447 = some RCe447.2.2 := by kernel_rfl
def RCa20 : Tabl := [RCe446, RCe447]
theorem RCa20_ok : OkZ Tryz.prog 18 (tabSz RCa20) := gT RCL5_ok (fA RCr446 <| fA RCr447 <| nA)
noncomputable def RCM20_0 : List (Nat × Sz) := (18, tabSz RCa20) :: RCL5
theorem RCM20_0_ok : ∀ p ∈ RCM20_0, OkZ Tryz.prog p.1 p.2 := fA RCa20_ok <| RCL5_ok
def RCe448 : Ent := ([(.ptr 0 0 0), RCc69, (.im (.int .i64 1))], [some RCc70, some (.m 9 [(.agg [RCc209, (.im (.sl true 0 [])), (.im (.int .i64 1000)), (.im (.int .i64 28)), (.fn (.func 75) [] [(.ptr 2 0 0), (.ptr 3 0 0), (.ptr 4 0 0)]), (.im (.int .i64 0)), (.im (.int .i64 55)), (.im (.int .i64 0)), (.im (.sl true 0 []))])]), some (.c 1 [(.int .i64 1)]), some RCc73, some (.m 1 [(.ptr 1 0 0)]), some (.m 1 [(.ref 6 0 2)]), some RCc74, some (.c 1 [(.int .i64 26)]), some (.c 1 [(.int .i64 0)])], (true, RCc118, [some RCc70, some RCc210, some (.c 1 [(.int .i64 1)]), some RCc73, some (.m 1 [(.ptr 1 0 0)]), some (.m 1 [(.ref 6 0 2)]), some RCc74, some (.c 1 [(.int .i64 26)]), some (.c 1 [(.int .i64 0)])]))
theorem RCr448 : rE (gB RCM20_0) 220 RCe448 = some RCe448.2.2 := by kernel_rfl
def RCb20_0 : Tabl := [RCe448]
theorem RCb20_0_ok : OkZ Tryz.prog 220 (tabSz RCb20_0) := gT RCM20_0_ok (fA RCr448 <| nA)
noncomputable def RCM20_1 : List (Nat × Sz) := (220, tabSz RCb20_0) :: (18, tabSz RCa20) :: RCL5
theorem RCM20_1_ok : ∀ p ∈ RCM20_1, OkZ Tryz.prog p.1 p.2 := fA RCb20_0_ok <| fA RCa20_ok <| RCL5_ok
def RCe449 : Ent := ([(.ptr 0 0 0), RCc69, (.im (.int .i64 1))], [some RCc70, some (.m 9 [(.agg [RCc209, (.im (.sl true 0 [])), (.im (.int .i64 1000)), (.im (.int .i64 23)), (.fn (.func 75) [] [(.ptr 2 0 0), (.ptr 3 0 0), (.ptr 4 0 0)]), (.im (.int .i64 0)), (.im (.int .i64 45)), (.im (.int .i64 0)), (.im (.sl true 0 []))])]), some (.c 1 [(.int .i64 1)]), some RCc73, some (.m 1 [(.ptr 1 0 0)]), some (.m 1 [(.ref 6 0 2)]), some RCc74, some (.c 1 [(.int .i64 31)]), some (.c 1 [(.int .i64 0)])], (true, RCc118, [some RCc70, some RCc210, some (.c 1 [(.int .i64 1)]), some RCc73, some (.m 1 [(.ptr 1 0 0)]), some (.m 1 [(.ref 6 0 2)]), some RCc74, some (.c 1 [(.int .i64 31)]), some (.c 1 [(.int .i64 0)])]))
theorem RCr449 : rE (gB RCM20_1) 220 RCe449 = some RCe449.2.2 := by kernel_rfl
def RCb20_1 : Tabl := [RCe449]
theorem RCb20_1_ok : OkZ Tryz.prog 220 (tabSz RCb20_1) := gT RCM20_1_ok (fA RCr449 <| nA)
noncomputable def RCM20_2 : List (Nat × Sz) := (220, tabSz RCb20_1) :: (18, tabSz RCa20) :: RCL5
theorem RCM20_2_ok : ∀ p ∈ RCM20_2, OkZ Tryz.prog p.1 p.2 := fA RCb20_1_ok <| fA RCa20_ok <| RCL5_ok
def RCe450 : Ent := ([(.ptr 0 0 0), RCc69, (.im (.int .i64 1))], [some RCc70, some (.m 9 [(.agg [RCc209, (.im (.sl true 0 [])), (.im (.int .i64 1000)), (.im (.int .i64 18)), (.fn (.func 75) [] [(.ptr 2 0 0), (.ptr 3 0 0), (.ptr 4 0 0)]), (.im (.int .i64 0)), (.im (.int .i64 35)), (.im (.int .i64 0)), (.im (.sl true 0 []))])]), some (.c 1 [(.int .i64 1)]), some RCc73, some (.m 1 [(.ptr 1 0 0)]), some (.m 1 [(.ref 6 0 2)]), some RCc74, some (.c 1 [(.int .i64 36)]), some (.c 1 [(.int .i64 0)])], (true, RCc118, [some RCc70, some RCc210, some (.c 1 [(.int .i64 1)]), some RCc73, some (.m 1 [(.ptr 1 0 0)]), some (.m 1 [(.ref 6 0 2)]), some RCc74, some (.c 1 [(.int .i64 36)]), some (.c 1 [(.int .i64 0)])]))
theorem RCr450 : rE (gB RCM20_2) 220 RCe450 = some RCe450.2.2 := by kernel_rfl
def RCb20_2 : Tabl := [RCe450]
theorem RCb20_2_ok : OkZ Tryz.prog 220 (tabSz RCb20_2) := gT RCM20_2_ok (fA RCr450 <| nA)
noncomputable def RCM20_3 : List (Nat × Sz) := (220, tabSz RCb20_2) :: (18, tabSz RCa20) :: RCL5
theorem RCM20_3_ok : ∀ p ∈ RCM20_3, OkZ Tryz.prog p.1 p.2 := fA RCb20_2_ok <| fA RCa20_ok <| RCL5_ok
def RCe451 : Ent := ([(.ptr 0 0 0), RCc69, (.im (.int .i64 1))], [some RCc70, some (.m 9 [(.agg [RCc209, (.im (.sl true 0 [])), (.im (.int .i64 1000)), (.im (.int .i64 13)), (.fn (.func 75) [] [(.ptr 2 0 0), (.ptr 3 0 0), (.ptr 4 0 0)]), (.im (.int .i64 0)), (.im (.int .i64 25)), (.im (.int .i64 0)), (.im (.sl true 0 []))])]), some (.c 1 [(.int .i64 1)]), some RCc73, some (.m 1 [(.ptr 1 0 0)]), some (.m 1 [(.ref 6 0 2)]), some RCc74, some (.c 1 [(.int .i64 41)]), some (.c 1 [(.int .i64 0)])], (true, RCc118, [some RCc70, some RCc210, some (.c 1 [(.int .i64 1)]), some RCc73, some (.m 1 [(.ptr 1 0 0)]), some (.m 1 [(.ref 6 0 2)]), some RCc74, some (.c 1 [(.int .i64 41)]), some (.c 1 [(.int .i64 0)])]))
theorem RCr451 : rE (gB RCM20_3) 220 RCe451 = some RCe451.2.2 := by kernel_rfl
def RCb20_3 : Tabl := [RCe451]
theorem RCb20_3_ok : OkZ Tryz.prog 220 (tabSz RCb20_3) := gT RCM20_3_ok (fA RCr451 <| nA)
noncomputable def RCM20_4 : List (Nat × Sz) := (220, tabSz RCb20_3) :: (18, tabSz RCa20) :: RCL5
theorem RCM20_4_ok : ∀ p ∈ RCM20_4, OkZ Tryz.prog p.1 p.2 := fA RCb20_3_ok <| fA RCa20_ok <| RCL5_ok
def RCe452 : Ent := ([(.ptr 0 0 0), RCc69, (.im (.int .i64 1))], [some RCc70, some (.m 9 [(.agg [RCc211, (.im (.sl true 0 [])), (.im (.int .i64 1000)), (.im (.int .i64 8)), (.fn (.func 75) [] [(.ptr 2 0 0), (.ptr 3 0 0), (.ptr 4 0 0)]), (.im (.int .i64 0)), (.im (.int .i64 15)), (.im (.int .i64 0)), (.im (.sl true 0 []))])]), some (.c 1 [(.int .i64 1)]), some RCc73, some (.m 1 [(.ptr 1 0 0)]), some (.m 1 [(.ref 6 0 2)]), some RCc74, some (.c 1 [(.int .i64 1)]), some (.c 1 [(.int .i64 0)])], (false, (.im (.int .i64 0)), [some RCc70, some (.m 9 [(.agg [RCc211, (.im (.sl true 0 [])), (.im (.int .i64 1000)), (.im (.int .i64 8)), (.fn (.func 75) [] [(.ptr 2 0 0), (.ptr 3 0 0), (.ptr 4 0 0)]), (.im (.int .i64 0)), (.im (.int .i64 17)), (.im (.int .i64 0)), (.im (.sl true 0 []))])]), some (.c 1 [(.int .i64 1)]), some RCc73, some (.m 1 [(.ptr 1 0 0)]), some (.m 1 [(.ref 6 0 2)]), some RCc74, some (.c 1 [(.int .i64 1)]), some (.c 1 [(.int .i64 0)])]))
theorem RCr452 : rE (gB RCM20_4) 220 RCe452 = some RCe452.2.2 := by kernel_rfl
def RCe453 : Ent := ([(.ptr 0 0 0), RCc69, (.im (.int .i64 1))], [some RCc70, some (.m 9 [(.agg [RCc209, (.im (.sl true 0 [])), (.im (.int .i64 1000)), (.im (.int .i64 8)), (.fn (.func 75) [] [(.ptr 2 0 0), (.ptr 3 0 0), (.ptr 4 0 0)]), (.im (.int .i64 0)), (.im (.int .i64 15)), (.im (.int .i64 0)), (.im (.sl true 0 []))])]), some (.c 1 [(.int .i64 1)]), some RCc73, some (.m 1 [(.ptr 1 0 0)]), some (.m 1 [(.ref 6 0 2)]), some RCc74, some (.c 1 [(.int .i64 46)]), some (.c 1 [(.int .i64 0)])], (true, RCc118, [some RCc70, some RCc210, some (.c 1 [(.int .i64 1)]), some RCc73, some (.m 1 [(.ptr 1 0 0)]), some (.m 1 [(.ref 6 0 2)]), some RCc74, some (.c 1 [(.int .i64 46)]), some (.c 1 [(.int .i64 0)])]))
theorem RCr453 : rE (gB RCM20_4) 220 RCe453 = some RCe453.2.2 := by kernel_rfl
def RCb20_4 : Tabl := [RCe452, RCe453]
theorem RCb20_4_ok : OkZ Tryz.prog 220 (tabSz RCb20_4) := gT RCM20_4_ok (fA RCr452 <| fA RCr453 <| nA)
noncomputable def RCM20_5 : List (Nat × Sz) := (220, tabSz RCb20_4) :: (18, tabSz RCa20) :: RCL5
theorem RCM20_5_ok : ∀ p ∈ RCM20_5, OkZ Tryz.prog p.1 p.2 := fA RCb20_4_ok <| fA RCa20_ok <| RCL5_ok
def RCe454 : Ent := ([(.ptr 0 0 0), RCc69, (.im (.int .i64 1))], [some RCc70, some (.m 9 [(.agg [RCc211, (.im (.sl true 0 [])), (.im (.int .i64 1000)), (.im (.int .i64 3)), (.fn (.func 75) [] [(.ptr 2 0 0), (.ptr 3 0 0), (.ptr 4 0 0)]), (.im (.int .i64 0)), (.im (.int .i64 5)), (.im (.int .i64 0)), (.im (.sl true 0 []))])]), some (.c 1 [(.int .i64 1)]), some RCc73, some (.m 1 [(.ptr 1 0 0)]), some (.m 1 [(.ref 6 0 2)]), some RCc74, some (.c 1 [(.int .i64 6)]), some (.c 1 [(.int .i64 0)])], (false, (.im (.int .i64 0)), [some RCc70, some (.m 9 [(.agg [RCc211, (.im (.sl true 0 [])), (.im (.int .i64 1000)), (.im (.int .i64 3)), (.fn (.func 75) [] [(.ptr 2 0 0), (.ptr 3 0 0), (.ptr 4 0 0)]), (.im (.int .i64 0)), (.im (.int .i64 22)), (.im (.int .i64 0)), (.im (.sl true 0 []))])]), some (.c 1 [(.int .i64 1)]), some RCc73, some (.m 1 [(.ptr 1 0 0)]), some (.m 1 [(.ref 6 0 2)]), some RCc74, some (.c 1 [(.int .i64 6)]), some (.c 1 [(.int .i64 15)])]))
theorem RCr454 : rE (gB RCM20_5) 220 RCe454 = some RCe454.2.2 := by kernel_rfl
def RCe455 : Ent := ([(.ptr 0 0 0), RCc69, (.im (.int .i64 1))], [some RCc70, some (.m 9 [(.agg [RCc209, (.im (.sl true 0 [])), (.im (.int .i64 1000)), (.im (.int .i64 3)), (.fn (.func 75) [] [(.ptr 2 0 0), (.ptr 3 0 0), (.ptr 4 0 0)]), (.im (.int .i64 0)), (.im (.int .i64 5)), (.im (.int .i64 0)), (.im (.sl true 0 []))])]), some (.c 1 [(.int .i64 1)]), some RCc73, some (.m 1 [(.ptr 1 0 0)]), some (.m 1 [(.ref 6 0 2)]), some RCc74, some (.c 1 [(.int .i64 51)]), some (.c 1 [(.int .i64 0)])], (true, RCc118, [some RCc70, some RCc210, some (.c 1 [(.int .i64 1)]), some RCc73, some (.m 1 [(.ptr 1 0 0)]), some (.m 1 [(.ref 6 0 2)]), some RCc74, some (.c 1 [(.int .i64 51)]), some (.c 1 [(.int .i64 0)])]))
theorem RCr455 : rE (gB RCM20_5) 220 RCe455 = some RCe455.2.2 := by kernel_rfl
def RCb20_5 : Tabl := [RCe454, RCe455]
theorem RCb20_5_ok : OkZ Tryz.prog 220 (tabSz RCb20_5) := gT RCM20_5_ok (fA RCr454 <| fA RCr455 <| nA)
noncomputable def RCM20_6 : List (Nat × Sz) := (220, tabSz RCb20_5) :: (18, tabSz RCa20) :: RCL5
theorem RCM20_6_ok : ∀ p ∈ RCM20_6, OkZ Tryz.prog p.1 p.2 := fA RCb20_5_ok <| fA RCa20_ok <| RCL5_ok
def RCe456 : Ent := ([RCc206, (.im (.sl true 0 [])), (.im (.int .i64 1000)), (.im (.int .i64 1)), RCc76], [], (false, (.tup [(.agg [(.im (.int .i64 0)), (.im (.int .i64 25)), (.im (.int .i64 (-1))), (.ref 0 0 1)]), (.im (.int .i64 0))]), [some (.c 1 [(.sl false 1 [(.int .i64 28)])])]))
theorem RCr456 : rE (gB RCM20_6) 33 RCe456 = some RCe456.2.2 := by kernel_rfl
def RCe457 : Ent := ([RCc208, (.im (.sl true 0 [])), (.im (.int .i64 1000)), (.im (.int .i64 1)), RCc76], [], (false, (.tup [(.im (.agg [(.int .i64 5), (.int .i64 79), (.int .i64 0), (.sl true 0 [])])), (.im (.int .i64 0))]), []))
theorem RCr457 : rE (gB RCM20_6) 33 RCe457 = some RCe457.2.2 := by kernel_rfl
def RCb20_6 : Tabl := [RCe456, RCe457]
theorem RCb20_6_ok : OkZ Tryz.prog 33 (tabSz RCb20_6) := gT RCM20_6_ok (fA RCr456 <| fA RCr457 <| nA)
def RCz20 : Tabl := RCb20_6
theorem RCz20_ok : OkZ Tryz.prog 33 (tabSz RCz20) := RCb20_6_ok
end Go.Proofs.YtkinbnepkpoofaaGreatDoor