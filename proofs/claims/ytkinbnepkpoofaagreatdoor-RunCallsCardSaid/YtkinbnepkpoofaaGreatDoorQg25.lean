/- Texts joined into one: RCG25. -/
import Derived.Test.YtkinbnepkpoofaaGreatDoorQz
/- Runs of some numbers. -/
set_option maxRecDepth 1000000
set_option linter.unusedVariables false
open Go Go.AM
namespace Go.Proofs.YtkinbnepkpoofaaGreatDoor
def RCe502 : Ent := ([RCc241], [], (false, (.tup [(.im (.int .i64 0)), (.im (.int .i64 (-1)))]), []))
theorem RCr502 : rE (gB RCL5) 18 RCe502 = some RCe502.2.2 := by kernel_rfl
def RCe503 : Ent := ([RCc243], [], (false, (.tup [(.im (.int .i64 0)), (.im (.int .i64 (-1)))]), []))
theorem RCr503 : rE (gB RCL5) 18 RCe503 = some RCe503.2.2 := by kernel_rfl
def RCa25 : Tabl := [RCe502, RCe503]
theorem RCa25_ok : OkZ Tryz.prog 18 (tabSz RCa25) := gT RCL5_ok (fA RCr502 <| fA RCr503 <| nA)
noncomputable def RCM25_0 : List (Nat × Sz) := (18, tabSz RCa25) :: RCL5
theorem RCM25_0_ok : ∀ p ∈ RCM25_0, OkZ Tryz.prog p.1 p.2 := fA RCa25_ok <| RCL5_ok
def RCe504 : Ent := ([(.ptr 0 0 0), RCc69, (.im (.int .i64 1))], [some RCc70, some (.m 9 [(.agg [RCc244, (.im (.sl true 0 [])), (.im (.int .i64 1000)), (.im (.int .i64 28)), (.fn (.func 75) [] [(.ptr 2 0 0), (.ptr 3 0 0), (.ptr 4 0 0)]), (.im (.int .i64 0)), (.im (.int .i64 55)), (.im (.int .i64 0)), (.im (.sl true 0 []))])]), some (.c 1 [(.int .i64 1)]), some RCc73, some (.m 1 [(.ptr 1 0 0)]), some (.m 1 [(.ref 6 0 2)]), some RCc74, some (.c 1 [(.int .i64 31)]), some (.c 1 [(.int .i64 0)])], (true, RCc118, [some RCc70, some RCc245, some (.c 1 [(.int .i64 1)]), some RCc73, some (.m 1 [(.ptr 1 0 0)]), some (.m 1 [(.ref 6 0 2)]), some RCc74, some (.c 1 [(.int .i64 31)]), some (.c 1 [(.int .i64 0)])]))
theorem RCr504 : rE (gB RCM25_0) 220 RCe504 = some RCe504.2.2 := by kernel_rfl
def RCb25_0 : Tabl := [RCe504]
theorem RCb25_0_ok : OkZ Tryz.prog 220 (tabSz RCb25_0) := gT RCM25_0_ok (fA RCr504 <| nA)
noncomputable def RCM25_1 : List (Nat × Sz) := (220, tabSz RCb25_0) :: (18, tabSz RCa25) :: RCL5
theorem RCM25_1_ok : ∀ p ∈ RCM25_1, OkZ Tryz.prog p.1 p.2 := fA RCb25_0_ok <| fA RCa25_ok <| RCL5_ok
def RCe505 : Ent := ([(.ptr 0 0 0), RCc69, (.im (.int .i64 1))], [some RCc70, some (.m 9 [(.agg [RCc244, (.im (.sl true 0 [])), (.im (.int .i64 1000)), (.im (.int .i64 23)), (.fn (.func 75) [] [(.ptr 2 0 0), (.ptr 3 0 0), (.ptr 4 0 0)]), (.im (.int .i64 0)), (.im (.int .i64 45)), (.im (.int .i64 0)), (.im (.sl true 0 []))])]), some (.c 1 [(.int .i64 1)]), some RCc73, some (.m 1 [(.ptr 1 0 0)]), some (.m 1 [(.ref 6 0 2)]), some RCc74, some (.c 1 [(.int .i64 36)]), some (.c 1 [(.int .i64 0)])], (true, RCc118, [some RCc70, some RCc245, some (.c 1 [(.int .i64 1)]), some RCc73, some (.m 1 [(.ptr 1 0 0)]), some (.m 1 [(.ref 6 0 2)]), some RCc74, some (.c 1 [(.int .i64 36)]), some (.c 1 [(.int .i64 0)])]))
theorem RCr505 : rE (gB RCM25_1) 220 RCe505 = some RCe505.2.2 := by kernel_rfl
def RCb25_1 : Tabl := [RCe505]
theorem RCb25_1_ok : OkZ Tryz.prog 220 (tabSz RCb25_1) := gT RCM25_1_ok (fA RCr505 <| nA)
noncomputable def RCM25_2 : List (Nat × Sz) := (220, tabSz RCb25_1) :: (18, tabSz RCa25) :: RCL5
theorem RCM25_2_ok : ∀ p ∈ RCM25_2, OkZ Tryz.prog p.1 p.2 := fA RCb25_1_ok <| fA RCa25_ok <| RCL5_ok
def RCe506 : Ent := ([(.ptr 0 0 0), RCc69, (.im (.int .i64 1))], [some RCc70, some (.m 9 [(.agg [RCc244, (.im (.sl true 0 [])), (.im (.int .i64 1000)), (.im (.int .i64 18)), (.fn (.func 75) [] [(.ptr 2 0 0), (.ptr 3 0 0), (.ptr 4 0 0)]), (.im (.int .i64 0)), (.im (.int .i64 35)), (.im (.int .i64 0)), (.im (.sl true 0 []))])]), some (.c 1 [(.int .i64 1)]), some RCc73, some (.m 1 [(.ptr 1 0 0)]), some (.m 1 [(.ref 6 0 2)]), some RCc74, some (.c 1 [(.int .i64 41)]), some (.c 1 [(.int .i64 0)])], (true, RCc118, [some RCc70, some RCc245, some (.c 1 [(.int .i64 1)]), some RCc73, some (.m 1 [(.ptr 1 0 0)]), some (.m 1 [(.ref 6 0 2)]), some RCc74, some (.c 1 [(.int .i64 41)]), some (.c 1 [(.int .i64 0)])]))
theorem RCr506 : rE (gB RCM25_2) 220 RCe506 = some RCe506.2.2 := by kernel_rfl
def RCb25_2 : Tabl := [RCe506]
theorem RCb25_2_ok : OkZ Tryz.prog 220 (tabSz RCb25_2) := gT RCM25_2_ok (fA RCr506 <| nA)
noncomputable def RCM25_3 : List (Nat × Sz) := (220, tabSz RCb25_2) :: (18, tabSz RCa25) :: RCL5
theorem RCM25_3_ok : ∀ p ∈ RCM25_3, OkZ Tryz.prog p.1 p.2 := fA RCb25_2_ok <| fA RCa25_ok <| RCL5_ok
def RCe507 : Ent := ([(.ptr 0 0 0), RCc69, (.im (.int .i64 1))], [some RCc70, some (.m 9 [(.agg [RCc244, (.im (.sl true 0 [])), (.im (.int .i64 1000)), (.im (.int .i64 13)), (.fn (.func 75) [] [(.ptr 2 0 0), (.ptr 3 0 0), (.ptr 4 0 0)]), (.im (.int .i64 0)), (.im (.int .i64 25)), (.im (.int .i64 0)), (.im (.sl true 0 []))])]), some (.c 1 [(.int .i64 1)]), some RCc73, some (.m 1 [(.ptr 1 0 0)]), some (.m 1 [(.ref 6 0 2)]), some RCc74, some (.c 1 [(.int .i64 46)]), some (.c 1 [(.int .i64 0)])], (true, RCc118, [some RCc70, some RCc245, some (.c 1 [(.int .i64 1)]), some RCc73, some (.m 1 [(.ptr 1 0 0)]), some (.m 1 [(.ref 6 0 2)]), some RCc74, some (.c 1 [(.int .i64 46)]), some (.c 1 [(.int .i64 0)])]))
theorem RCr507 : rE (gB RCM25_3) 220 RCe507 = some RCe507.2.2 := by kernel_rfl
def RCb25_3 : Tabl := [RCe507]
theorem RCb25_3_ok : OkZ Tryz.prog 220 (tabSz RCb25_3) := gT RCM25_3_ok (fA RCr507 <| nA)
noncomputable def RCM25_4 : List (Nat × Sz) := (220, tabSz RCb25_3) :: (18, tabSz RCa25) :: RCL5
theorem RCM25_4_ok : ∀ p ∈ RCM25_4, OkZ Tryz.prog p.1 p.2 := fA RCb25_3_ok <| fA RCa25_ok <| RCL5_ok
def RCe508 : Ent := ([(.ptr 0 0 0), RCc69, (.im (.int .i64 1))], [some RCc70, some (.m 9 [(.agg [RCc244, (.im (.sl true 0 [])), (.im (.int .i64 1000)), (.im (.int .i64 8)), (.fn (.func 75) [] [(.ptr 2 0 0), (.ptr 3 0 0), (.ptr 4 0 0)]), (.im (.int .i64 0)), (.im (.int .i64 15)), (.im (.int .i64 0)), (.im (.sl true 0 []))])]), some (.c 1 [(.int .i64 1)]), some RCc73, some (.m 1 [(.ptr 1 0 0)]), some (.m 1 [(.ref 6 0 2)]), some RCc74, some (.c 1 [(.int .i64 51)]), some (.c 1 [(.int .i64 0)])], (true, RCc118, [some RCc70, some RCc245, some (.c 1 [(.int .i64 1)]), some RCc73, some (.m 1 [(.ptr 1 0 0)]), some (.m 1 [(.ref 6 0 2)]), some RCc74, some (.c 1 [(.int .i64 51)]), some (.c 1 [(.int .i64 0)])]))
theorem RCr508 : rE (gB RCM25_4) 220 RCe508 = some RCe508.2.2 := by kernel_rfl
def RCb25_4 : Tabl := [RCe508]
theorem RCb25_4_ok : OkZ Tryz.prog 220 (tabSz RCb25_4) := gT RCM25_4_ok (fA RCr508 <| nA)
noncomputable def RCM25_5 : List (Nat × Sz) := (220, tabSz RCb25_4) :: (18, tabSz RCa25) :: RCL5
theorem RCM25_5_ok : ∀ p ∈ RCM25_5, OkZ Tryz.prog p.1 p.2 := fA RCb25_4_ok <| fA RCa25_ok <| RCL5_ok
def RCe509 : Ent := ([(.ptr 0 0 0), RCc69, (.im (.int .i64 1))], [some RCc70, some (.m 9 [(.agg [RCc246, (.im (.sl true 0 [])), (.im (.int .i64 1000)), (.im (.int .i64 3)), (.fn (.func 75) [] [(.ptr 2 0 0), (.ptr 3 0 0), (.ptr 4 0 0)]), (.im (.int .i64 0)), (.im (.int .i64 5)), (.im (.int .i64 0)), (.im (.sl true 0 []))])]), some (.c 1 [(.int .i64 1)]), some RCc73, some (.m 1 [(.ptr 1 0 0)]), some (.m 1 [(.ref 6 0 2)]), some RCc74, some (.c 1 [(.int .i64 1)]), some (.c 1 [(.int .i64 0)])], (false, (.im (.int .i64 0)), [some RCc70, some (.m 9 [(.agg [RCc246, (.im (.sl true 0 [])), (.im (.int .i64 1000)), (.im (.int .i64 3)), (.fn (.func 75) [] [(.ptr 2 0 0), (.ptr 3 0 0), (.ptr 4 0 0)]), (.im (.int .i64 0)), (.im (.int .i64 7)), (.im (.int .i64 0)), (.im (.sl true 0 []))])]), some (.c 1 [(.int .i64 1)]), some RCc73, some (.m 1 [(.ptr 1 0 0)]), some (.m 1 [(.ref 6 0 2)]), some RCc74, some (.c 1 [(.int .i64 1)]), some (.c 1 [(.int .i64 0)])]))
theorem RCr509 : rE (gB RCM25_5) 220 RCe509 = some RCe509.2.2 := by kernel_rfl
def RCe510 : Ent := ([(.ptr 0 0 0), RCc69, (.im (.int .i64 1))], [some RCc70, some (.m 9 [(.agg [RCc244, (.im (.sl true 0 [])), (.im (.int .i64 1000)), (.im (.int .i64 3)), (.fn (.func 75) [] [(.ptr 2 0 0), (.ptr 3 0 0), (.ptr 4 0 0)]), (.im (.int .i64 0)), (.im (.int .i64 5)), (.im (.int .i64 0)), (.im (.sl true 0 []))])]), some (.c 1 [(.int .i64 1)]), some RCc73, some (.m 1 [(.ptr 1 0 0)]), some (.m 1 [(.ref 6 0 2)]), some RCc74, some (.c 1 [(.int .i64 56)]), some (.c 1 [(.int .i64 0)])], (true, RCc118, [some RCc70, some RCc245, some (.c 1 [(.int .i64 1)]), some RCc73, some (.m 1 [(.ptr 1 0 0)]), some (.m 1 [(.ref 6 0 2)]), some RCc74, some (.c 1 [(.int .i64 56)]), some (.c 1 [(.int .i64 0)])]))
theorem RCr510 : rE (gB RCM25_5) 220 RCe510 = some RCe510.2.2 := by kernel_rfl
def RCb25_5 : Tabl := [RCe509, RCe510]
theorem RCb25_5_ok : OkZ Tryz.prog 220 (tabSz RCb25_5) := gT RCM25_5_ok (fA RCr509 <| fA RCr510 <| nA)
noncomputable def RCM25_6 : List (Nat × Sz) := (220, tabSz RCb25_5) :: (18, tabSz RCa25) :: RCL5
theorem RCM25_6_ok : ∀ p ∈ RCM25_6, OkZ Tryz.prog p.1 p.2 := fA RCb25_5_ok <| fA RCa25_ok <| RCL5_ok
def RCe511 : Ent := ([RCc241, (.im (.sl true 0 [])), (.im (.int .i64 1000)), (.im (.int .i64 1)), RCc76], [], (false, (.tup [(.agg [(.im (.int .i64 0)), (.im (.int .i64 10)), (.im (.int .i64 (-1))), (.ref 0 0 1)]), (.im (.int .i64 0))]), [some (.c 1 [(.sl false 1 [(.int .i64 3)])])]))
theorem RCr511 : rE (gB RCM25_6) 33 RCe511 = some RCe511.2.2 := by kernel_rfl
def RCe512 : Ent := ([RCc243, (.im (.sl true 0 [])), (.im (.int .i64 1000)), (.im (.int .i64 1)), RCc76], [], (false, (.tup [(.im (.agg [(.int .i64 5), (.int .i64 79), (.int .i64 0), (.sl true 0 [])])), (.im (.int .i64 0))]), []))
theorem RCr512 : rE (gB RCM25_6) 33 RCe512 = some RCe512.2.2 := by kernel_rfl
def RCb25_6 : Tabl := [RCe511, RCe512]
theorem RCb25_6_ok : OkZ Tryz.prog 33 (tabSz RCb25_6) := gT RCM25_6_ok (fA RCr511 <| fA RCr512 <| nA)
def RCz25 : Tabl := RCb25_6
theorem RCz25_ok : OkZ Tryz.prog 33 (tabSz RCz25) := RCb25_6_ok
end Go.Proofs.YtkinbnepkpoofaaGreatDoor