/- Texts joined into one: RRK1. -/
import Derived.Test.YtkinbnepkpoofaaGreatDoorQz
/- RunReads: its programs may run. -/
set_option maxRecDepth 1000000
set_option linter.unusedVariables false
open Go Go.AM
namespace Go.Proofs.YtkinbnepkpoofaaGreatDoor
def rrC8 : RRe := ([.im rrP8], [], (false, .tup [.im (.int .i64 0), .im (.int .i64 (-1))], []))
theorem rrCr8 : runK (gB rrL2) 1000 70 18 rrC8.1 rrC8.2.1 = some rrC8.2.2 := by kernel_rfl
def rrU8 : Tabl := [rrC8]
theorem rrU8_ok : OkZ Tryz.prog 18 (tabSz rrU8) := gT rrL2_ok (fA rrCr8 nA)
noncomputable def rrK8 : List (Nat × Sz) := (18, tabSz rrU8) :: rrL2
theorem rrK8_ok : ∀ p ∈ rrK8, OkZ Tryz.prog p.1 p.2 := fA rrU8_ok rrL2_ok
noncomputable def rrX8 : Sz := runK (gB rrK8) 1000 70 33
theorem rrX8_ok : OkZ Tryz.prog 33 rrX8 := runK_ok hT hm (bookR_ok hn rrK8_ok) 70 33
noncomputable def rrY8 : Sz := runK (gB rrK8) 1000 70 37
theorem rrY8_ok : OkZ Tryz.prog 37 rrY8 := runK_ok hT hm (bookR_ok hn rrK8_ok) 70 37
def rrC9 : RRe := ([.im rrP9], [], (false, .tup [.im (.int .i64 0), .im (.int .i64 (-1))], []))
theorem rrCr9 : runK (gB rrL2) 1000 70 18 rrC9.1 rrC9.2.1 = some rrC9.2.2 := by kernel_rfl
def rrU9 : Tabl := [rrC9]
theorem rrU9_ok : OkZ Tryz.prog 18 (tabSz rrU9) := gT rrL2_ok (fA rrCr9 nA)
noncomputable def rrK9 : List (Nat × Sz) := (18, tabSz rrU9) :: rrL2
theorem rrK9_ok : ∀ p ∈ rrK9, OkZ Tryz.prog p.1 p.2 := fA rrU9_ok rrL2_ok
noncomputable def rrX9 : Sz := runK (gB rrK9) 1000 70 33
theorem rrX9_ok : OkZ Tryz.prog 33 rrX9 := runK_ok hT hm (bookR_ok hn rrK9_ok) 70 33
noncomputable def rrY9 : Sz := runK (gB rrK9) 1000 70 37
theorem rrY9_ok : OkZ Tryz.prog 37 rrY9 := runK_ok hT hm (bookR_ok hn rrK9_ok) 70 37
def rrC10 : RRe := ([.im rrP10], [], (false, .tup [.im (.int .i64 0), .im (.int .i64 (-1))], []))
theorem rrCr10 : runK (gB rrL2) 1000 70 18 rrC10.1 rrC10.2.1 = some rrC10.2.2 := by kernel_rfl
def rrU10 : Tabl := [rrC10]
theorem rrU10_ok : OkZ Tryz.prog 18 (tabSz rrU10) := gT rrL2_ok (fA rrCr10 nA)
noncomputable def rrK10 : List (Nat × Sz) := (18, tabSz rrU10) :: rrL2
theorem rrK10_ok : ∀ p ∈ rrK10, OkZ Tryz.prog p.1 p.2 := fA rrU10_ok rrL2_ok
noncomputable def rrX10 : Sz := runK (gB rrK10) 1000 70 33
theorem rrX10_ok : OkZ Tryz.prog 33 rrX10 := runK_ok hT hm (bookR_ok hn rrK10_ok) 70 33
noncomputable def rrY10 : Sz := runK (gB rrK10) 1000 70 37
theorem rrY10_ok : OkZ Tryz.prog 37 rrY10 := runK_ok hT hm (bookR_ok hn rrK10_ok) 70 37
def rrC11 : RRe := ([.im rrP11], [], (false, .tup [.im (.int .i64 0), .im (.int .i64 (-1))], []))
theorem rrCr11 : runK (gB rrL2) 1000 70 18 rrC11.1 rrC11.2.1 = some rrC11.2.2 := by kernel_rfl
def rrU11 : Tabl := [rrC11]
theorem rrU11_ok : OkZ Tryz.prog 18 (tabSz rrU11) := gT rrL2_ok (fA rrCr11 nA)
noncomputable def rrK11 : List (Nat × Sz) := (18, tabSz rrU11) :: rrL2
theorem rrK11_ok : ∀ p ∈ rrK11, OkZ Tryz.prog p.1 p.2 := fA rrU11_ok rrL2_ok
noncomputable def rrX11 : Sz := runK (gB rrK11) 1000 70 33
theorem rrX11_ok : OkZ Tryz.prog 33 rrX11 := runK_ok hT hm (bookR_ok hn rrK11_ok) 70 33
noncomputable def rrY11 : Sz := runK (gB rrK11) 1000 70 37
theorem rrY11_ok : OkZ Tryz.prog 37 rrY11 := runK_ok hT hm (bookR_ok hn rrK11_ok) 70 37
end Go.Proofs.YtkinbnepkpoofaaGreatDoor