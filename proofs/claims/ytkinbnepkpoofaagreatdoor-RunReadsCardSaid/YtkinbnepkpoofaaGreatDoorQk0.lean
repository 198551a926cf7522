/- Texts joined into one: RRK0. -/
import Derived.Test.YtkinbnepkpoofaaGreatDoorQz
/- RunReads: its programs may run. -/
set_option maxRecDepth 1000000
set_option linter.unusedVariables false
open Go Go.AM
namespace Go.Proofs.YtkinbnepkpoofaaGreatDoor
def rrC0 : RRe := ([.im rrP0], [], (false, .tup [.im (.int .i64 0), .im (.int .i64 (-1))], []))
theorem rrCr0 : runK (gB rrL2) 1000 70 18 rrC0.1 rrC0.2.1 = some rrC0.2.2 := by kernel_rfl
def rrU0 : Tabl := [rrC0]
theorem rrU0_ok : OkZ Tryz.prog 18 (tabSz rrU0) := gT rrL2_ok (fA rrCr0 nA)
noncomputable def rrK0 : List (Nat × Sz) := (18, tabSz rrU0) :: rrL2
theorem rrK0_ok : ∀ p ∈ rrK0, OkZ Tryz.prog p.1 p.2 := fA rrU0_ok rrL2_ok
noncomputable def rrX0 : Sz := runK (gB rrK0) 1000 70 33
theorem rrX0_ok : OkZ Tryz.prog 33 rrX0 := runK_ok hT hm (bookR_ok hn rrK0_ok) 70 33
noncomputable def rrY0 : Sz := runK (gB rrK0) 1000 70 37
theorem rrY0_ok : OkZ Tryz.prog 37 rrY0 := runK_ok hT hm (bookR_ok hn rrK0_ok) 70 37
def rrC1 : RRe := ([.im rrP1], [], (false, .tup [.im (.int .i64 0), .im (.int .i64 (-1))], []))
theorem rrCr1 : runK (gB rrL2) 1000 70 18 rrC1.1 rrC1.2.1 = some rrC1.2.2 := by kernel_rfl
def rrU1 : Tabl := [rrC1]
theorem rrU1_ok : OkZ Tryz.prog 18 (tabSz rrU1) := gT rrL2_ok (fA rrCr1 nA)
noncomputable def rrK1 : List (Nat × Sz) := (18, tabSz rrU1) :: rrL2
theorem rrK1_ok : ∀ p ∈ rrK1, OkZ Tryz.prog p.1 p.2 := fA rrU1_ok rrL2_ok
noncomputable def rrX1 : Sz := runK (gB rrK1) 1000 70 33
theorem rrX1_ok : OkZ Tryz.prog 33 rrX1 := runK_ok hT hm (bookR_ok hn rrK1_ok) 70 33
noncomputable def rrY1 : Sz := runK (gB rrK1) 1000 70 37
theorem rrY1_ok : OkZ Tryz.prog 37 rrY1 := runK_ok hT hm (bookR_ok hn rrK1_ok) 70 37
def rrC2 : RRe := ([.im rrP2], [], (false, .tup [.im (.int .i64 0), .im (.int .i64 (-1))], []))
theorem rrCr2 : runK (gB rrL2) 1000 70 18 rrC2.1 rrC2.2.1 = some rrC2.2.2 := by kernel_rfl
def rrU2 : Tabl := [rrC2]
theorem rrU2_ok : OkZ Tryz.prog 18 (tabSz rrU2) := gT rrL2_ok (fA rrCr2 nA)
noncomputable def rrK2 : List (Nat × Sz) := (18, tabSz rrU2) :: rrL2
theorem rrK2_ok : ∀ p ∈ rrK2, OkZ Tryz.prog p.1 p.2 := fA rrU2_ok rrL2_ok
noncomputable def rrX2 : Sz := runK (gB rrK2) 1000 70 33
theorem rrX2_ok : OkZ Tryz.prog 33 rrX2 := runK_ok hT hm (bookR_ok hn rrK2_ok) 70 33
noncomputable def rrY2 : Sz := runK (gB rrK2) 1000 70 37
theorem rrY2_ok : OkZ Tryz.prog 37 rrY2 := runK_ok hT hm (bookR_ok hn rrK2_ok) 70 37
def rrC3 : RRe := ([.im rrP3], [], (false, .tup [.im (.int .i64 0), .im (.int .i64 (-1))], []))
theorem rrCr3 : runK (gB rrL2) 1000 70 18 rrC3.1 rrC3.2.1 = some rrC3.2.2 := by kernel_rfl
def rrU3 : Tabl := [rrC3]
theorem rrU3_ok : OkZ Tryz.prog 18 (tabSz rrU3) := gT rrL2_ok (fA rrCr3 nA)
noncomputable def rrK3 : List (Nat × Sz) := (18, tabSz rrU3) :: rrL2
theorem rrK3_ok : ∀ p ∈ rrK3, OkZ Tryz.prog p.1 p.2 := fA rrU3_ok rrL2_ok
noncomputable def rrX3 : Sz := runK (gB rrK3) 1000 70 33
theorem rrX3_ok : OkZ Tryz.prog 33 rrX3 := runK_ok hT hm (bookR_ok hn rrK3_ok) 70 33
noncomputable def rrY3 : Sz := runK (gB rrK3) 1000 70 37
theorem rrY3_ok : OkZ Tryz.prog 37 rrY3 := runK_ok hT hm (bookR_ok hn rrK3_ok) 70 37
def rrC4 : RRe := ([.im rrP4], [], (false, .tup [.im (.int .i64 0), .im (.int .i64 (-1))], []))
theorem rrCr4 : runK (gB rrL2) 1000 70 18 rrC4.1 rrC4.2.1 = some rrC4.2.2 := by kernel_rfl
def rrU4 : Tabl := [rrC4]
theorem rrU4_ok : OkZ Tryz.prog 18 (tabSz rrU4) := gT rrL2_ok (fA rrCr4 nA)
noncomputable def rrK4 : List (Nat × Sz) := (18, tabSz rrU4) :: rrL2
theorem rrK4_ok : ∀ p ∈ rrK4, OkZ Tryz.prog p.1 p.2 := fA rrU4_ok rrL2_ok
noncomputable def rrX4 : Sz := runK (gB rrK4) 1000 70 33
theorem rrX4_ok : OkZ Tryz.prog 33 rrX4 := runK_ok hT hm (bookR_ok hn rrK4_ok) 70 33
noncomputable def rrY4 : Sz := runK (gB rrK4) 1000 70 37
theorem rrY4_ok : OkZ Tryz.prog 37 rrY4 := runK_ok hT hm (bookR_ok hn rrK4_ok) 70 37
def rrC5 : RRe := ([.im rrP5], [], (false, .tup [.im (.int .i64 0), .im (.int .i64 (-1))], []))
theorem rrCr5 : runK (gB rrL2) 1000 70 18 rrC5.1 rrC5.2.1 = some rrC5.2.2 := by kernel_rfl
def rrU5 : Tabl := [rrC5]
theorem rrU5_ok : OkZ Tryz.prog 18 (tabSz rrU5) := gT rrL2_ok (fA rrCr5 nA)
noncomputable def rrK5 : List (Nat × Sz) := (18, tabSz rrU5) :: rrL2
theorem rrK5_ok : ∀ p ∈ rrK5, OkZ Tryz.prog p.1 p.2 := fA rrU5_ok rrL2_ok
noncomputable def rrX5 : Sz := runK (gB rrK5) 1000 70 33
theorem rrX5_ok : OkZ Tryz.prog 33 rrX5 := runK_ok hT hm (bookR_ok hn rrK5_ok) 70 33
noncomputable def rrY5 : Sz := runK (gB rrK5) 1000 70 37
theorem rrY5_ok : OkZ Tryz.prog 37 rrY5 := runK_ok hT hm (bookR_ok hn rrK5_ok) 70 37
def rrC6 : RRe := ([.im rrP6], [], (false, .tup [.im (.int .i64 0), .im (.int .i64 (-1))], []))
theorem rrCr6 : runK (gB rrL2) 1000 70 18 rrC6.1 rrC6.2.1 = some rrC6.2.2 := by kernel_rfl
def rrU6 : Tabl := [rrC6]
theorem rrU6_ok : OkZ Tryz.prog 18 (tabSz rrU6) := gT rrL2_ok (fA rrCr6 nA)
noncomputable def rrK6 : List (Nat × Sz) := (18, tabSz rrU6) :: rrL2
theorem rrK6_ok : ∀ p ∈ rrK6, OkZ Tryz.prog p.1 p.2 := fA rrU6_ok rrL2_ok
noncomputable def rrX6 : Sz := runK (gB rrK6) 1000 70 33
theorem rrX6_ok : OkZ Tryz.prog 33 rrX6 := runK_ok hT hm (bookR_ok hn rrK6_ok) 70 33
noncomputable def rrY6 : Sz := runK (gB rrK6) 1000 70 37
theorem rrY6_ok : OkZ Tryz.prog 37 rrY6 := runK_ok hT hm (bookR_ok hn rrK6_ok) 70 37
def rrC7 : RRe := ([.im rrP7], [], (false, .tup [.im (.int .i64 0), .im (.int .i64 (-1))], []))
theorem rrCr7 : runK (gB rrL2) 1000 70 18 rrC7.1 rrC7.2.1 = some rrC7.2.2 := by kernel_rfl
def rrU7 : Tabl := [rrC7]
theorem rrU7_ok : OkZ Tryz.prog 18 (tabSz rrU7) := gT rrL2_ok (fA rrCr7 nA)
noncomputable def rrK7 : List (Nat × Sz) := (18, tabSz rrU7) :: rrL2
theorem rrK7_ok : ∀ p ∈ rrK7, OkZ Tryz.prog p.1 p.2 := fA rrU7_ok rrL2_ok
noncomputable def rrX7 : Sz := runK (gB rrK7) 1000 70 33
theorem rrX7_ok : OkZ Tryz.prog 33 rrX7 := runK_ok hT hm (bookR_ok hn rrK7_ok) 70 33
noncomputable def rrY7 : Sz := runK (gB rrK7) 1000 70 37
theorem rrY7_ok : OkZ Tryz.prog 37 rrY7 := runK_ok hT hm (bookR_ok hn rrK7_ok) 70 37
end Go.Proofs.YtkinbnepkpoofaaGreatDoor