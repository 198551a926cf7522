/- Texts joined into one: RRK2. -/
import Derived.Test.YtkinbnepkpoofaaGreatDoorQz
/- RunReads: its programs may run. -/
set_option maxRecDepth 1000000
set_option linter.unusedVariables false
open Go Go.AM
namespace Go.Proofs.YtkinbnepkpoofaaGreatDoor
def rrC12 : RRe := ([.im rrP12], [], (false, .tup [.im (.int .i64 0), .im (.int .i64 (-1))], []))
theorem rrCr12 : runK (gB rrL2) 1000 70 18 rrC12.1 rrC12.2.1 = some rrC12.2.2 := by kernel_rfl
def rrU12 : Tabl := [rrC12]
theorem rrU12_ok : OkZ Tryz.prog 18 (tabSz rrU12) := gT rrL2_ok (fA rrCr12 nA)
noncomputable def rrK12 : List (Nat × Sz) := (18, tabSz rrU12) :: rrL2
theorem rrK12_ok : ∀ p ∈ rrK12, OkZ Tryz.prog p.1 p.2 := fA rrU12_ok rrL2_ok
noncomputable def rrX12 : Sz := runK (gB rrK12) 1000 70 33
theorem rrX12_ok : OkZ Tryz.prog 33 rrX12 := runK_ok hT hm (bookR_ok hn rrK12_ok) 70 33
noncomputable def rrY12 : Sz := runK (gB rrK12) 1000 70 37
theorem rrY12_ok : OkZ Tryz.prog 37 rrY12 := runK_ok hT hm (bookR_ok hn rrK12_ok) 70 37
def rrC13 : RRe := ([.im rrP13], [], (false, .tup [.im (.int .i64 0), .im (.int .i64 (-1))], []))
theorem rrCr13 : runK (gB rrL2) 1000 70 18 rrC13.1 rrC13.2.1 = some rrC13.2.2 := by kernel_rfl
def rrU13 : Tabl := [rrC13]
theorem rrU13_ok : OkZ Tryz.prog 18 (tabSz rrU13) := gT rrL2_ok (fA rrCr13 nA)
noncomputable def rrK13 : List (Nat × Sz) := (18, tabSz rrU13) :: rrL2
theorem rrK13_ok : ∀ p ∈ rrK13, OkZ Tryz.prog p.1 p.2 := fA rrU13_ok rrL2_ok
noncomputable def rrX13 : Sz := runK (gB rrK13) 1000 70 33
theorem rrX13_ok : OkZ Tryz.prog 33 rrX13 := runK_ok hT hm (bookR_ok hn rrK13_ok) 70 33
noncomputable def rrY13 : Sz := runK (gB rrK13) 1000 70 37
theorem rrY13_ok : OkZ Tryz.prog 37 rrY13 := runK_ok hT hm (bookR_ok hn rrK13_ok) 70 37
def rrC14 : RRe := ([.im rrP14], [], (false, .tup [.im (.int .i64 0), .im (.int .i64 (-1))], []))
theorem rrCr14 : runK (gB rrL2) 1000 70 18 rrC14.1 rrC14.2.1 = some rrC14.2.2 := by kernel_rfl
def rrU14 : Tabl := [rrC14]
theorem rrU14_ok : OkZ Tryz.prog 18 (tabSz rrU14) := gT rrL2_ok (fA rrCr14 nA)
noncomputable def rrK14 : List (Nat × Sz) := (18, tabSz rrU14) :: rrL2
theorem rrK14_ok : ∀ p ∈ rrK14, OkZ Tryz.prog p.1 p.2 := fA rrU14_ok rrL2_ok
noncomputable def rrX14 : Sz := runK (gB rrK14) 1000 70 33
theorem rrX14_ok : OkZ Tryz.prog 33 rrX14 := runK_ok hT hm (bookR_ok hn rrK14_ok) 70 33
noncomputable def rrY14 : Sz := runK (gB rrK14) 1000 70 37
theorem rrY14_ok : OkZ Tryz.prog 37 rrY14 := runK_ok hT hm (bookR_ok hn rrK14_ok) 70 37
end Go.Proofs.YtkinbnepkpoofaaGreatDoor