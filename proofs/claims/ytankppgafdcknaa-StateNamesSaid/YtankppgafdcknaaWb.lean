/- Texts joined into one: the first of them is told below. -/
import Derived.Test.YtankppgafdcknaaWa
/- The examples of chapter 12, run. -/
set_option maxRecDepth 100000
open Go Go.AM
namespace Go.Proofs.Ytankppgafdcknaa
noncomputable def c22 : Entry Try.prog := mkC hT hm 22 fi22 fi22_ok [] 1000
noncomputable def c18 : Entry Try.prog := mkC hT hm 18 fi18 fi18_ok [] 1000
noncomputable def c47 : Entry Try.prog := mkC hT hm 47 fi47 fi47_ok [] 1000
noncomputable def c43 : Entry Try.prog := mkC hT hm 43 fi43 fi43_ok [] 1000
noncomputable def c45 : Entry Try.prog := mkC hT hm 45 fi45 fi45_ok [] 1000
noncomputable def c49 : Entry Try.prog := mkC hT hm 49 fi49 fi49_ok [] 1000
noncomputable def c21 : Entry Try.prog := mkC hT hm 21 fi21 fi21_ok [c49, c47] 1000
noncomputable def c50 : Entry Try.prog := mkC hT hm 50 fi50 fi50_ok [] 1000
noncomputable def c19 : Entry Try.prog := mkC hT hm 19 fi19 fi19_ok [c50] 1000
noncomputable def c20 : Entry Try.prog := mkC hT hm 20 fi20 fi20_ok [] 1000
noncomputable def c72 : Entry Try.prog := mkC hT hm 72 fi72 fi72_ok [c47] 1000
noncomputable def c64 : Entry Try.prog := mkC hT hm 64 fi64 fi64_ok [c18, c72] 1000
noncomputable def c67 : Entry Try.prog := mkC hT hm 67 fi67 fi67_ok [c18] 1000
noncomputable def c66 : Entry Try.prog := mkC hT hm 66 fi66 fi66_ok [c67] 1000
noncomputable def c46 : Entry Try.prog := mkC hT hm 46 fi46 fi46_ok [c66] 1000
noncomputable def c17 : Entry Try.prog := mkC hT hm 17 fi17 fi17_ok [c18, c43, e48, c49] 1000
noncomputable def c63 : Entry Try.prog := mkC hT hm 63 fi63_64 fi63_64_ok [e48, c64] 1000
noncomputable def c41 : Entry Try.prog := mkC hT hm 41 fi41 fi41_ok [c63] 1000
noncomputable def c44 : Entry Try.prog := mkC hT hm 44 fi44 fi44_ok [c17, c64, c21] 1000
noncomputable def c62 : Entry Try.prog := mkC hT hm 62 fi62 fi62_ok [c45] 1000
noncomputable def c71 : Entry Try.prog := mkC hT hm 71 fi71_62 fi71_62_ok [c62] 1000
noncomputable def c61 : Entry Try.prog := mkC hT hm 61 fi61_62 fi61_62_ok [c71] 1000
noncomputable def c60 : Entry Try.prog := mkC hT hm 60 fi60 fi60_ok [c61] 1000
noncomputable def c59 : Entry Try.prog := mkC hT hm 59 fi59_60 fi59_60_ok [c60] 1000
noncomputable def c40 : Entry Try.prog := mkC hT hm 40 fi40 fi40_ok [c59] 1000
noncomputable def c51 : Entry Try.prog := mkC hT hm 51 fi51 fi51_ok [e68] 1000
noncomputable def c52 : Entry Try.prog := mkC hT hm 52 fi52 fi52_ok [] 1000
noncomputable def c23 : Entry Try.prog := mkC hT hm 23 fi23 fi23_ok [c51] 1000
noncomputable def c24 : Entry Try.prog := mkC hT hm 24 fi24 fi24_ok [c51, c52] 1000
noncomputable def c25 : Entry Try.prog := mkC hT hm 25 fi25 fi25_ok [] 1000
noncomputable def fi14 : Fi := mkFi T Try.f14 { }
theorem fi14_ok : fi14.ok Try.prog 14 := ⟨Try.func14, by decide, rfl, by rfl⟩
noncomputable def l14 : List (Entry Try.prog) := [c23, c17, c22, c44, c21, c20, c47, c41, c46, c43, c24, c25, c19, c40]
theorem run14 : callBody T (callOf l14) fi14 1000 [] [] = some (.im (.bool true), []) := by
  kernel_rfl
noncomputable def e14 : Entry Try.prog := mkV hT hm 14 fi14 fi14_ok l14 1000 _ run14
end Go.Proofs.Ytankppgafdcknaa
