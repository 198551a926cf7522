/- Texts joined into one: K6. -/
import Derived.Test.YtkinbnepkpoofaaGreatDoorYa
import Derived.Test.YtkinbnepkpoofaaGreatDoorKe
/- Closed runs of CheckSizes. -/
set_option maxRecDepth 1000000
set_option linter.unusedVariables false
namespace Go.Proofs.YtkinbnepkpoofaaGreatDoor
open Go Go.AM
def nm (i : Nat) : List UInt8 := [110, UInt8.ofNat (97 + i / 26), UInt8.ofNat (97 + i % 26)]
def mainN : List UInt8 := [109, 97, 105, 110]
def names (n : Nat) : List D := (List.range n).map fun i => .str (nm i)
noncomputable def kn : FuncId → Sz := runK BkE050 1000 70
theorem kn_ok (f : FuncId) : OkZ Tryz.prog f (kn f) := runK_ok hT hm BkE050_ok 70 f
theorem k_main : kn 123 [.im (.str mainN)] [] = some (false, .im (.bool true), []) := by kernel_rfl
theorem k_names : (List.range 40).all (fun i => isYes (kn 123 [.im (.str (nm i))] [])) = true := by kernel_rfl
theorem k_name {i : Nat} (h : i < 40) : kn 123 [.im (.str (nm i))] [] = some (false, .im (.bool true), []) := isYes_eq (List.all_eq_true.1 k_names i (List.mem_range.2 h))
theorem k98_0 : kn 98 [.im (.sl false 1 (names 0))] [] = some (false, .tup [], []) := by kernel_rfl
theorem k98_1 : kn 98 [.im (.sl false 1 (names 1))] [] = some (false, .tup [], []) := by kernel_rfl
theorem k98_2 : kn 98 [.im (.sl false 1 (names 2))] [] = some (false, .tup [], []) := by kernel_rfl
theorem k98_3 : kn 98 [.im (.sl false 1 (names 3))] [] = some (false, .tup [], []) := by kernel_rfl
theorem k98_4 : kn 98 [.im (.sl false 1 (names 4))] [] = some (false, .tup [], []) := by kernel_rfl
theorem k98_5 : kn 98 [.im (.sl false 1 (names 5))] [] = some (false, .tup [], []) := by kernel_rfl
theorem k98_6 : kn 98 [.im (.sl false 1 (names 6))] [] = some (false, .tup [], []) := by kernel_rfl
theorem k98_7 : kn 98 [.im (.sl false 1 (names 7))] [] = some (false, .tup [], []) := by kernel_rfl
theorem k98_8 : kn 98 [.im (.sl false 1 (names 8))] [] = some (false, .tup [], []) := by kernel_rfl
theorem k98_9 : kn 98 [.im (.sl false 1 (names 9))] [] = some (false, .tup [], []) := by kernel_rfl
theorem k98_10 : kn 98 [.im (.sl false 1 (names 10))] [] = some (false, .tup [], []) := by kernel_rfl
theorem k98_11 : kn 98 [.im (.sl false 1 (names 11))] [] = some (false, .tup [], []) := by kernel_rfl
theorem k98_12 : kn 98 [.im (.sl false 1 (names 12))] [] = some (false, .tup [], []) := by kernel_rfl
theorem k98_13 : kn 98 [.im (.sl false 1 (names 13))] [] = some (false, .tup [], []) := by kernel_rfl
theorem k98_14 : kn 98 [.im (.sl false 1 (names 14))] [] = some (false, .tup [], []) := by kernel_rfl
theorem k98_15 : kn 98 [.im (.sl false 1 (names 15))] [] = some (false, .tup [], []) := by kernel_rfl
theorem k98_16 : kn 98 [.im (.sl false 1 (names 16))] [] = some (false, .tup [], []) := by kernel_rfl
theorem k98_17 : kn 98 [.im (.sl false 1 (names 17))] [] = some (false, .tup [], []) := by kernel_rfl
theorem k98_18 : kn 98 [.im (.sl false 1 (names 18))] [] = some (false, .tup [], []) := by kernel_rfl
theorem k98_19 : kn 98 [.im (.sl false 1 (names 19))] [] = some (false, .tup [], []) := by kernel_rfl
theorem k98_20 : kn 98 [.im (.sl false 1 (names 20))] [] = some (false, .tup [], []) := by kernel_rfl
theorem k98_21 : kn 98 [.im (.sl false 1 (names 21))] [] = some (false, .tup [], []) := by kernel_rfl
theorem k98_22 : kn 98 [.im (.sl false 1 (names 22))] [] = some (false, .tup [], []) := by kernel_rfl
theorem k98_23 : kn 98 [.im (.sl false 1 (names 23))] [] = some (false, .tup [], []) := by kernel_rfl
theorem k98_24 : kn 98 [.im (.sl false 1 (names 24))] [] = some (false, .tup [], []) := by kernel_rfl
theorem k98 : ∀ n : Nat, n ≤ 24 → kn 98 [.im (.sl false 1 (names n))] [] = some (false, .tup [], [])
 | 0, _ => k98_0
 | 1, _ => k98_1
 | 2, _ => k98_2
 | 3, _ => k98_3
 | 4, _ => k98_4
 | 5, _ => k98_5
 | 6, _ => k98_6
 | 7, _ => k98_7
 | 8, _ => k98_8
 | 9, _ => k98_9
 | 10, _ => k98_10
 | 11, _ => k98_11
 | 12, _ => k98_12
 | 13, _ => k98_13
 | 14, _ => k98_14
 | 15, _ => k98_15
 | 16, _ => k98_16
 | 17, _ => k98_17
 | 18, _ => k98_18
 | 19, _ => k98_19
 | 20, _ => k98_20
 | 21, _ => k98_21
 | 22, _ => k98_22
 | 23, _ => k98_23
 | 24, _ => k98_24
 | n + 25, h => absurd h (by omega)
theorem k99_0 : kn 99 [.im (.sl false 1 (names 0))] [] = some (false, .im (.sl false 1 (names 0)), []) := by kernel_rfl
theorem k99_1 : kn 99 [.im (.sl false 1 (names 1))] [] = some (false, .im (.sl false 1 (names 1)), []) := by kernel_rfl
theorem k99_2 : kn 99 [.im (.sl false 1 (names 2))] [] = some (false, .im (.sl false 1 (names 2)), []) := by kernel_rfl
theorem k99_3 : kn 99 [.im (.sl false 1 (names 3))] [] = some (false, .im (.sl false 1 (names 3)), []) := by kernel_rfl
theorem k99_4 : kn 99 [.im (.sl false 1 (names 4))] [] = some (false, .im (.sl false 1 (names 4)), []) := by kernel_rfl
theorem k99_5 : kn 99 [.im (.sl false 1 (names 5))] [] = some (false, .im (.sl false 1 (names 5)), []) := by kernel_rfl
theorem k99_6 : kn 99 [.im (.sl false 1 (names 6))] [] = some (false, .im (.sl false 1 (names 6)), []) := by kernel_rfl
theorem k99_7 : kn 99 [.im (.sl false 1 (names 7))] [] = some (false, .im (.sl false 1 (names 7)), []) := by kernel_rfl
theorem k99_8 : kn 99 [.im (.sl false 1 (names 8))] [] = some (false, .im (.sl false 1 (names 8)), []) := by kernel_rfl
theorem k99_9 : kn 99 [.im (.sl false 1 (names 9))] [] = some (false, .im (.sl false 1 (names 9)), []) := by kernel_rfl
theorem k99_10 : kn 99 [.im (.sl false 1 (names 10))] [] = some (false, .im (.sl false 1 (names 10)), []) := by kernel_rfl
theorem k99_11 : kn 99 [.im (.sl false 1 (names 11))] [] = some (false, .im (.sl false 1 (names 11)), []) := by kernel_rfl
theorem k99_12 : kn 99 [.im (.sl false 1 (names 12))] [] = some (false, .im (.sl false 1 (names 12)), []) := by kernel_rfl
theorem k99_13 : kn 99 [.im (.sl false 1 (names 13))] [] = some (false, .im (.sl false 1 (names 13)), []) := by kernel_rfl
theorem k99_14 : kn 99 [.im (.sl false 1 (names 14))] [] = some (false, .im (.sl false 1 (names 14)), []) := by kernel_rfl
theorem k99_15 : kn 99 [.im (.sl false 1 (names 15))] [] = some (false, .im (.sl false 1 (names 15)), []) := by kernel_rfl
theorem k99_16 : kn 99 [.im (.sl false 1 (names 16))] [] = some (false, .im (.sl false 1 (names 16)), []) := by kernel_rfl
theorem k99_17 : kn 99 [.im (.sl false 1 (names 17))] [] = some (false, .im (.sl false 1 (names 17)), []) := by kernel_rfl
theorem k99_18 : kn 99 [.im (.sl false 1 (names 18))] [] = some (false, .im (.sl false 1 (names 18)), []) := by kernel_rfl
theorem k99_19 : kn 99 [.im (.sl false 1 (names 19))] [] = some (false, .im (.sl false 1 (names 19)), []) := by kernel_rfl
theorem k99_20 : kn 99 [.im (.sl false 1 (names 20))] [] = some (false, .im (.sl false 1 (names 20)), []) := by kernel_rfl
theorem k99_21 : kn 99 [.im (.sl false 1 (names 21))] [] = some (false, .im (.sl false 1 (names 21)), []) := by kernel_rfl
theorem k99_22 : kn 99 [.im (.sl false 1 (names 22))] [] = some (false, .im (.sl false 1 (names 22)), []) := by kernel_rfl
theorem k99_23 : kn 99 [.im (.sl false 1 (names 23))] [] = some (false, .im (.sl false 1 (names 23)), []) := by kernel_rfl
theorem k99_24 : kn 99 [.im (.sl false 1 (names 24))] [] = some (false, .im (.sl false 1 (names 24)), []) := by kernel_rfl
theorem k99 : ∀ n : Nat, n ≤ 24 → kn 99 [.im (.sl false 1 (names n))] [] = some (false, .im (.sl false 1 (names n)), [])
 | 0, _ => k99_0
 | 1, _ => k99_1
 | 2, _ => k99_2
 | 3, _ => k99_3
 | 4, _ => k99_4
 | 5, _ => k99_5
 | 6, _ => k99_6
 | 7, _ => k99_7
 | 8, _ => k99_8
 | 9, _ => k99_9
 | 10, _ => k99_10
 | 11, _ => k99_11
 | 12, _ => k99_12
 | 13, _ => k99_13
 | 14, _ => k99_14
 | 15, _ => k99_15
 | 16, _ => k99_16
 | 17, _ => k99_17
 | 18, _ => k99_18
 | 19, _ => k99_19
 | 20, _ => k99_20
 | 21, _ => k99_21
 | 22, _ => k99_22
 | 23, _ => k99_23
 | 24, _ => k99_24
 | n + 25, h => absurd h (by omega)
end Go.Proofs.YtkinbnepkpoofaaGreatDoor