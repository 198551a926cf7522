/- Texts joined into one: RCT. -/
import Derived.Test.YtkinbnepkpoofaaGreatDoorQg0
import Derived.Test.YtkinbnepkpoofaaGreatDoorQg1
import Derived.Test.YtkinbnepkpoofaaGreatDoorQg2
import Derived.Test.YtkinbnepkpoofaaGreatDoorQg3
import Derived.Test.YtkinbnepkpoofaaGreatDoorQg4
import Derived.Test.YtkinbnepkpoofaaGreatDoorQg5
import Derived.Test.YtkinbnepkpoofaaGreatDoorQg6
import Derived.Test.YtkinbnepkpoofaaGreatDoorQg7
import Derived.Test.YtkinbnepkpoofaaGreatDoorQg8
import Derived.Test.YtkinbnepkpoofaaGreatDoorQg9
import Derived.Test.YtkinbnepkpoofaaGreatDoorQg10
import Derived.Test.YtkinbnepkpoofaaGreatDoorQg11
import Derived.Test.YtkinbnepkpoofaaGreatDoorQg12
import Derived.Test.YtkinbnepkpoofaaGreatDoorQg13
import Derived.Test.YtkinbnepkpoofaaGreatDoorQg14
import Derived.Test.YtkinbnepkpoofaaGreatDoorQg15
import Derived.Test.YtkinbnepkpoofaaGreatDoorQg16
import Derived.Test.YtkinbnepkpoofaaGreatDoorQg17
import Derived.Test.YtkinbnepkpoofaaGreatDoorQg18
import Derived.Test.YtkinbnepkpoofaaGreatDoorQg19
import Derived.Test.YtkinbnepkpoofaaGreatDoorQg20
import Derived.Test.YtkinbnepkpoofaaGreatDoorQg21
import Derived.Test.YtkinbnepkpoofaaGreatDoorQg22
import Derived.Test.YtkinbnepkpoofaaGreatDoorQg23
import Derived.Test.YtkinbnepkpoofaaGreatDoorQg24
import Derived.Test.YtkinbnepkpoofaaGreatDoorQg25
import Derived.Test.YtkinbnepkpoofaaGreatDoorQg26
import Derived.Test.YtkinbnepkpoofaaGreatDoorQg27
import Derived.Test.YtkinbnepkpoofaaGreatDoorQg28
import Derived.Test.YtkinbnepkpoofaaGreatDoorQg29
import Derived.Test.YtkinbnepkpoofaaGreatDoorRd
/- All runs. -/
set_option maxRecDepth 1000000
set_option linter.unusedVariables false
open Go Go.AM
namespace Go.Proofs.YtkinbnepkpoofaaGreatDoor
noncomputable def orS : List Tabl → Sz
 | [] => fun _ _ => none
 | t :: ts => fun xs H => match tabSz t xs H with
  | some r => some r
  | none => orS ts xs H
theorem orS_ok : ∀ {l : List Tabl}, (∀ t ∈ l, OkZ Tryz.prog 33 (tabSz t)) → OkZ Tryz.prog 33 (orS l)
 | [], _ => none_ok
 | t :: ts, h => OkZ.orElse (h t (by simp)) (orS_ok fun x hx => h x (List.mem_cons_of_mem _ hx))
noncomputable def RCall33 : List Tabl := [RCz0, RCz1, RCz2, RCz3, RCz4, RCz5, RCz6, RCz7, RCz8, RCz9, RCz10, RCz11, RCz12, RCz13, RCz14, RCz15, RCz16, RCz17, RCz18, RCz19, RCz20, RCz21, RCz22, RCz23, RCz24, RCz25, RCz26, RCz27, RCz28, RCz29]
theorem RCall33_ok : ∀ t ∈ RCall33, OkZ Tryz.prog 33 (tabSz t) := fA RCz0_ok <| fA RCz1_ok <| fA RCz2_ok <| fA RCz3_ok <| fA RCz4_ok <| fA RCz5_ok <| fA RCz6_ok <| fA RCz7_ok <| fA RCz8_ok <| fA RCz9_ok <| fA RCz10_ok <| fA RCz11_ok <| fA RCz12_ok <| fA RCz13_ok <| fA RCz14_ok <| fA RCz15_ok <| fA RCz16_ok <| fA RCz17_ok <| fA RCz18_ok <| fA RCz19_ok <| fA RCz20_ok <| fA RCz21_ok <| fA RCz22_ok <| fA RCz23_ok <| fA RCz24_ok <| fA RCz25_ok <| fA RCz26_ok <| fA RCz27_ok <| fA RCz28_ok <| fA RCz29_ok <| nA
noncomputable def RCLT : List (Nat × Sz) := (33, orS RCall33) :: (31, constSz (false, .im (.bool true), [])) :: RCL5
theorem RCLT_ok : ∀ p ∈ RCLT, OkZ Tryz.prog p.1 p.2 := fA (orS_ok RCall33_ok) <| fA E08ok <| RCL5_ok
noncomputable def RCchk (n : Nat) : Bool := match runK (gB RCLT) 1000 70 12 [.im (.int .u8 n)] [] with
 | some (false, .im (.bool true), []) => true
 | _ => false
end Go.Proofs.YtkinbnepkpoofaaGreatDoor