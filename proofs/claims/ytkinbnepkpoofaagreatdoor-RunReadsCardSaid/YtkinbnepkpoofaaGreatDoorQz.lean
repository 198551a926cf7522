/- Texts joined into one: RRD. -/
import Derived.Test.YtkinbnepkpoofaaGreatDoorKg
import Derived.Test.YtkinbnepkpoofaaGreatDoorKe
/- RunReads: its programs; what is known ahead. -/
set_option maxRecDepth 1000000
set_option linter.unusedVariables false
open Go Go.AM
namespace Go.Proofs.YtkinbnepkpoofaaGreatDoor
abbrev RRe : Type := List AV × Heap × (Bool × AV × Heap)
def rrNil : D := .sl true 0 []
def rrEx (k n : Int) (nm : List UInt8) : D := .agg [.int .i64 k, .str [], .int .i64 n, .str nm, rrNil]
def rrV : D := .agg [.int .i64 1, .str [], .int .i64 0, .str [97], .sl true 0 []]
def rrRd : D := .agg [.int .i64 2, .int .i64 0, .str [97], .str [], .sl true 0 [], .sl true 0 [], .sl true 0 []]
def rrBk : D := .agg [.int .i64 6, .int .i64 0, .str [], .str [], .sl true 0 [], .sl true 0 [], .sl true 0 []]
def rrRet : D := .agg [.int .i64 8, .int .i64 0, .str [], .str [], .sl true 5 [.agg [.int .i64 0, .str [], .int .i64 0, .str [], .sl true 0 []]], .sl true 0 [], .sl true 0 []]
def rrOne : D := .agg [.int .i64 0, .str [], .int .i64 1, .str [], .sl true 0 []]
def rrS0 : D := .agg [.int .i64 1, .int .i64 0, .str [120, 115], .str [], .sl true 5 [.agg [.int .i64 0, .str [], .int .i64 0, .str [], .sl true 0 []], rrV], .sl true 0 [], .sl true 0 []]
def rrS1 : D := .agg [.int .i64 1, .int .i64 0, .str [120, 115], .str [], .sl true 5 [.agg [.int .i64 0, .str [], .int .i64 1, .str [], .sl true 0 []], rrV], .sl true 0 [], .sl true 0 []]
def rrS2 : D := .agg [.int .i64 1, .int .i64 0, .str [120, 115], .str [], .sl true 5 [.agg [.int .i64 0, .str [], .int .i64 2, .str [], .sl true 0 []], rrV], .sl true 0 [], .sl true 0 []]
def rrS3 : D := .agg [.int .i64 1, .int .i64 0, .str [120, 115], .str [], .sl true 5 [.agg [.int .i64 0, .str [], .int .i64 3, .str [], .sl true 0 []], rrV], .sl true 0 [], .sl true 0 []]
def rrS4 : D := .agg [.int .i64 1, .int .i64 0, .str [120, 115], .str [], .sl true 5 [.agg [.int .i64 0, .str [], .int .i64 4, .str [], .sl true 0 []], rrV], .sl true 0 [], .sl true 0 []]
def rrS5 : D := .agg [.int .i64 1, .int .i64 0, .str [120, 115], .str [], .sl true 5 [.agg [.int .i64 0, .str [], .int .i64 5, .str [], .sl true 0 []], rrV], .sl true 0 [], .sl true 0 []]
def rrS6 : D := .agg [.int .i64 1, .int .i64 0, .str [120, 115], .str [], .sl true 5 [.agg [.int .i64 0, .str [], .int .i64 6, .str [], .sl true 0 []], rrV], .sl true 0 [], .sl true 0 []]
def rrS7 : D := .agg [.int .i64 1, .int .i64 0, .str [120, 115], .str [], .sl true 5 [.agg [.int .i64 0, .str [], .int .i64 7, .str [], .sl true 0 []], rrV], .sl true 0 [], .sl true 0 []]
def rrS8 : D := .agg [.int .i64 1, .int .i64 0, .str [120, 115], .str [], .sl true 5 [.agg [.int .i64 0, .str [], .int .i64 8, .str [], .sl true 0 []], rrV], .sl true 0 [], .sl true 0 []]
def rrS9 : D := .agg [.int .i64 1, .int .i64 0, .str [120, 115], .str [], .sl true 5 [.agg [.int .i64 0, .str [], .int .i64 9, .str [], .sl true 0 []], rrV], .sl true 0 [], .sl true 0 []]
def rrS10 : D := .agg [.int .i64 1, .int .i64 0, .str [120, 115], .str [], .sl true 5 [.agg [.int .i64 0, .str [], .int .i64 10, .str [], .sl true 0 []], rrV], .sl true 0 [], .sl true 0 []]
def rrS11 : D := .agg [.int .i64 1, .int .i64 0, .str [120, 115], .str [], .sl true 5 [.agg [.int .i64 0, .str [], .int .i64 11, .str [], .sl true 0 []], rrV], .sl true 0 [], .sl true 0 []]
def rrS12 : D := .agg [.int .i64 1, .int .i64 0, .str [120, 115], .str [], .sl true 5 [.agg [.int .i64 0, .str [], .int .i64 12, .str [], .sl true 0 []], rrV], .sl true 0 [], .sl true 0 []]
def rrS13 : D := .agg [.int .i64 1, .int .i64 0, .str [120, 115], .str [], .sl true 5 [.agg [.int .i64 0, .str [], .int .i64 13, .str [], .sl true 0 []], rrV], .sl true 0 [], .sl true 0 []]
def rrB0 : List D := [rrBk]
def rrP0 : D := .agg [.sl false 4 [.agg [.str [109, 97, 105, 110], .sl true 0 [], .sl true 2 [.agg [.str [97], .int .i64 0], .agg [.str [120, 115], .int .i64 15]], .sl true 7 [.agg [.int .i64 5, .int .i64 0, .str [], .str [], .sl true 5 [rrOne], .sl false 7 rrB0, .sl true 0 []], rrRet]]]]
def rrB1 : List D := [rrRd, rrS0, rrBk]
def rrP1 : D := .agg [.sl false 4 [.agg [.str [109, 97, 105, 110], .sl true 0 [], .sl true 2 [.agg [.str [97], .int .i64 0], .agg [.str [120, 115], .int .i64 15]], .sl true 7 [.agg [.int .i64 5, .int .i64 0, .str [], .str [], .sl true 5 [rrOne], .sl false 7 rrB1, .sl true 0 []], rrRet]]]]
def rrB2 : List D := [rrRd, rrS0, rrRd, rrS1, rrBk]
def rrP2 : D := .agg [.sl false 4 [.agg [.str [109, 97, 105, 110], .sl true 0 [], .sl true 2 [.agg [.str [97], .int .i64 0], .agg [.str [120, 115], .int .i64 15]], .sl true 7 [.agg [.int .i64 5, .int .i64 0, .str [], .str [], .sl true 5 [rrOne], .sl false 7 rrB2, .sl true 0 []], rrRet]]]]
def rrB3 : List D := [rrRd, rrS0, rrRd, rrS1, rrRd, rrS2, rrBk]
def rrP3 : D := .agg [.sl false 4 [.agg [.str [109, 97, 105, 110], .sl true 0 [], .sl true 2 [.agg [.str [97], .int .i64 0], .agg [.str [120, 115], .int .i64 15]], .sl true 7 [.agg [.int .i64 5, .int .i64 0, .str [], .str [], .sl true 5 [rrOne], .sl false 7 rrB3, .sl true 0 []], rrRet]]]]
def rrB4 : List D := [rrRd, rrS0, rrRd, rrS1, rrRd, rrS2, rrRd, rrS3, rrBk]
def rrP4 : D := .agg [.sl false 4 [.agg [.str [109, 97, 105, 110], .sl true 0 [], .sl true 2 [.agg [.str [97], .int .i64 0], .agg [.str [120, 115], .int .i64 15]], .sl true 7 [.agg [.int .i64 5, .int .i64 0, .str [], .str [], .sl true 5 [rrOne], .sl false 7 rrB4, .sl true 0 []], rrRet]]]]
def rrB5 : List D := [rrRd, rrS0, rrRd, rrS1, rrRd, rrS2, rrRd, rrS3, rrRd, rrS4, rrBk]
def rrP5 : D := .agg [.sl false 4 [.agg [.str [109, 97, 105, 110], .sl true 0 [], .sl true 2 [.agg [.str [97], .int .i64 0], .agg [.str [120, 115], .int .i64 15]], .sl true 7 [.agg [.int .i64 5, .int .i64 0, .str [], .str [], .sl true 5 [rrOne], .sl false 7 rrB5, .sl true 0 []], rrRet]]]]
def rrB6 : List D := [rrRd, rrS0, rrRd, rrS1, rrRd, rrS2, rrRd, rrS3, rrRd, rrS4, rrRd, rrS5, rrBk]
def rrP6 : D := .agg [.sl false 4 [.agg [.str [109, 97, 105, 110], .sl true 0 [], .sl true 2 [.agg [.str [97], .int .i64 0], .agg [.str [120, 115], .int .i64 15]], .sl true 7 [.agg [.int .i64 5, .int .i64 0, .str [], .str [], .sl true 5 [rrOne], .sl false 7 rrB6, .sl true 0 []], rrRet]]]]
def rrB7 : List D := [rrRd, rrS0, rrRd, rrS1, rrRd, rrS2, rrRd, rrS3, rrRd, rrS4, rrRd, rrS5, rrRd, rrS6, rrBk]
def rrP7 : D := .agg [.sl false 4 [.agg [.str [109, 97, 105, 110], .sl true 0 [], .sl true 2 [.agg [.str [97], .int .i64 0], .agg [.str [120, 115], .int .i64 15]], .sl true 7 [.agg [.int .i64 5, .int .i64 0, .str [], .str [], .sl true 5 [rrOne], .sl false 7 rrB7, .sl true 0 []], rrRet]]]]
def rrB8 : List D := [rrRd, rrS0, rrRd, rrS1, rrRd, rrS2, rrRd, rrS3, rrRd, rrS4, rrRd, rrS5, rrRd, rrS6, rrRd, rrS7, rrBk]
def rrP8 : D := .agg [.sl false 4 [.agg [.str [109, 97, 105, 110], .sl true 0 [], .sl true 2 [.agg [.str [97], .int .i64 0], .agg [.str [120, 115], .int .i64 15]], .sl true 7 [.agg [.int .i64 5, .int .i64 0, .str [], .str [], .sl true 5 [rrOne], .sl false 7 rrB8, .sl true 0 []], rrRet]]]]
def rrB9 : List D := [rrRd, rrS0, rrRd, rrS1, rrRd, rrS2, rrRd, rrS3, rrRd, rrS4, rrRd, rrS5, rrRd, rrS6, rrRd, rrS7, rrRd, rrS8, rrBk]
def rrP9 : D := .agg [.sl false 4 [.agg [.str [109, 97, 105, 110], .sl true 0 [], .sl true 2 [.agg [.str [97], .int .i64 0], .agg [.str [120, 115], .int .i64 15]], .sl true 7 [.agg [.int .i64 5, .int .i64 0, .str [], .str [], .sl true 5 [rrOne], .sl false 7 rrB9, .sl true 0 []], rrRet]]]]
def rrB10 : List D := [rrRd, rrS0, rrRd, rrS1, rrRd, rrS2, rrRd, rrS3, rrRd, rrS4, rrRd, rrS5, rrRd, rrS6, rrRd, rrS7, rrRd, rrS8, rrRd, rrS9, rrBk]
def rrP10 : D := .agg [.sl false 4 [.agg [.str [109, 97, 105, 110], .sl true 0 [], .sl true 2 [.agg [.str [97], .int .i64 0], .agg [.str [120, 115], .int .i64 15]], .sl true 7 [.agg [.int .i64 5, .int .i64 0, .str [], .str [], .sl true 5 [rrOne], .sl false 7 rrB10, .sl true 0 []], rrRet]]]]
def rrB11 : List D := [rrRd, rrS0, rrRd, rrS1, rrRd, rrS2, rrRd, rrS3, rrRd, rrS4, rrRd, rrS5, rrRd, rrS6, rrRd, rrS7, rrRd, rrS8, rrRd, rrS9, rrRd, rrS10, rrBk]
def rrP11 : D := .agg [.sl false 4 [.agg [.str [109, 97, 105, 110], .sl true 0 [], .sl true 2 [.agg [.str [97], .int .i64 0], .agg [.str [120, 115], .int .i64 15]], .sl true 7 [.agg [.int .i64 5, .int .i64 0, .str [], .str [], .sl true 5 [rrOne], .sl false 7 rrB11, .sl true 0 []], rrRet]]]]
def rrB12 : List D := [rrRd, rrS0, rrRd, rrS1, rrRd, rrS2, rrRd, rrS3, rrRd, rrS4, rrRd, rrS5, rrRd, rrS6, rrRd, rrS7, rrRd, rrS8, rrRd, rrS9, rrRd, rrS10, rrRd, rrS11, rrBk]
def rrP12 : D := .agg [.sl false 4 [.agg [.str [109, 97, 105, 110], .sl true 0 [], .sl true 2 [.agg [.str [97], .int .i64 0], .agg [.str [120, 115], .int .i64 15]], .sl true 7 [.agg [.int .i64 5, .int .i64 0, .str [], .str [], .sl true 5 [rrOne], .sl false 7 rrB12, .sl true 0 []], rrRet]]]]
def rrB13 : List D := [rrRd, rrS0, rrRd, rrS1, rrRd, rrS2, rrRd, rrS3, rrRd, rrS4, rrRd, rrS5, rrRd, rrS6, rrRd, rrS7, rrRd, rrS8, rrRd, rrS9, rrRd, rrS10, rrRd, rrS11, rrRd, rrS12, rrBk]
def rrP13 : D := .agg [.sl false 4 [.agg [.str [109, 97, 105, 110], .sl true 0 [], .sl true 2 [.agg [.str [97], .int .i64 0], .agg [.str [120, 115], .int .i64 15]], .sl true 7 [.agg [.int .i64 5, .int .i64 0, .str [], .str [], .sl true 5 [rrOne], .sl false 7 rrB13, .sl true 0 []], rrRet]]]]
def rrB14 : List D := [rrRd, rrS0, rrRd, rrS1, rrRd, rrS2, rrRd, rrS3, rrRd, rrS4, rrRd, rrS5, rrRd, rrS6, rrRd, rrS7, rrRd, rrS8, rrRd, rrS9, rrRd, rrS10, rrRd, rrS11, rrRd, rrS12, rrRd, rrS13, rrBk]
def rrP14 : D := .agg [.sl false 4 [.agg [.str [109, 97, 105, 110], .sl true 0 [], .sl true 2 [.agg [.str [97], .int .i64 0], .agg [.str [120, 115], .int .i64 15]], .sl true 7 [.agg [.int .i64 5, .int .i64 0, .str [], .str [], .sl true 5 [rrOne], .sl false 7 rrB14, .sl true 0 []], rrRet]]]]
noncomputable def gB (l : List (Nat × Sz)) : BookR Tryz.prog T := bookR Tryz.prog T (fun f => Nat.beq f 132) l
theorem gT {l : List (Nat × Sz)} {f : Nat} {t : Tabl} (h : ∀ p ∈ l, OkZ Tryz.prog p.1 p.2) (ht : ∀ e ∈ t, runK (gB l) 1000 70 f e.1 e.2.1 = some e.2.2) : OkZ Tryz.prog f (tabSz t) := tab_ok (runK_ok hT hm (bookR_ok hn h) 70 f) ht
theorem fA {α : Type} {p : α → Prop} {a : α} {l : List α} (h : p a) (hl : ∀ x ∈ l, p x) : ∀ x ∈ a :: l, p x := List.forall_mem_cons.2 ⟨h, hl⟩
theorem nA {α : Type} {p : α → Prop} : ∀ x ∈ ([] : List α), p x := fun _ h => nomatch h
noncomputable def rrL0 : List (Nat × Sz) := known
theorem rrL0_ok : ∀ p ∈ rrL0, OkZ Tryz.prog p.1 p.2 := known_ok
def rrE123_0 : RRe := ([.im (.str [97])], [], (false, .im (.bool true), []))
theorem rrR123_0 : runK (gB rrL0) 1000 70 123 rrE123_0.1 rrE123_0.2.1 = some rrE123_0.2.2 := by kernel_rfl
def rrE123_1 : RRe := ([.im (.str [120, 115])], [], (false, .im (.bool true), []))
theorem rrR123_1 : runK (gB rrL0) 1000 70 123 rrE123_1.1 rrE123_1.2.1 = some rrE123_1.2.2 := by kernel_rfl
def rrE123_2 : RRe := ([.im (.str [109, 97, 105, 110])], [], (false, .im (.bool true), []))
theorem rrR123_2 : runK (gB rrL0) 1000 70 123 rrE123_2.1 rrE123_2.2.1 = some rrE123_2.2.2 := by kernel_rfl
def rrT123 : Tabl := [rrE123_0, rrE123_1, rrE123_2]
theorem rrT123_ok : OkZ Tryz.prog 123 (tabSz rrT123) := gT rrL0_ok (fA rrR123_0 <| fA rrR123_1 <| fA rrR123_2 <| nA)
noncomputable def rrL1 : List (Nat × Sz) := (123, tabSz rrT123) :: rrL0
theorem rrL1_ok : ∀ p ∈ rrL1, OkZ Tryz.prog p.1 p.2 := fA rrT123_ok rrL0_ok
def rrE213_0 : RRe := ([.im rrV], [], (false, .im (.bool true), []))
theorem rrR213_0 : runK (gB rrL1) 1000 70 213 rrE213_0.1 rrE213_0.2.1 = some rrE213_0.2.2 := by kernel_rfl
def rrT213 : Tabl := [rrE213_0]
theorem rrT213_ok : OkZ Tryz.prog 213 (tabSz rrT213) := gT rrL1_ok (fA rrR213_0 <| nA)
noncomputable def rrL2 : List (Nat × Sz) := (213, tabSz rrT213) :: rrL1
theorem rrL2_ok : ∀ p ∈ rrL2, OkZ Tryz.prog p.1 p.2 := fA rrT213_ok rrL1_ok
def lastV (r : Option (Bool × AV × Heap)) : Option (Nat × Int × D) := match r with
 | some (false, .tup [.ref 0 0 n, .im (.int .i64 e)], [some (.c 2 ds)]) => match Nat.beq ds.length n with
  | true => match ds.getLast? with
   | some d => some (n, e, d)
   | none => none
  | false => none
 | _ => none
def wantA (n : Nat) (xs : List Int) : List D := (List.range 15).map fun i => .int .i64 (cond (Nat.blt i n) (match xs[i]? with
 | some x => x
 | none => 0) 0)
def wantC (n : Nat) (xs : List Int) (a : D) : D := .agg [.int .i64 (Int.ofNat (2 * n + 2)), .sl false 3 [.agg [.str [97], .bool false, .sl false 1 [a]], .agg [.str [120, 115], .bool true, .sl false 1 (wantA n xs)]]]
end Go.Proofs.YtkinbnepkpoofaaGreatDoor