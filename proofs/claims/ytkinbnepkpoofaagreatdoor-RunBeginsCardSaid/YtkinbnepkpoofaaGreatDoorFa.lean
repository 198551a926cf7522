/- Texts joined into one: BaseS UL F85 F84_0 F84_0n0 F44 F44_n0 F42 F10. -/
import Derived.Test.YtkinbnepkpoofaaGreatDoorKg
import Derived.Test.YtkinbnepkpoofaaGreatDoorKd
import Derived.Test.YtkinbnepkpoofaaGreatDoorKc
import Derived.Test.YtkinbnepkpoofaaGreatDoorKf
import Derived.KernelRfl
/- The machine with answers at this program: its table of types; what calls hand back. -/
set_option linter.unusedVariables false
set_option maxRecDepth 100000
namespace Go.Proofs.YtkinbnepkpoofaaGreatDoor
open Go Go.AM
def hmT (T : Tab) (t : TypeId) : S.Hm := match T.ty t with
 | some i => match i.desc with
  | .int k => .int k
  | .bool => .bool
  | .string => .str
  | _ => .any
 | none => .any
def hsL : List (Nat × S.Sg) := []
def rsT (T : Tab) (t : TypeId) : List S.Hm := match T.ty t with
 | some i => match i.desc with
  | .tuple ts => ts.toList.map (hmT T)
  | _ => [hmT T t]
 | none => []
noncomputable def SG : S.Sgs := ⟨rsT T, lookL hsL⟩
end Go.Proofs.YtkinbnepkpoofaaGreatDoor
/- Small laws for what functions come to. -/
set_option linter.unusedVariables false
namespace Go.Proofs.YtkinbnepkpoofaaGreatDoor
open Go Go.AM
theorem wrap_ok {n : Int} (h0 : -9223372036854775808 ≤ n) (h1 : n < 9223372036854775808) : IntKind.wrap .i64 n = n := Go.AM.wrap64 n h0 h1
@[simp] theorem asInt_int (k : IntKind) (n : Int) : (D.int k n).asInt k = some n := by simp [D.asInt]
@[simp] theorem asSl_sl (t : Bool) (z : Nat) (l : List D) : (D.sl t z l).asSl z = some l := by simp [D.asSl]
@[simp] theorem asStr_str (s : List UInt8) : (D.str s).asStr = some s := rfl
@[simp] theorem asBool_bool (b : Bool) : (D.bool b).asBool = some b := rfl
abbrev INT (n : Int) : D := .int .i64 n
abbrev ints (l : List Int) : List D := l.map (D.int .i64)
end Go.Proofs.YtkinbnepkpoofaaGreatDoor
/- slices.Equal[[]int64,int64]: what it comes to. -/
set_option linter.unusedVariables false
set_option maxRecDepth 100000
set_option maxHeartbeats 0
open Go Go.AM
namespace Go.Proofs.YtkinbnepkpoofaaGreatDoor
noncomputable def fi85 : Fi := mkFi T Tryz.f85 { live := fun d => if Nat.beq d 4 then slots 26 [0, 1, 12, 13] else none }
noncomputable abbrev X85 (cs : Oracle) : Px := fi85.px T cs 0
noncomputable abbrev K85 : S.Kz (S.Hms.T [.bool]) := S.finZ T fi85 0 (S.endP [.bool])
def E85_1 (a : List Go.AM.D) (b : List Go.AM.D) (s : (Int)) : Env :=
 match s with
 | v1 =>
  [Go.AM.AV.im (Go.AM.D.sl Bool.false (1 : Nat) a), Go.AM.AV.im (Go.AM.D.sl Bool.false (1 : Nat) b), Go.AM.AV.bad, Go.AM.AV.bad, Go.AM.AV.bad, Go.AM.AV.bad, Go.AM.AV.bad, Go.AM.AV.bad, Go.AM.AV.bad, Go.AM.AV.bad, Go.AM.AV.bad, Go.AM.AV.bad, Go.AM.AV.im (Go.AM.D.int Go.IntKind.i64 (↑(List.length a) : Int)), Go.AM.AV.im (Go.AM.D.int Go.IntKind.i64 v1), Go.AM.AV.bad, Go.AM.AV.bad, Go.AM.AV.bad, Go.AM.AV.bad, Go.AM.AV.bad, Go.AM.AV.bad, Go.AM.AV.bad, Go.AM.AV.bad, Go.AM.AV.bad, Go.AM.AV.bad, Go.AM.AV.bad, Go.AM.AV.bad]
def H85_1 (a : List Go.AM.D) (b : List Go.AM.D) (s : (Int)) : Heap :=
 match s with
 | v1 =>
  []
noncomputable def C85_1 (cs : Oracle) (lf : Nat)  : Go.Code × S.Kz (S.Hms.T [.bool]) := S.subZ (X85 cs) SG lf fi85.code [1, 1, 0, 1, 0] [] K85
noncomputable def B85_1 (cs : Oracle) (lf : Nat) (a : List Go.AM.D) (b : List Go.AM.D)   (s : (Int)) (R2 : (Int) → Option (S.Hms.T [.bool])) : Option (S.Hms.T [.bool]) :=
 match s with
 | v1 =>
  cond (Decidable.decide (v1 < (↑(List.length a) : Int)))
  (cond (Decidable.decide ((0 : Int) ≤ v1))
   (S.optZ (a[Int.toNat v1]?) fun (d3 : Go.AM.D) =>
    S.optZ (Go.AM.D.asInt Go.IntKind.i64 d3) fun (d4 : Int) =>
     cond (Decidable.decide ((0 : Int) ≤ v1))
      (S.optZ (b[Int.toNat v1]?) fun (d5 : Go.AM.D) =>
       S.optZ (Go.AM.D.asInt Go.IntKind.i64 d5) fun (d6 : Int) =>
        cond (d4 != d6)
         (some ((Bool.false, PUnit.unit)))
         (R2 (Go.IntKind.wrap Go.IntKind.i64 (v1 + (1 : Int)))))
      (none))
   (none))
  (some ((Bool.true, PUnit.unit)))
theorem B85_1_eq (cs : Oracle) (lf : Nat) (a : List Go.AM.D) (b : List Go.AM.D)   (n : Nat) (s : (Int)) : S.roundsZ (X85 cs) SG lf (C85_1 cs lf ) (n + 1) (E85_1 a b s) (H85_1 a b s) = B85_1 cs lf a b   s (fun s' => S.roundsZ (X85 cs) SG lf (C85_1 cs lf ) n (E85_1 a b s') (H85_1 a b s')) := by
 kernel_rfl
noncomputable def L85_1 (cs : Oracle) (lf : Nat) (a : List Go.AM.D) (b : List Go.AM.D)  : Nat → (Int) → Option (S.Hms.T [.bool])
 | 0, _ => none
 | n + 1, s => B85_1 cs lf a b   s (L85_1 cs lf a b  n)
theorem L85_1_eq (cs : Oracle) (lf : Nat) (a : List Go.AM.D) (b : List Go.AM.D)   : ∀ (n : Nat) (s : (Int)), S.roundsZ (X85 cs) SG lf (C85_1 cs lf ) n (E85_1 a b s) (H85_1 a b s) = L85_1 cs lf a b  n s
 | 0, s => by
  show _ = none
  kernel_rfl
 | n + 1, s => by
  have h1 : (fun s' => S.roundsZ (X85 cs) SG lf (C85_1 cs lf ) n (E85_1 a b s') (H85_1 a b s')) = L85_1 cs lf a b  n := funext (L85_1_eq cs lf a b   n)
  rw [B85_1_eq cs lf a b   n s, h1]
  rfl
noncomputable def G85 (cs : Oracle) (lf : Nat) (a : List Go.AM.D) (b : List Go.AM.D) (P85_1 : (List Go.AM.D) → (List Go.AM.D) → (Int) → Option (S.Hms.T [.bool])) : Option (S.Hms.T [.bool]) :=
 cond ((↑(List.length a) : Int) != (↑(List.length b) : Int))
  (some ((Bool.false, PUnit.unit)))
  (P85_1 a b ((0 : Int)))
theorem G85_eq (cs : Oracle) (lf : Nat) (a : List Go.AM.D) (b : List Go.AM.D) : S.bodyS T SG cs fi85 lf [.im (.sl false 1 a), .im (.sl false 1 b)] [] (S.endP [.bool]) = G85 cs lf a b (fun w0 w1 s2 => S.roundsZ (X85 cs) SG lf (C85_1 cs lf) lf (E85_1 w0 w1 s2) (H85_1 w0 w1 s2)) := by
 kernel_rfl
noncomputable def F85 (cs : Oracle) (lf : Nat) (a : List Go.AM.D) (b : List Go.AM.D) : Option (S.Hms.T [.bool]) := G85 cs lf a b (fun w0 w1 s2 => L85_1 cs lf w0 w1 lf s2)
theorem F85_eq (cs : Oracle) (lf : Nat) (a : List Go.AM.D) (b : List Go.AM.D) : S.bodyS T SG cs fi85 lf [.im (.sl false 1 a), .im (.sl false 1 b)] [] (S.endP [.bool]) = F85 cs lf a b := by
 rw [G85_eq]
 have h85_1 : (fun w0 w1 s2 => S.roundsZ (X85 cs) SG lf (C85_1 cs lf) lf (E85_1 w0 w1 s2) (H85_1 w0 w1 s2)) = (fun w0 w1 s2 => L85_1 cs lf w0 w1 lf s2) := by
  funext w0 w1 s2
  exact L85_1_eq cs lf w0 w1 lf s2
 rw [h85_1]
 rfl
theorem fi85_ok : fi85.ok Tryz.prog 85 := ⟨Tryz.func85, by decide, rfl, by rfl⟩
end Go.Proofs.YtkinbnepkpoofaaGreatDoor
/- slices.EqualFunc[[][]int64,[][]int64,[]int64,[]int64]: what it comes to. -/
set_option linter.unusedVariables false
set_option maxRecDepth 100000
set_option maxHeartbeats 0
open Go Go.AM
namespace Go.Proofs.YtkinbnepkpoofaaGreatDoor
noncomputable def fi84_0 : Fi := mkFi T Tryz.f84 { live := fun d => if Nat.beq d 4 then slots 32 [1, 2, 15, 16, 17] else none }
noncomputable abbrev X84_0 (cs : Oracle) : Px := fi84_0.px T cs 0
noncomputable abbrev K84_0 : S.Kz (S.Hms.T [.bool]) := S.finZ T fi84_0 0 (S.endP [.bool])
def E84_0_1 (a : List Go.AM.D) (b : List Go.AM.D) (cg : Nat) (s : (Int)) : Env :=
 match s with
 | v1 =>
  [Go.AM.AV.bad, Go.AM.AV.im (Go.AM.D.sl Bool.false (1 : Nat) b), Go.AM.AV.im (Go.AM.D.fn (Go.Fn.func cg) [] []), Go.AM.AV.bad, Go.AM.AV.bad, Go.AM.AV.bad, Go.AM.AV.bad, Go.AM.AV.bad, Go.AM.AV.bad, Go.AM.AV.bad, Go.AM.AV.bad, Go.AM.AV.bad, Go.AM.AV.bad, Go.AM.AV.bad, Go.AM.AV.bad, Go.AM.AV.im (Go.AM.D.sl Bool.false (1 : Nat) a), Go.AM.AV.im (Go.AM.D.int Go.IntKind.i64 (↑(List.length a) : Int)), Go.AM.AV.im (Go.AM.D.int Go.IntKind.i64 v1), Go.AM.AV.bad, Go.AM.AV.bad, Go.AM.AV.bad, Go.AM.AV.bad, Go.AM.AV.bad, Go.AM.AV.bad, Go.AM.AV.bad, Go.AM.AV.bad, Go.AM.AV.bad, Go.AM.AV.bad, Go.AM.AV.bad, Go.AM.AV.bad, Go.AM.AV.bad, Go.AM.AV.bad]
def H84_0_1 (a : List Go.AM.D) (b : List Go.AM.D) (cg : Nat) (s : (Int)) : Heap :=
 match s with
 | v1 =>
  []
noncomputable def C84_0_1 (cs : Oracle) (lf : Nat)  : Go.Code × S.Kz (S.Hms.T [.bool]) := S.subZ (X84_0 cs) SG lf fi84_0.code [1, 1, 0, 1, 0] [] K84_0
noncomputable def B84_0_1 (cs : Oracle) (lf : Nat) (a : List Go.AM.D) (b : List Go.AM.D) (cg : Nat)   (s : (Int)) (R2 : (Int) → Option (S.Hms.T [.bool])) : Option (S.Hms.T [.bool]) :=
 match s with
 | v1 =>
  cond (Decidable.decide (v1 < (↑(List.length a) : Int)))
  (cond (Decidable.decide ((0 : Int) ≤ v1))
   (S.optZ (a[Int.toNat v1]?) fun (d3 : Go.AM.D) =>
    S.optZ (Go.AM.D.asSl (1 : Nat) d3) fun (d4 : List Go.AM.D) =>
     cond (Decidable.decide ((0 : Int) ≤ v1))
      (S.optZ (b[Int.toNat v1]?) fun (d5 : Go.AM.D) =>
       S.optZ (Go.AM.D.asSl (1 : Nat) d5) fun (d6 : List Go.AM.D) =>
        S.optZ (Go.AM.S.pureS cs [Go.AM.S.Hm.bool] cg [Go.AM.AV.im (Go.AM.D.sl Bool.false (1 : Nat) d4), Go.AM.AV.im (Go.AM.D.sl Bool.false (1 : Nat) d6)]) fun (d7 : Bool × Unit) =>
         cond (!Prod.fst d7)
          (some ((Bool.false, PUnit.unit)))
          (R2 (Go.IntKind.wrap Go.IntKind.i64 (v1 + (1 : Int)))))
      (none))
   (none))
  (some ((Bool.true, PUnit.unit)))
theorem B84_0_1_eq (cs : Oracle) (lf : Nat) (a : List Go.AM.D) (b : List Go.AM.D) (cg : Nat)   (n : Nat) (s : (Int)) : S.roundsZ (X84_0 cs) SG lf (C84_0_1 cs lf ) (n + 1) (E84_0_1 a b cg s) (H84_0_1 a b cg s) = B84_0_1 cs lf a b cg   s (fun s' => S.roundsZ (X84_0 cs) SG lf (C84_0_1 cs lf ) n (E84_0_1 a b cg s') (H84_0_1 a b cg s')) := by
 kernel_rfl
noncomputable def L84_0_1 (cs : Oracle) (lf : Nat) (a : List Go.AM.D) (b : List Go.AM.D) (cg : Nat)  : Nat → (Int) → Option (S.Hms.T [.bool])
 | 0, _ => none
 | n + 1, s => B84_0_1 cs lf a b cg   s (L84_0_1 cs lf a b cg  n)
theorem L84_0_1_eq (cs : Oracle) (lf : Nat) (a : List Go.AM.D) (b : List Go.AM.D) (cg : Nat)   : ∀ (n : Nat) (s : (Int)), S.roundsZ (X84_0 cs) SG lf (C84_0_1 cs lf ) n (E84_0_1 a b cg s) (H84_0_1 a b cg s) = L84_0_1 cs lf a b cg  n s
 | 0, s => by
  show _ = none
  kernel_rfl
 | n + 1, s => by
  have h1 : (fun s' => S.roundsZ (X84_0 cs) SG lf (C84_0_1 cs lf ) n (E84_0_1 a b cg s') (H84_0_1 a b cg s')) = L84_0_1 cs lf a b cg  n := funext (L84_0_1_eq cs lf a b cg   n)
  rw [B84_0_1_eq cs lf a b cg   n s, h1]
  rfl
noncomputable def G84_0 (cs : Oracle) (lf : Nat) (a : List Go.AM.D) (b : List Go.AM.D) (cg : Nat) (P84_0_1 : (List Go.AM.D) → (List Go.AM.D) → (Nat) → (Int) → Option (S.Hms.T [.bool])) : Option (S.Hms.T [.bool]) :=
 cond ((↑(List.length a) : Int) != (↑(List.length b) : Int))
  (some ((Bool.false, PUnit.unit)))
  (P84_0_1 a b cg ((0 : Int)))
theorem G84_0_eq (cs : Oracle) (lf : Nat) (a : List Go.AM.D) (b : List Go.AM.D) (cg : Nat) : S.bodyS T SG cs fi84_0 lf [.im (.sl false 1 a), .im (.sl false 1 b), .im (.fn (.func cg) [] [])] [] (S.endP [.bool]) = G84_0 cs lf a b cg (fun w0 w1 w2 s2 => S.roundsZ (X84_0 cs) SG lf (C84_0_1 cs lf) lf (E84_0_1 w0 w1 w2 s2) (H84_0_1 w0 w1 w2 s2)) := by
 kernel_rfl
noncomputable def F84_0 (cs : Oracle) (lf : Nat) (a : List Go.AM.D) (b : List Go.AM.D) (cg : Nat) : Option (S.Hms.T [.bool]) := G84_0 cs lf a b cg (fun w0 w1 w2 s2 => L84_0_1 cs lf w0 w1 w2 lf s2)
theorem F84_0_eq (cs : Oracle) (lf : Nat) (a : List Go.AM.D) (b : List Go.AM.D) (cg : Nat) : S.bodyS T SG cs fi84_0 lf [.im (.sl false 1 a), .im (.sl false 1 b), .im (.fn (.func cg) [] [])] [] (S.endP [.bool]) = F84_0 cs lf a b cg := by
 rw [G84_0_eq]
 have h84_0_1 : (fun w0 w1 w2 s2 => S.roundsZ (X84_0 cs) SG lf (C84_0_1 cs lf) lf (E84_0_1 w0 w1 w2 s2) (H84_0_1 w0 w1 w2 s2)) = (fun w0 w1 w2 s2 => L84_0_1 cs lf w0 w1 w2 lf s2) := by
  funext w0 w1 w2 s2
  exact L84_0_1_eq cs lf w0 w1 w2 lf s2
 rw [h84_0_1]
 rfl
theorem fi84_0_ok : fi84_0.ok Tryz.prog 84 := ⟨Tryz.func84, by decide, rfl, by rfl⟩
end Go.Proofs.YtkinbnepkpoofaaGreatDoor
/- slices.EqualFunc[[][]int64,[][]int64,[]int64,[]int64]: what it comes to. -/
set_option linter.unusedVariables false
set_option maxRecDepth 100000
set_option maxHeartbeats 0
open Go Go.AM
namespace Go.Proofs.YtkinbnepkpoofaaGreatDoor
noncomputable def fi84_0n0 : Fi := mkFi T Tryz.f84 { live := fun d => if Nat.beq d 4 then slots 32 [1, 2, 15, 16, 17] else none }
noncomputable abbrev X84_0n0 (cs : Oracle) : Px := fi84_0n0.px T cs 0
noncomputable abbrev K84_0n0 : S.Kz (S.Hms.T [.bool]) := S.finZ T fi84_0n0 0 (S.endP [.bool])
def E84_0n0_1 (b : List Go.AM.D) (cg : Nat) (s : Unit) : Env :=
[Go.AM.AV.bad, Go.AM.AV.im (Go.AM.D.sl Bool.false (1 : Nat) b), Go.AM.AV.im (Go.AM.D.fn (Go.Fn.func cg) [] []), Go.AM.AV.bad, Go.AM.AV.bad, Go.AM.AV.bad, Go.AM.AV.bad, Go.AM.AV.bad, Go.AM.AV.bad, Go.AM.AV.bad, Go.AM.AV.bad, Go.AM.AV.bad, Go.AM.AV.bad, Go.AM.AV.bad, Go.AM.AV.bad, Go.AM.AV.im (Go.AM.D.sl Bool.true (0 : Nat) []), Go.AM.AV.im (Go.AM.D.int Go.IntKind.i64 (0 : Int)), Go.AM.AV.im (Go.AM.D.int Go.IntKind.i64 (0 : Int)), Go.AM.AV.bad, Go.AM.AV.bad, Go.AM.AV.bad, Go.AM.AV.bad, Go.AM.AV.bad, Go.AM.AV.bad, Go.AM.AV.bad, Go.AM.AV.bad, Go.AM.AV.bad, Go.AM.AV.bad, Go.AM.AV.bad, Go.AM.AV.bad, Go.AM.AV.bad, Go.AM.AV.bad]
def H84_0n0_1 (b : List Go.AM.D) (cg : Nat) (s : Unit) : Heap :=
[]
noncomputable def C84_0n0_1 (cs : Oracle) (lf : Nat)  : Go.Code × S.Kz (S.Hms.T [.bool]) := S.subZ (X84_0n0 cs) SG lf fi84_0n0.code [1, 1, 0, 1, 0] [] K84_0n0
noncomputable def B84_0n0_1 (cs : Oracle) (lf : Nat) (b : List Go.AM.D) (cg : Nat)   (s : Unit) (R1 : Unit → Option (S.Hms.T [.bool])) : Option (S.Hms.T [.bool]) :=
some ((Bool.true, PUnit.unit))
theorem B84_0n0_1_eq (cs : Oracle) (lf : Nat) (b : List Go.AM.D) (cg : Nat)   (n : Nat) (s : Unit) : S.roundsZ (X84_0n0 cs) SG lf (C84_0n0_1 cs lf ) (n + 1) (E84_0n0_1 b cg s) (H84_0n0_1 b cg s) = B84_0n0_1 cs lf b cg   s (fun s' => S.roundsZ (X84_0n0 cs) SG lf (C84_0n0_1 cs lf ) n (E84_0n0_1 b cg s') (H84_0n0_1 b cg s')) := by
 kernel_rfl
noncomputable def L84_0n0_1 (cs : Oracle) (lf : Nat) (b : List Go.AM.D) (cg : Nat)  : Nat → Unit → Option (S.Hms.T [.bool])
 | 0, _ => none
 | n + 1, s => B84_0n0_1 cs lf b cg   s (L84_0n0_1 cs lf b cg  n)
theorem L84_0n0_1_eq (cs : Oracle) (lf : Nat) (b : List Go.AM.D) (cg : Nat)   : ∀ (n : Nat) (s : Unit), S.roundsZ (X84_0n0 cs) SG lf (C84_0n0_1 cs lf ) n (E84_0n0_1 b cg s) (H84_0n0_1 b cg s) = L84_0n0_1 cs lf b cg  n s
 | 0, s => by
  show _ = none
  kernel_rfl
 | n + 1, s => by
  have h1 : (fun s' => S.roundsZ (X84_0n0 cs) SG lf (C84_0n0_1 cs lf ) n (E84_0n0_1 b cg s') (H84_0n0_1 b cg s')) = L84_0n0_1 cs lf b cg  n := funext (L84_0n0_1_eq cs lf b cg   n)
  rw [B84_0n0_1_eq cs lf b cg   n s, h1]
  rfl
noncomputable def G84_0n0 (cs : Oracle) (lf : Nat) (b : List Go.AM.D) (cg : Nat) (P84_0n0_1 : Unit → Option (S.Hms.T [.bool])) : Option (S.Hms.T [.bool]) :=
 cond ((0 : Int) != (↑(List.length b) : Int))
  (some ((Bool.false, PUnit.unit)))
  (P84_0n0_1  (()))
theorem G84_0n0_eq (cs : Oracle) (lf : Nat) (b : List Go.AM.D) (cg : Nat) : S.bodyS T SG cs fi84_0n0 lf [.im (.sl true 0 []), .im (.sl false 1 b), .im (.fn (.func cg) [] [])] [] (S.endP [.bool]) = G84_0n0 cs lf b cg (fun  s2 => S.roundsZ (X84_0n0 cs) SG lf (C84_0n0_1 cs lf) lf (E84_0n0_1 b cg s2) (H84_0n0_1 b cg s2)) := by
 kernel_rfl
noncomputable def F84_0n0 (cs : Oracle) (lf : Nat) (b : List Go.AM.D) (cg : Nat) : Option (S.Hms.T [.bool]) := G84_0n0 cs lf b cg (fun  s2 => L84_0n0_1 cs lf b cg lf s2)
theorem F84_0n0_eq (cs : Oracle) (lf : Nat) (b : List Go.AM.D) (cg : Nat) : S.bodyS T SG cs fi84_0n0 lf [.im (.sl true 0 []), .im (.sl false 1 b), .im (.fn (.func cg) [] [])] [] (S.endP [.bool]) = F84_0n0 cs lf b cg := by
 rw [G84_0n0_eq]
 have h84_0n0_1 : (fun  s2 => S.roundsZ (X84_0n0 cs) SG lf (C84_0n0_1 cs lf) lf (E84_0n0_1 b cg s2) (H84_0n0_1 b cg s2)) = (fun  s2 => L84_0n0_1 cs lf b cg lf s2) := by
  funext  s2
  exact L84_0n0_1_eq cs lf b cg lf s2
 rw [h84_0n0_1]
 rfl
theorem fi84_0n0_ok : fi84_0n0.ok Tryz.prog 84 := ⟨Tryz.func84, by decide, rfl, by rfl⟩
end Go.Proofs.YtkinbnepkpoofaaGreatDoor
/- billhook/run.Begins: what it comes to. -/
set_option linter.unusedVariables false
set_option maxRecDepth 100000
set_option maxHeartbeats 0
open Go Go.AM
namespace Go.Proofs.YtkinbnepkpoofaaGreatDoor
noncomputable def fi44 : Fi := mkFi T Tryz.f44 {  }
noncomputable abbrev X44 (cs : Oracle) : Px := fi44.px T cs 0
noncomputable abbrev K44 : S.Kz (S.Hms.T [.bool]) := S.finZ T fi44 0 (S.endP [.bool])
noncomputable def F44 (cs : Oracle) (lf : Nat) (a : List Go.AM.D) (b : List Go.AM.D) : Option (S.Hms.T [.bool]) :=
 cond (Decidable.decide ((↑(List.length a) : Int) ≤ (↑(List.length b) : Int)))
  (cond (Decidable.decide ((↑(List.length a) : Int) ≤ (↑(List.length b) : Int)))
   (S.optZ (Go.AM.S.pureS cs [Go.AM.S.Hm.bool] (84 : Nat) [Go.AM.AV.im (Go.AM.D.sl Bool.false (1 : Nat) a), Go.AM.AV.im (Go.AM.D.sl Bool.false (1 : Nat) (List.drop (0 : Nat) (List.take (Int.toNat (↑(List.length a) : Int)) b))), Go.AM.AV.im (Go.AM.D.fn (Go.Fn.func (85 : Nat)) [] [])]) fun (d1 : Bool × Unit) =>
    some ((Prod.fst d1, PUnit.unit)))
   (none))
  (some ((Bool.false, PUnit.unit)))
theorem F44_eq (cs : Oracle) (lf : Nat) (a : List Go.AM.D) (b : List Go.AM.D) : S.bodyS T SG cs fi44 lf [.im (.sl false 1 a), .im (.sl false 1 b)] [] (S.endP [.bool]) = F44 cs lf a b := by
 kernel_rfl
theorem fi44_ok : fi44.ok Tryz.prog 44 := ⟨Tryz.func44, by decide, rfl, by rfl⟩
end Go.Proofs.YtkinbnepkpoofaaGreatDoor
/- billhook/run.Begins: what it comes to. -/
set_option linter.unusedVariables false
set_option maxRecDepth 100000
set_option maxHeartbeats 0
open Go Go.AM
namespace Go.Proofs.YtkinbnepkpoofaaGreatDoor
noncomputable def fi44_n0 : Fi := mkFi T Tryz.f44 {  }
noncomputable abbrev X44_n0 (cs : Oracle) : Px := fi44_n0.px T cs 0
noncomputable abbrev K44_n0 : S.Kz (S.Hms.T [.bool]) := S.finZ T fi44_n0 0 (S.endP [.bool])
noncomputable def F44_n0 (cs : Oracle) (lf : Nat) (b : List Go.AM.D) : Option (S.Hms.T [.bool]) :=
 S.optZ (Go.AM.S.pureS cs [Go.AM.S.Hm.bool] (84 : Nat) [Go.AM.AV.im (Go.AM.D.sl Bool.true (0 : Nat) []), Go.AM.AV.im (Go.AM.D.sl Bool.false (1 : Nat) []), Go.AM.AV.im (Go.AM.D.fn (Go.Fn.func (85 : Nat)) [] [])]) fun (d1 : Bool × Unit) =>
  some ((Prod.fst d1, PUnit.unit))
theorem F44_n0_eq (cs : Oracle) (lf : Nat) (b : List Go.AM.D) : S.bodyS T SG cs fi44_n0 lf [.im (.sl true 0 []), .im (.sl false 1 b)] [] (S.endP [.bool]) = F44_n0 cs lf b := by
 kernel_rfl
theorem fi44_n0_ok : fi44_n0.ok Tryz.prog 44 := ⟨Tryz.func44, by decide, rfl, by rfl⟩
end Go.Proofs.YtkinbnepkpoofaaGreatDoor
/- billhook/run.Same: what it comes to. -/
set_option linter.unusedVariables false
set_option maxRecDepth 100000
set_option maxHeartbeats 0
open Go Go.AM
namespace Go.Proofs.YtkinbnepkpoofaaGreatDoor
noncomputable def fi42 : Fi := mkFi T Tryz.f42 {  }
noncomputable abbrev X42 (cs : Oracle) : Px := fi42.px T cs 0
noncomputable abbrev K42 : S.Kz (S.Hms.T [.bool]) := S.finZ T fi42 0 (S.endP [.bool])
noncomputable def F42 (cs : Oracle) (lf : Nat) (a0 : Int) (a1 : Int) (a2 : Int) (a3 : List Go.AM.D) (b0 : Int) (b1 : Int) (b2 : Int) (b3 : List Go.AM.D) : Option (S.Hms.T [.bool]) :=
 cond (a0 == b0)
  (cond (a1 == b1)
   (cond (a2 == b2)
    (S.optZ (Go.AM.S.pureS cs [Go.AM.S.Hm.bool] (84 : Nat) [Go.AM.AV.im (Go.AM.D.sl Bool.false (1 : Nat) a3), Go.AM.AV.im (Go.AM.D.sl Bool.false (1 : Nat) b3), Go.AM.AV.im (Go.AM.D.fn (Go.Fn.func (85 : Nat)) [] [])]) fun (d1 : Bool × Unit) =>
     some ((Prod.fst d1, PUnit.unit)))
    (some ((Bool.false, PUnit.unit))))
   (some ((Bool.false, PUnit.unit))))
  (some ((Bool.false, PUnit.unit)))
theorem F42_eq (cs : Oracle) (lf : Nat) (a0 : Int) (a1 : Int) (a2 : Int) (a3 : List Go.AM.D) (b0 : Int) (b1 : Int) (b2 : Int) (b3 : List Go.AM.D) : S.bodyS T SG cs fi42 lf [.im (.agg [(.int .i64 a0), (.int .i64 a1), (.int .i64 a2), (.sl false 1 a3)]), .im (.agg [(.int .i64 b0), (.int .i64 b1), (.int .i64 b2), (.sl false 1 b3)])] [] (S.endP [.bool]) = F42 cs lf a0 a1 a2 a3 b0 b1 b2 b3 := by
 kernel_rfl
theorem fi42_ok : fi42.ok Tryz.prog 42 := ⟨Tryz.func42, by decide, rfl, by rfl⟩
end Go.Proofs.YtkinbnepkpoofaaGreatDoor
/- billhook/billhooklaw08.RunBegins: what it comes to. -/
set_option linter.unusedVariables false
set_option maxRecDepth 100000
set_option maxHeartbeats 0
open Go Go.AM
namespace Go.Proofs.YtkinbnepkpoofaaGreatDoor
noncomputable def fi10 : Fi := mkFi T Tryz.f10 { live := fun d => if Nat.beq d 13 then slots 110 [0, 1, 9, 10, 11, 12] else if Nat.beq d 8 then slots 110 [0, 1, 9, 10, 11] else none }
noncomputable abbrev X10 (cs : Oracle) : Px := fi10.px T cs 0
noncomputable abbrev K10 : S.Kz (S.Hms.T [.bool]) := S.finZ T fi10 0 (S.endP [.bool])
def E10_1 (b : List Go.AM.D) (d : Int) (d1 : Bool × Unit) (s : (Bool) × (Int)) : Env :=
 match s with
 | (v2, v3) =>
  [Go.AM.AV.im (Go.AM.D.sl Bool.false (1 : Nat) (List.drop (0 : Nat) (List.take (Int.toNat (if (↑(List.length b) : Int) < Go.IntKind.wrap Go.IntKind.i64 (Int.tmod d (8 : Int)) then (↑(List.length b) : Int) else Go.IntKind.wrap Go.IntKind.i64 (Int.tmod d (8 : Int)))) b))), Go.AM.AV.im (Go.AM.D.sl Bool.false (1 : Nat) b), Go.AM.AV.bad, Go.AM.AV.bad, Go.AM.AV.bad, Go.AM.AV.bad, Go.AM.AV.bad, Go.AM.AV.bad, Go.AM.AV.bad, Go.AM.AV.im (Go.AM.D.bool (Prod.fst d1)), Go.AM.AV.im (Go.AM.D.bool v2), Go.AM.AV.im (Go.AM.D.int Go.IntKind.i64 v3), Go.AM.AV.bad, Go.AM.AV.bad, Go.AM.AV.bad, Go.AM.AV.bad, Go.AM.AV.bad, Go.AM.AV.bad, Go.AM.AV.bad, Go.AM.AV.bad, Go.AM.AV.bad, Go.AM.AV.bad, Go.AM.AV.bad, Go.AM.AV.bad, Go.AM.AV.bad, Go.AM.AV.bad, Go.AM.AV.bad, Go.AM.AV.bad, Go.AM.AV.bad, Go.AM.AV.bad, Go.AM.AV.bad, Go.AM.AV.bad, Go.AM.AV.bad, Go.AM.AV.bad, Go.AM.AV.bad, Go.AM.AV.bad, Go.AM.AV.bad, Go.AM.AV.bad, Go.AM.AV.bad, Go.AM.AV.bad, Go.AM.AV.bad, Go.AM.AV.bad, Go.AM.AV.bad, Go.AM.AV.bad, Go.AM.AV.bad, Go.AM.AV.bad, Go.AM.AV.bad, Go.AM.AV.bad, Go.AM.AV.bad, Go.AM.AV.bad, Go.AM.AV.bad, Go.AM.AV.bad, Go.AM.AV.bad, Go.AM.AV.bad, Go.AM.AV.bad, Go.AM.AV.bad, Go.AM.AV.bad, Go.AM.AV.bad, Go.AM.AV.bad, Go.AM.AV.bad, Go.AM.AV.bad, Go.AM.AV.bad, Go.AM.AV.bad, Go.AM.AV.bad, Go.AM.AV.bad, Go.AM.AV.bad, Go.AM.AV.bad, Go.AM.AV.bad, Go.AM.AV.bad, Go.AM.AV.bad, Go.AM.AV.bad, Go.AM.AV.bad, Go.AM.AV.bad, Go.AM.AV.bad, Go.AM.AV.bad, Go.AM.AV.bad, Go.AM.AV.bad, Go.AM.AV.bad, Go.AM.AV.bad, Go.AM.AV.bad, Go.AM.AV.bad, Go.AM.AV.bad, Go.AM.AV.bad, Go.AM.AV.bad, Go.AM.AV.bad, Go.AM.AV.bad, Go.AM.AV.bad, Go.AM.AV.bad, Go.AM.AV.bad, Go.AM.AV.bad, Go.AM.AV.bad, Go.AM.AV.bad, Go.AM.AV.bad, Go.AM.AV.bad, Go.AM.AV.bad, Go.AM.AV.bad, Go.AM.AV.bad, Go.AM.AV.bad, Go.AM.AV.bad, Go.AM.AV.bad, Go.AM.AV.bad, Go.AM.AV.bad, Go.AM.AV.bad, Go.AM.AV.bad, Go.AM.AV.bad, Go.AM.AV.bad, Go.AM.AV.bad, Go.AM.AV.bad, Go.AM.AV.bad, Go.AM.AV.bad]
def H10_1 (b : List Go.AM.D) (d : Int) (d1 : Bool × Unit) (s : (Bool) × (Int)) : Heap :=
 match s with
 | (v2, v3) =>
  []
def E10_2 (b : List Go.AM.D) (d : Int) (d1 : Bool × Unit) (v3 : Int) (s : (Bool) × (Int)) : Env :=
 match s with
 | (v9, v10) =>
  [Go.AM.AV.im (Go.AM.D.sl Bool.false (1 : Nat) (List.drop (0 : Nat) (List.take (Int.toNat (if (↑(List.length b) : Int) < Go.IntKind.wrap Go.IntKind.i64 (Int.tmod d (8 : Int)) then (↑(List.length b) : Int) else Go.IntKind.wrap Go.IntKind.i64 (Int.tmod d (8 : Int)))) b))), Go.AM.AV.im (Go.AM.D.sl Bool.false (1 : Nat) b), Go.AM.AV.bad, Go.AM.AV.bad, Go.AM.AV.bad, Go.AM.AV.bad, Go.AM.AV.bad, Go.AM.AV.bad, Go.AM.AV.bad, Go.AM.AV.im (Go.AM.D.bool (Prod.fst d1)), Go.AM.AV.im (Go.AM.D.bool v9), Go.AM.AV.im (Go.AM.D.int Go.IntKind.i64 v3), Go.AM.AV.im (Go.AM.D.int Go.IntKind.i64 v10), Go.AM.AV.bad, Go.AM.AV.bad, Go.AM.AV.bad, Go.AM.AV.bad, Go.AM.AV.bad, Go.AM.AV.bad, Go.AM.AV.bad, Go.AM.AV.bad, Go.AM.AV.bad, Go.AM.AV.bad, Go.AM.AV.bad, Go.AM.AV.bad, Go.AM.AV.bad, Go.AM.AV.bad, Go.AM.AV.bad, Go.AM.AV.bad, Go.AM.AV.bad, Go.AM.AV.bad, Go.AM.AV.bad, Go.AM.AV.bad, Go.AM.AV.bad, Go.AM.AV.bad, Go.AM.AV.bad, Go.AM.AV.bad, Go.AM.AV.bad, Go.AM.AV.bad, Go.AM.AV.bad, Go.AM.AV.bad, Go.AM.AV.bad, Go.AM.AV.bad, Go.AM.AV.bad, Go.AM.AV.bad, Go.AM.AV.bad, Go.AM.AV.bad, Go.AM.AV.bad, Go.AM.AV.bad, Go.AM.AV.bad, Go.AM.AV.bad, Go.AM.AV.bad, Go.AM.AV.bad, Go.AM.AV.bad, Go.AM.AV.bad, Go.AM.AV.bad, Go.AM.AV.bad, Go.AM.AV.bad, Go.AM.AV.bad, Go.AM.AV.bad, Go.AM.AV.bad, Go.AM.AV.bad, Go.AM.AV.bad, Go.AM.AV.bad, Go.AM.AV.bad, Go.AM.AV.bad, Go.AM.AV.bad, Go.AM.AV.bad, Go.AM.AV.bad, Go.AM.AV.bad, Go.AM.AV.bad, Go.AM.AV.bad, Go.AM.AV.bad, Go.AM.AV.bad, Go.AM.AV.bad, Go.AM.AV.bad, Go.AM.AV.bad, Go.AM.AV.bad, Go.AM.AV.bad, Go.AM.AV.bad, Go.AM.AV.bad, Go.AM.AV.bad, Go.AM.AV.bad, Go.AM.AV.bad, Go.AM.AV.bad, Go.AM.AV.bad, Go.AM.AV.bad, Go.AM.AV.bad, Go.AM.AV.bad, Go.AM.AV.bad, Go.AM.AV.bad, Go.AM.AV.bad, Go.AM.AV.bad, Go.AM.AV.bad, Go.AM.AV.bad, Go.AM.AV.bad, Go.AM.AV.bad, Go.AM.AV.bad, Go.AM.AV.bad, Go.AM.AV.bad, Go.AM.AV.bad, Go.AM.AV.bad, Go.AM.AV.bad, Go.AM.AV.bad, Go.AM.AV.bad, Go.AM.AV.bad, Go.AM.AV.bad, Go.AM.AV.bad, Go.AM.AV.bad, Go.AM.AV.bad]
def H10_2 (b : List Go.AM.D) (d : Int) (d1 : Bool × Unit) (v3 : Int) (s : (Bool) × (Int)) : Heap :=
 match s with
 | (v9, v10) =>
  []
noncomputable def C10_2 (cs : Oracle) (lf : Nat) (R4 : Env → Heap → Option (S.Hms.T [.bool])) : Go.Code × S.Kz (S.Hms.T [.bool]) := S.subZ (X10 cs) SG lf fi10.code [1, 1, 1, 1, 1, 0, 1, 0, 0, 1, 0, 0, 1, 1, 0] [R4] K10
noncomputable def B10_2 (cs : Oracle) (lf : Nat) (b : List Go.AM.D) (d : Int) (d1 : Bool × Unit) (v3 : Int) (R4 : (Bool) × (Int) → Option (S.Hms.T [.bool]))  (s : (Bool) × (Int)) (R11 : (Bool) × (Int) → Option (S.Hms.T [.bool])) : Option (S.Hms.T [.bool]) :=
 match s with
 | (v9, v10) =>
  cond (Decidable.decide ((0 : Int) ≤ v3))
  (S.optZ ((List.drop (0 : Nat) (List.take (Int.toNat (if (↑(List.length b) : Int) < Go.IntKind.wrap Go.IntKind.i64 (Int.tmod d (8 : Int)) then (↑(List.length b) : Int) else Go.IntKind.wrap Go.IntKind.i64 (Int.tmod d (8 : Int)))) b))[Int.toNat v3]?) fun (d12 : Go.AM.D) =>
   S.optZ (Go.AM.D.asSl (1 : Nat) d12) fun (d13 : List Go.AM.D) =>
    cond (Decidable.decide (v10 < (↑(List.length d13) : Int)))
     (cond (v9)
      (cond (Decidable.decide ((0 : Int) ≤ v3))
       (S.optZ ((List.drop (0 : Nat) (List.take (Int.toNat (if (↑(List.length b) : Int) < Go.IntKind.wrap Go.IntKind.i64 (Int.tmod d (8 : Int)) then (↑(List.length b) : Int) else Go.IntKind.wrap Go.IntKind.i64 (Int.tmod d (8 : Int)))) b))[Int.toNat v3]?) fun (d14 : Go.AM.D) =>
        S.optZ (Go.AM.D.asSl (1 : Nat) d14) fun (d15 : List Go.AM.D) =>
         cond (Decidable.decide ((0 : Int) ≤ v10))
          (S.optZ (d15[Int.toNat v10]?) fun (d16 : Go.AM.D) =>
           S.optZ (Go.AM.D.asInt Go.IntKind.i64 d16) fun (d17 : Int) =>
            cond (Decidable.decide ((0 : Int) ≤ v3))
             (S.optZ (b[Int.toNat v3]?) fun (d18 : Go.AM.D) =>
              S.optZ (Go.AM.D.asSl (1 : Nat) d18) fun (d19 : List Go.AM.D) =>
               cond (Decidable.decide ((0 : Int) ≤ v10))
                (S.optZ (d19[Int.toNat v10]?) fun (d20 : Go.AM.D) =>
                 S.optZ (Go.AM.D.asInt Go.IntKind.i64 d20) fun (d21 : Int) =>
                  R11 ((d17 == d21, Go.IntKind.wrap Go.IntKind.i64 (v10 + (1 : Int)))))
                (none))
             (none))
          (none))
       (none))
      (R4 ((v9, Go.IntKind.wrap Go.IntKind.i64 (v3 + (1 : Int))))))
     (R4 ((v9, Go.IntKind.wrap Go.IntKind.i64 (v3 + (1 : Int))))))
  (none)
theorem B10_2_eq (cs : Oracle) (lf : Nat) (b : List Go.AM.D) (d : Int) (d1 : Bool × Unit) (v3 : Int)  (R4 : Env → Heap → Option (S.Hms.T [.bool])) (n : Nat) (s : (Bool) × (Int)) : S.roundsZ (X10 cs) SG lf (C10_2 cs lf R4) (n + 1) (E10_2 b d d1 v3 s) (H10_2 b d d1 v3 s) = B10_2 cs lf b d d1 v3 (fun s1 => R4 (E10_1 b d d1 s1) (H10_1 b d d1 s1))  s (fun s' => S.roundsZ (X10 cs) SG lf (C10_2 cs lf R4) n (E10_2 b d d1 v3 s') (H10_2 b d d1 v3 s')) := by
 kernel_rfl
noncomputable def L10_2 (cs : Oracle) (lf : Nat) (b : List Go.AM.D) (d : Int) (d1 : Bool × Unit) (v3 : Int) (R4 : (Bool) × (Int) → Option (S.Hms.T [.bool])) : Nat → (Bool) × (Int) → Option (S.Hms.T [.bool])
 | 0, _ => none
 | n + 1, s => B10_2 cs lf b d d1 v3 R4  s (L10_2 cs lf b d d1 v3 R4 n)
theorem L10_2_eq (cs : Oracle) (lf : Nat) (b : List Go.AM.D) (d : Int) (d1 : Bool × Unit) (v3 : Int)  (R4 : Env → Heap → Option (S.Hms.T [.bool])) : ∀ (n : Nat) (s : (Bool) × (Int)), S.roundsZ (X10 cs) SG lf (C10_2 cs lf R4) n (E10_2 b d d1 v3 s) (H10_2 b d d1 v3 s) = L10_2 cs lf b d d1 v3 (fun s1 => R4 (E10_1 b d d1 s1) (H10_1 b d d1 s1)) n s
 | 0, s => by
  show _ = none
  kernel_rfl
 | n + 1, s => by
  have h1 : (fun s' => S.roundsZ (X10 cs) SG lf (C10_2 cs lf R4) n (E10_2 b d d1 v3 s') (H10_2 b d d1 v3 s')) = L10_2 cs lf b d d1 v3 (fun s1 => R4 (E10_1 b d d1 s1) (H10_1 b d d1 s1)) n := funext (L10_2_eq cs lf b d d1 v3  R4 n)
  rw [B10_2_eq cs lf b d d1 v3  R4 n s, h1]
  rfl
def E10_3 (b : List Go.AM.D) (d : Int) (d1 : Bool × Unit) (v3 : Int) (s : (Bool) × (Int)) : Env :=
 match s with
 | (v22, v23) =>
  [Go.AM.AV.im (Go.AM.D.sl Bool.false (1 : Nat) (List.drop (0 : Nat) (List.take (Int.toNat (if (↑(List.length b) : Int) < Go.IntKind.wrap Go.IntKind.i64 (Int.tmod d (8 : Int)) then (↑(List.length b) : Int) else Go.IntKind.wrap Go.IntKind.i64 (Int.tmod d (8 : Int)))) b))), Go.AM.AV.im (Go.AM.D.sl Bool.false (1 : Nat) b), Go.AM.AV.bad, Go.AM.AV.bad, Go.AM.AV.bad, Go.AM.AV.bad, Go.AM.AV.bad, Go.AM.AV.bad, Go.AM.AV.bad, Go.AM.AV.im (Go.AM.D.bool (Prod.fst d1)), Go.AM.AV.im (Go.AM.D.bool v22), Go.AM.AV.im (Go.AM.D.int Go.IntKind.i64 v3), Go.AM.AV.im (Go.AM.D.int Go.IntKind.i64 v23), Go.AM.AV.bad, Go.AM.AV.bad, Go.AM.AV.bad, Go.AM.AV.bad, Go.AM.AV.bad, Go.AM.AV.bad, Go.AM.AV.bad, Go.AM.AV.bad, Go.AM.AV.bad, Go.AM.AV.bad, Go.AM.AV.bad, Go.AM.AV.bad, Go.AM.AV.bad, Go.AM.AV.bad, Go.AM.AV.bad, Go.AM.AV.bad, Go.AM.AV.bad, Go.AM.AV.bad, Go.AM.AV.bad, Go.AM.AV.bad, Go.AM.AV.bad, Go.AM.AV.bad, Go.AM.AV.bad, Go.AM.AV.bad, Go.AM.AV.bad, Go.AM.AV.bad, Go.AM.AV.bad, Go.AM.AV.bad, Go.AM.AV.bad, Go.AM.AV.bad, Go.AM.AV.bad, Go.AM.AV.bad, Go.AM.AV.bad, Go.AM.AV.bad, Go.AM.AV.bad, Go.AM.AV.bad, Go.AM.AV.bad, Go.AM.AV.bad, Go.AM.AV.bad, Go.AM.AV.bad, Go.AM.AV.bad, Go.AM.AV.bad, Go.AM.AV.bad, Go.AM.AV.bad, Go.AM.AV.bad, Go.AM.AV.bad, Go.AM.AV.bad, Go.AM.AV.bad, Go.AM.AV.bad, Go.AM.AV.bad, Go.AM.AV.bad, Go.AM.AV.bad, Go.AM.AV.bad, Go.AM.AV.bad, Go.AM.AV.bad, Go.AM.AV.bad, Go.AM.AV.bad, Go.AM.AV.bad, Go.AM.AV.bad, Go.AM.AV.bad, Go.AM.AV.bad, Go.AM.AV.bad, Go.AM.AV.bad, Go.AM.AV.bad, Go.AM.AV.bad, Go.AM.AV.bad, Go.AM.AV.bad, Go.AM.AV.bad, Go.AM.AV.bad, Go.AM.AV.bad, Go.AM.AV.bad, Go.AM.AV.bad, Go.AM.AV.bad, Go.AM.AV.bad, Go.AM.AV.bad, Go.AM.AV.bad, Go.AM.AV.bad, Go.AM.AV.bad, Go.AM.AV.bad, Go.AM.AV.bad, Go.AM.AV.bad, Go.AM.AV.bad, Go.AM.AV.bad, Go.AM.AV.bad, Go.AM.AV.bad, Go.AM.AV.bad, Go.AM.AV.bad, Go.AM.AV.bad, Go.AM.AV.bad, Go.AM.AV.bad, Go.AM.AV.bad, Go.AM.AV.bad, Go.AM.AV.bad, Go.AM.AV.bad, Go.AM.AV.bad, Go.AM.AV.bad, Go.AM.AV.bad]
def H10_3 (b : List Go.AM.D) (d : Int) (d1 : Bool × Unit) (v3 : Int) (s : (Bool) × (Int)) : Heap :=
 match s with
 | (v22, v23) =>
  []
noncomputable def C10_3 (cs : Oracle) (lf : Nat) (R4 : Env → Heap → Option (S.Hms.T [.bool])) : Go.Code × S.Kz (S.Hms.T [.bool]) := S.subZ (X10 cs) SG lf fi10.code [1, 1, 1, 1, 1, 0, 1, 0, 0, 1, 0, 0, 1, 1, 0] [R4] K10
noncomputable def B10_3 (cs : Oracle) (lf : Nat) (b : List Go.AM.D) (d : Int) (d1 : Bool × Unit) (v3 : Int) (R4 : (Bool) × (Int) → Option (S.Hms.T [.bool]))  (s : (Bool) × (Int)) (R24 : (Bool) × (Int) → Option (S.Hms.T [.bool])) : Option (S.Hms.T [.bool]) :=
 match s with
 | (v22, v23) =>
  cond (Decidable.decide ((0 : Int) ≤ v3))
  (S.optZ ((List.drop (0 : Nat) (List.take (Int.toNat (if (↑(List.length b) : Int) < Go.IntKind.wrap Go.IntKind.i64 (Int.tmod d (8 : Int)) then (↑(List.length b) : Int) else Go.IntKind.wrap Go.IntKind.i64 (Int.tmod d (8 : Int)))) b))[Int.toNat v3]?) fun (d25 : Go.AM.D) =>
   S.optZ (Go.AM.D.asSl (1 : Nat) d25) fun (d26 : List Go.AM.D) =>
    cond (Decidable.decide (v23 < (↑(List.length d26) : Int)))
     (cond (v22)
      (cond (Decidable.decide ((0 : Int) ≤ v3))
       (S.optZ ((List.drop (0 : Nat) (List.take (Int.toNat (if (↑(List.length b) : Int) < Go.IntKind.wrap Go.IntKind.i64 (Int.tmod d (8 : Int)) then (↑(List.length b) : Int) else Go.IntKind.wrap Go.IntKind.i64 (Int.tmod d (8 : Int)))) b))[Int.toNat v3]?) fun (d27 : Go.AM.D) =>
        S.optZ (Go.AM.D.asSl (1 : Nat) d27) fun (d28 : List Go.AM.D) =>
         cond (Decidable.decide ((0 : Int) ≤ v23))
          (S.optZ (d28[Int.toNat v23]?) fun (d29 : Go.AM.D) =>
           S.optZ (Go.AM.D.asInt Go.IntKind.i64 d29) fun (d30 : Int) =>
            cond (Decidable.decide ((0 : Int) ≤ v3))
             (S.optZ (b[Int.toNat v3]?) fun (d31 : Go.AM.D) =>
              S.optZ (Go.AM.D.asSl (1 : Nat) d31) fun (d32 : List Go.AM.D) =>
               cond (Decidable.decide ((0 : Int) ≤ v23))
                (S.optZ (d32[Int.toNat v23]?) fun (d33 : Go.AM.D) =>
                 S.optZ (Go.AM.D.asInt Go.IntKind.i64 d33) fun (d34 : Int) =>
                  R24 ((d30 == d34, Go.IntKind.wrap Go.IntKind.i64 (v23 + (1 : Int)))))
                (none))
             (none))
          (none))
       (none))
      (R4 ((v22, Go.IntKind.wrap Go.IntKind.i64 (v3 + (1 : Int))))))
     (R4 ((v22, Go.IntKind.wrap Go.IntKind.i64 (v3 + (1 : Int))))))
  (none)
theorem B10_3_eq (cs : Oracle) (lf : Nat) (b : List Go.AM.D) (d : Int) (d1 : Bool × Unit) (v3 : Int)  (R4 : Env → Heap → Option (S.Hms.T [.bool])) (n : Nat) (s : (Bool) × (Int)) : S.roundsZ (X10 cs) SG lf (C10_3 cs lf R4) (n + 1) (E10_3 b d d1 v3 s) (H10_3 b d d1 v3 s) = B10_3 cs lf b d d1 v3 (fun s1 => R4 (E10_1 b d d1 s1) (H10_1 b d d1 s1))  s (fun s' => S.roundsZ (X10 cs) SG lf (C10_3 cs lf R4) n (E10_3 b d d1 v3 s') (H10_3 b d d1 v3 s')) := by
 kernel_rfl
noncomputable def L10_3 (cs : Oracle) (lf : Nat) (b : List Go.AM.D) (d : Int) (d1 : Bool × Unit) (v3 : Int) (R4 : (Bool) × (Int) → Option (S.Hms.T [.bool])) : Nat → (Bool) × (Int) → Option (S.Hms.T [.bool])
 | 0, _ => none
 | n + 1, s => B10_3 cs lf b d d1 v3 R4  s (L10_3 cs lf b d d1 v3 R4 n)
theorem L10_3_eq (cs : Oracle) (lf : Nat) (b : List Go.AM.D) (d : Int) (d1 : Bool × Unit) (v3 : Int)  (R4 : Env → Heap → Option (S.Hms.T [.bool])) : ∀ (n : Nat) (s : (Bool) × (Int)), S.roundsZ (X10 cs) SG lf (C10_3 cs lf R4) n (E10_3 b d d1 v3 s) (H10_3 b d d1 v3 s) = L10_3 cs lf b d d1 v3 (fun s1 => R4 (E10_1 b d d1 s1) (H10_1 b d d1 s1)) n s
 | 0, s => by
  show _ = none
  kernel_rfl
 | n + 1, s => by
  have h1 : (fun s' => S.roundsZ (X10 cs) SG lf (C10_3 cs lf R4) n (E10_3 b d d1 v3 s') (H10_3 b d d1 v3 s')) = L10_3 cs lf b d d1 v3 (fun s1 => R4 (E10_1 b d d1 s1) (H10_1 b d d1 s1)) n := funext (L10_3_eq cs lf b d d1 v3  R4 n)
  rw [B10_3_eq cs lf b d d1 v3  R4 n s, h1]
  rfl
noncomputable def C10_1 (cs : Oracle) (lf : Nat)  : Go.Code × S.Kz (S.Hms.T [.bool]) := S.subZ (X10 cs) SG lf fi10.code [1, 1, 1, 1, 1, 0, 1, 0] [] K10
noncomputable def B10_1 (cs : Oracle) (lf : Nat) (b : List Go.AM.D) (d : Int) (d1 : Bool × Unit)  (P10_2 : (Int) → (Bool) × (Int) → Option (S.Hms.T [.bool])) (P10_3 : (Int) → (Bool) × (Int) → Option (S.Hms.T [.bool])) (s : (Bool) × (Int)) (R4 : (Bool) × (Int) → Option (S.Hms.T [.bool])) : Option (S.Hms.T [.bool]) :=
 match s with
 | (v2, v3) =>
  cond (Decidable.decide (v3 < (↑(List.length (List.drop (0 : Nat) (List.take (Int.toNat (if (↑(List.length b) : Int) < Go.IntKind.wrap Go.IntKind.i64 (Int.tmod d (8 : Int)) then (↑(List.length b) : Int) else Go.IntKind.wrap Go.IntKind.i64 (Int.tmod d (8 : Int)))) b))) : Int)))
  (cond (v2)
   (cond (Decidable.decide ((0 : Int) ≤ v3))
    (S.optZ ((List.drop (0 : Nat) (List.take (Int.toNat (if (↑(List.length b) : Int) < Go.IntKind.wrap Go.IntKind.i64 (Int.tmod d (8 : Int)) then (↑(List.length b) : Int) else Go.IntKind.wrap Go.IntKind.i64 (Int.tmod d (8 : Int)))) b))[Int.toNat v3]?) fun (d5 : Go.AM.D) =>
     S.optZ (Go.AM.D.asSl (1 : Nat) d5) fun (d6 : List Go.AM.D) =>
      cond (Decidable.decide ((0 : Int) ≤ v3))
       (S.optZ (b[Int.toNat v3]?) fun (d7 : Go.AM.D) =>
        S.optZ (Go.AM.D.asSl (1 : Nat) d7) fun (d8 : List Go.AM.D) =>
         cond ((↑(List.length d6) : Int) != (↑(List.length d8) : Int))
          (P10_2 v3 ((Bool.false, (0 : Int))))
          (P10_3 v3 ((v2, (0 : Int)))))
       (none))
    (none))
   (cond (Prod.fst d1)
    (S.optZ (Go.AM.S.pureS cs [Go.AM.S.Hm.bool] (44 : Nat) [Go.AM.AV.im (Go.AM.D.sl Bool.false (1 : Nat) (List.drop (0 : Nat) (List.take (Int.toNat (if (↑(List.length b) : Int) < Go.IntKind.wrap Go.IntKind.i64 (Int.tmod d (8 : Int)) then (↑(List.length b) : Int) else Go.IntKind.wrap Go.IntKind.i64 (Int.tmod d (8 : Int)))) b))), Go.AM.AV.im (Go.AM.D.sl Bool.false (1 : Nat) b)]) fun (d35 : Bool × Unit) =>
     cond (Prod.fst d35 == v2)
      (S.optZ (Go.AM.S.pureS cs [Go.AM.S.Hm.bool] (44 : Nat) [Go.AM.AV.im (Go.AM.D.sl Bool.false (1 : Nat) (List.drop (0 : Nat) (List.take (Int.toNat (if (↑(List.length b) : Int) < Go.IntKind.wrap Go.IntKind.i64 (Int.tmod d (8 : Int)) then (↑(List.length b) : Int) else Go.IntKind.wrap Go.IntKind.i64 (Int.tmod d (8 : Int)))) b))), Go.AM.AV.im (Go.AM.D.sl Bool.false (1 : Nat) (List.drop (0 : Nat) (List.take (Int.toNat (if (↑(List.length b) : Int) < Go.IntKind.wrap Go.IntKind.i64 (Int.tmod d (8 : Int)) then (↑(List.length b) : Int) else Go.IntKind.wrap Go.IntKind.i64 (Int.tmod d (8 : Int)))) b)))]) fun (d36 : Bool × Unit) =>
       cond (Prod.fst d36)
        (S.optZ (Go.AM.S.pureS cs [Go.AM.S.Hm.bool] (44 : Nat) [Go.AM.AV.im (Go.AM.D.sl Bool.true (0 : Nat) []), Go.AM.AV.im (Go.AM.D.sl Bool.false (1 : Nat) (List.drop (0 : Nat) (List.take (Int.toNat (if (↑(List.length b) : Int) < Go.IntKind.wrap Go.IntKind.i64 (Int.tmod d (8 : Int)) then (↑(List.length b) : Int) else Go.IntKind.wrap Go.IntKind.i64 (Int.tmod d (8 : Int)))) b)))]) fun (d37 : Bool × Unit) =>
         cond (Prod.fst d37)
          (S.optZ (Go.AM.S.pureS cs [Go.AM.S.Hm.bool] (42 : Nat) [Go.AM.AV.im (Go.AM.D.agg [Go.AM.D.int Go.IntKind.i64 (0 : Int), Go.AM.D.int Go.IntKind.i64 (0 : Int), Go.AM.D.int Go.IntKind.i64 (0 : Int), Go.AM.D.sl Bool.false (1 : Nat) (List.drop (0 : Nat) (List.take (Int.toNat (if (↑(List.length b) : Int) < Go.IntKind.wrap Go.IntKind.i64 (Int.tmod d (8 : Int)) then (↑(List.length b) : Int) else Go.IntKind.wrap Go.IntKind.i64 (Int.tmod d (8 : Int)))) b))]), Go.AM.AV.im (Go.AM.D.agg [Go.AM.D.int Go.IntKind.i64 (0 : Int), Go.AM.D.int Go.IntKind.i64 (0 : Int), Go.AM.D.int Go.IntKind.i64 (0 : Int), Go.AM.D.sl Bool.false (1 : Nat) b])]) fun (d38 : Bool × Unit) =>
           cond (v2)
            (some ((Prod.fst d38 == ((↑(List.length (List.drop (0 : Nat) (List.take (Int.toNat (if (↑(List.length b) : Int) < Go.IntKind.wrap Go.IntKind.i64 (Int.tmod d (8 : Int)) then (↑(List.length b) : Int) else Go.IntKind.wrap Go.IntKind.i64 (Int.tmod d (8 : Int)))) b))) : Int) == (↑(List.length b) : Int)), PUnit.unit)))
            (some ((Prod.fst d38 == Bool.false, PUnit.unit))))
          (some ((Bool.false, PUnit.unit))))
        (some ((Bool.false, PUnit.unit))))
      (some ((Bool.false, PUnit.unit))))
    (some ((Bool.false, PUnit.unit)))))
  (cond (Prod.fst d1)
   (S.optZ (Go.AM.S.pureS cs [Go.AM.S.Hm.bool] (44 : Nat) [Go.AM.AV.im (Go.AM.D.sl Bool.false (1 : Nat) (List.drop (0 : Nat) (List.take (Int.toNat (if (↑(List.length b) : Int) < Go.IntKind.wrap Go.IntKind.i64 (Int.tmod d (8 : Int)) then (↑(List.length b) : Int) else Go.IntKind.wrap Go.IntKind.i64 (Int.tmod d (8 : Int)))) b))), Go.AM.AV.im (Go.AM.D.sl Bool.false (1 : Nat) b)]) fun (d39 : Bool × Unit) =>
    cond (Prod.fst d39 == v2)
     (S.optZ (Go.AM.S.pureS cs [Go.AM.S.Hm.bool] (44 : Nat) [Go.AM.AV.im (Go.AM.D.sl Bool.false (1 : Nat) (List.drop (0 : Nat) (List.take (Int.toNat (if (↑(List.length b) : Int) < Go.IntKind.wrap Go.IntKind.i64 (Int.tmod d (8 : Int)) then (↑(List.length b) : Int) else Go.IntKind.wrap Go.IntKind.i64 (Int.tmod d (8 : Int)))) b))), Go.AM.AV.im (Go.AM.D.sl Bool.false (1 : Nat) (List.drop (0 : Nat) (List.take (Int.toNat (if (↑(List.length b) : Int) < Go.IntKind.wrap Go.IntKind.i64 (Int.tmod d (8 : Int)) then (↑(List.length b) : Int) else Go.IntKind.wrap Go.IntKind.i64 (Int.tmod d (8 : Int)))) b)))]) fun (d40 : Bool × Unit) =>
      cond (Prod.fst d40)
       (S.optZ (Go.AM.S.pureS cs [Go.AM.S.Hm.bool] (44 : Nat) [Go.AM.AV.im (Go.AM.D.sl Bool.true (0 : Nat) []), Go.AM.AV.im (Go.AM.D.sl Bool.false (1 : Nat) (List.drop (0 : Nat) (List.take (Int.toNat (if (↑(List.length b) : Int) < Go.IntKind.wrap Go.IntKind.i64 (Int.tmod d (8 : Int)) then (↑(List.length b) : Int) else Go.IntKind.wrap Go.IntKind.i64 (Int.tmod d (8 : Int)))) b)))]) fun (d41 : Bool × Unit) =>
        cond (Prod.fst d41)
         (S.optZ (Go.AM.S.pureS cs [Go.AM.S.Hm.bool] (42 : Nat) [Go.AM.AV.im (Go.AM.D.agg [Go.AM.D.int Go.IntKind.i64 (0 : Int), Go.AM.D.int Go.IntKind.i64 (0 : Int), Go.AM.D.int Go.IntKind.i64 (0 : Int), Go.AM.D.sl Bool.false (1 : Nat) (List.drop (0 : Nat) (List.take (Int.toNat (if (↑(List.length b) : Int) < Go.IntKind.wrap Go.IntKind.i64 (Int.tmod d (8 : Int)) then (↑(List.length b) : Int) else Go.IntKind.wrap Go.IntKind.i64 (Int.tmod d (8 : Int)))) b))]), Go.AM.AV.im (Go.AM.D.agg [Go.AM.D.int Go.IntKind.i64 (0 : Int), Go.AM.D.int Go.IntKind.i64 (0 : Int), Go.AM.D.int Go.IntKind.i64 (0 : Int), Go.AM.D.sl Bool.false (1 : Nat) b])]) fun (d42 : Bool × Unit) =>
          cond (v2)
           (some ((Prod.fst d42 == ((↑(List.length (List.drop (0 : Nat) (List.take (Int.toNat (if (↑(List.length b) : Int) < Go.IntKind.wrap Go.IntKind.i64 (Int.tmod d (8 : Int)) then (↑(List.length b) : Int) else Go.IntKind.wrap Go.IntKind.i64 (Int.tmod d (8 : Int)))) b))) : Int) == (↑(List.length b) : Int)), PUnit.unit)))
           (some ((Prod.fst d42 == Bool.false, PUnit.unit))))
         (some ((Bool.false, PUnit.unit))))
       (some ((Bool.false, PUnit.unit))))
     (some ((Bool.false, PUnit.unit))))
   (some ((Bool.false, PUnit.unit))))
theorem B10_1_eq (cs : Oracle) (lf : Nat) (b : List Go.AM.D) (d : Int) (d1 : Bool × Unit)   (n : Nat) (s : (Bool) × (Int)) : S.roundsZ (X10 cs) SG lf (C10_1 cs lf ) (n + 1) (E10_1 b d d1 s) (H10_1 b d d1 s) = B10_1 cs lf b d d1  (fun w0 s2 => S.roundsZ (X10 cs) SG lf (C10_2 cs lf  (fun env H => S.roundsZ (X10 cs) SG lf (C10_1 cs lf ) n env H)) lf (E10_2 b d d1 w0 s2) (H10_2 b d d1 w0 s2)) (fun w0 s2 => S.roundsZ (X10 cs) SG lf (C10_3 cs lf  (fun env H => S.roundsZ (X10 cs) SG lf (C10_1 cs lf ) n env H)) lf (E10_3 b d d1 w0 s2) (H10_3 b d d1 w0 s2)) s (fun s' => S.roundsZ (X10 cs) SG lf (C10_1 cs lf ) n (E10_1 b d d1 s') (H10_1 b d d1 s')) := by
 kernel_rfl
noncomputable def L10_1 (cs : Oracle) (lf : Nat) (b : List Go.AM.D) (d : Int) (d1 : Bool × Unit)  : Nat → (Bool) × (Int) → Option (S.Hms.T [.bool])
 | 0, _ => none
 | n + 1, s => B10_1 cs lf b d d1  (fun w0 s2 => L10_2 cs lf b d d1 w0  (L10_1 cs lf b d d1  n) lf s2) (fun w0 s2 => L10_3 cs lf b d d1 w0  (L10_1 cs lf b d d1  n) lf s2) s (L10_1 cs lf b d d1  n)
theorem L10_1_eq (cs : Oracle) (lf : Nat) (b : List Go.AM.D) (d : Int) (d1 : Bool × Unit)   : ∀ (n : Nat) (s : (Bool) × (Int)), S.roundsZ (X10 cs) SG lf (C10_1 cs lf ) n (E10_1 b d d1 s) (H10_1 b d d1 s) = L10_1 cs lf b d d1  n s
 | 0, s => by
  show _ = none
  kernel_rfl
 | n + 1, s => by
  have h1 : (fun s' => S.roundsZ (X10 cs) SG lf (C10_1 cs lf ) n (E10_1 b d d1 s') (H10_1 b d d1 s')) = L10_1 cs lf b d d1  n := funext (L10_1_eq cs lf b d d1   n)
  have h10_2 : (fun w0 s2 => S.roundsZ (X10 cs) SG lf (C10_2 cs lf  (fun env H => S.roundsZ (X10 cs) SG lf (C10_1 cs lf ) n env H)) lf (E10_2 b d d1 w0 s2) (H10_2 b d d1 w0 s2)) = (fun w0 s2 => L10_2 cs lf b d d1 w0  (L10_1 cs lf b d d1  n) lf s2) := by
   funext w0 s2
   exact (L10_2_eq cs lf b d d1 w0   (fun env H => S.roundsZ (X10 cs) SG lf (C10_1 cs lf ) n env H) lf s2).trans (congrArg (fun q => L10_2 cs lf b d d1 w0  q lf s2) h1)
  have h10_3 : (fun w0 s2 => S.roundsZ (X10 cs) SG lf (C10_3 cs lf  (fun env H => S.roundsZ (X10 cs) SG lf (C10_1 cs lf ) n env H)) lf (E10_3 b d d1 w0 s2) (H10_3 b d d1 w0 s2)) = (fun w0 s2 => L10_3 cs lf b d d1 w0  (L10_1 cs lf b d d1  n) lf s2) := by
   funext w0 s2
   exact (L10_3_eq cs lf b d d1 w0   (fun env H => S.roundsZ (X10 cs) SG lf (C10_1 cs lf ) n env H) lf s2).trans (congrArg (fun q => L10_3 cs lf b d d1 w0  q lf s2) h1)
  rw [B10_1_eq cs lf b d d1   n s, h10_2, h10_3, h1]
  rfl
def E10_4 (a : List Go.AM.D) (b : List Go.AM.D) (d1 : Bool × Unit) (s : (Bool) × (Int)) : Env :=
 match s with
 | (v43, v44) =>
  [Go.AM.AV.im (Go.AM.D.sl Bool.false (1 : Nat) a), Go.AM.AV.im (Go.AM.D.sl Bool.false (1 : Nat) b), Go.AM.AV.bad, Go.AM.AV.bad, Go.AM.AV.bad, Go.AM.AV.bad, Go.AM.AV.bad, Go.AM.AV.bad, Go.AM.AV.bad, Go.AM.AV.im (Go.AM.D.bool (Prod.fst d1)), Go.AM.AV.im (Go.AM.D.bool v43), Go.AM.AV.im (Go.AM.D.int Go.IntKind.i64 v44), Go.AM.AV.bad, Go.AM.AV.bad, Go.AM.AV.bad, Go.AM.AV.bad, Go.AM.AV.bad, Go.AM.AV.bad, Go.AM.AV.bad, Go.AM.AV.bad, Go.AM.AV.bad, Go.AM.AV.bad, Go.AM.AV.bad, Go.AM.AV.bad, Go.AM.AV.bad, Go.AM.AV.bad, Go.AM.AV.bad, Go.AM.AV.bad, Go.AM.AV.bad, Go.AM.AV.bad, Go.AM.AV.bad, Go.AM.AV.bad, Go.AM.AV.bad, Go.AM.AV.bad, Go.AM.AV.bad, Go.AM.AV.bad, Go.AM.AV.bad, Go.AM.AV.bad, Go.AM.AV.bad, Go.AM.AV.bad, Go.AM.AV.bad, Go.AM.AV.bad, Go.AM.AV.bad, Go.AM.AV.bad, Go.AM.AV.bad, Go.AM.AV.bad, Go.AM.AV.bad, Go.AM.AV.bad, Go.AM.AV.bad, Go.AM.AV.bad, Go.AM.AV.bad, Go.AM.AV.bad, Go.AM.AV.bad, Go.AM.AV.bad, Go.AM.AV.bad, Go.AM.AV.bad, Go.AM.AV.bad, Go.AM.AV.bad, Go.AM.AV.bad, Go.AM.AV.bad, Go.AM.AV.bad, Go.AM.AV.bad, Go.AM.AV.bad, Go.AM.AV.bad, Go.AM.AV.bad, Go.AM.AV.bad, Go.AM.AV.bad, Go.AM.AV.bad, Go.AM.AV.bad, Go.AM.AV.bad, Go.AM.AV.bad, Go.AM.AV.bad, Go.AM.AV.bad, Go.AM.AV.bad, Go.AM.AV.bad, Go.AM.AV.bad, Go.AM.AV.bad, Go.AM.AV.bad, Go.AM.AV.bad, Go.AM.AV.bad, Go.AM.AV.bad, Go.AM.AV.bad, Go.AM.AV.bad, Go.AM.AV.bad, Go.AM.AV.bad, Go.AM.AV.bad, Go.AM.AV.bad, Go.AM.AV.bad, Go.AM.AV.bad, Go.AM.AV.bad, Go.AM.AV.bad, Go.AM.AV.bad, Go.AM.AV.bad, Go.AM.AV.bad, Go.AM.AV.bad, Go.AM.AV.bad, Go.AM.AV.bad, Go.AM.AV.bad, Go.AM.AV.bad, Go.AM.AV.bad, Go.AM.AV.bad, Go.AM.AV.bad, Go.AM.AV.bad, Go.AM.AV.bad, Go.AM.AV.bad, Go.AM.AV.bad, Go.AM.AV.bad, Go.AM.AV.bad, Go.AM.AV.bad, Go.AM.AV.bad]
def H10_4 (a : List Go.AM.D) (b : List Go.AM.D) (d1 : Bool × Unit) (s : (Bool) × (Int)) : Heap :=
 match s with
 | (v43, v44) =>
  []
def E10_5 (a : List Go.AM.D) (b : List Go.AM.D) (d1 : Bool × Unit) (v44 : Int) (s : (Bool) × (Int)) : Env :=
 match s with
 | (v50, v51) =>
  [Go.AM.AV.im (Go.AM.D.sl Bool.false (1 : Nat) a), Go.AM.AV.im (Go.AM.D.sl Bool.false (1 : Nat) b), Go.AM.AV.bad, Go.AM.AV.bad, Go.AM.AV.bad, Go.AM.AV.bad, Go.AM.AV.bad, Go.AM.AV.bad, Go.AM.AV.bad, Go.AM.AV.im (Go.AM.D.bool (Prod.fst d1)), Go.AM.AV.im (Go.AM.D.bool v50), Go.AM.AV.im (Go.AM.D.int Go.IntKind.i64 v44), Go.AM.AV.im (Go.AM.D.int Go.IntKind.i64 v51), Go.AM.AV.bad, Go.AM.AV.bad, Go.AM.AV.bad, Go.AM.AV.bad, Go.AM.AV.bad, Go.AM.AV.bad, Go.AM.AV.bad, Go.AM.AV.bad, Go.AM.AV.bad, Go.AM.AV.bad, Go.AM.AV.bad, Go.AM.AV.bad, Go.AM.AV.bad, Go.AM.AV.bad, Go.AM.AV.bad, Go.AM.AV.bad, Go.AM.AV.bad, Go.AM.AV.bad, Go.AM.AV.bad, Go.AM.AV.bad, Go.AM.AV.bad, Go.AM.AV.bad, Go.AM.AV.bad, Go.AM.AV.bad, Go.AM.AV.bad, Go.AM.AV.bad, Go.AM.AV.bad, Go.AM.AV.bad, Go.AM.AV.bad, Go.AM.AV.bad, Go.AM.AV.bad, Go.AM.AV.bad, Go.AM.AV.bad, Go.AM.AV.bad, Go.AM.AV.bad, Go.AM.AV.bad, Go.AM.AV.bad, Go.AM.AV.bad, Go.AM.AV.bad, Go.AM.AV.bad, Go.AM.AV.bad, Go.AM.AV.bad, Go.AM.AV.bad, Go.AM.AV.bad, Go.AM.AV.bad, Go.AM.AV.bad, Go.AM.AV.bad, Go.AM.AV.bad, Go.AM.AV.bad, Go.AM.AV.bad, Go.AM.AV.bad, Go.AM.AV.bad, Go.AM.AV.bad, Go.AM.AV.bad, Go.AM.AV.bad, Go.AM.AV.bad, Go.AM.AV.bad, Go.AM.AV.bad, Go.AM.AV.bad, Go.AM.AV.bad, Go.AM.AV.bad, Go.AM.AV.bad, Go.AM.AV.bad, Go.AM.AV.bad, Go.AM.AV.bad, Go.AM.AV.bad, Go.AM.AV.bad, Go.AM.AV.bad, Go.AM.AV.bad, Go.AM.AV.bad, Go.AM.AV.bad, Go.AM.AV.bad, Go.AM.AV.bad, Go.AM.AV.bad, Go.AM.AV.bad, Go.AM.AV.bad, Go.AM.AV.bad, Go.AM.AV.bad, Go.AM.AV.bad, Go.AM.AV.bad, Go.AM.AV.bad, Go.AM.AV.bad, Go.AM.AV.bad, Go.AM.AV.bad, Go.AM.AV.bad, Go.AM.AV.bad, Go.AM.AV.bad, Go.AM.AV.bad, Go.AM.AV.bad, Go.AM.AV.bad, Go.AM.AV.bad, Go.AM.AV.bad, Go.AM.AV.bad, Go.AM.AV.bad, Go.AM.AV.bad, Go.AM.AV.bad, Go.AM.AV.bad]
def H10_5 (a : List Go.AM.D) (b : List Go.AM.D) (d1 : Bool × Unit) (v44 : Int) (s : (Bool) × (Int)) : Heap :=
 match s with
 | (v50, v51) =>
  []
noncomputable def C10_5 (cs : Oracle) (lf : Nat) (R45 : Env → Heap → Option (S.Hms.T [.bool])) : Go.Code × S.Kz (S.Hms.T [.bool]) := S.subZ (X10 cs) SG lf fi10.code [1, 1, 1, 1, 1, 0, 1, 0, 0, 1, 0, 0, 1, 1, 0] [R45] K10
noncomputable def B10_5 (cs : Oracle) (lf : Nat) (a : List Go.AM.D) (b : List Go.AM.D) (d1 : Bool × Unit) (v44 : Int) (R45 : (Bool) × (Int) → Option (S.Hms.T [.bool]))  (s : (Bool) × (Int)) (R52 : (Bool) × (Int) → Option (S.Hms.T [.bool])) : Option (S.Hms.T [.bool]) :=
 match s with
 | (v50, v51) =>
  cond (Decidable.decide ((0 : Int) ≤ v44))
  (S.optZ (a[Int.toNat v44]?) fun (d53 : Go.AM.D) =>
   S.optZ (Go.AM.D.asSl (1 : Nat) d53) fun (d54 : List Go.AM.D) =>
    cond (Decidable.decide (v51 < (↑(List.length d54) : Int)))
     (cond (v50)
      (cond (Decidable.decide ((0 : Int) ≤ v44))
       (S.optZ (a[Int.toNat v44]?) fun (d55 : Go.AM.D) =>
        S.optZ (Go.AM.D.asSl (1 : Nat) d55) fun (d56 : List Go.AM.D) =>
         cond (Decidable.decide ((0 : Int) ≤ v51))
          (S.optZ (d56[Int.toNat v51]?) fun (d57 : Go.AM.D) =>
           S.optZ (Go.AM.D.asInt Go.IntKind.i64 d57) fun (d58 : Int) =>
            cond (Decidable.decide ((0 : Int) ≤ v44))
             (S.optZ (b[Int.toNat v44]?) fun (d59 : Go.AM.D) =>
              S.optZ (Go.AM.D.asSl (1 : Nat) d59) fun (d60 : List Go.AM.D) =>
               cond (Decidable.decide ((0 : Int) ≤ v51))
                (S.optZ (d60[Int.toNat v51]?) fun (d61 : Go.AM.D) =>
                 S.optZ (Go.AM.D.asInt Go.IntKind.i64 d61) fun (d62 : Int) =>
                  R52 ((d58 == d62, Go.IntKind.wrap Go.IntKind.i64 (v51 + (1 : Int)))))
                (none))
             (none))
          (none))
       (none))
      (R45 ((v50, Go.IntKind.wrap Go.IntKind.i64 (v44 + (1 : Int))))))
     (R45 ((v50, Go.IntKind.wrap Go.IntKind.i64 (v44 + (1 : Int))))))
  (none)
theorem B10_5_eq (cs : Oracle) (lf : Nat) (a : List Go.AM.D) (b : List Go.AM.D) (d1 : Bool × Unit) (v44 : Int)  (R45 : Env → Heap → Option (S.Hms.T [.bool])) (n : Nat) (s : (Bool) × (Int)) : S.roundsZ (X10 cs) SG lf (C10_5 cs lf R45) (n + 1) (E10_5 a b d1 v44 s) (H10_5 a b d1 v44 s) = B10_5 cs lf a b d1 v44 (fun s1 => R45 (E10_4 a b d1 s1) (H10_4 a b d1 s1))  s (fun s' => S.roundsZ (X10 cs) SG lf (C10_5 cs lf R45) n (E10_5 a b d1 v44 s') (H10_5 a b d1 v44 s')) := by
 kernel_rfl
noncomputable def L10_5 (cs : Oracle) (lf : Nat) (a : List Go.AM.D) (b : List Go.AM.D) (d1 : Bool × Unit) (v44 : Int) (R45 : (Bool) × (Int) → Option (S.Hms.T [.bool])) : Nat → (Bool) × (Int) → Option (S.Hms.T [.bool])
 | 0, _ => none
 | n + 1, s => B10_5 cs lf a b d1 v44 R45  s (L10_5 cs lf a b d1 v44 R45 n)
theorem L10_5_eq (cs : Oracle) (lf : Nat) (a : List Go.AM.D) (b : List Go.AM.D) (d1 : Bool × Unit) (v44 : Int)  (R45 : Env → Heap → Option (S.Hms.T [.bool])) : ∀ (n : Nat) (s : (Bool) × (Int)), S.roundsZ (X10 cs) SG lf (C10_5 cs lf R45) n (E10_5 a b d1 v44 s) (H10_5 a b d1 v44 s) = L10_5 cs lf a b d1 v44 (fun s1 => R45 (E10_4 a b d1 s1) (H10_4 a b d1 s1)) n s
 | 0, s => by
  show _ = none
  kernel_rfl
 | n + 1, s => by
  have h1 : (fun s' => S.roundsZ (X10 cs) SG lf (C10_5 cs lf R45) n (E10_5 a b d1 v44 s') (H10_5 a b d1 v44 s')) = L10_5 cs lf a b d1 v44 (fun s1 => R45 (E10_4 a b d1 s1) (H10_4 a b d1 s1)) n := funext (L10_5_eq cs lf a b d1 v44  R45 n)
  rw [B10_5_eq cs lf a b d1 v44  R45 n s, h1]
  rfl
def E10_6 (a : List Go.AM.D) (b : List Go.AM.D) (d1 : Bool × Unit) (v44 : Int) (s : (Bool) × (Int)) : Env :=
 match s with
 | (v63, v64) =>
  [Go.AM.AV.im (Go.AM.D.sl Bool.false (1 : Nat) a), Go.AM.AV.im (Go.AM.D.sl Bool.false (1 : Nat) b), Go.AM.AV.bad, Go.AM.AV.bad, Go.AM.AV.bad, Go.AM.AV.bad, Go.AM.AV.bad, Go.AM.AV.bad, Go.AM.AV.bad, Go.AM.AV.im (Go.AM.D.bool (Prod.fst d1)), Go.AM.AV.im (Go.AM.D.bool v63), Go.AM.AV.im (Go.AM.D.int Go.IntKind.i64 v44), Go.AM.AV.im (Go.AM.D.int Go.IntKind.i64 v64), Go.AM.AV.bad, Go.AM.AV.bad, Go.AM.AV.bad, Go.AM.AV.bad, Go.AM.AV.bad, Go.AM.AV.bad, Go.AM.AV.bad, Go.AM.AV.bad, Go.AM.AV.bad, Go.AM.AV.bad, Go.AM.AV.bad, Go.AM.AV.bad, Go.AM.AV.bad, Go.AM.AV.bad, Go.AM.AV.bad, Go.AM.AV.bad, Go.AM.AV.bad, Go.AM.AV.bad, Go.AM.AV.bad, Go.AM.AV.bad, Go.AM.AV.bad, Go.AM.AV.bad, Go.AM.AV.bad, Go.AM.AV.bad, Go.AM.AV.bad, Go.AM.AV.bad, Go.AM.AV.bad, Go.AM.AV.bad, Go.AM.AV.bad, Go.AM.AV.bad, Go.AM.AV.bad, Go.AM.AV.bad, Go.AM.AV.bad, Go.AM.AV.bad, Go.AM.AV.bad, Go.AM.AV.bad, Go.AM.AV.bad, Go.AM.AV.bad, Go.AM.AV.bad, Go.AM.AV.bad, Go.AM.AV.bad, Go.AM.AV.bad, Go.AM.AV.bad, Go.AM.AV.bad, Go.AM.AV.bad, Go.AM.AV.bad, Go.AM.AV.bad, Go.AM.AV.bad, Go.AM.AV.bad, Go.AM.AV.bad, Go.AM.AV.bad, Go.AM.AV.bad, Go.AM.AV.bad, Go.AM.AV.bad, Go.AM.AV.bad, Go.AM.AV.bad, Go.AM.AV.bad, Go.AM.AV.bad, Go.AM.AV.bad, Go.AM.AV.bad, Go.AM.AV.bad, Go.AM.AV.bad, Go.AM.AV.bad, Go.AM.AV.bad, Go.AM.AV.bad, Go.AM.AV.bad, Go.AM.AV.bad, Go.AM.AV.bad, Go.AM.AV.bad, Go.AM.AV.bad, Go.AM.AV.bad, Go.AM.AV.bad, Go.AM.AV.bad, Go.AM.AV.bad, Go.AM.AV.bad, Go.AM.AV.bad, Go.AM.AV.bad, Go.AM.AV.bad, Go.AM.AV.bad, Go.AM.AV.bad, Go.AM.AV.bad, Go.AM.AV.bad, Go.AM.AV.bad, Go.AM.AV.bad, Go.AM.AV.bad, Go.AM.AV.bad, Go.AM.AV.bad, Go.AM.AV.bad, Go.AM.AV.bad, Go.AM.AV.bad, Go.AM.AV.bad, Go.AM.AV.bad, Go.AM.AV.bad, Go.AM.AV.bad, Go.AM.AV.bad, Go.AM.AV.bad, Go.AM.AV.bad]
def H10_6 (a : List Go.AM.D) (b : List Go.AM.D) (d1 : Bool × Unit) (v44 : Int) (s : (Bool) × (Int)) : Heap :=
 match s with
 | (v63, v64) =>
  []
noncomputable def C10_6 (cs : Oracle) (lf : Nat) (R45 : Env → Heap → Option (S.Hms.T [.bool])) : Go.Code × S.Kz (S.Hms.T [.bool]) := S.subZ (X10 cs) SG lf fi10.code [1, 1, 1, 1, 1, 0, 1, 0, 0, 1, 0, 0, 1, 1, 0] [R45] K10
noncomputable def B10_6 (cs : Oracle) (lf : Nat) (a : List Go.AM.D) (b : List Go.AM.D) (d1 : Bool × Unit) (v44 : Int) (R45 : (Bool) × (Int) → Option (S.Hms.T [.bool]))  (s : (Bool) × (Int)) (R65 : (Bool) × (Int) → Option (S.Hms.T [.bool])) : Option (S.Hms.T [.bool]) :=
 match s with
 | (v63, v64) =>
  cond (Decidable.decide ((0 : Int) ≤ v44))
  (S.optZ (a[Int.toNat v44]?) fun (d66 : Go.AM.D) =>
   S.optZ (Go.AM.D.asSl (1 : Nat) d66) fun (d67 : List Go.AM.D) =>
    cond (Decidable.decide (v64 < (↑(List.length d67) : Int)))
     (cond (v63)
      (cond (Decidable.decide ((0 : Int) ≤ v44))
       (S.optZ (a[Int.toNat v44]?) fun (d68 : Go.AM.D) =>
        S.optZ (Go.AM.D.asSl (1 : Nat) d68) fun (d69 : List Go.AM.D) =>
         cond (Decidable.decide ((0 : Int) ≤ v64))
          (S.optZ (d69[Int.toNat v64]?) fun (d70 : Go.AM.D) =>
           S.optZ (Go.AM.D.asInt Go.IntKind.i64 d70) fun (d71 : Int) =>
            cond (Decidable.decide ((0 : Int) ≤ v44))
             (S.optZ (b[Int.toNat v44]?) fun (d72 : Go.AM.D) =>
              S.optZ (Go.AM.D.asSl (1 : Nat) d72) fun (d73 : List Go.AM.D) =>
               cond (Decidable.decide ((0 : Int) ≤ v64))
                (S.optZ (d73[Int.toNat v64]?) fun (d74 : Go.AM.D) =>
                 S.optZ (Go.AM.D.asInt Go.IntKind.i64 d74) fun (d75 : Int) =>
                  R65 ((d71 == d75, Go.IntKind.wrap Go.IntKind.i64 (v64 + (1 : Int)))))
                (none))
             (none))
          (none))
       (none))
      (R45 ((v63, Go.IntKind.wrap Go.IntKind.i64 (v44 + (1 : Int))))))
     (R45 ((v63, Go.IntKind.wrap Go.IntKind.i64 (v44 + (1 : Int))))))
  (none)
theorem B10_6_eq (cs : Oracle) (lf : Nat) (a : List Go.AM.D) (b : List Go.AM.D) (d1 : Bool × Unit) (v44 : Int)  (R45 : Env → Heap → Option (S.Hms.T [.bool])) (n : Nat) (s : (Bool) × (Int)) : S.roundsZ (X10 cs) SG lf (C10_6 cs lf R45) (n + 1) (E10_6 a b d1 v44 s) (H10_6 a b d1 v44 s) = B10_6 cs lf a b d1 v44 (fun s1 => R45 (E10_4 a b d1 s1) (H10_4 a b d1 s1))  s (fun s' => S.roundsZ (X10 cs) SG lf (C10_6 cs lf R45) n (E10_6 a b d1 v44 s') (H10_6 a b d1 v44 s')) := by
 kernel_rfl
noncomputable def L10_6 (cs : Oracle) (lf : Nat) (a : List Go.AM.D) (b : List Go.AM.D) (d1 : Bool × Unit) (v44 : Int) (R45 : (Bool) × (Int) → Option (S.Hms.T [.bool])) : Nat → (Bool) × (Int) → Option (S.Hms.T [.bool])
 | 0, _ => none
 | n + 1, s => B10_6 cs lf a b d1 v44 R45  s (L10_6 cs lf a b d1 v44 R45 n)
theorem L10_6_eq (cs : Oracle) (lf : Nat) (a : List Go.AM.D) (b : List Go.AM.D) (d1 : Bool × Unit) (v44 : Int)  (R45 : Env → Heap → Option (S.Hms.T [.bool])) : ∀ (n : Nat) (s : (Bool) × (Int)), S.roundsZ (X10 cs) SG lf (C10_6 cs lf R45) n (E10_6 a b d1 v44 s) (H10_6 a b d1 v44 s) = L10_6 cs lf a b d1 v44 (fun s1 => R45 (E10_4 a b d1 s1) (H10_4 a b d1 s1)) n s
 | 0, s => by
  show _ = none
  kernel_rfl
 | n + 1, s => by
  have h1 : (fun s' => S.roundsZ (X10 cs) SG lf (C10_6 cs lf R45) n (E10_6 a b d1 v44 s') (H10_6 a b d1 v44 s')) = L10_6 cs lf a b d1 v44 (fun s1 => R45 (E10_4 a b d1 s1) (H10_4 a b d1 s1)) n := funext (L10_6_eq cs lf a b d1 v44  R45 n)
  rw [B10_6_eq cs lf a b d1 v44  R45 n s, h1]
  rfl
noncomputable def C10_4 (cs : Oracle) (lf : Nat)  : Go.Code × S.Kz (S.Hms.T [.bool]) := S.subZ (X10 cs) SG lf fi10.code [1, 1, 1, 1, 1, 0, 1, 0] [] K10
noncomputable def B10_4 (cs : Oracle) (lf : Nat) (a : List Go.AM.D) (b : List Go.AM.D) (d1 : Bool × Unit)  (P10_5 : (Int) → (Bool) × (Int) → Option (S.Hms.T [.bool])) (P10_6 : (Int) → (Bool) × (Int) → Option (S.Hms.T [.bool])) (s : (Bool) × (Int)) (R45 : (Bool) × (Int) → Option (S.Hms.T [.bool])) : Option (S.Hms.T [.bool]) :=
 match s with
 | (v43, v44) =>
  cond (Decidable.decide (v44 < (↑(List.length a) : Int)))
  (cond (v43)
   (cond (Decidable.decide ((0 : Int) ≤ v44))
    (S.optZ (a[Int.toNat v44]?) fun (d46 : Go.AM.D) =>
     S.optZ (Go.AM.D.asSl (1 : Nat) d46) fun (d47 : List Go.AM.D) =>
      cond (Decidable.decide ((0 : Int) ≤ v44))
       (S.optZ (b[Int.toNat v44]?) fun (d48 : Go.AM.D) =>
        S.optZ (Go.AM.D.asSl (1 : Nat) d48) fun (d49 : List Go.AM.D) =>
         cond ((↑(List.length d47) : Int) != (↑(List.length d49) : Int))
          (P10_5 v44 ((Bool.false, (0 : Int))))
          (P10_6 v44 ((v43, (0 : Int)))))
       (none))
    (none))
   (cond (Prod.fst d1)
    (S.optZ (Go.AM.S.pureS cs [Go.AM.S.Hm.bool] (44 : Nat) [Go.AM.AV.im (Go.AM.D.sl Bool.false (1 : Nat) a), Go.AM.AV.im (Go.AM.D.sl Bool.false (1 : Nat) b)]) fun (d76 : Bool × Unit) =>
     cond (Prod.fst d76 == v43)
      (S.optZ (Go.AM.S.pureS cs [Go.AM.S.Hm.bool] (44 : Nat) [Go.AM.AV.im (Go.AM.D.sl Bool.false (1 : Nat) a), Go.AM.AV.im (Go.AM.D.sl Bool.false (1 : Nat) a)]) fun (d77 : Bool × Unit) =>
       cond (Prod.fst d77)
        (S.optZ (Go.AM.S.pureS cs [Go.AM.S.Hm.bool] (44 : Nat) [Go.AM.AV.im (Go.AM.D.sl Bool.true (0 : Nat) []), Go.AM.AV.im (Go.AM.D.sl Bool.false (1 : Nat) a)]) fun (d78 : Bool × Unit) =>
         cond (Prod.fst d78)
          (S.optZ (Go.AM.S.pureS cs [Go.AM.S.Hm.bool] (42 : Nat) [Go.AM.AV.im (Go.AM.D.agg [Go.AM.D.int Go.IntKind.i64 (0 : Int), Go.AM.D.int Go.IntKind.i64 (0 : Int), Go.AM.D.int Go.IntKind.i64 (0 : Int), Go.AM.D.sl Bool.false (1 : Nat) a]), Go.AM.AV.im (Go.AM.D.agg [Go.AM.D.int Go.IntKind.i64 (0 : Int), Go.AM.D.int Go.IntKind.i64 (0 : Int), Go.AM.D.int Go.IntKind.i64 (0 : Int), Go.AM.D.sl Bool.false (1 : Nat) b])]) fun (d79 : Bool × Unit) =>
           cond (v43)
            (some ((Prod.fst d79 == ((↑(List.length a) : Int) == (↑(List.length b) : Int)), PUnit.unit)))
            (some ((Prod.fst d79 == Bool.false, PUnit.unit))))
          (some ((Bool.false, PUnit.unit))))
        (some ((Bool.false, PUnit.unit))))
      (some ((Bool.false, PUnit.unit))))
    (some ((Bool.false, PUnit.unit)))))
  (cond (Prod.fst d1)
   (S.optZ (Go.AM.S.pureS cs [Go.AM.S.Hm.bool] (44 : Nat) [Go.AM.AV.im (Go.AM.D.sl Bool.false (1 : Nat) a), Go.AM.AV.im (Go.AM.D.sl Bool.false (1 : Nat) b)]) fun (d80 : Bool × Unit) =>
    cond (Prod.fst d80 == v43)
     (S.optZ (Go.AM.S.pureS cs [Go.AM.S.Hm.bool] (44 : Nat) [Go.AM.AV.im (Go.AM.D.sl Bool.false (1 : Nat) a), Go.AM.AV.im (Go.AM.D.sl Bool.false (1 : Nat) a)]) fun (d81 : Bool × Unit) =>
      cond (Prod.fst d81)
       (S.optZ (Go.AM.S.pureS cs [Go.AM.S.Hm.bool] (44 : Nat) [Go.AM.AV.im (Go.AM.D.sl Bool.true (0 : Nat) []), Go.AM.AV.im (Go.AM.D.sl Bool.false (1 : Nat) a)]) fun (d82 : Bool × Unit) =>
        cond (Prod.fst d82)
         (S.optZ (Go.AM.S.pureS cs [Go.AM.S.Hm.bool] (42 : Nat) [Go.AM.AV.im (Go.AM.D.agg [Go.AM.D.int Go.IntKind.i64 (0 : Int), Go.AM.D.int Go.IntKind.i64 (0 : Int), Go.AM.D.int Go.IntKind.i64 (0 : Int), Go.AM.D.sl Bool.false (1 : Nat) a]), Go.AM.AV.im (Go.AM.D.agg [Go.AM.D.int Go.IntKind.i64 (0 : Int), Go.AM.D.int Go.IntKind.i64 (0 : Int), Go.AM.D.int Go.IntKind.i64 (0 : Int), Go.AM.D.sl Bool.false (1 : Nat) b])]) fun (d83 : Bool × Unit) =>
          cond (v43)
           (some ((Prod.fst d83 == ((↑(List.length a) : Int) == (↑(List.length b) : Int)), PUnit.unit)))
           (some ((Prod.fst d83 == Bool.false, PUnit.unit))))
         (some ((Bool.false, PUnit.unit))))
       (some ((Bool.false, PUnit.unit))))
     (some ((Bool.false, PUnit.unit))))
   (some ((Bool.false, PUnit.unit))))
theorem B10_4_eq (cs : Oracle) (lf : Nat) (a : List Go.AM.D) (b : List Go.AM.D) (d1 : Bool × Unit)   (n : Nat) (s : (Bool) × (Int)) : S.roundsZ (X10 cs) SG lf (C10_4 cs lf ) (n + 1) (E10_4 a b d1 s) (H10_4 a b d1 s) = B10_4 cs lf a b d1  (fun w0 s2 => S.roundsZ (X10 cs) SG lf (C10_5 cs lf  (fun env H => S.roundsZ (X10 cs) SG lf (C10_4 cs lf ) n env H)) lf (E10_5 a b d1 w0 s2) (H10_5 a b d1 w0 s2)) (fun w0 s2 => S.roundsZ (X10 cs) SG lf (C10_6 cs lf  (fun env H => S.roundsZ (X10 cs) SG lf (C10_4 cs lf ) n env H)) lf (E10_6 a b d1 w0 s2) (H10_6 a b d1 w0 s2)) s (fun s' => S.roundsZ (X10 cs) SG lf (C10_4 cs lf ) n (E10_4 a b d1 s') (H10_4 a b d1 s')) := by
 kernel_rfl
noncomputable def L10_4 (cs : Oracle) (lf : Nat) (a : List Go.AM.D) (b : List Go.AM.D) (d1 : Bool × Unit)  : Nat → (Bool) × (Int) → Option (S.Hms.T [.bool])
 | 0, _ => none
 | n + 1, s => B10_4 cs lf a b d1  (fun w0 s2 => L10_5 cs lf a b d1 w0  (L10_4 cs lf a b d1  n) lf s2) (fun w0 s2 => L10_6 cs lf a b d1 w0  (L10_4 cs lf a b d1  n) lf s2) s (L10_4 cs lf a b d1  n)
theorem L10_4_eq (cs : Oracle) (lf : Nat) (a : List Go.AM.D) (b : List Go.AM.D) (d1 : Bool × Unit)   : ∀ (n : Nat) (s : (Bool) × (Int)), S.roundsZ (X10 cs) SG lf (C10_4 cs lf ) n (E10_4 a b d1 s) (H10_4 a b d1 s) = L10_4 cs lf a b d1  n s
 | 0, s => by
  show _ = none
  kernel_rfl
 | n + 1, s => by
  have h1 : (fun s' => S.roundsZ (X10 cs) SG lf (C10_4 cs lf ) n (E10_4 a b d1 s') (H10_4 a b d1 s')) = L10_4 cs lf a b d1  n := funext (L10_4_eq cs lf a b d1   n)
  have h10_5 : (fun w0 s2 => S.roundsZ (X10 cs) SG lf (C10_5 cs lf  (fun env H => S.roundsZ (X10 cs) SG lf (C10_4 cs lf ) n env H)) lf (E10_5 a b d1 w0 s2) (H10_5 a b d1 w0 s2)) = (fun w0 s2 => L10_5 cs lf a b d1 w0  (L10_4 cs lf a b d1  n) lf s2) := by
   funext w0 s2
   exact (L10_5_eq cs lf a b d1 w0   (fun env H => S.roundsZ (X10 cs) SG lf (C10_4 cs lf ) n env H) lf s2).trans (congrArg (fun q => L10_5 cs lf a b d1 w0  q lf s2) h1)
  have h10_6 : (fun w0 s2 => S.roundsZ (X10 cs) SG lf (C10_6 cs lf  (fun env H => S.roundsZ (X10 cs) SG lf (C10_4 cs lf ) n env H)) lf (E10_6 a b d1 w0 s2) (H10_6 a b d1 w0 s2)) = (fun w0 s2 => L10_6 cs lf a b d1 w0  (L10_4 cs lf a b d1  n) lf s2) := by
   funext w0 s2
   exact (L10_6_eq cs lf a b d1 w0   (fun env H => S.roundsZ (X10 cs) SG lf (C10_4 cs lf ) n env H) lf s2).trans (congrArg (fun q => L10_6 cs lf a b d1 w0  q lf s2) h1)
  rw [B10_4_eq cs lf a b d1   n s, h10_5, h10_6, h1]
  rfl
noncomputable def G10 (cs : Oracle) (lf : Nat) (a : List Go.AM.D) (b : List Go.AM.D) (c : Bool) (d : Int) (P10_1 : (Bool × Unit) → (Bool) × (Int) → Option (S.Hms.T [.bool])) (P10_4 : (Bool × Unit) → (Bool) × (Int) → Option (S.Hms.T [.bool])) : Option (S.Hms.T [.bool]) :=
 S.optZ (Go.AM.S.pureS cs [Go.AM.S.Hm.bool] (31 : Nat) []) fun (d1 : Bool × Unit) =>
  cond (!Prod.fst d1)
   (some ((Bool.false, PUnit.unit)))
   (cond (c)
    (cond (Decidable.decide ((0 : Int) ≤ if (↑(List.length b) : Int) < Go.IntKind.wrap Go.IntKind.i64 (Int.tmod d (8 : Int)) then (↑(List.length b) : Int) else Go.IntKind.wrap Go.IntKind.i64 (Int.tmod d (8 : Int))))
     (cond (Decidable.decide ((if (↑(List.length b) : Int) < Go.IntKind.wrap Go.IntKind.i64 (Int.tmod d (8 : Int)) then (↑(List.length b) : Int) else Go.IntKind.wrap Go.IntKind.i64 (Int.tmod d (8 : Int))) ≤ (↑(List.length b) : Int)))
      (P10_1 d1 ((Decidable.decide ((↑(List.length (List.drop (0 : Nat) (List.take (Int.toNat (if (↑(List.length b) : Int) < Go.IntKind.wrap Go.IntKind.i64 (Int.tmod d (8 : Int)) then (↑(List.length b) : Int) else Go.IntKind.wrap Go.IntKind.i64 (Int.tmod d (8 : Int)))) b))) : Int) ≤ (↑(List.length b) : Int)), (0 : Int))))
      (none))
     (none))
    (P10_4 d1 ((Decidable.decide ((↑(List.length a) : Int) ≤ (↑(List.length b) : Int)), (0 : Int)))))
theorem G10_eq (cs : Oracle) (lf : Nat) (a : List Go.AM.D) (b : List Go.AM.D) (c : Bool) (d : Int) : S.bodyS T SG cs fi10 lf [.im (.sl false 1 a), .im (.sl false 1 b), .im (.bool c), .im (.int .u8 d)] [] (S.endP [.bool]) = G10 cs lf a b c d (fun w0 s2 => S.roundsZ (X10 cs) SG lf (C10_1 cs lf) lf (E10_1 b d w0 s2) (H10_1 b d w0 s2)) (fun w0 s2 => S.roundsZ (X10 cs) SG lf (C10_4 cs lf) lf (E10_4 a b w0 s2) (H10_4 a b w0 s2)) := by
 kernel_rfl
noncomputable def F10 (cs : Oracle) (lf : Nat) (a : List Go.AM.D) (b : List Go.AM.D) (c : Bool) (d : Int) : Option (S.Hms.T [.bool]) := G10 cs lf a b c d (fun w0 s2 => L10_1 cs lf b d w0 lf s2) (fun w0 s2 => L10_4 cs lf a b w0 lf s2)
theorem F10_eq (cs : Oracle) (lf : Nat) (a : List Go.AM.D) (b : List Go.AM.D) (c : Bool) (d : Int) : S.bodyS T SG cs fi10 lf [.im (.sl false 1 a), .im (.sl false 1 b), .im (.bool c), .im (.int .u8 d)] [] (S.endP [.bool]) = F10 cs lf a b c d := by
 rw [G10_eq]
 have h10_1 : (fun w0 s2 => S.roundsZ (X10 cs) SG lf (C10_1 cs lf) lf (E10_1 b d w0 s2) (H10_1 b d w0 s2)) = (fun w0 s2 => L10_1 cs lf b d w0 lf s2) := by
  funext w0 s2
  exact L10_1_eq cs lf b d w0 lf s2
 rw [h10_1]
 have h10_4 : (fun w0 s2 => S.roundsZ (X10 cs) SG lf (C10_4 cs lf) lf (E10_4 a b w0 s2) (H10_4 a b w0 s2)) = (fun w0 s2 => L10_4 cs lf a b w0 lf s2) := by
  funext w0 s2
  exact L10_4_eq cs lf a b w0 lf s2
 rw [h10_4]
 rfl
theorem fi10_ok : fi10.ok Tryz.prog 10 := ⟨Tryz.func10, by decide, rfl, by rfl⟩
end Go.Proofs.YtkinbnepkpoofaaGreatDoor