/- Texts joined into one: BaseS UL F11. -/
import Derived.Test.YtkinbnepkpoofaaGreatDoorKg
import Derived.Test.YtkinbnepkpoofaaGreatDoorKd
import Derived.Test.YtkinbnepkpoofaaGreatDoorKc
import Derived.Test.YtkinbnepkpoofaaGreatDoorKh
import Derived.KernelRfl
/- The machine with answers at this program: its table of types; what calls hand back. -/
set_option linter.unusedVariables false
set_option maxRecDepth 100000
namespace Go.Proofs.YtkinbnepkpoofaaGreatDoor
open Go Go.AM
def hmT (T : Tab) (t : TypeId) : S.Hm := match T.ty t with
 | some i => match i.desc with
  | .int k => .int k
  | .bool => .bool
  | .string => .str
  | _ => .any
 | none => .any
def hsL : List (Nat × S.Sg) := [(55, ⟨[.int .i64], [.m [.sl 4, .str, .sl 1, .sl 2, .sl 7, .bool, .mp 1], .o]⟩), (102, ⟨[.int .i64], [.m [.sl 4, .str, .sl 1, .sl 2, .sl 7, .bool, .mp 1], .o]⟩), (104, ⟨[.int .i64], [.m [.sl 4, .str, .sl 1, .sl 2, .sl 7, .bool, .mp 1], .o]⟩), (106, ⟨[.int .i64], [.m [.sl 4, .str, .sl 1, .sl 2, .sl 7, .bool, .mp 1], .o]⟩), (97, ⟨[.ref 0], [.row 1]⟩), (194, ⟨[.int .i64], [.c [.sl 1, .int .i64, .any, .any, .int .i64, .int .i64, .bool]]⟩), (195, ⟨[.any], [.c [.sl 1, .int .i64, .any, .any, .int .i64, .int .i64, .bool]]⟩), (152, ⟨[.any], [.c [.sl 1, .int .i64, .any, .any, .int .i64, .int .i64, .bool]]⟩), (96, ⟨[.sl 7], [.c [.sl 1, .int .i64, .any, .any, .int .i64, .int .i64, .bool]]⟩) ]
def rsT (T : Tab) (t : TypeId) : List S.Hm := match T.ty t with
 | some i => match i.desc with
  | .tuple ts => ts.toList.map (hmT T)
  | _ => [hmT T t]
 | none => []
noncomputable def SG {β : Type} : S.Sgs β := ⟨rsT T, lookL hsL, fun _ => none⟩
end Go.Proofs.YtkinbnepkpoofaaGreatDoor
/- Small laws for what functions come to. -/
set_option linter.unusedVariables false
namespace Go.Proofs.YtkinbnepkpoofaaGreatDoor
open Go Go.AM
theorem wrap_ok {n : Int} (h0 : -9223372036854775808 ≤ n) (h1 : n < 9223372036854775808) : IntKind.wrap .i64 n = n := Go.AM.wrap64 n h0 h1
theorem wrap_succ {i : Nat} {n : Nat} (h : i < n) (hn : n ≤ 9223372036854775807) : IntKind.wrap .i64 ((i : Int) + 1) = ((i + 1 : Nat) : Int) := by
 rw [wrap_ok (by omega) (by omega)]; rfl
@[simp] theorem asInt_int (k : IntKind) (n : Int) : (D.int k n).asInt k = some n := by simp [D.asInt]
@[simp] theorem asSl_sl (t : Bool) (z : Nat) (l : List D) : (D.sl t z l).asSl z = some l := by simp [D.asSl]
@[simp] theorem asStr_str (s : List UInt8) : (D.str s).asStr = some s := rfl
@[simp] theorem asBool_bool (b : Bool) : (D.bool b).asBool = some b := rfl
abbrev INT (n : Int) : D := .int .i64 n
abbrev ints (l : List Int) : List D := l.map (D.int .i64)
abbrev strs (l : List (List UInt8)) : List D := l.map D.str
noncomputable def normP : FuncId → List AV → List AV := fun f vs => match Tryz.prog.funcs[f]? with
 | some fn => S.normA T fn.params.toList vs
 | none => vs
theorem normP_rv (I : Nat → Option (Array Value)) (κ : Nat → Option Go.AM.Loc) (f : FuncId) (xs : List AV) (vs : List Value) (h : RVs I κ xs vs) : RVs I κ (normP f xs) vs := by
 unfold normP
 split
 ·
  exact S.normA_rv h
 ·
  exact h
def Ca (t : TypeId) (d : D) : Prop := S.deepD T t d = d
theorem ca_int (t : TypeId) (k : IntKind) (n : Int) : Ca t (.int k n) := by simp [Ca, S.deepD]
theorem ca_str (t : TypeId) (s : List UInt8) : Ca t (.str s) := by simp [Ca, S.deepD]
theorem ca_bool (t : TypeId) (b : Bool) : Ca t (.bool b) := by simp [Ca, S.deepD]
theorem deepDs_ca {e : TypeId} : ∀ {es : List D}, (∀ d ∈ es, Ca e d) → S.deepDs T e es = es
 | [], _ => by simp [S.deepDs]
 | d :: es, h => by
  simp only [S.deepDs]
  rw [show S.deepD T e d = d from h d (by simp), deepDs_ca fun x hx => h x (List.mem_cons_of_mem _ hx)]
theorem ca_sl {t e : TypeId} {n : Nat} (ht : S.elemT T t = some (e, n)) (hn : n ≠ 0) {es : List D} (h : ∀ d ∈ es, Ca e d) : Ca t (.sl false n es) := by
 unfold Ca
 simp only [S.deepD, ht]
 cases es with
 | nil => simp [hn]
 | cons d es =>
  simp only [if_true]
  rw [show S.deepD T e d = d from h d (by simp), deepDs_ca fun x hx => h x (List.mem_cons_of_mem _ hx)]
theorem deepCs_ca : ∀ {ts : List TypeId} {ds : List D}, (∀ p ∈ ts.zip ds, Ca p.1 p.2) → S.deepCs T ts ds = ds
 | _, [], _ => by simp [S.deepCs]
 | [], d :: ds, _ => by simp [S.deepCs]
 | t :: ts, d :: ds, h => by
  simp only [S.deepCs]
  rw [show S.deepD T t d = d from h (t, d) (by simp), deepCs_ca fun p hp => h p (by simp [hp])]
theorem ca_agg {t : TypeId} {ts : List TypeId} (ht : S.cellsT T 8 t = ts) {cs : List D} (h : ∀ p ∈ ts.zip cs, Ca p.1 p.2) : Ca t (.agg cs) := by
 unfold Ca
 simp only [S.deepD, ht, deepCs_ca h]
theorem normA_ca : ∀ {ts : List TypeId} {ds : List D}, (∀ p ∈ ts.zip ds, Ca p.1 p.2) → S.normA T ts (ds.map AV.im) = ds.map AV.im
 | _, [], _ => by simp [S.normA]
 | [], d :: ds, _ => by simp [S.normA]
 | t :: ts, d :: ds, h => by
  simp only [List.map_cons, S.normA, S.normV]
  rw [show S.deepD T t d = d from h (t, d) (by simp), normA_ca fun p hp => h p (by simp [hp])]
end Go.Proofs.YtkinbnepkpoofaaGreatDoor
/- billhook/billhooklaw08.RunReads: what it comes to. -/
set_option linter.unusedVariables false
set_option maxRecDepth 100000
set_option maxHeartbeats 0
open Go Go.AM
namespace Go.Proofs.YtkinbnepkpoofaaGreatDoor
noncomputable def fi11 : Fi := mkFi T Tryz.f11 { live := fun d => if Nat.beq d 22 then slots 145 [0, 5, 6, 14, 15] else if Nat.beq d 8 then slots 145 [0, 5, 6, 7, 8] else none, frz := isIn [48], clm := fun d => if Nat.beq d 7 then [(0, 7)] else [] }
noncomputable abbrev X11 (cs : Oracle) : Px := fi11.px T cs 0
noncomputable abbrev K11 : S.Kq (S.Hms.T [.bool]) := S.finZ T fi11 0 (S.endP [.bool])
def E11_1 (a : List Go.AM.D) (b : Int) (d1 : Bool × Unit) (s : (Int) × (List Go.AM.D)) : Env :=
 match s with
 | (v2, v3) =>
  [Go.AM.AV.im (Go.AM.D.sl Bool.false (1 : Nat) (List.drop (0 : Nat) (List.take (Int.toNat (if (10 : Int) < (↑(List.length a) : Int) then (10 : Int) else (↑(List.length a) : Int))) a))), Go.AM.AV.bad, Go.AM.AV.bad, Go.AM.AV.bad, Go.AM.AV.bad, Go.AM.AV.im (Go.AM.D.bool (Prod.fst d1)), Go.AM.AV.im (Go.AM.D.int Go.IntKind.i64 (Go.IntKind.wrap Go.IntKind.i64 (Int.tmod b (15 : Int)))), Go.AM.AV.ref (0 : Nat) (0 : Nat) (List.length v3), Go.AM.AV.im (Go.AM.D.int Go.IntKind.i64 v2), Go.AM.AV.bad, Go.AM.AV.bad, Go.AM.AV.bad, Go.AM.AV.bad, Go.AM.AV.bad, Go.AM.AV.bad, Go.AM.AV.bad, Go.AM.AV.bad, Go.AM.AV.bad, Go.AM.AV.bad, Go.AM.AV.bad, Go.AM.AV.bad, Go.AM.AV.bad, Go.AM.AV.bad, Go.AM.AV.bad, Go.AM.AV.bad, Go.AM.AV.bad, Go.AM.AV.bad, Go.AM.AV.bad, Go.AM.AV.bad, Go.AM.AV.bad, Go.AM.AV.bad, Go.AM.AV.bad, Go.AM.AV.bad, Go.AM.AV.bad, Go.AM.AV.bad, Go.AM.AV.bad, Go.AM.AV.bad, Go.AM.AV.bad, Go.AM.AV.bad, Go.AM.AV.bad, Go.AM.AV.bad, Go.AM.AV.bad, Go.AM.AV.bad, Go.AM.AV.bad, Go.AM.AV.bad, Go.AM.AV.bad, Go.AM.AV.bad, Go.AM.AV.bad, Go.AM.AV.bad, Go.AM.AV.bad, Go.AM.AV.bad, Go.AM.AV.bad, Go.AM.AV.bad, Go.AM.AV.bad, Go.AM.AV.bad, Go.AM.AV.bad, Go.AM.AV.bad, Go.AM.AV.bad, Go.AM.AV.bad, Go.AM.AV.bad, Go.AM.AV.bad, Go.AM.AV.bad, Go.AM.AV.bad, Go.AM.AV.bad, Go.AM.AV.bad, Go.AM.AV.bad, Go.AM.AV.bad, Go.AM.AV.bad, Go.AM.AV.bad, Go.AM.AV.bad, Go.AM.AV.bad, Go.AM.AV.bad, Go.AM.AV.bad, Go.AM.AV.bad, Go.AM.AV.bad, Go.AM.AV.bad, Go.AM.AV.bad, Go.AM.AV.bad, Go.AM.AV.bad, Go.AM.AV.bad, Go.AM.AV.bad, Go.AM.AV.bad, Go.AM.AV.bad, Go.AM.AV.bad, Go.AM.AV.bad, Go.AM.AV.bad, Go.AM.AV.bad, Go.AM.AV.bad, Go.AM.AV.bad, Go.AM.AV.bad, Go.AM.AV.bad, Go.AM.AV.bad, Go.AM.AV.bad, Go.AM.AV.bad, Go.AM.AV.bad, Go.AM.AV.bad, Go.AM.AV.bad, Go.AM.AV.bad, Go.AM.AV.bad, Go.AM.AV.bad, Go.AM.AV.bad, Go.AM.AV.bad, Go.AM.AV.bad, Go.AM.AV.bad, Go.AM.AV.bad, Go.AM.AV.bad, Go.AM.AV.bad, Go.AM.AV.bad, Go.AM.AV.bad, Go.AM.AV.bad, Go.AM.AV.bad, Go.AM.AV.bad, Go.AM.AV.bad, Go.AM.AV.bad, Go.AM.AV.bad, Go.AM.AV.bad, Go.AM.AV.bad, Go.AM.AV.bad, Go.AM.AV.bad, Go.AM.AV.bad, Go.AM.AV.bad, Go.AM.AV.bad, Go.AM.AV.bad, Go.AM.AV.bad, Go.AM.AV.bad, Go.AM.AV.bad, Go.AM.AV.bad, Go.AM.AV.bad, Go.AM.AV.bad, Go.AM.AV.bad, Go.AM.AV.bad, Go.AM.AV.bad, Go.AM.AV.bad, Go.AM.AV.bad, Go.AM.AV.bad, Go.AM.AV.bad, Go.AM.AV.bad, Go.AM.AV.bad, Go.AM.AV.bad, Go.AM.AV.bad, Go.AM.AV.bad, Go.AM.AV.bad, Go.AM.AV.bad, Go.AM.AV.bad, Go.AM.AV.bad]
def H11_1 (a : List Go.AM.D) (b : Int) (d1 : Bool × Unit) (s : (Int) × (List Go.AM.D)) : Heap :=
 match s with
 | (v2, v3) =>
  [Option.some (Go.AM.Blk.c (7 : Nat) v3)]
def E11_2 (a : List Go.AM.D) (b : Int) (d1 : Bool × Unit) (d10 : Int × List Go.AM.D) (s : (Int)) : Env :=
 match s with
 | v13 =>
  [Go.AM.AV.im (Go.AM.D.sl Bool.false (1 : Nat) (List.drop (0 : Nat) (List.take (Int.toNat (if (10 : Int) < (↑(List.length a) : Int) then (10 : Int) else (↑(List.length a) : Int))) a))), Go.AM.AV.bad, Go.AM.AV.bad, Go.AM.AV.bad, Go.AM.AV.bad, Go.AM.AV.im (Go.AM.D.bool (Prod.fst d1)), Go.AM.AV.im (Go.AM.D.int Go.IntKind.i64 (Go.IntKind.wrap Go.IntKind.i64 (Int.tmod b (15 : Int)))), Go.AM.AV.bad, Go.AM.AV.bad, Go.AM.AV.bad, Go.AM.AV.bad, Go.AM.AV.bad, Go.AM.AV.bad, Go.AM.AV.bad, Go.AM.AV.im (Go.AM.D.sl Bool.false (3 : Nat) (Prod.snd d10)), Go.AM.AV.im (Go.AM.D.int Go.IntKind.i64 v13), Go.AM.AV.bad, Go.AM.AV.bad, Go.AM.AV.bad, Go.AM.AV.bad, Go.AM.AV.bad, Go.AM.AV.bad, Go.AM.AV.bad, Go.AM.AV.bad, Go.AM.AV.bad, Go.AM.AV.bad, Go.AM.AV.bad, Go.AM.AV.bad, Go.AM.AV.bad, Go.AM.AV.bad, Go.AM.AV.bad, Go.AM.AV.bad, Go.AM.AV.bad, Go.AM.AV.bad, Go.AM.AV.bad, Go.AM.AV.bad, Go.AM.AV.bad, Go.AM.AV.bad, Go.AM.AV.bad, Go.AM.AV.bad, Go.AM.AV.bad, Go.AM.AV.bad, Go.AM.AV.bad, Go.AM.AV.bad, Go.AM.AV.bad, Go.AM.AV.bad, Go.AM.AV.bad, Go.AM.AV.bad, Go.AM.AV.bad, Go.AM.AV.bad, Go.AM.AV.bad, Go.AM.AV.bad, Go.AM.AV.bad, Go.AM.AV.bad, Go.AM.AV.bad, Go.AM.AV.bad, Go.AM.AV.bad, Go.AM.AV.bad, Go.AM.AV.bad, Go.AM.AV.bad, Go.AM.AV.bad, Go.AM.AV.bad, Go.AM.AV.bad, Go.AM.AV.bad, Go.AM.AV.bad, Go.AM.AV.bad, Go.AM.AV.bad, Go.AM.AV.bad, Go.AM.AV.bad, Go.AM.AV.bad, Go.AM.AV.bad, Go.AM.AV.bad, Go.AM.AV.bad, Go.AM.AV.bad, Go.AM.AV.bad, Go.AM.AV.bad, Go.AM.AV.bad, Go.AM.AV.bad, Go.AM.AV.bad, Go.AM.AV.bad, Go.AM.AV.bad, Go.AM.AV.bad, Go.AM.AV.bad, Go.AM.AV.bad, Go.AM.AV.bad, Go.AM.AV.bad, Go.AM.AV.bad, Go.AM.AV.bad, Go.AM.AV.bad, Go.AM.AV.bad, Go.AM.AV.bad, Go.AM.AV.bad, Go.AM.AV.bad, Go.AM.AV.bad, Go.AM.AV.bad, Go.AM.AV.bad, Go.AM.AV.bad, Go.AM.AV.bad, Go.AM.AV.bad, Go.AM.AV.bad, Go.AM.AV.bad, Go.AM.AV.bad, Go.AM.AV.bad, Go.AM.AV.bad, Go.AM.AV.bad, Go.AM.AV.bad, Go.AM.AV.bad, Go.AM.AV.bad, Go.AM.AV.bad, Go.AM.AV.bad, Go.AM.AV.bad, Go.AM.AV.bad, Go.AM.AV.bad, Go.AM.AV.bad, Go.AM.AV.bad, Go.AM.AV.bad, Go.AM.AV.bad, Go.AM.AV.bad, Go.AM.AV.bad, Go.AM.AV.bad, Go.AM.AV.bad, Go.AM.AV.bad, Go.AM.AV.bad, Go.AM.AV.bad, Go.AM.AV.bad, Go.AM.AV.bad, Go.AM.AV.bad, Go.AM.AV.bad, Go.AM.AV.bad, Go.AM.AV.bad, Go.AM.AV.bad, Go.AM.AV.bad, Go.AM.AV.bad, Go.AM.AV.bad, Go.AM.AV.bad, Go.AM.AV.bad, Go.AM.AV.bad, Go.AM.AV.bad, Go.AM.AV.bad, Go.AM.AV.bad, Go.AM.AV.bad, Go.AM.AV.bad, Go.AM.AV.bad, Go.AM.AV.bad, Go.AM.AV.bad]
def H11_2 (a : List Go.AM.D) (b : Int) (d1 : Bool × Unit) (d10 : Int × List Go.AM.D) (s : (Int)) : Heap :=
 match s with
 | v13 =>
  []
noncomputable def C11_2 (cs : Oracle) (lf : Nat) (R4 : Env → Heap → Option (S.Hms.T [.bool])) : Go.Code × S.Kq (S.Hms.T [.bool]) := S.subZ (X11 cs) SG lf fi11.code [1, 1, 1, 1, 1, 1, 1, 1, 1, 1, 1, 1, 1, 1, 1, 0, 1, 0] [R4] K11
noncomputable def B11_2 (cs : Oracle) (lf : Nat) (a : List Go.AM.D) (b : Int) (d1 : Bool × Unit) (d10 : Int × List Go.AM.D) (R4 : (Int) × (List Go.AM.D) → Option (S.Hms.T [.bool]))  (s : (Int)) (R14 : (Int) → Option (S.Hms.T [.bool])) : Option (S.Hms.T [.bool]) :=
 match s with
 | v13 =>
  cond (Decidable.decide (v13 < (15 : Int)))
  (cond (Decidable.decide (v13 < Go.IntKind.wrap Go.IntKind.i64 (Int.tmod b (15 : Int))))
   (cond (Decidable.decide (v13 < (↑(List.length (List.drop (0 : Nat) (List.take (Int.toNat (if (10 : Int) < (↑(List.length a) : Int) then (10 : Int) else (↑(List.length a) : Int))) a))) : Int)))
    (cond (Decidable.decide ((0 : Int) ≤ v13))
     (S.optZ ((List.drop (0 : Nat) (List.take (Int.toNat (if (10 : Int) < (↑(List.length a) : Int) then (10 : Int) else (↑(List.length a) : Int))) a))[Int.toNat v13]?) fun (d15 : Go.AM.D) =>
      S.optZ (Go.AM.D.asInt Go.IntKind.i64 d15) fun (d16 : Int) =>
       S.optZ ((Prod.snd d10)[(1 : Nat)]?) fun (d17 : Go.AM.D) =>
        S.optZ (Go.AM.S.stDec [Go.AM.Sc.str, Go.AM.Sc.bool, Go.AM.Sc.sl (1 : Nat)] d17) fun (d18 : List UInt8 × Bool × List Go.AM.D) =>
         cond (Decidable.decide ((0 : Int) ≤ v13))
          (S.optZ ((Prod.snd (Prod.snd d18))[Int.toNat v13]?) fun (d19 : Go.AM.D) =>
           S.optZ (Go.AM.D.asInt Go.IntKind.i64 d19) fun (d20 : Int) =>
            cond (d20 != d16)
             (some ((Bool.false, PUnit.unit)))
             (R14 (Go.IntKind.wrap Go.IntKind.i64 (v13 + (1 : Int)))))
          (none))
     (none))
    (S.optZ ((Prod.snd d10)[(1 : Nat)]?) fun (d21 : Go.AM.D) =>
     S.optZ (Go.AM.S.stDec [Go.AM.Sc.str, Go.AM.Sc.bool, Go.AM.Sc.sl (1 : Nat)] d21) fun (d22 : List UInt8 × Bool × List Go.AM.D) =>
      cond (Decidable.decide ((0 : Int) ≤ v13))
       (S.optZ ((Prod.snd (Prod.snd d22))[Int.toNat v13]?) fun (d23 : Go.AM.D) =>
        S.optZ (Go.AM.D.asInt Go.IntKind.i64 d23) fun (d24 : Int) =>
         cond (d24 != (0 : Int))
          (some ((Bool.false, PUnit.unit)))
          (R14 (Go.IntKind.wrap Go.IntKind.i64 (v13 + (1 : Int)))))
       (none)))
   (S.optZ ((Prod.snd d10)[(1 : Nat)]?) fun (d25 : Go.AM.D) =>
    S.optZ (Go.AM.S.stDec [Go.AM.Sc.str, Go.AM.Sc.bool, Go.AM.Sc.sl (1 : Nat)] d25) fun (d26 : List UInt8 × Bool × List Go.AM.D) =>
     cond (Decidable.decide ((0 : Int) ≤ v13))
      (S.optZ ((Prod.snd (Prod.snd d26))[Int.toNat v13]?) fun (d27 : Go.AM.D) =>
       S.optZ (Go.AM.D.asInt Go.IntKind.i64 d27) fun (d28 : Int) =>
        cond (d28 != (0 : Int))
         (some ((Bool.false, PUnit.unit)))
         (R14 (Go.IntKind.wrap Go.IntKind.i64 (v13 + (1 : Int)))))
      (none)))
  (some ((Prod.fst d1, PUnit.unit)))
theorem B11_2_eq (cs : Oracle) (lf : Nat) (a : List Go.AM.D) (b : Int) (d1 : Bool × Unit) (d10 : Int × List Go.AM.D)  (R4 : Env → Heap → Option (S.Hms.T [.bool])) (n : Nat) (s : (Int)) : S.roundsZ (X11 cs) SG lf (C11_2 cs lf R4) (n + 1) (E11_2 a b d1 d10 s) (H11_2 a b d1 d10 s) = B11_2 cs lf a b d1 d10 (fun s1 => R4 (E11_1 a b d1 s1) (H11_1 a b d1 s1))  s (fun s' => S.roundsZ (X11 cs) SG lf (C11_2 cs lf R4) n (E11_2 a b d1 d10 s') (H11_2 a b d1 d10 s')) := by
 kernel_rfl
noncomputable def L11_2 (cs : Oracle) (lf : Nat) (a : List Go.AM.D) (b : Int) (d1 : Bool × Unit) (d10 : Int × List Go.AM.D) (R4 : (Int) × (List Go.AM.D) → Option (S.Hms.T [.bool])) : Nat → (Int) → Option (S.Hms.T [.bool])
 | 0, _ => none
 | n + 1, s => B11_2 cs lf a b d1 d10 R4  s (L11_2 cs lf a b d1 d10 R4 n)
theorem L11_2_eq (cs : Oracle) (lf : Nat) (a : List Go.AM.D) (b : Int) (d1 : Bool × Unit) (d10 : Int × List Go.AM.D)  (R4 : Env → Heap → Option (S.Hms.T [.bool])) : ∀ (n : Nat) (s : (Int)), S.roundsZ (X11 cs) SG lf (C11_2 cs lf R4) n (E11_2 a b d1 d10 s) (H11_2 a b d1 d10 s) = L11_2 cs lf a b d1 d10 (fun s1 => R4 (E11_1 a b d1 s1) (H11_1 a b d1 s1)) n s
 | 0, s => by
  show _ = none
  kernel_rfl
 | n + 1, s => by
  have h1 : (fun s' => S.roundsZ (X11 cs) SG lf (C11_2 cs lf R4) n (E11_2 a b d1 d10 s') (H11_2 a b d1 d10 s')) = L11_2 cs lf a b d1 d10 (fun s1 => R4 (E11_1 a b d1 s1) (H11_1 a b d1 s1)) n := funext (L11_2_eq cs lf a b d1 d10  R4 n)
  rw [B11_2_eq cs lf a b d1 d10  R4 n s, h1]
  rfl
noncomputable def C11_1 (cs : Oracle) (lf : Nat)  : Go.Code × S.Kq (S.Hms.T [.bool]) := S.subZ (X11 cs) SG lf fi11.code [1, 1, 1, 1, 1, 1, 0, 1, 0] [] K11
noncomputable def B11_1 (cs : Oracle) (lf : Nat) (a : List Go.AM.D) (b : Int) (d1 : Bool × Unit)  (P11_2 : (Int × List Go.AM.D) → (Int) → Option (S.Hms.T [.bool])) (s : (Int) × (List Go.AM.D)) (R4 : (Int) × (List Go.AM.D) → Option (S.Hms.T [.bool])) : Option (S.Hms.T [.bool]) :=
 match s with
 | (v2, v3) =>
  cond (Decidable.decide (v2 < Go.IntKind.wrap Go.IntKind.i64 (Int.tmod b (15 : Int))))
  (cond (Decidable.decide (List.length (List.take (List.length v3) (List.drop (0 : Nat) v3) ++ [Go.AM.D.agg [Go.AM.D.int Go.IntKind.i64 (2 : Int), Go.AM.D.int Go.IntKind.i64 (0 : Int), Go.AM.D.str [OfNat.ofNat (97 : Nat)], Go.AM.D.str [], Go.AM.D.sl Bool.true (0 : Nat) [], Go.AM.D.sl Bool.true (0 : Nat) [], Go.AM.D.sl Bool.true (0 : Nat) []], Go.AM.D.agg [Go.AM.D.int Go.IntKind.i64 (1 : Int), Go.AM.D.int Go.IntKind.i64 (0 : Int), Go.AM.D.str [OfNat.ofNat (120 : Nat), OfNat.ofNat (115 : Nat)], Go.AM.D.str [], Go.AM.D.sl Bool.true (5 : Nat) [Go.AM.D.agg [Go.AM.D.int Go.IntKind.i64 (0 : Int), Go.AM.D.str [], Go.AM.D.int Go.IntKind.i64 v2, Go.AM.D.str [], Go.AM.D.sl Bool.true (0 : Nat) []], Go.AM.D.agg [Go.AM.D.int Go.IntKind.i64 (1 : Int), Go.AM.D.str [], Go.AM.D.int Go.IntKind.i64 (0 : Int), Go.AM.D.str [OfNat.ofNat (97 : Nat)], Go.AM.D.sl Bool.true (0 : Nat) []]], Go.AM.D.sl Bool.true (0 : Nat) [], Go.AM.D.sl Bool.true (0 : Nat) []]]) * (120 : Nat) ≤ (140737488355328 : Nat)))
   (cond (Decidable.decide (List.length (List.take (List.length v3) (List.drop (0 : Nat) v3) ++ [Go.AM.D.agg [Go.AM.D.int Go.IntKind.i64 (2 : Int), Go.AM.D.int Go.IntKind.i64 (0 : Int), Go.AM.D.str [OfNat.ofNat (97 : Nat)], Go.AM.D.str [], Go.AM.D.sl Bool.true (0 : Nat) [], Go.AM.D.sl Bool.true (0 : Nat) [], Go.AM.D.sl Bool.true (0 : Nat) []], Go.AM.D.agg [Go.AM.D.int Go.IntKind.i64 (1 : Int), Go.AM.D.int Go.IntKind.i64 (0 : Int), Go.AM.D.str [OfNat.ofNat (120 : Nat), OfNat.ofNat (115 : Nat)], Go.AM.D.str [], Go.AM.D.sl Bool.true (5 : Nat) [Go.AM.D.agg [Go.AM.D.int Go.IntKind.i64 (0 : Int), Go.AM.D.str [], Go.AM.D.int Go.IntKind.i64 v2, Go.AM.D.str [], Go.AM.D.sl Bool.true (0 : Nat) []], Go.AM.D.agg [Go.AM.D.int Go.IntKind.i64 (1 : Int), Go.AM.D.str [], Go.AM.D.int Go.IntKind.i64 (0 : Int), Go.AM.D.str [OfNat.ofNat (97 : Nat)], Go.AM.D.sl Bool.true (0 : Nat) []]], Go.AM.D.sl Bool.true (0 : Nat) [], Go.AM.D.sl Bool.true (0 : Nat) []]]) ≤ (140737488355328 : Nat)))
    (R4 ((Go.IntKind.wrap Go.IntKind.i64 (v2 + (1 : Int)), List.take (List.length v3) (List.drop (0 : Nat) v3) ++ [Go.AM.D.agg [Go.AM.D.int Go.IntKind.i64 (2 : Int), Go.AM.D.int Go.IntKind.i64 (0 : Int), Go.AM.D.str [OfNat.ofNat (97 : Nat)], Go.AM.D.str [], Go.AM.D.sl Bool.true (0 : Nat) [], Go.AM.D.sl Bool.true (0 : Nat) [], Go.AM.D.sl Bool.true (0 : Nat) []], Go.AM.D.agg [Go.AM.D.int Go.IntKind.i64 (1 : Int), Go.AM.D.int Go.IntKind.i64 (0 : Int), Go.AM.D.str [OfNat.ofNat (120 : Nat), OfNat.ofNat (115 : Nat)], Go.AM.D.str [], Go.AM.D.sl Bool.true (5 : Nat) [Go.AM.D.agg [Go.AM.D.int Go.IntKind.i64 (0 : Int), Go.AM.D.str [], Go.AM.D.int Go.IntKind.i64 v2, Go.AM.D.str [], Go.AM.D.sl Bool.true (0 : Nat) []], Go.AM.D.agg [Go.AM.D.int Go.IntKind.i64 (1 : Int), Go.AM.D.str [], Go.AM.D.int Go.IntKind.i64 (0 : Int), Go.AM.D.str [OfNat.ofNat (97 : Nat)], Go.AM.D.sl Bool.true (0 : Nat) []]], Go.AM.D.sl Bool.true (0 : Nat) [], Go.AM.D.sl Bool.true (0 : Nat) []]])))
    (none))
   (none))
  (cond (Decidable.decide (List.length (List.take (List.length v3) (List.drop (0 : Nat) v3) ++ [Go.AM.D.agg [Go.AM.D.int Go.IntKind.i64 (6 : Int), Go.AM.D.int Go.IntKind.i64 (0 : Int), Go.AM.D.str [], Go.AM.D.str [], Go.AM.D.sl Bool.true (0 : Nat) [], Go.AM.D.sl Bool.true (0 : Nat) [], Go.AM.D.sl Bool.true (0 : Nat) []]]) * (120 : Nat) ≤ (140737488355328 : Nat)))
   (cond (Decidable.decide (List.length (List.take (List.length v3) (List.drop (0 : Nat) v3) ++ [Go.AM.D.agg [Go.AM.D.int Go.IntKind.i64 (6 : Int), Go.AM.D.int Go.IntKind.i64 (0 : Int), Go.AM.D.str [], Go.AM.D.str [], Go.AM.D.sl Bool.true (0 : Nat) [], Go.AM.D.sl Bool.true (0 : Nat) [], Go.AM.D.sl Bool.true (0 : Nat) []]]) ≤ (140737488355328 : Nat)))
    (S.optZ (Go.AM.S.pureS cs [Go.AM.S.Hm.any, Go.AM.S.Hm.int Go.IntKind.i64] (33 : Nat) [Go.AM.AV.im (Go.AM.D.agg [Go.AM.D.sl Bool.false (4 : Nat) [Go.AM.D.agg [Go.AM.D.str [OfNat.ofNat (109 : Nat), OfNat.ofNat (97 : Nat), OfNat.ofNat (105 : Nat), OfNat.ofNat (110 : Nat)], Go.AM.D.sl Bool.true (0 : Nat) [], Go.AM.D.sl Bool.true (2 : Nat) [Go.AM.D.agg [Go.AM.D.str [OfNat.ofNat (97 : Nat)], Go.AM.D.int Go.IntKind.i64 (0 : Int)], Go.AM.D.agg [Go.AM.D.str [OfNat.ofNat (120 : Nat), OfNat.ofNat (115 : Nat)], Go.AM.D.int Go.IntKind.i64 (15 : Int)]], Go.AM.D.sl Bool.true (7 : Nat) [Go.AM.D.agg [Go.AM.D.int Go.IntKind.i64 (5 : Int), Go.AM.D.int Go.IntKind.i64 (0 : Int), Go.AM.D.str [], Go.AM.D.str [], Go.AM.D.sl Bool.true (5 : Nat) [Go.AM.D.agg [Go.AM.D.int Go.IntKind.i64 (0 : Int), Go.AM.D.str [], Go.AM.D.int Go.IntKind.i64 (1 : Int), Go.AM.D.str [], Go.AM.D.sl Bool.true (0 : Nat) []]], Go.AM.D.sl Bool.false (7 : Nat) (List.take (List.length (List.take (List.length v3) (List.drop (0 : Nat) v3) ++ [Go.AM.D.agg [Go.AM.D.int Go.IntKind.i64 (6 : Int), Go.AM.D.int Go.IntKind.i64 (0 : Int), Go.AM.D.str [], Go.AM.D.str [], Go.AM.D.sl Bool.true (0 : Nat) [], Go.AM.D.sl Bool.true (0 : Nat) [], Go.AM.D.sl Bool.true (0 : Nat) []]])) (List.drop (0 : Nat) (List.take (List.length v3) (List.drop (0 : Nat) v3) ++ [Go.AM.D.agg [Go.AM.D.int Go.IntKind.i64 (6 : Int), Go.AM.D.int Go.IntKind.i64 (0 : Int), Go.AM.D.str [], Go.AM.D.str [], Go.AM.D.sl Bool.true (0 : Nat) [], Go.AM.D.sl Bool.true (0 : Nat) [], Go.AM.D.sl Bool.true (0 : Nat) []]]))), Go.AM.D.sl Bool.true (0 : Nat) []], Go.AM.D.agg [Go.AM.D.int Go.IntKind.i64 (8 : Int), Go.AM.D.int Go.IntKind.i64 (0 : Int), Go.AM.D.str [], Go.AM.D.str [], Go.AM.D.sl Bool.true (5 : Nat) [Go.AM.D.agg [Go.AM.D.int Go.IntKind.i64 (0 : Int), Go.AM.D.str [], Go.AM.D.int Go.IntKind.i64 (0 : Int), Go.AM.D.str [], Go.AM.D.sl Bool.true (0 : Nat) []]], Go.AM.D.sl Bool.true (0 : Nat) [], Go.AM.D.sl Bool.true (0 : Nat) []]]]]]), Go.AM.AV.im (Go.AM.D.sl Bool.false (1 : Nat) (List.drop (0 : Nat) (List.take (Int.toNat (if (10 : Int) < (↑(List.length a) : Int) then (10 : Int) else (↑(List.length a) : Int))) a))), Go.AM.AV.im (Go.AM.D.int Go.IntKind.i64 (100 : Int)), Go.AM.AV.im (Go.AM.D.int Go.IntKind.i64 (0 : Int)), Go.AM.AV.im (Go.AM.D.sl Bool.true (0 : Nat) [])]) fun (d5 : Go.AM.D × Int × Unit) =>
     S.optZ (Go.AM.S.stDec [Go.AM.Sc.int Go.IntKind.i64, Go.AM.Sc.int Go.IntKind.i64, Go.AM.Sc.int Go.IntKind.i64, Go.AM.Sc.sl (1 : Nat)] (Prod.fst d5)) fun (d6 : Int × Int × Int × List Go.AM.D) =>
      S.optZ (Go.AM.S.pureS cs [Go.AM.S.Hm.any, Go.AM.S.Hm.int Go.IntKind.i64] (37 : Nat) [Go.AM.AV.im (Go.AM.D.agg [Go.AM.D.sl Bool.false (4 : Nat) [Go.AM.D.agg [Go.AM.D.str [OfNat.ofNat (109 : Nat), OfNat.ofNat (97 : Nat), OfNat.ofNat (105 : Nat), OfNat.ofNat (110 : Nat)], Go.AM.D.sl Bool.true (0 : Nat) [], Go.AM.D.sl Bool.true (2 : Nat) [Go.AM.D.agg [Go.AM.D.str [OfNat.ofNat (97 : Nat)], Go.AM.D.int Go.IntKind.i64 (0 : Int)], Go.AM.D.agg [Go.AM.D.str [OfNat.ofNat (120 : Nat), OfNat.ofNat (115 : Nat)], Go.AM.D.int Go.IntKind.i64 (15 : Int)]], Go.AM.D.sl Bool.true (7 : Nat) [Go.AM.D.agg [Go.AM.D.int Go.IntKind.i64 (5 : Int), Go.AM.D.int Go.IntKind.i64 (0 : Int), Go.AM.D.str [], Go.AM.D.str [], Go.AM.D.sl Bool.true (5 : Nat) [Go.AM.D.agg [Go.AM.D.int Go.IntKind.i64 (0 : Int), Go.AM.D.str [], Go.AM.D.int Go.IntKind.i64 (1 : Int), Go.AM.D.str [], Go.AM.D.sl Bool.true (0 : Nat) []]], Go.AM.D.sl Bool.false (7 : Nat) (List.take (List.length (List.take (List.length v3) (List.drop (0 : Nat) v3) ++ [Go.AM.D.agg [Go.AM.D.int Go.IntKind.i64 (6 : Int), Go.AM.D.int Go.IntKind.i64 (0 : Int), Go.AM.D.str [], Go.AM.D.str [], Go.AM.D.sl Bool.true (0 : Nat) [], Go.AM.D.sl Bool.true (0 : Nat) [], Go.AM.D.sl Bool.true (0 : Nat) []]])) (List.drop (0 : Nat) (List.take (List.length v3) (List.drop (0 : Nat) v3) ++ [Go.AM.D.agg [Go.AM.D.int Go.IntKind.i64 (6 : Int), Go.AM.D.int Go.IntKind.i64 (0 : Int), Go.AM.D.str [], Go.AM.D.str [], Go.AM.D.sl Bool.true (0 : Nat) [], Go.AM.D.sl Bool.true (0 : Nat) [], Go.AM.D.sl Bool.true (0 : Nat) []]]))), Go.AM.D.sl Bool.true (0 : Nat) []], Go.AM.D.agg [Go.AM.D.int Go.IntKind.i64 (8 : Int), Go.AM.D.int Go.IntKind.i64 (0 : Int), Go.AM.D.str [], Go.AM.D.str [], Go.AM.D.sl Bool.true (5 : Nat) [Go.AM.D.agg [Go.AM.D.int Go.IntKind.i64 (0 : Int), Go.AM.D.str [], Go.AM.D.int Go.IntKind.i64 (0 : Int), Go.AM.D.str [], Go.AM.D.sl Bool.true (0 : Nat) []]], Go.AM.D.sl Bool.true (0 : Nat) [], Go.AM.D.sl Bool.true (0 : Nat) []]]]]]), Go.AM.AV.im (Go.AM.D.sl Bool.false (1 : Nat) (List.drop (0 : Nat) (List.take (Int.toNat (if (10 : Int) < (↑(List.length a) : Int) then (10 : Int) else (↑(List.length a) : Int))) a))), Go.AM.AV.im (Go.AM.D.int Go.IntKind.i64 (100 : Int))]) fun (d7 : Go.AM.D × Int × Unit) =>
       S.optZ (Go.AM.D.asSl (2 : Nat) (Prod.fst d7)) fun (d8 : List Go.AM.D) =>
        cond (Prod.fst (Prod.snd d5) != (0 : Int))
         (some ((Bool.false, PUnit.unit)))
         (cond (Prod.fst (Prod.snd d7) != (0 : Int))
          (some ((Bool.false, PUnit.unit)))
          (cond ((↑(List.length d8) : Int) != Go.IntKind.wrap Go.IntKind.i64 (Go.IntKind.wrap Go.IntKind.i64 ((2 : Int) * Go.IntKind.wrap Go.IntKind.i64 (Int.tmod b (15 : Int))) + (3 : Int)))
           (some ((Bool.false, PUnit.unit)))
           (cond (Prod.fst d6 != (0 : Int))
            (some ((Bool.false, PUnit.unit)))
            (cond (Prod.fst (Prod.snd d6) != Go.IntKind.wrap Go.IntKind.i64 (Go.IntKind.wrap Go.IntKind.i64 ((2 : Int) * Go.IntKind.wrap Go.IntKind.i64 (Int.tmod b (15 : Int))) + (3 : Int)))
             (some ((Bool.false, PUnit.unit)))
             (cond (Decidable.decide ((0 : Int) ≤ Go.IntKind.wrap Go.IntKind.i64 ((↑(List.length d8) : Int) - (1 : Int))))
              (S.optZ (d8[Int.toNat (Go.IntKind.wrap Go.IntKind.i64 ((↑(List.length d8) : Int) - (1 : Int)))]?) fun (d9 : Go.AM.D) =>
               S.optZ (Go.AM.S.stDec [Go.AM.Sc.int Go.IntKind.i64, Go.AM.Sc.sl (3 : Nat)] d9) fun (d10 : Int × List Go.AM.D) =>
                cond ((↑(List.length (Prod.snd d10)) : Int) != (2 : Int))
                 (some ((Bool.false, PUnit.unit)))
                 (S.optZ ((Prod.snd d10)[(1 : Nat)]?) fun (d11 : Go.AM.D) =>
                  S.optZ (Go.AM.S.stDec [Go.AM.Sc.str, Go.AM.Sc.bool, Go.AM.Sc.sl (1 : Nat)] d11) fun (d12 : List UInt8 × Bool × List Go.AM.D) =>
                   cond ((↑(List.length (Prod.snd (Prod.snd d12))) : Int) != (15 : Int))
                    (some ((Bool.false, PUnit.unit)))
                    (P11_2 d10 ((0 : Int)))))
              (none)))))))
    (none))
   (none))
theorem B11_1_eq (cs : Oracle) (lf : Nat) (a : List Go.AM.D) (b : Int) (d1 : Bool × Unit)   (n : Nat) (s : (Int) × (List Go.AM.D)) : S.roundsZ (X11 cs) SG lf (C11_1 cs lf ) (n + 1) (E11_1 a b d1 s) (H11_1 a b d1 s) = B11_1 cs lf a b d1  (fun w0 s2 => S.roundsZ (X11 cs) SG lf (C11_2 cs lf  (fun env H => S.roundsZ (X11 cs) SG lf (C11_1 cs lf ) n env H)) lf (E11_2 a b d1 w0 s2) (H11_2 a b d1 w0 s2)) s (fun s' => S.roundsZ (X11 cs) SG lf (C11_1 cs lf ) n (E11_1 a b d1 s') (H11_1 a b d1 s')) := by
 kernel_rfl
noncomputable def L11_1 (cs : Oracle) (lf : Nat) (a : List Go.AM.D) (b : Int) (d1 : Bool × Unit)  : Nat → (Int) × (List Go.AM.D) → Option (S.Hms.T [.bool])
 | 0, _ => none
 | n + 1, s => B11_1 cs lf a b d1  (fun w0 s2 => L11_2 cs lf a b d1 w0  (L11_1 cs lf a b d1  n) lf s2) s (L11_1 cs lf a b d1  n)
theorem L11_1_eq (cs : Oracle) (lf : Nat) (a : List Go.AM.D) (b : Int) (d1 : Bool × Unit)   : ∀ (n : Nat) (s : (Int) × (List Go.AM.D)), S.roundsZ (X11 cs) SG lf (C11_1 cs lf ) n (E11_1 a b d1 s) (H11_1 a b d1 s) = L11_1 cs lf a b d1  n s
 | 0, s => by
  show _ = none
  kernel_rfl
 | n + 1, s => by
  have h1 : (fun s' => S.roundsZ (X11 cs) SG lf (C11_1 cs lf ) n (E11_1 a b d1 s') (H11_1 a b d1 s')) = L11_1 cs lf a b d1  n := funext (L11_1_eq cs lf a b d1   n)
  have h11_2 : (fun w0 s2 => S.roundsZ (X11 cs) SG lf (C11_2 cs lf  (fun env H => S.roundsZ (X11 cs) SG lf (C11_1 cs lf ) n env H)) lf (E11_2 a b d1 w0 s2) (H11_2 a b d1 w0 s2)) = (fun w0 s2 => L11_2 cs lf a b d1 w0  (L11_1 cs lf a b d1  n) lf s2) := by
   funext w0 s2
   exact (L11_2_eq cs lf a b d1 w0   (fun env H => S.roundsZ (X11 cs) SG lf (C11_1 cs lf ) n env H) lf s2).trans (congrArg (fun q => L11_2 cs lf a b d1 w0  q lf s2) h1)
  rw [B11_1_eq cs lf a b d1   n s, h11_2, h1]
  rfl
noncomputable def G11 (cs : Oracle) (lf : Nat) (a : List Go.AM.D) (b : Int) (P11_1 : (Bool × Unit) → (Int) × (List Go.AM.D) → Option (S.Hms.T [.bool])) : Option (S.Hms.T [.bool]) :=
 S.optZ (Go.AM.S.pureS cs [Go.AM.S.Hm.bool] (31 : Nat) []) fun (d1 : Bool × Unit) =>
  cond (!Prod.fst d1)
   (some ((Bool.false, PUnit.unit)))
   (cond (Decidable.decide ((0 : Int) ≤ if (10 : Int) < (↑(List.length a) : Int) then (10 : Int) else (↑(List.length a) : Int)))
    (cond (Decidable.decide ((if (10 : Int) < (↑(List.length a) : Int) then (10 : Int) else (↑(List.length a) : Int)) ≤ (↑(List.length a) : Int)))
     (P11_1 d1 (((0 : Int), [])))
     (none))
    (none))
theorem G11_eq (cs : Oracle) (lf : Nat) (a : List Go.AM.D) (b : Int) : S.bodyS T SG cs fi11 lf [.im (.sl false 1 a), .im (.int .u8 b)] [] (S.endP [.bool]) = G11 cs lf a b (fun w0 s2 => S.roundsZ (X11 cs) SG lf (C11_1 cs lf) lf (E11_1 a b w0 s2) (H11_1 a b w0 s2)) := by
 kernel_rfl
noncomputable def F11 (cs : Oracle) (lf : Nat) (a : List Go.AM.D) (b : Int) : Option (S.Hms.T [.bool]) := G11 cs lf a b (fun w0 s2 => L11_1 cs lf a b w0 lf s2)
theorem F11_eq (cs : Oracle) (lf : Nat) (a : List Go.AM.D) (b : Int) : S.bodyS T SG cs fi11 lf [.im (.sl false 1 a), .im (.int .u8 b)] [] (S.endP [.bool]) = F11 cs lf a b := by
 rw [G11_eq]
 have h11_1 : (fun w0 s2 => S.roundsZ (X11 cs) SG lf (C11_1 cs lf) lf (E11_1 a b w0 s2) (H11_1 a b w0 s2)) = (fun w0 s2 => L11_1 cs lf a b w0 lf s2) := by
  funext w0 s2
  exact L11_1_eq cs lf a b w0 lf s2
 rw [h11_1]
 rfl
theorem fi11_ok : fi11.ok Tryz.prog 11 := ⟨Tryz.func11, by decide, rfl, by rfl⟩
end Go.Proofs.YtkinbnepkpoofaaGreatDoor