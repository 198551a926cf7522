/- Texts joined into one: BaseS UL Inl F6 F18 F50 F29 F71_0 F121_c1 F122 F72 F124_0 F162_c1 F209_c1 F163 F125_0 F164_c1 F165 F60_c1 F61 F126 F127 F166_0 F115_c1 F157_c1 F86 F59 F113 F55_e0 F53 F21 F26 F67_c1 F68. -/
import Derived.Test.YtkinbnepkpoofaaGreatDoorKg
import Derived.Test.YtkinbnepkpoofaaGreatDoorKd
import Derived.Test.YtkinbnepkpoofaaGreatDoorKc
import Derived.Test.YtkinbnepkpoofaaGreatDoorKf
import Derived.KernelRfl
/- The machine with answers at this program: its table of types; what calls hand back. -/
set_option linter.unusedVariables false
set_option maxRecDepth 100000
namespace Go.Proofs.YtkinbnepkpoofaaGreatDoor
open Go Go.AM
def hmT (T : Tab) (t : TypeId) : S.Hm := match T.ty t with
 | some i => match i.desc with
  | .int k => .int k
  | .bool => .bool
  | .string => .str
  | _ => .any
 | none => .any
def hsL : List (Nat × S.Sg) := [(55, ⟨[.int .i64], [.m [.sl 4, .str, .sl 1, .sl 2, .sl 7, .bool, .mp 1], .o]⟩), (102, ⟨[.int .i64], [.m [.sl 4, .str, .sl 1, .sl 2, .sl 7, .bool, .mp 1], .o]⟩), (104, ⟨[.int .i64], [.m [.sl 4, .str, .sl 1, .sl 2, .sl 7, .bool, .mp 1], .o]⟩), (106, ⟨[.int .i64], [.m [.sl 4, .str, .sl 1, .sl 2, .sl 7, .bool, .mp 1], .o]⟩), (97, ⟨[.ref 0], [.row 1]⟩) ]
def rsT (T : Tab) (t : TypeId) : List S.Hm := match T.ty t with
 | some i => match i.desc with
  | .tuple ts => ts.toList.map (hmT T)
  | _ => [hmT T t]
 | none => []
noncomputable def SG {β : Type} : S.Sgs β := ⟨rsT T, lookL hsL, fun _ => none⟩
end Go.Proofs.YtkinbnepkpoofaaGreatDoor
/- Small laws for what functions come to. -/
set_option linter.unusedVariables false
namespace Go.Proofs.YtkinbnepkpoofaaGreatDoor
open Go Go.AM
theorem wrap_ok {n : Int} (h0 : -9223372036854775808 ≤ n) (h1 : n < 9223372036854775808) : IntKind.wrap .i64 n = n := Go.AM.wrap64 n h0 h1
theorem wrap_succ {i : Nat} {n : Nat} (h : i < n) (hn : n ≤ 9223372036854775807) : IntKind.wrap .i64 ((i : Int) + 1) = ((i + 1 : Nat) : Int) := by
 rw [wrap_ok (by omega) (by omega)]; rfl
@[simp] theorem asInt_int (k : IntKind) (n : Int) : (D.int k n).asInt k = some n := by simp [D.asInt]
@[simp] theorem asSl_sl (t : Bool) (z : Nat) (l : List D) : (D.sl t z l).asSl z = some l := by simp [D.asSl]
@[simp] theorem asStr_str (s : List UInt8) : (D.str s).asStr = some s := rfl
@[simp] theorem asBool_bool (b : Bool) : (D.bool b).asBool = some b := rfl
abbrev INT (n : Int) : D := .int .i64 n
abbrev ints (l : List Int) : List D := l.map (D.int .i64)
abbrev strs (l : List (List UInt8)) : List D := l.map D.str
noncomputable def normP : FuncId → List AV → List AV := fun f vs => match Tryz.prog.funcs[f]? with
 | some fn => S.normA T fn.params.toList vs
 | none => vs
theorem normP_rv (I : Nat → Option (Array Value)) (κ : Nat → Option Go.AM.Loc) (f : FuncId) (xs : List AV) (vs : List Value) (h : RVs I κ xs vs) : RVs I κ (normP f xs) vs := by
 unfold normP
 split
 ·
  exact S.normA_rv h
 ·
  exact h
def Ca (t : TypeId) (d : D) : Prop := S.deepD T t d = d
theorem ca_int (t : TypeId) (k : IntKind) (n : Int) : Ca t (.int k n) := by simp [Ca, S.deepD]
theorem ca_str (t : TypeId) (s : List UInt8) : Ca t (.str s) := by simp [Ca, S.deepD]
theorem ca_bool (t : TypeId) (b : Bool) : Ca t (.bool b) := by simp [Ca, S.deepD]
theorem deepDs_ca {e : TypeId} : ∀ {es : List D}, (∀ d ∈ es, Ca e d) → S.deepDs T e es = es
 | [], _ => by simp [S.deepDs]
 | d :: es, h => by
  simp only [S.deepDs]
  rw [show S.deepD T e d = d from h d (by simp), deepDs_ca fun x hx => h x (List.mem_cons_of_mem _ hx)]
theorem ca_sl {t e : TypeId} {n : Nat} (ht : S.elemT T t = some (e, n)) (hn : n ≠ 0) {es : List D} (h : ∀ d ∈ es, Ca e d) : Ca t (.sl false n es) := by
 unfold Ca
 simp only [S.deepD, ht]
 cases es with
 | nil => simp [hn]
 | cons d es =>
  simp only [if_true]
  rw [show S.deepD T e d = d from h d (by simp), deepDs_ca fun x hx => h x (List.mem_cons_of_mem _ hx)]
theorem deepCs_ca : ∀ {ts : List TypeId} {ds : List D}, (∀ p ∈ ts.zip ds, Ca p.1 p.2) → S.deepCs T ts ds = ds
 | _, [], _ => by simp [S.deepCs]
 | [], d :: ds, _ => by simp [S.deepCs]
 | t :: ts, d :: ds, h => by
  simp only [S.deepCs]
  rw [show S.deepD T t d = d from h (t, d) (by simp), deepCs_ca fun p hp => h p (by simp [hp])]
theorem ca_agg {t : TypeId} {ts : List TypeId} (ht : S.cellsT T 8 t = ts) {cs : List D} (h : ∀ p ∈ ts.zip cs, Ca p.1 p.2) : Ca t (.agg cs) := by
 unfold Ca
 simp only [S.deepD, ht, deepCs_ca h]
theorem normA_ca : ∀ {ts : List TypeId} {ds : List D}, (∀ p ∈ ts.zip ds, Ca p.1 p.2) → S.normA T ts (ds.map AV.im) = ds.map AV.im
 | _, [], _ => by simp [S.normA]
 | [], d :: ds, _ => by simp [S.normA]
 | t :: ts, d :: ds, h => by
  simp only [List.map_cons, S.normA, S.normV]
  rw [show S.deepD T t d = d from h (t, d) (by simp), normA_ca fun p hp => h p (by simp [hp])]
end Go.Proofs.YtkinbnepkpoofaaGreatDoor
/- Functions that are run where they are called. -/
set_option linter.unusedVariables false
set_option maxRecDepth 100000
open Go Go.AM
namespace Go.Proofs.YtkinbnepkpoofaaGreatDoor
noncomputable def ii51 : Fi := mkFi T Tryz.f51 { live := fun d => if Nat.beq d 2 then slots 18 [6, 7, 8] else none, lend := isIn [52, 54, 100, 101, 103, 105, 107, 109, 110] }
theorem ii51_ok : ii51.ok Tryz.prog 51 := ⟨Tryz.func51, by decide, rfl, by rfl⟩
noncomputable def ii52 : Fi := mkFi T Tryz.f52 {  }
theorem ii52_ok : ii52.ok Tryz.prog 52 := ⟨Tryz.func52, by decide, rfl, by rfl⟩
noncomputable def ii54 : Fi := mkFi T Tryz.f54 { lend := isIn [55] }
theorem ii54_ok : ii54.ok Tryz.prog 54 := ⟨Tryz.func54, by decide, rfl, by rfl⟩
noncomputable def ii100 : Fi := mkFi T Tryz.f100 {  }
theorem ii100_ok : ii100.ok Tryz.prog 100 := ⟨Tryz.func100, by decide, rfl, by rfl⟩
noncomputable def ii101 : Fi := mkFi T Tryz.f101 { lend := isIn [102] }
theorem ii101_ok : ii101.ok Tryz.prog 101 := ⟨Tryz.func101, by decide, rfl, by rfl⟩
noncomputable def ii103 : Fi := mkFi T Tryz.f103 { lend := isIn [104] }
theorem ii103_ok : ii103.ok Tryz.prog 103 := ⟨Tryz.func103, by decide, rfl, by rfl⟩
noncomputable def ii105 : Fi := mkFi T Tryz.f105 { lend := isIn [106] }
theorem ii105_ok : ii105.ok Tryz.prog 105 := ⟨Tryz.func105, by decide, rfl, by rfl⟩
noncomputable def ii107 : Fi := mkFi T Tryz.f107 {  }
theorem ii107_ok : ii107.ok Tryz.prog 107 := ⟨Tryz.func107, by decide, rfl, by rfl⟩
noncomputable def ii109 : Fi := mkFi T Tryz.f109 { lend := isIn [55] }
theorem ii109_ok : ii109.ok Tryz.prog 109 := ⟨Tryz.func109, by decide, rfl, by rfl⟩
noncomputable def ii110 : Fi := mkFi T Tryz.f110 { lend := isIn [55] }
theorem ii110_ok : ii110.ok Tryz.prog 110 := ⟨Tryz.func110, by decide, rfl, by rfl⟩
noncomputable def inlL : List (Nat × Fi) := [(51, ii51), (52, ii52), (54, ii54), (100, ii100), (101, ii101), (103, ii103), (105, ii105), (107, ii107), (109, ii109), (110, ii110)]
noncomputable def inlF : FuncId → Option Fi := lookL inlL
noncomputable def SGI {β : Type} (cs : Oracle) : S.Sgs β := S.inlS T (rsT T) (lookL hsL) cs inlF 12 4
theorem SGI_ok {β : Type} {B : S.BookM} (hT : B.T = T) (h : ∀ p ∈ inlL, B.fi p.1 = some p.2 ∧ B.known p.1 = none ∧ ∀ xs, B.norm p.1 xs = xs) (r : β) : (SGI (β := β) (S.sem B)).Ok (S.sem B) r := by
 have := S.inlS_ok (β := β) (T := B.T) (ty := rsT T) (fn := lookL hsL) (S.sem_apart B) (S.inl_sem (B := B) (inl := inlF) (lf := 12) fun g i hi => h (g, i) (lookL_mem hi)) 4 r
 rw [hT] at this
 exact this
end Go.Proofs.YtkinbnepkpoofaaGreatDoor
/- billhook/billhooklaw05.CheckSizes: what it comes to. -/
set_option linter.unusedVariables false
set_option maxRecDepth 100000
set_option maxHeartbeats 0
open Go Go.AM
namespace Go.Proofs.YtkinbnepkpoofaaGreatDoor
noncomputable def fi6 : Fi := mkFi T Tryz.f6 { live := fun d => if Nat.beq d 8 then slots 111 [5, 6, 7, 8, 9] else none, frz := isIn [50], clm := fun d => if Nat.beq d 24 then [(2, 2)] else [] }
noncomputable abbrev X6 (cs : Oracle) : Px := fi6.px T cs 0
noncomputable abbrev K6 : S.Kq (S.Hms.T [.bool]) := S.finZ T fi6 0 (S.endP [.bool])
def E6_1 (a : Int) (b : Int) (d1 : Bool × Unit) (s : (Int) × (List Go.AM.D)) : Env :=
 match s with
 | (v2, v3) =>
  [Go.AM.AV.bad, Go.AM.AV.bad, Go.AM.AV.bad, Go.AM.AV.bad, Go.AM.AV.bad, Go.AM.AV.im (Go.AM.D.bool (Prod.fst d1)), Go.AM.AV.im (Go.AM.D.int Go.IntKind.i64 (Go.IntKind.wrap Go.IntKind.i64 (Int.tmod a (40 : Int)))), Go.AM.AV.im (Go.AM.D.int Go.IntKind.i64 (Go.IntKind.wrap Go.IntKind.i64 (Int.tmod b (100 : Int)))), Go.AM.AV.ptr (0 : Nat) (0 : Nat) (0 : Nat), Go.AM.AV.im (Go.AM.D.int Go.IntKind.i64 v2), Go.AM.AV.bad, Go.AM.AV.bad, Go.AM.AV.bad, Go.AM.AV.bad, Go.AM.AV.bad, Go.AM.AV.bad, Go.AM.AV.bad, Go.AM.AV.bad, Go.AM.AV.bad, Go.AM.AV.bad, Go.AM.AV.bad, Go.AM.AV.bad, Go.AM.AV.bad, Go.AM.AV.bad, Go.AM.AV.bad, Go.AM.AV.bad, Go.AM.AV.bad, Go.AM.AV.bad, Go.AM.AV.bad, Go.AM.AV.bad, Go.AM.AV.bad, Go.AM.AV.bad, Go.AM.AV.bad, Go.AM.AV.bad, Go.AM.AV.bad, Go.AM.AV.bad, Go.AM.AV.bad, Go.AM.AV.bad, Go.AM.AV.bad, Go.AM.AV.bad, Go.AM.AV.bad, Go.AM.AV.bad, Go.AM.AV.bad, Go.AM.AV.bad, Go.AM.AV.bad, Go.AM.AV.bad, Go.AM.AV.bad, Go.AM.AV.bad, Go.AM.AV.bad, Go.AM.AV.bad, Go.AM.AV.bad, Go.AM.AV.bad, Go.AM.AV.bad, Go.AM.AV.bad, Go.AM.AV.bad, Go.AM.AV.bad, Go.AM.AV.bad, Go.AM.AV.bad, Go.AM.AV.bad, Go.AM.AV.bad, Go.AM.AV.bad, Go.AM.AV.bad, Go.AM.AV.bad, Go.AM.AV.bad, Go.AM.AV.bad, Go.AM.AV.bad, Go.AM.AV.bad, Go.AM.AV.bad, Go.AM.AV.bad, Go.AM.AV.bad, Go.AM.AV.bad, Go.AM.AV.bad, Go.AM.AV.bad, Go.AM.AV.bad, Go.AM.AV.bad, Go.AM.AV.bad, Go.AM.AV.bad, Go.AM.AV.bad, Go.AM.AV.bad, Go.AM.AV.bad, Go.AM.AV.bad, Go.AM.AV.bad, Go.AM.AV.bad, Go.AM.AV.bad, Go.AM.AV.bad, Go.AM.AV.bad, Go.AM.AV.bad, Go.AM.AV.bad, Go.AM.AV.bad, Go.AM.AV.bad, Go.AM.AV.bad, Go.AM.AV.bad, Go.AM.AV.bad, Go.AM.AV.bad, Go.AM.AV.bad, Go.AM.AV.bad, Go.AM.AV.bad, Go.AM.AV.bad, Go.AM.AV.bad, Go.AM.AV.bad, Go.AM.AV.bad, Go.AM.AV.bad, Go.AM.AV.bad, Go.AM.AV.bad, Go.AM.AV.bad, Go.AM.AV.bad, Go.AM.AV.bad, Go.AM.AV.bad, Go.AM.AV.bad, Go.AM.AV.bad, Go.AM.AV.bad]
def H6_1 (a : Int) (b : Int) (d1 : Bool × Unit) (s : (Int) × (List Go.AM.D)) : Heap :=
 match s with
 | (v2, v3) =>
  [Option.some (Go.AM.Blk.m (4 : Nat) [Go.AM.AV.agg [Go.AM.AV.im (Go.AM.D.str [OfNat.ofNat (109 : Nat), OfNat.ofNat (97 : Nat), OfNat.ofNat (105 : Nat), OfNat.ofNat (110 : Nat)]), Go.AM.AV.im (Go.AM.D.sl Bool.true (0 : Nat) []), Go.AM.AV.ref (1 : Nat) (0 : Nat) (List.length v3), Go.AM.AV.im (Go.AM.D.sl Bool.true (0 : Nat) [])]]), Option.some (Go.AM.Blk.c (2 : Nat) v3)]
noncomputable def C6_1 (cs : Oracle) (lf : Nat)  : Go.Code × S.Kq (S.Hms.T [.bool]) := S.subZ (X6 cs) SG lf fi6.code [1, 1, 1, 1, 1, 1, 0, 1, 0] [] K6
noncomputable def B6_1 (cs : Oracle) (lf : Nat) (a : Int) (b : Int) (d1 : Bool × Unit)   (s : (Int) × (List Go.AM.D)) (R4 : (Int) × (List Go.AM.D) → Option (S.Hms.T [.bool])) : Option (S.Hms.T [.bool]) :=
 match s with
 | (v2, v3) =>
  cond (Decidable.decide (v2 < Go.IntKind.wrap Go.IntKind.i64 (Int.tmod a (40 : Int))))
  (cond (Decidable.decide (List.length (List.take (List.length v3) (List.drop (0 : Nat) v3) ++ [Go.AM.D.agg [Go.AM.D.str [OfNat.ofNat (110 : Nat), UInt8.ofNat (Int.toNat (Go.IntKind.wrap Go.IntKind.u8 ((97 : Int) + Go.IntKind.wrap Go.IntKind.u8 (Go.IntKind.wrap Go.IntKind.i64 (Int.tdiv v2 (26 : Int)))))), UInt8.ofNat (Int.toNat (Go.IntKind.wrap Go.IntKind.u8 ((97 : Int) + Go.IntKind.wrap Go.IntKind.u8 (Int.tmod v2 (26 : Int)))))], Go.AM.D.int Go.IntKind.i64 (Go.IntKind.wrap Go.IntKind.i64 (Int.tmod b (100 : Int)))]]) * (24 : Nat) ≤ (140737488355328 : Nat)))
   (cond (Decidable.decide (List.length (List.take (List.length v3) (List.drop (0 : Nat) v3) ++ [Go.AM.D.agg [Go.AM.D.str [OfNat.ofNat (110 : Nat), UInt8.ofNat (Int.toNat (Go.IntKind.wrap Go.IntKind.u8 ((97 : Int) + Go.IntKind.wrap Go.IntKind.u8 (Go.IntKind.wrap Go.IntKind.i64 (Int.tdiv v2 (26 : Int)))))), UInt8.ofNat (Int.toNat (Go.IntKind.wrap Go.IntKind.u8 ((97 : Int) + Go.IntKind.wrap Go.IntKind.u8 (Int.tmod v2 (26 : Int)))))], Go.AM.D.int Go.IntKind.i64 (Go.IntKind.wrap Go.IntKind.i64 (Int.tmod b (100 : Int)))]]) ≤ (140737488355328 : Nat)))
    (R4 ((Go.IntKind.wrap Go.IntKind.i64 (v2 + (1 : Int)), List.take (List.length v3) (List.drop (0 : Nat) v3) ++ [Go.AM.D.agg [Go.AM.D.str [OfNat.ofNat (110 : Nat), UInt8.ofNat (Int.toNat (Go.IntKind.wrap Go.IntKind.u8 ((97 : Int) + Go.IntKind.wrap Go.IntKind.u8 (Go.IntKind.wrap Go.IntKind.i64 (Int.tdiv v2 (26 : Int)))))), UInt8.ofNat (Int.toNat (Go.IntKind.wrap Go.IntKind.u8 ((97 : Int) + Go.IntKind.wrap Go.IntKind.u8 (Int.tmod v2 (26 : Int)))))], Go.AM.D.int Go.IntKind.i64 (Go.IntKind.wrap Go.IntKind.i64 (Int.tmod b (100 : Int)))]])))
    (none))
   (none))
  (S.optZ (Go.AM.S.pureS cs [Go.AM.S.Hm.int Go.IntKind.i64, Go.AM.S.Hm.int Go.IntKind.i64] (18 : Nat) [Go.AM.AV.im (Go.AM.D.agg [Go.AM.D.sl Bool.true (4 : Nat) [Go.AM.D.agg [Go.AM.D.str [OfNat.ofNat (109 : Nat), OfNat.ofNat (97 : Nat), OfNat.ofNat (105 : Nat), OfNat.ofNat (110 : Nat)], Go.AM.D.sl Bool.true (0 : Nat) [], Go.AM.D.sl Bool.false (2 : Nat) (List.take (List.length v3) (List.drop (0 : Nat) v3)), Go.AM.D.sl Bool.true (0 : Nat) []]]])]) fun (d5 : Int × Int × Unit) =>
   cond (Decidable.decide (Go.IntKind.wrap Go.IntKind.i64 (Int.tmod a (40 : Int)) ≤ (24 : Int)))
    (cond (Decidable.decide (Go.IntKind.wrap Go.IntKind.i64 (Int.tmod b (100 : Int)) ≤ (64 : Int)))
     (S.optZ (Go.AM.S.pureS cs [Go.AM.S.Hm.int Go.IntKind.i64, Go.AM.S.Hm.bool] (21 : Nat) [Go.AM.AV.im (Go.AM.D.agg [Go.AM.D.str [OfNat.ofNat (109 : Nat), OfNat.ofNat (97 : Nat), OfNat.ofNat (105 : Nat), OfNat.ofNat (110 : Nat)], Go.AM.D.sl Bool.false (1 : Nat) [], Go.AM.D.sl Bool.false (2 : Nat) (List.take (List.length v3) (List.drop (0 : Nat) v3)), Go.AM.D.sl Bool.false (7 : Nat) []]), Go.AM.AV.im (Go.AM.D.str [OfNat.ofNat (110 : Nat), OfNat.ofNat (97 : Nat), OfNat.ofNat (97 : Nat)])]) fun (d6 : Int × Bool × Unit) =>
      cond (Prod.fst d1)
       (cond ((Prod.fst d5 == (0 : Int)) == Bool.true)
        (cond (Prod.fst (Prod.snd d5) == (-1 : Int))
         (cond (Prod.fst (Prod.snd d6) == Decidable.decide (Go.IntKind.wrap Go.IntKind.i64 (Int.tmod a (40 : Int)) > (0 : Int)))
          (cond (Go.IntKind.wrap Go.IntKind.i64 (Int.tmod a (40 : Int)) == (0 : Int))
           (some ((Bool.true, PUnit.unit)))
           (some ((Prod.fst d6 == Go.IntKind.wrap Go.IntKind.i64 (Int.tmod b (100 : Int)), PUnit.unit))))
          (some ((Bool.false, PUnit.unit))))
         (some ((Bool.false, PUnit.unit))))
        (some ((Bool.false, PUnit.unit))))
       (some ((Bool.false, PUnit.unit))))
     (S.optZ (Go.AM.S.pureS cs [Go.AM.S.Hm.int Go.IntKind.i64, Go.AM.S.Hm.bool] (21 : Nat) [Go.AM.AV.im (Go.AM.D.agg [Go.AM.D.str [OfNat.ofNat (109 : Nat), OfNat.ofNat (97 : Nat), OfNat.ofNat (105 : Nat), OfNat.ofNat (110 : Nat)], Go.AM.D.sl Bool.false (1 : Nat) [], Go.AM.D.sl Bool.false (2 : Nat) (List.take (List.length v3) (List.drop (0 : Nat) v3)), Go.AM.D.sl Bool.false (7 : Nat) []]), Go.AM.AV.im (Go.AM.D.str [OfNat.ofNat (110 : Nat), OfNat.ofNat (97 : Nat), OfNat.ofNat (97 : Nat)])]) fun (d7 : Int × Bool × Unit) =>
      cond (Prod.fst d1)
       (cond ((Prod.fst d5 == (0 : Int)) == (Go.IntKind.wrap Go.IntKind.i64 (Int.tmod a (40 : Int)) == (0 : Int)))
        (cond (Go.IntKind.wrap Go.IntKind.i64 (Int.tmod a (40 : Int)) == (0 : Int))
         (cond (Prod.fst (Prod.snd d5) == (-1 : Int))
          (cond (Prod.fst (Prod.snd d7) == Decidable.decide (Go.IntKind.wrap Go.IntKind.i64 (Int.tmod a (40 : Int)) > (0 : Int)))
           (cond (Go.IntKind.wrap Go.IntKind.i64 (Int.tmod a (40 : Int)) == (0 : Int))
            (some ((Bool.true, PUnit.unit)))
            (some ((Prod.fst d7 == Go.IntKind.wrap Go.IntKind.i64 (Int.tmod b (100 : Int)), PUnit.unit))))
           (some ((Bool.false, PUnit.unit))))
          (cond (!Go.IntKind.wrap Go.IntKind.i64 (Int.tmod a (40 : Int)) == (0 : Int))
           (cond (Prod.fst (Prod.snd d5) == (0 : Int))
            (cond (Prod.fst d5 == (5 : Int))
             (cond (Prod.fst (Prod.snd d7) == Decidable.decide (Go.IntKind.wrap Go.IntKind.i64 (Int.tmod a (40 : Int)) > (0 : Int)))
              (cond (Go.IntKind.wrap Go.IntKind.i64 (Int.tmod a (40 : Int)) == (0 : Int))
               (some ((Bool.true, PUnit.unit)))
               (some ((Prod.fst d7 == Go.IntKind.wrap Go.IntKind.i64 (Int.tmod b (100 : Int)), PUnit.unit))))
              (some ((Bool.false, PUnit.unit))))
             (some ((Bool.false, PUnit.unit))))
            (some ((Bool.false, PUnit.unit))))
           (some ((Bool.false, PUnit.unit)))))
         (cond (!Go.IntKind.wrap Go.IntKind.i64 (Int.tmod a (40 : Int)) == (0 : Int))
          (cond (Prod.fst (Prod.snd d5) == (0 : Int))
           (cond (Prod.fst d5 == (5 : Int))
            (cond (Prod.fst (Prod.snd d7) == Decidable.decide (Go.IntKind.wrap Go.IntKind.i64 (Int.tmod a (40 : Int)) > (0 : Int)))
             (cond (Go.IntKind.wrap Go.IntKind.i64 (Int.tmod a (40 : Int)) == (0 : Int))
              (some ((Bool.true, PUnit.unit)))
              (some ((Prod.fst d7 == Go.IntKind.wrap Go.IntKind.i64 (Int.tmod b (100 : Int)), PUnit.unit))))
             (some ((Bool.false, PUnit.unit))))
            (some ((Bool.false, PUnit.unit))))
           (some ((Bool.false, PUnit.unit))))
          (some ((Bool.false, PUnit.unit)))))
        (some ((Bool.false, PUnit.unit))))
       (some ((Bool.false, PUnit.unit)))))
    (S.optZ (Go.AM.S.pureS cs [Go.AM.S.Hm.int Go.IntKind.i64, Go.AM.S.Hm.bool] (21 : Nat) [Go.AM.AV.im (Go.AM.D.agg [Go.AM.D.str [OfNat.ofNat (109 : Nat), OfNat.ofNat (97 : Nat), OfNat.ofNat (105 : Nat), OfNat.ofNat (110 : Nat)], Go.AM.D.sl Bool.false (1 : Nat) [], Go.AM.D.sl Bool.false (2 : Nat) (List.take (List.length v3) (List.drop (0 : Nat) v3)), Go.AM.D.sl Bool.false (7 : Nat) []]), Go.AM.AV.im (Go.AM.D.str [OfNat.ofNat (110 : Nat), OfNat.ofNat (97 : Nat), OfNat.ofNat (97 : Nat)])]) fun (d8 : Int × Bool × Unit) =>
     cond (Prod.fst d1)
      (cond ((Prod.fst d5 == (0 : Int)) == Bool.false)
       (cond (Prod.fst (Prod.snd d5) == (0 : Int))
        (cond (Prod.fst d5 == (5 : Int))
         (cond (Prod.fst (Prod.snd d8) == Decidable.decide (Go.IntKind.wrap Go.IntKind.i64 (Int.tmod a (40 : Int)) > (0 : Int)))
          (cond (Go.IntKind.wrap Go.IntKind.i64 (Int.tmod a (40 : Int)) == (0 : Int))
           (some ((Bool.true, PUnit.unit)))
           (some ((Prod.fst d8 == Go.IntKind.wrap Go.IntKind.i64 (Int.tmod b (100 : Int)), PUnit.unit))))
          (some ((Bool.false, PUnit.unit))))
         (some ((Bool.false, PUnit.unit))))
        (some ((Bool.false, PUnit.unit))))
       (some ((Bool.false, PUnit.unit))))
      (some ((Bool.false, PUnit.unit)))))
theorem B6_1_eq (cs : Oracle) (lf : Nat) (a : Int) (b : Int) (d1 : Bool × Unit)   (n : Nat) (s : (Int) × (List Go.AM.D)) : S.roundsZ (X6 cs) SG lf (C6_1 cs lf ) (n + 1) (E6_1 a b d1 s) (H6_1 a b d1 s) = B6_1 cs lf a b d1   s (fun s' => S.roundsZ (X6 cs) SG lf (C6_1 cs lf ) n (E6_1 a b d1 s') (H6_1 a b d1 s')) := by
 kernel_rfl
noncomputable def L6_1 (cs : Oracle) (lf : Nat) (a : Int) (b : Int) (d1 : Bool × Unit)  : Nat → (Int) × (List Go.AM.D) → Option (S.Hms.T [.bool])
 | 0, _ => none
 | n + 1, s => B6_1 cs lf a b d1   s (L6_1 cs lf a b d1  n)
theorem L6_1_eq (cs : Oracle) (lf : Nat) (a : Int) (b : Int) (d1 : Bool × Unit)   : ∀ (n : Nat) (s : (Int) × (List Go.AM.D)), S.roundsZ (X6 cs) SG lf (C6_1 cs lf ) n (E6_1 a b d1 s) (H6_1 a b d1 s) = L6_1 cs lf a b d1  n s
 | 0, s => by
  show _ = none
  kernel_rfl
 | n + 1, s => by
  have h1 : (fun s' => S.roundsZ (X6 cs) SG lf (C6_1 cs lf ) n (E6_1 a b d1 s') (H6_1 a b d1 s')) = L6_1 cs lf a b d1  n := funext (L6_1_eq cs lf a b d1   n)
  rw [B6_1_eq cs lf a b d1   n s, h1]
  rfl
noncomputable def G6 (cs : Oracle) (lf : Nat) (a : Int) (b : Int) (P6_1 : (Bool × Unit) → (Int) × (List Go.AM.D) → Option (S.Hms.T [.bool])) : Option (S.Hms.T [.bool]) :=
 S.optZ (Go.AM.S.pureS cs [Go.AM.S.Hm.bool] (15 : Nat) []) fun (d1 : Bool × Unit) =>
  cond (!Prod.fst d1)
   (some ((Bool.false, PUnit.unit)))
   (P6_1 d1 (((0 : Int), [])))
theorem G6_eq (cs : Oracle) (lf : Nat) (a : Int) (b : Int) : S.bodyS T SG cs fi6 lf [.im (.int .u8 a), .im (.int .u8 b)] [] (S.endP [.bool]) = G6 cs lf a b (fun w0 s2 => S.roundsZ (X6 cs) SG lf (C6_1 cs lf) lf (E6_1 a b w0 s2) (H6_1 a b w0 s2)) := by
 kernel_rfl
noncomputable def F6 (cs : Oracle) (lf : Nat) (a : Int) (b : Int) : Option (S.Hms.T [.bool]) := G6 cs lf a b (fun w0 s2 => L6_1 cs lf a b w0 lf s2)
theorem F6_eq (cs : Oracle) (lf : Nat) (a : Int) (b : Int) : S.bodyS T SG cs fi6 lf [.im (.int .u8 a), .im (.int .u8 b)] [] (S.endP [.bool]) = F6 cs lf a b := by
 rw [G6_eq]
 have h6_1 : (fun w0 s2 => S.roundsZ (X6 cs) SG lf (C6_1 cs lf) lf (E6_1 a b w0 s2) (H6_1 a b w0 s2)) = (fun w0 s2 => L6_1 cs lf a b w0 lf s2) := by
  funext w0 s2
  exact L6_1_eq cs lf a b w0 lf s2
 rw [h6_1]
 rfl
theorem fi6_ok : fi6.ok Tryz.prog 6 := ⟨Tryz.func6, by decide, rfl, by rfl⟩
end Go.Proofs.YtkinbnepkpoofaaGreatDoor
/- billhook/check.Check: what it comes to. -/
set_option linter.unusedVariables false
set_option maxRecDepth 100000
set_option maxHeartbeats 0
open Go Go.AM
namespace Go.Proofs.YtkinbnepkpoofaaGreatDoor
noncomputable def fi18 : Fi := mkFi T Tryz.f18 { live := fun d => if Nat.beq d 5 then slots 42 [1, 15, 16, 17] else none, lend := isIn [51] }
noncomputable abbrev X18 (cs : Oracle) : Px := fi18.px T cs 0
noncomputable abbrev K18 : S.Kq (S.Hms.T [.int .i64, .int .i64]) := S.finZ T fi18 0 (S.endP [.int .i64, .int .i64])
def E18_1 (a0 : List Go.AM.D) (s : (Int)) : Env :=
 match s with
 | v2 =>
  [Go.AM.AV.bad, Go.AM.AV.ptr (0 : Nat) (0 : Nat) (0 : Nat), Go.AM.AV.bad, Go.AM.AV.bad, Go.AM.AV.bad, Go.AM.AV.bad, Go.AM.AV.bad, Go.AM.AV.bad, Go.AM.AV.bad, Go.AM.AV.bad, Go.AM.AV.bad, Go.AM.AV.bad, Go.AM.AV.bad, Go.AM.AV.bad, Go.AM.AV.bad, Go.AM.AV.im (Go.AM.D.sl Bool.false (4 : Nat) a0), Go.AM.AV.im (Go.AM.D.int Go.IntKind.i64 (↑(List.length a0) : Int)), Go.AM.AV.im (Go.AM.D.int Go.IntKind.i64 v2), Go.AM.AV.bad, Go.AM.AV.bad, Go.AM.AV.bad, Go.AM.AV.bad, Go.AM.AV.bad, Go.AM.AV.bad, Go.AM.AV.bad, Go.AM.AV.bad, Go.AM.AV.bad, Go.AM.AV.bad, Go.AM.AV.bad, Go.AM.AV.bad, Go.AM.AV.bad, Go.AM.AV.bad, Go.AM.AV.bad, Go.AM.AV.bad, Go.AM.AV.bad, Go.AM.AV.bad, Go.AM.AV.bad, Go.AM.AV.bad, Go.AM.AV.bad, Go.AM.AV.bad, Go.AM.AV.bad, Go.AM.AV.bad]
def H18_1 (a0 : List Go.AM.D) (s : (Int)) : Heap :=
 match s with
 | v2 =>
  [Option.some (Go.AM.Blk.c (1 : Nat) [Go.AM.D.agg [Go.AM.D.sl Bool.false (4 : Nat) a0]])]
noncomputable def C18_1 (cs : Oracle) (lf : Nat)  : Go.Code × S.Kq (S.Hms.T [.int .i64, .int .i64]) := S.subZ (X18 cs) (SGI cs) lf fi18.code [1, 1, 0, 1, 0] [] K18
noncomputable def B18_1 (cs : Oracle) (lf : Nat) (a0 : List Go.AM.D)   (s : (Int)) (R3 : (Int) → Option (S.Hms.T [.int .i64, .int .i64])) : Option (S.Hms.T [.int .i64, .int .i64]) :=
 match s with
 | v2 =>
  cond (Decidable.decide (v2 < (↑(List.length a0) : Int)))
  (cond (Decidable.decide ((0 : Int) ≤ v2))
   (S.optZ (a0[Int.toNat v2]?) fun (d4 : Go.AM.D) =>
    S.optZ (Go.AM.S.stDec [Go.AM.Sc.str, Go.AM.Sc.sl (1 : Nat), Go.AM.Sc.sl (2 : Nat), Go.AM.Sc.sl (7 : Nat)] d4) fun (d5 : List UInt8 × List Go.AM.D × List Go.AM.D × List Go.AM.D) =>
     S.optZ (Go.AM.S.pureS cs [Go.AM.S.Hm.int Go.IntKind.i64] (53 : Nat) [Go.AM.AV.im (Go.AM.D.agg [Go.AM.D.str (Prod.fst d5), Go.AM.D.sl Bool.false (1 : Nat) (Prod.fst (Prod.snd d5)), Go.AM.D.sl Bool.false (2 : Nat) (Prod.fst (Prod.snd (Prod.snd d5))), Go.AM.D.sl Bool.false (7 : Nat) (Prod.snd (Prod.snd (Prod.snd d5)))])]) fun (d6 : Int × Unit) =>
      cond (Prod.fst d6 != (0 : Int))
       (cond (Prod.fst d6 != (0 : Int))
        (some ((Prod.fst d6, v2, PUnit.unit)))
        (R3 (Go.IntKind.wrap Go.IntKind.i64 (v2 + (1 : Int)))))
       (S.optZ (Go.AM.S.lentS cs { rs := [Go.AM.S.Hm.int Go.IntKind.i64], hs := [Go.AM.S.Hb.m [Go.AM.S.Hm.sl (4 : Nat), Go.AM.S.Hm.str, Go.AM.S.Hm.sl (1 : Nat), Go.AM.S.Hm.sl (2 : Nat), Go.AM.S.Hm.sl (7 : Nat), Go.AM.S.Hm.bool, Go.AM.S.Hm.mp (1 : Nat)], Go.AM.S.Hb.o] } (55 : Nat) [Go.AM.AV.ptr (0 : Nat) (0 : Nat) (0 : Nat), Go.AM.AV.im (Go.AM.D.sl Bool.false (7 : Nat) (Prod.snd (Prod.snd (Prod.snd d5)))), Go.AM.AV.im (Go.AM.D.bool Bool.false)] [Option.some (Go.AM.Blk.m (7 : Nat) [Go.AM.AV.agg [Go.AM.AV.im (Go.AM.D.sl Bool.false (4 : Nat) a0), Go.AM.AV.im (Go.AM.D.str (Prod.fst d5)), Go.AM.AV.im (Go.AM.D.sl Bool.false (1 : Nat) (Prod.fst (Prod.snd d5))), Go.AM.AV.im (Go.AM.D.sl Bool.false (2 : Nat) (Prod.fst (Prod.snd (Prod.snd d5)))), Go.AM.AV.im (Go.AM.D.sl Bool.false (7 : Nat) (Prod.snd (Prod.snd (Prod.snd d5)))), Go.AM.AV.im (Go.AM.D.bool (v2 == Go.IntKind.wrap Go.IntKind.i64 ((↑(List.length a0) : Int) - (1 : Int)))), Go.AM.AV.mp (1 : Nat)]]), Option.some (Go.AM.Blk.o [Go.AM.D.int Go.IntKind.i64 (0 : Int)])]) fun (d7 : (Int × Unit) × (List Go.AM.D × List UInt8 × List Go.AM.D × List Go.AM.D × List Go.AM.D × Bool × Unit × Unit) × List Go.AM.D × Unit) =>
        cond (Prod.fst (Prod.fst d7) != (0 : Int))
         (cond (Prod.fst (Prod.fst d7) != (0 : Int))
          (some ((Prod.fst (Prod.fst d7), v2, PUnit.unit)))
          (R3 (Go.IntKind.wrap Go.IntKind.i64 (v2 + (1 : Int)))))
         (R3 (Go.IntKind.wrap Go.IntKind.i64 (v2 + (1 : Int))))))
   (none))
  (some (((0 : Int), (-1 : Int), PUnit.unit)))
theorem B18_1_eq (cs : Oracle) (lf : Nat) (a0 : List Go.AM.D)   (n : Nat) (s : (Int)) : S.roundsZ (X18 cs) (SGI cs) lf (C18_1 cs lf ) (n + 1) (E18_1 a0 s) (H18_1 a0 s) = B18_1 cs lf a0   s (fun s' => S.roundsZ (X18 cs) (SGI cs) lf (C18_1 cs lf ) n (E18_1 a0 s') (H18_1 a0 s')) := by
 kernel_rfl
noncomputable def L18_1 (cs : Oracle) (lf : Nat) (a0 : List Go.AM.D)  : Nat → (Int) → Option (S.Hms.T [.int .i64, .int .i64])
 | 0, _ => none
 | n + 1, s => B18_1 cs lf a0   s (L18_1 cs lf a0  n)
theorem L18_1_eq (cs : Oracle) (lf : Nat) (a0 : List Go.AM.D)   : ∀ (n : Nat) (s : (Int)), S.roundsZ (X18 cs) (SGI cs) lf (C18_1 cs lf ) n (E18_1 a0 s) (H18_1 a0 s) = L18_1 cs lf a0  n s
 | 0, s => by
  show _ = none
  kernel_rfl
 | n + 1, s => by
  have h1 : (fun s' => S.roundsZ (X18 cs) (SGI cs) lf (C18_1 cs lf ) n (E18_1 a0 s') (H18_1 a0 s')) = L18_1 cs lf a0  n := funext (L18_1_eq cs lf a0   n)
  rw [B18_1_eq cs lf a0   n s, h1]
  rfl
noncomputable def G18 (cs : Oracle) (lf : Nat) (a0 : List Go.AM.D) (P18_1 : (Int) → Option (S.Hms.T [.int .i64, .int .i64])) : Option (S.Hms.T [.int .i64, .int .i64]) :=
 S.optZ (Go.AM.S.pureS cs [Go.AM.S.Hm.int Go.IntKind.i64] (50 : Nat) [Go.AM.AV.im (Go.AM.D.agg [Go.AM.D.sl Bool.false (4 : Nat) a0])]) fun (d1 : Int × Unit) =>
  cond (Prod.fst d1 != (0 : Int))
   (some ((Prod.fst d1, (-1 : Int), PUnit.unit)))
   (P18_1  ((0 : Int)))
theorem G18_eq (cs : Oracle) (lf : Nat) (a0 : List Go.AM.D) : S.bodyS T (SGI cs) cs fi18 lf [.im (.agg [(.sl false 4 a0)])] [] (S.endP [.int .i64, .int .i64]) = G18 cs lf a0 (fun  s2 => S.roundsZ (X18 cs) (SGI cs) lf (C18_1 cs lf) lf (E18_1 a0 s2) (H18_1 a0 s2)) := by
 kernel_rfl
noncomputable def F18 (cs : Oracle) (lf : Nat) (a0 : List Go.AM.D) : Option (S.Hms.T [.int .i64, .int .i64]) := G18 cs lf a0 (fun  s2 => L18_1 cs lf a0 lf s2)
theorem F18_eq (cs : Oracle) (lf : Nat) (a0 : List Go.AM.D) : S.bodyS T (SGI cs) cs fi18 lf [.im (.agg [(.sl false 4 a0)])] [] (S.endP [.int .i64, .int .i64]) = F18 cs lf a0 := by
 rw [G18_eq]
 have h18_1 : (fun  s2 => S.roundsZ (X18 cs) (SGI cs) lf (C18_1 cs lf) lf (E18_1 a0 s2) (H18_1 a0 s2)) = (fun  s2 => L18_1 cs lf a0 lf s2) := by
  funext  s2
  exact L18_1_eq cs lf a0 lf s2
 rw [h18_1]
 rfl
theorem fi18_ok : fi18.ok Tryz.prog 18 := ⟨Tryz.func18, by decide, rfl, by rfl⟩
end Go.Proofs.YtkinbnepkpoofaaGreatDoor
/- billhook/check.whole: what it comes to. -/
set_option linter.unusedVariables false
set_option maxRecDepth 100000
set_option maxHeartbeats 0
open Go Go.AM
namespace Go.Proofs.YtkinbnepkpoofaaGreatDoor
noncomputable def fi50 : Fi := mkFi T Tryz.f50 { live := fun d => if Nat.beq d 12 then slots 71 [1, 40, 41, 42] else if Nat.beq d 5 then slots 71 [1, 3, 13, 14, 15] else none }
noncomputable abbrev X50 (cs : Oracle) : Px := fi50.px T cs 0
noncomputable abbrev K50 : S.Kq (S.Hms.T [.int .i64]) := S.finZ T fi50 0 (S.endP [.int .i64])
def E50_1 (a0 : List Go.AM.D) (s : (Int) × (Int)) : Env :=
 match s with
 | (v2, v3) =>
  [Go.AM.AV.bad, Go.AM.AV.ptr (0 : Nat) (0 : Nat) (0 : Nat), Go.AM.AV.bad, Go.AM.AV.im (Go.AM.D.int Go.IntKind.i64 v2), Go.AM.AV.bad, Go.AM.AV.bad, Go.AM.AV.bad, Go.AM.AV.bad, Go.AM.AV.bad, Go.AM.AV.bad, Go.AM.AV.bad, Go.AM.AV.bad, Go.AM.AV.bad, Go.AM.AV.im (Go.AM.D.sl Bool.false (4 : Nat) a0), Go.AM.AV.im (Go.AM.D.int Go.IntKind.i64 (↑(List.length a0) : Int)), Go.AM.AV.im (Go.AM.D.int Go.IntKind.i64 v3), Go.AM.AV.bad, Go.AM.AV.bad, Go.AM.AV.bad, Go.AM.AV.bad, Go.AM.AV.bad, Go.AM.AV.bad, Go.AM.AV.bad, Go.AM.AV.bad, Go.AM.AV.bad, Go.AM.AV.bad, Go.AM.AV.bad, Go.AM.AV.bad, Go.AM.AV.bad, Go.AM.AV.bad, Go.AM.AV.bad, Go.AM.AV.bad, Go.AM.AV.bad, Go.AM.AV.bad, Go.AM.AV.bad, Go.AM.AV.bad, Go.AM.AV.bad, Go.AM.AV.bad, Go.AM.AV.bad, Go.AM.AV.bad, Go.AM.AV.bad, Go.AM.AV.bad, Go.AM.AV.bad, Go.AM.AV.bad, Go.AM.AV.bad, Go.AM.AV.bad, Go.AM.AV.bad, Go.AM.AV.bad, Go.AM.AV.bad, Go.AM.AV.bad, Go.AM.AV.bad, Go.AM.AV.bad, Go.AM.AV.bad, Go.AM.AV.bad, Go.AM.AV.bad, Go.AM.AV.bad, Go.AM.AV.bad, Go.AM.AV.bad, Go.AM.AV.bad, Go.AM.AV.bad, Go.AM.AV.bad, Go.AM.AV.bad, Go.AM.AV.bad, Go.AM.AV.bad, Go.AM.AV.bad, Go.AM.AV.bad, Go.AM.AV.bad, Go.AM.AV.bad, Go.AM.AV.bad, Go.AM.AV.bad, Go.AM.AV.bad]
def H50_1 (a0 : List Go.AM.D) (s : (Int) × (Int)) : Heap :=
 match s with
 | (v2, v3) =>
  [Option.some (Go.AM.Blk.c (1 : Nat) [Go.AM.D.agg [Go.AM.D.sl Bool.false (4 : Nat) a0]])]
def E50_2 (a0 : List Go.AM.D) (s : (Int)) : Env :=
 match s with
 | v8 =>
  [Go.AM.AV.bad, Go.AM.AV.ptr (0 : Nat) (0 : Nat) (0 : Nat), Go.AM.AV.bad, Go.AM.AV.bad, Go.AM.AV.bad, Go.AM.AV.bad, Go.AM.AV.bad, Go.AM.AV.bad, Go.AM.AV.bad, Go.AM.AV.bad, Go.AM.AV.bad, Go.AM.AV.bad, Go.AM.AV.bad, Go.AM.AV.bad, Go.AM.AV.bad, Go.AM.AV.bad, Go.AM.AV.bad, Go.AM.AV.bad, Go.AM.AV.bad, Go.AM.AV.bad, Go.AM.AV.bad, Go.AM.AV.bad, Go.AM.AV.bad, Go.AM.AV.bad, Go.AM.AV.bad, Go.AM.AV.bad, Go.AM.AV.bad, Go.AM.AV.bad, Go.AM.AV.bad, Go.AM.AV.bad, Go.AM.AV.bad, Go.AM.AV.bad, Go.AM.AV.bad, Go.AM.AV.bad, Go.AM.AV.bad, Go.AM.AV.bad, Go.AM.AV.bad, Go.AM.AV.bad, Go.AM.AV.bad, Go.AM.AV.bad, Go.AM.AV.im (Go.AM.D.sl Bool.false (4 : Nat) a0), Go.AM.AV.im (Go.AM.D.int Go.IntKind.i64 (↑(List.length a0) : Int)), Go.AM.AV.im (Go.AM.D.int Go.IntKind.i64 v8), Go.AM.AV.bad, Go.AM.AV.bad, Go.AM.AV.bad, Go.AM.AV.bad, Go.AM.AV.bad, Go.AM.AV.bad, Go.AM.AV.bad, Go.AM.AV.bad, Go.AM.AV.bad, Go.AM.AV.bad, Go.AM.AV.bad, Go.AM.AV.bad, Go.AM.AV.bad, Go.AM.AV.bad, Go.AM.AV.bad, Go.AM.AV.bad, Go.AM.AV.bad, Go.AM.AV.bad, Go.AM.AV.bad, Go.AM.AV.bad, Go.AM.AV.bad, Go.AM.AV.bad, Go.AM.AV.bad, Go.AM.AV.bad, Go.AM.AV.bad, Go.AM.AV.bad, Go.AM.AV.bad, Go.AM.AV.bad]
def H50_2 (a0 : List Go.AM.D) (s : (Int)) : Heap :=
 match s with
 | v8 =>
  [Option.some (Go.AM.Blk.c (1 : Nat) [Go.AM.D.agg [Go.AM.D.sl Bool.false (4 : Nat) a0]])]
noncomputable def C50_2 (cs : Oracle) (lf : Nat) (R4 : Env → Heap → Option (S.Hms.T [.int .i64])) : Go.Code × S.Kq (S.Hms.T [.int .i64]) := S.subZ (X50 cs) SG lf fi50.code [1, 1, 1, 1, 1, 0, 1, 0] [R4] K50
noncomputable def B50_2 (cs : Oracle) (lf : Nat) (a0 : List Go.AM.D) (R4 : (Int) × (Int) → Option (S.Hms.T [.int .i64]))  (s : (Int)) (R9 : (Int) → Option (S.Hms.T [.int .i64])) : Option (S.Hms.T [.int .i64]) :=
 match s with
 | v8 =>
  cond (Decidable.decide (v8 < (↑(List.length a0) : Int)))
  (cond (Decidable.decide ((0 : Int) ≤ v8))
   (S.optZ (a0[Int.toNat v8]?) fun (d10 : Go.AM.D) =>
    S.optZ (Go.AM.S.stDec [Go.AM.Sc.str, Go.AM.Sc.sl (1 : Nat), Go.AM.Sc.sl (2 : Nat), Go.AM.Sc.sl (7 : Nat)] d10) fun (d11 : List UInt8 × List Go.AM.D × List Go.AM.D × List Go.AM.D) =>
     S.optZ (Go.AM.S.pureS cs [Go.AM.S.Hm.int Go.IntKind.i64] (26 : Nat) [Go.AM.AV.im (Go.AM.D.agg [Go.AM.D.sl Bool.false (4 : Nat) a0]), Go.AM.AV.im (Go.AM.D.str (Prod.fst d11))]) fun (d12 : Int × Unit) =>
      cond (Prod.fst d12 != v8)
       (some (((6 : Int), PUnit.unit)))
       (R9 (Go.IntKind.wrap Go.IntKind.i64 (v8 + (1 : Int)))))
   (none))
  (cond (Decidable.decide ((0 : Int) ≤ Go.IntKind.wrap Go.IntKind.i64 ((↑(List.length a0) : Int) - (1 : Int))))
   (S.optZ (a0[Int.toNat (Go.IntKind.wrap Go.IntKind.i64 ((↑(List.length a0) : Int) - (1 : Int)))]?) fun (d13 : Go.AM.D) =>
    S.optZ (Go.AM.S.stDec [Go.AM.Sc.str, Go.AM.Sc.sl (1 : Nat), Go.AM.Sc.sl (2 : Nat), Go.AM.Sc.sl (7 : Nat)] d13) fun (d14 : List UInt8 × List Go.AM.D × List Go.AM.D × List Go.AM.D) =>
     cond (!Prod.fst (Prod.fst d14, Prod.fst (Prod.snd d14), Prod.fst (Prod.snd (Prod.snd d14)), Prod.snd (Prod.snd (Prod.snd d14))) == [OfNat.ofNat (109 : Nat), OfNat.ofNat (97 : Nat), OfNat.ofNat (105 : Nat), OfNat.ofNat (110 : Nat)])
      (some (((10 : Int), PUnit.unit)))
      (cond (Decidable.decide ((↑(List.length (Prod.fst (Prod.snd (Prod.fst d14, Prod.fst (Prod.snd d14), Prod.fst (Prod.snd (Prod.snd d14)), Prod.snd (Prod.snd (Prod.snd d14)))))) : Int) > (0 : Int)))
       (some (((10 : Int), PUnit.unit)))
       (some (((0 : Int), PUnit.unit)))))
   (none))
theorem B50_2_eq (cs : Oracle) (lf : Nat) (a0 : List Go.AM.D)  (R4 : Env → Heap → Option (S.Hms.T [.int .i64])) (n : Nat) (s : (Int)) : S.roundsZ (X50 cs) SG lf (C50_2 cs lf R4) (n + 1) (E50_2 a0 s) (H50_2 a0 s) = B50_2 cs lf a0 (fun s1 => R4 (E50_1 a0 s1) (H50_1 a0 s1))  s (fun s' => S.roundsZ (X50 cs) SG lf (C50_2 cs lf R4) n (E50_2 a0 s') (H50_2 a0 s')) := by
 kernel_rfl
noncomputable def L50_2 (cs : Oracle) (lf : Nat) (a0 : List Go.AM.D) (R4 : (Int) × (Int) → Option (S.Hms.T [.int .i64])) : Nat → (Int) → Option (S.Hms.T [.int .i64])
 | 0, _ => none
 | n + 1, s => B50_2 cs lf a0 R4  s (L50_2 cs lf a0 R4 n)
theorem L50_2_eq (cs : Oracle) (lf : Nat) (a0 : List Go.AM.D)  (R4 : Env → Heap → Option (S.Hms.T [.int .i64])) : ∀ (n : Nat) (s : (Int)), S.roundsZ (X50 cs) SG lf (C50_2 cs lf R4) n (E50_2 a0 s) (H50_2 a0 s) = L50_2 cs lf a0 (fun s1 => R4 (E50_1 a0 s1) (H50_1 a0 s1)) n s
 | 0, s => by
  show _ = none
  kernel_rfl
 | n + 1, s => by
  have h1 : (fun s' => S.roundsZ (X50 cs) SG lf (C50_2 cs lf R4) n (E50_2 a0 s') (H50_2 a0 s')) = L50_2 cs lf a0 (fun s1 => R4 (E50_1 a0 s1) (H50_1 a0 s1)) n := funext (L50_2_eq cs lf a0  R4 n)
  rw [B50_2_eq cs lf a0  R4 n s, h1]
  rfl
noncomputable def C50_1 (cs : Oracle) (lf : Nat)  : Go.Code × S.Kq (S.Hms.T [.int .i64]) := S.subZ (X50 cs) SG lf fi50.code [1, 1, 1, 0, 1, 0] [] K50
noncomputable def B50_1 (cs : Oracle) (lf : Nat) (a0 : List Go.AM.D)  (P50_2 : (Int) → Option (S.Hms.T [.int .i64])) (s : (Int) × (Int)) (R4 : (Int) × (Int) → Option (S.Hms.T [.int .i64])) : Option (S.Hms.T [.int .i64]) :=
 match s with
 | (v2, v3) =>
  cond (Decidable.decide (v3 < (↑(List.length a0) : Int)))
  (cond (Decidable.decide ((0 : Int) ≤ v3))
   (S.optZ (a0[Int.toNat v3]?) fun (d5 : Go.AM.D) =>
    S.optZ (Go.AM.S.stDec [Go.AM.Sc.str, Go.AM.Sc.sl (1 : Nat), Go.AM.Sc.sl (2 : Nat), Go.AM.Sc.sl (7 : Nat)] d5) fun (d6 : List UInt8 × List Go.AM.D × List Go.AM.D × List Go.AM.D) =>
     S.optZ (Go.AM.S.pureS cs [Go.AM.S.Hm.int Go.IntKind.i64] (86 : Nat) [Go.AM.AV.im (Go.AM.D.sl Bool.false (7 : Nat) (Prod.snd (Prod.snd (Prod.snd d6))))]) fun (d7 : Int × Unit) =>
      R4 ((Go.IntKind.wrap Go.IntKind.i64 (v2 + Prod.fst d7), Go.IntKind.wrap Go.IntKind.i64 (v3 + (1 : Int)))))
   (none))
  (cond ((↑(List.length a0) : Int) == (0 : Int))
   (some (((5 : Int), PUnit.unit)))
   (cond (Decidable.decide ((↑(List.length a0) : Int) > (16 : Int)))
    (some (((5 : Int), PUnit.unit)))
    (cond (Decidable.decide (v2 > (400 : Int)))
     (some (((5 : Int), PUnit.unit)))
     (P50_2  ((0 : Int))))))
theorem B50_1_eq (cs : Oracle) (lf : Nat) (a0 : List Go.AM.D)   (n : Nat) (s : (Int) × (Int)) : S.roundsZ (X50 cs) SG lf (C50_1 cs lf ) (n + 1) (E50_1 a0 s) (H50_1 a0 s) = B50_1 cs lf a0  (fun  s2 => S.roundsZ (X50 cs) SG lf (C50_2 cs lf  (fun env H => S.roundsZ (X50 cs) SG lf (C50_1 cs lf ) n env H)) lf (E50_2 a0 s2) (H50_2 a0 s2)) s (fun s' => S.roundsZ (X50 cs) SG lf (C50_1 cs lf ) n (E50_1 a0 s') (H50_1 a0 s')) := by
 kernel_rfl
noncomputable def L50_1 (cs : Oracle) (lf : Nat) (a0 : List Go.AM.D)  : Nat → (Int) × (Int) → Option (S.Hms.T [.int .i64])
 | 0, _ => none
 | n + 1, s => B50_1 cs lf a0  (fun  s2 => L50_2 cs lf a0  (L50_1 cs lf a0  n) lf s2) s (L50_1 cs lf a0  n)
theorem L50_1_eq (cs : Oracle) (lf : Nat) (a0 : List Go.AM.D)   : ∀ (n : Nat) (s : (Int) × (Int)), S.roundsZ (X50 cs) SG lf (C50_1 cs lf ) n (E50_1 a0 s) (H50_1 a0 s) = L50_1 cs lf a0  n s
 | 0, s => by
  show _ = none
  kernel_rfl
 | n + 1, s => by
  have h1 : (fun s' => S.roundsZ (X50 cs) SG lf (C50_1 cs lf ) n (E50_1 a0 s') (H50_1 a0 s')) = L50_1 cs lf a0  n := funext (L50_1_eq cs lf a0   n)
  have h50_2 : (fun  s2 => S.roundsZ (X50 cs) SG lf (C50_2 cs lf  (fun env H => S.roundsZ (X50 cs) SG lf (C50_1 cs lf ) n env H)) lf (E50_2 a0 s2) (H50_2 a0 s2)) = (fun  s2 => L50_2 cs lf a0  (L50_1 cs lf a0  n) lf s2) := by
   funext  s2
   exact (L50_2_eq cs lf a0   (fun env H => S.roundsZ (X50 cs) SG lf (C50_1 cs lf ) n env H) lf s2).trans (congrArg (fun q => L50_2 cs lf a0  q lf s2) h1)
  rw [B50_1_eq cs lf a0   n s, h50_2, h1]
  rfl
noncomputable def G50 (cs : Oracle) (lf : Nat) (a0 : List Go.AM.D) (P50_1 : (Int) × (Int) → Option (S.Hms.T [.int .i64])) : Option (S.Hms.T [.int .i64]) :=
 S.optZ (Go.AM.S.pureS cs [Go.AM.S.Hm.bool] (29 : Nat) [Go.AM.AV.im (Go.AM.D.agg [Go.AM.D.sl Bool.false (4 : Nat) a0])]) fun (d1 : Bool × Unit) =>
  cond (!Prod.fst d1)
   (some (((1 : Int), PUnit.unit)))
   (P50_1  (((0 : Int), (0 : Int))))
theorem G50_eq (cs : Oracle) (lf : Nat) (a0 : List Go.AM.D) : S.bodyS T SG cs fi50 lf [.im (.agg [(.sl false 4 a0)])] [] (S.endP [.int .i64]) = G50 cs lf a0 (fun  s2 => S.roundsZ (X50 cs) SG lf (C50_1 cs lf) lf (E50_1 a0 s2) (H50_1 a0 s2)) := by
 kernel_rfl
noncomputable def F50 (cs : Oracle) (lf : Nat) (a0 : List Go.AM.D) : Option (S.Hms.T [.int .i64]) := G50 cs lf a0 (fun  s2 => L50_1 cs lf a0 lf s2)
theorem F50_eq (cs : Oracle) (lf : Nat) (a0 : List Go.AM.D) : S.bodyS T SG cs fi50 lf [.im (.agg [(.sl false 4 a0)])] [] (S.endP [.int .i64]) = F50 cs lf a0 := by
 rw [G50_eq]
 have h50_1 : (fun  s2 => S.roundsZ (X50 cs) SG lf (C50_1 cs lf) lf (E50_1 a0 s2) (H50_1 a0 s2)) = (fun  s2 => L50_1 cs lf a0 lf s2) := by
  funext  s2
  exact L50_1_eq cs lf a0 lf s2
 rw [h50_1]
 rfl
theorem fi50_ok : fi50.ok Tryz.prog 50 := ⟨Tryz.func50, by decide, rfl, by rfl⟩
end Go.Proofs.YtkinbnepkpoofaaGreatDoor
/- billhook/tree.Right: what it comes to. -/
set_option linter.unusedVariables false
set_option maxRecDepth 100000
set_option maxHeartbeats 0
open Go Go.AM
namespace Go.Proofs.YtkinbnepkpoofaaGreatDoor
noncomputable def fi29 : Fi := mkFi T Tryz.f29 {  }
noncomputable abbrev X29 (cs : Oracle) : Px := fi29.px T cs 0
noncomputable abbrev K29 : S.Kq (S.Hms.T [.bool]) := S.finZ T fi29 0 (S.endP [.bool])
noncomputable def F29 (cs : Oracle) (lf : Nat) (a0 : List Go.AM.D) : Option (S.Hms.T [.bool]) :=
 S.optZ (Go.AM.S.pureS cs [Go.AM.S.Hm.bool] (71 : Nat) [Go.AM.AV.im (Go.AM.D.sl Bool.false (4 : Nat) a0), Go.AM.AV.im (Go.AM.D.fn (Go.Fn.func (72 : Nat)) [] [])]) fun (d1 : Bool × Unit) =>
  some ((Prod.fst d1, PUnit.unit))
theorem F29_eq (cs : Oracle) (lf : Nat) (a0 : List Go.AM.D) : S.bodyS T SG cs fi29 lf [.im (.agg [(.sl false 4 a0)])] [] (S.endP [.bool]) = F29 cs lf a0 := by
 kernel_rfl
theorem fi29_ok : fi29.ok Tryz.prog 29 := ⟨Tryz.func29, by decide, rfl, by rfl⟩
end Go.Proofs.YtkinbnepkpoofaaGreatDoor
/- billhook/tree.all[billhook/tree.Func]: what it comes to. -/
set_option linter.unusedVariables false
set_option maxRecDepth 100000
set_option maxHeartbeats 0
open Go Go.AM
namespace Go.Proofs.YtkinbnepkpoofaaGreatDoor
noncomputable def fi71_0 : Fi := mkFi T Tryz.f71 {  }
noncomputable abbrev X71_0 (cs : Oracle) : Px := fi71_0.px T cs 0
noncomputable abbrev K71_0 : S.Kq (S.Hms.T [.bool]) := S.finZ T fi71_0 0 (S.endP [.bool])
noncomputable def F71_0 (cs : Oracle) (lf : Nat) (a : List Go.AM.D) (bg : Nat) : Option (S.Hms.T [.bool]) :=
 S.optZ (Go.AM.S.plainS cs [Go.AM.S.Hm.bool] (121 : Nat) [Go.AM.AV.im (Go.AM.D.sl Bool.false (4 : Nat) a), Go.AM.AV.fn (Go.Fn.func (122 : Nat)) [] [Go.AM.AV.pe (Go.AM.D.fn (Go.Fn.func bg) [] []) (0 : Nat)]]) fun (d1 : Bool × Unit) =>
  some ((!Prod.fst d1, PUnit.unit))
theorem F71_0_eq (cs : Oracle) (lf : Nat) (a : List Go.AM.D) (bg : Nat) : S.bodyS T SG cs fi71_0 lf [.im (.sl false 4 a), .im (.fn (.func bg) [] [])] [] (S.endP [.bool]) = F71_0 cs lf a bg := by
 kernel_rfl
theorem fi71_0_ok : fi71_0.ok Tryz.prog 71 := ⟨Tryz.func71, by decide, rfl, by rfl⟩
end Go.Proofs.YtkinbnepkpoofaaGreatDoor
/- slices.ContainsFunc[[]billhook/tree.Func,billhook/tree.Func]: what it comes to. -/
set_option linter.unusedVariables false
set_option maxRecDepth 100000
set_option maxHeartbeats 0
open Go Go.AM
namespace Go.Proofs.YtkinbnepkpoofaaGreatDoor
noncomputable def fi121_c1 : Fi := mkFi T Tryz.f121 {  }
noncomputable abbrev X121_c1 (cs : Oracle) : Px := fi121_c1.px T cs 0
noncomputable abbrev K121_c1 : S.Kq (S.Hms.T [.bool]) := S.finZ T fi121_c1 0 (S.endP [.bool])
noncomputable def F121_c1 (cs : Oracle) (lf : Nat) (a : List Go.AM.D) (bg : Nat) (bc0 : Go.AM.D) : Option (S.Hms.T [.bool]) :=
 S.optZ (Go.AM.S.pureS cs [Go.AM.S.Hm.int Go.IntKind.i64] (67 : Nat) [Go.AM.AV.im (Go.AM.D.sl Bool.false (4 : Nat) a), Go.AM.AV.fn (Go.Fn.func bg) [] [Go.AM.AV.pe bc0 (0 : Nat)]]) fun (d1 : Int × Unit) =>
  some ((Decidable.decide (Prod.fst d1 ≥ (0 : Int)), PUnit.unit))
theorem F121_c1_eq (cs : Oracle) (lf : Nat) (a : List Go.AM.D) (bg : Nat) (bc0 : Go.AM.D) : S.bodyS T SG cs fi121_c1 lf [.im (.sl false 4 a), .fn (.func bg) [] [.pe bc0 0]] [] (S.endP [.bool]) = F121_c1 cs lf a bg bc0 := by
 kernel_rfl
theorem fi121_c1_ok : fi121_c1.ok Tryz.prog 121 := ⟨Tryz.func121, by decide, rfl, by rfl⟩
end Go.Proofs.YtkinbnepkpoofaaGreatDoor
/- billhook/tree.all[billhook/tree.Func]$1: what it comes to. -/
set_option linter.unusedVariables false
set_option maxRecDepth 100000
set_option maxHeartbeats 0
open Go Go.AM
namespace Go.Proofs.YtkinbnepkpoofaaGreatDoor
noncomputable def fi122 : Fi := mkFi T Tryz.f122 {  }
noncomputable abbrev X122 (cs : Oracle) : Px := fi122.px T cs 0
noncomputable abbrev K122 : S.Kq (S.Hms.T [.bool]) := S.finZ T fi122 0 (S.endP [.bool])
noncomputable def F122 (cs : Oracle) (lf : Nat) (a0 : List UInt8) (a1 : List Go.AM.D) (a2 : List Go.AM.D) (a3 : List Go.AM.D) (z0g : Nat) : Option (S.Hms.T [.bool]) :=
 S.optZ (Go.AM.S.pureS cs [Go.AM.S.Hm.bool] z0g [Go.AM.AV.im (Go.AM.D.agg [Go.AM.D.str a0, Go.AM.D.sl Bool.false (1 : Nat) a1, Go.AM.D.sl Bool.false (2 : Nat) a2, Go.AM.D.sl Bool.false (7 : Nat) a3])]) fun (d1 : Bool × Unit) =>
  some ((!Prod.fst d1, PUnit.unit))
theorem F122_eq (cs : Oracle) (lf : Nat) (a0 : List UInt8) (a1 : List Go.AM.D) (a2 : List Go.AM.D) (a3 : List Go.AM.D) (z0g : Nat) : S.bodyS T SG cs fi122 lf [.im (.agg [(.str a0), (.sl false 1 a1), (.sl false 2 a2), (.sl false 7 a3)]), .pe (.fn (.func z0g) [] []) 0] [] (S.endP [.bool]) = F122 cs lf a0 a1 a2 a3 z0g := by
 kernel_rfl
theorem fi122_ok : fi122.ok Tryz.prog 122 := ⟨Tryz.func122, by decide, rfl, by rfl⟩
end Go.Proofs.YtkinbnepkpoofaaGreatDoor
/- (billhook/tree.Func).right: what it comes to. -/
set_option linter.unusedVariables false
set_option maxRecDepth 100000
set_option maxHeartbeats 0
open Go Go.AM
namespace Go.Proofs.YtkinbnepkpoofaaGreatDoor
noncomputable def fi72 : Fi := mkFi T Tryz.f72 {  }
noncomputable abbrev X72 (cs : Oracle) : Px := fi72.px T cs 0
noncomputable abbrev K72 : S.Kq (S.Hms.T [.bool]) := S.finZ T fi72 0 (S.endP [.bool])
noncomputable def F72 (cs : Oracle) (lf : Nat) (a0 : List UInt8) (a1 : List Go.AM.D) (a2 : List Go.AM.D) (a3 : List Go.AM.D) : Option (S.Hms.T [.bool]) :=
 S.optZ (Go.AM.S.pureS cs [Go.AM.S.Hm.bool] (123 : Nat) [Go.AM.AV.im (Go.AM.D.str a0)]) fun (d1 : Bool × Unit) =>
  cond (Prod.fst d1)
   (S.optZ (Go.AM.S.pureS cs [Go.AM.S.Hm.bool] (124 : Nat) [Go.AM.AV.im (Go.AM.D.sl Bool.false (1 : Nat) a1), Go.AM.AV.im (Go.AM.D.fn (Go.Fn.func (123 : Nat)) [] [])]) fun (d2 : Bool × Unit) =>
    cond (Prod.fst d2)
     (S.optZ (Go.AM.S.pureS cs [Go.AM.S.Hm.bool] (125 : Nat) [Go.AM.AV.im (Go.AM.D.sl Bool.false (2 : Nat) a2), Go.AM.AV.im (Go.AM.D.fn (Go.Fn.func (126 : Nat)) [] [])]) fun (d3 : Bool × Unit) =>
      cond (Prod.fst d3)
       (S.optZ (Go.AM.S.pureS cs [Go.AM.S.Hm.bool] (127 : Nat) [Go.AM.AV.im (Go.AM.D.sl Bool.false (7 : Nat) a3)]) fun (d4 : Bool × Unit) =>
        some ((Prod.fst d4, PUnit.unit)))
       (some ((Bool.false, PUnit.unit))))
     (some ((Bool.false, PUnit.unit))))
   (some ((Bool.false, PUnit.unit)))
theorem F72_eq (cs : Oracle) (lf : Nat) (a0 : List UInt8) (a1 : List Go.AM.D) (a2 : List Go.AM.D) (a3 : List Go.AM.D) : S.bodyS T SG cs fi72 lf [.im (.agg [(.str a0), (.sl false 1 a1), (.sl false 2 a2), (.sl false 7 a3)])] [] (S.endP [.bool]) = F72 cs lf a0 a1 a2 a3 := by
 kernel_rfl
theorem fi72_ok : fi72.ok Tryz.prog 72 := ⟨Tryz.func72, by decide, rfl, by rfl⟩
end Go.Proofs.YtkinbnepkpoofaaGreatDoor
/- billhook/tree.all[string]: what it comes to. -/
set_option linter.unusedVariables false
set_option maxRecDepth 100000
set_option maxHeartbeats 0
open Go Go.AM
namespace Go.Proofs.YtkinbnepkpoofaaGreatDoor
noncomputable def fi124_0 : Fi := mkFi T Tryz.f124 {  }
noncomputable abbrev X124_0 (cs : Oracle) : Px := fi124_0.px T cs 0
noncomputable abbrev K124_0 : S.Kq (S.Hms.T [.bool]) := S.finZ T fi124_0 0 (S.endP [.bool])
noncomputable def F124_0 (cs : Oracle) (lf : Nat) (a : List Go.AM.D) (bg : Nat) : Option (S.Hms.T [.bool]) :=
 S.optZ (Go.AM.S.plainS cs [Go.AM.S.Hm.bool] (162 : Nat) [Go.AM.AV.im (Go.AM.D.sl Bool.false (1 : Nat) a), Go.AM.AV.fn (Go.Fn.func (163 : Nat)) [] [Go.AM.AV.pe (Go.AM.D.fn (Go.Fn.func bg) [] []) (0 : Nat)]]) fun (d1 : Bool × Unit) =>
  some ((!Prod.fst d1, PUnit.unit))
theorem F124_0_eq (cs : Oracle) (lf : Nat) (a : List Go.AM.D) (bg : Nat) : S.bodyS T SG cs fi124_0 lf [.im (.sl false 1 a), .im (.fn (.func bg) [] [])] [] (S.endP [.bool]) = F124_0 cs lf a bg := by
 kernel_rfl
theorem fi124_0_ok : fi124_0.ok Tryz.prog 124 := ⟨Tryz.func124, by decide, rfl, by rfl⟩
end Go.Proofs.YtkinbnepkpoofaaGreatDoor
/- slices.ContainsFunc[[]string,string]: what it comes to. -/
set_option linter.unusedVariables false
set_option maxRecDepth 100000
set_option maxHeartbeats 0
open Go Go.AM
namespace Go.Proofs.YtkinbnepkpoofaaGreatDoor
noncomputable def fi162_c1 : Fi := mkFi T Tryz.f162 {  }
noncomputable abbrev X162_c1 (cs : Oracle) : Px := fi162_c1.px T cs 0
noncomputable abbrev K162_c1 : S.Kq (S.Hms.T [.bool]) := S.finZ T fi162_c1 0 (S.endP [.bool])
noncomputable def F162_c1 (cs : Oracle) (lf : Nat) (a : List Go.AM.D) (bg : Nat) (bc0 : Go.AM.D) : Option (S.Hms.T [.bool]) :=
 S.optZ (Go.AM.S.pureS cs [Go.AM.S.Hm.int Go.IntKind.i64] (209 : Nat) [Go.AM.AV.im (Go.AM.D.sl Bool.false (1 : Nat) a), Go.AM.AV.fn (Go.Fn.func bg) [] [Go.AM.AV.pe bc0 (0 : Nat)]]) fun (d1 : Int × Unit) =>
  some ((Decidable.decide (Prod.fst d1 ≥ (0 : Int)), PUnit.unit))
theorem F162_c1_eq (cs : Oracle) (lf : Nat) (a : List Go.AM.D) (bg : Nat) (bc0 : Go.AM.D) : S.bodyS T SG cs fi162_c1 lf [.im (.sl false 1 a), .fn (.func bg) [] [.pe bc0 0]] [] (S.endP [.bool]) = F162_c1 cs lf a bg bc0 := by
 kernel_rfl
theorem fi162_c1_ok : fi162_c1.ok Tryz.prog 162 := ⟨Tryz.func162, by decide, rfl, by rfl⟩
end Go.Proofs.YtkinbnepkpoofaaGreatDoor
/- slices.IndexFunc[[]string,string]: what it comes to. -/
set_option linter.unusedVariables false
set_option maxRecDepth 100000
set_option maxHeartbeats 0
open Go Go.AM
namespace Go.Proofs.YtkinbnepkpoofaaGreatDoor
noncomputable def fi209_c1 : Fi := mkFi T Tryz.f209 { live := fun d => if Nat.beq d 2 then slots 19 [0, 1, 7, 8] else none }
noncomputable abbrev X209_c1 (cs : Oracle) : Px := fi209_c1.px T cs 0
noncomputable abbrev K209_c1 : S.Kq (S.Hms.T [.int .i64]) := S.finZ T fi209_c1 0 (S.endP [.int .i64])
def E209_c1_1 (a : List Go.AM.D) (bg : Nat) (bc0 : Go.AM.D) (s : (Int)) : Env :=
 match s with
 | v1 =>
  [Go.AM.AV.im (Go.AM.D.sl Bool.false (1 : Nat) a), Go.AM.AV.fn (Go.Fn.func bg) [] [Go.AM.AV.pe bc0 (0 : Nat)], Go.AM.AV.bad, Go.AM.AV.bad, Go.AM.AV.bad, Go.AM.AV.bad, Go.AM.AV.bad, Go.AM.AV.im (Go.AM.D.int Go.IntKind.i64 (↑(List.length a) : Int)), Go.AM.AV.im (Go.AM.D.int Go.IntKind.i64 v1), Go.AM.AV.bad, Go.AM.AV.bad, Go.AM.AV.bad, Go.AM.AV.bad, Go.AM.AV.bad, Go.AM.AV.bad, Go.AM.AV.bad, Go.AM.AV.bad, Go.AM.AV.bad, Go.AM.AV.bad]
def H209_c1_1 (a : List Go.AM.D) (bg : Nat) (bc0 : Go.AM.D) (s : (Int)) : Heap :=
 match s with
 | v1 =>
  []
noncomputable def C209_c1_1 (cs : Oracle) (lf : Nat)  : Go.Code × S.Kq (S.Hms.T [.int .i64]) := S.subZ (X209_c1 cs) SG lf fi209_c1.code [1, 0, 1, 0] [] K209_c1
noncomputable def B209_c1_1 (cs : Oracle) (lf : Nat) (a : List Go.AM.D) (bg : Nat) (bc0 : Go.AM.D)   (s : (Int)) (R2 : (Int) → Option (S.Hms.T [.int .i64])) : Option (S.Hms.T [.int .i64]) :=
 match s with
 | v1 =>
  cond (Decidable.decide (v1 < (↑(List.length a) : Int)))
  (cond (Decidable.decide ((0 : Int) ≤ v1))
   (S.optZ (a[Int.toNat v1]?) fun (d3 : Go.AM.D) =>
    S.optZ (Go.AM.D.asStr d3) fun (d4 : List UInt8) =>
     S.optZ (Go.AM.S.pureS cs [Go.AM.S.Hm.bool] bg [Go.AM.AV.im (Go.AM.D.str d4), Go.AM.AV.pe bc0 (0 : Nat)]) fun (d5 : Bool × Unit) =>
      cond (Prod.fst d5)
       (some ((v1, PUnit.unit)))
       (R2 (Go.IntKind.wrap Go.IntKind.i64 (v1 + (1 : Int)))))
   (none))
  (some (((-1 : Int), PUnit.unit)))
theorem B209_c1_1_eq (cs : Oracle) (lf : Nat) (a : List Go.AM.D) (bg : Nat) (bc0 : Go.AM.D)   (n : Nat) (s : (Int)) : S.roundsZ (X209_c1 cs) SG lf (C209_c1_1 cs lf ) (n + 1) (E209_c1_1 a bg bc0 s) (H209_c1_1 a bg bc0 s) = B209_c1_1 cs lf a bg bc0   s (fun s' => S.roundsZ (X209_c1 cs) SG lf (C209_c1_1 cs lf ) n (E209_c1_1 a bg bc0 s') (H209_c1_1 a bg bc0 s')) := by
 kernel_rfl
noncomputable def L209_c1_1 (cs : Oracle) (lf : Nat) (a : List Go.AM.D) (bg : Nat) (bc0 : Go.AM.D)  : Nat → (Int) → Option (S.Hms.T [.int .i64])
 | 0, _ => none
 | n + 1, s => B209_c1_1 cs lf a bg bc0   s (L209_c1_1 cs lf a bg bc0  n)
theorem L209_c1_1_eq (cs : Oracle) (lf : Nat) (a : List Go.AM.D) (bg : Nat) (bc0 : Go.AM.D)   : ∀ (n : Nat) (s : (Int)), S.roundsZ (X209_c1 cs) SG lf (C209_c1_1 cs lf ) n (E209_c1_1 a bg bc0 s) (H209_c1_1 a bg bc0 s) = L209_c1_1 cs lf a bg bc0  n s
 | 0, s => by
  show _ = none
  kernel_rfl
 | n + 1, s => by
  have h1 : (fun s' => S.roundsZ (X209_c1 cs) SG lf (C209_c1_1 cs lf ) n (E209_c1_1 a bg bc0 s') (H209_c1_1 a bg bc0 s')) = L209_c1_1 cs lf a bg bc0  n := funext (L209_c1_1_eq cs lf a bg bc0   n)
  rw [B209_c1_1_eq cs lf a bg bc0   n s, h1]
  rfl
noncomputable def G209_c1 (cs : Oracle) (lf : Nat) (a : List Go.AM.D) (bg : Nat) (bc0 : Go.AM.D) (P209_c1_1 : (Int) → Option (S.Hms.T [.int .i64])) : Option (S.Hms.T [.int .i64]) :=
 P209_c1_1  ((0 : Int))
theorem G209_c1_eq (cs : Oracle) (lf : Nat) (a : List Go.AM.D) (bg : Nat) (bc0 : Go.AM.D) : S.bodyS T SG cs fi209_c1 lf [.im (.sl false 1 a), .fn (.func bg) [] [.pe bc0 0]] [] (S.endP [.int .i64]) = G209_c1 cs lf a bg bc0 (fun  s2 => S.roundsZ (X209_c1 cs) SG lf (C209_c1_1 cs lf) lf (E209_c1_1 a bg bc0 s2) (H209_c1_1 a bg bc0 s2)) := by
 kernel_rfl
noncomputable def F209_c1 (cs : Oracle) (lf : Nat) (a : List Go.AM.D) (bg : Nat) (bc0 : Go.AM.D) : Option (S.Hms.T [.int .i64]) := G209_c1 cs lf a bg bc0 (fun  s2 => L209_c1_1 cs lf a bg bc0 lf s2)
theorem F209_c1_eq (cs : Oracle) (lf : Nat) (a : List Go.AM.D) (bg : Nat) (bc0 : Go.AM.D) : S.bodyS T SG cs fi209_c1 lf [.im (.sl false 1 a), .fn (.func bg) [] [.pe bc0 0]] [] (S.endP [.int .i64]) = F209_c1 cs lf a bg bc0 := by
 rw [G209_c1_eq]
 have h209_c1_1 : (fun  s2 => S.roundsZ (X209_c1 cs) SG lf (C209_c1_1 cs lf) lf (E209_c1_1 a bg bc0 s2) (H209_c1_1 a bg bc0 s2)) = (fun  s2 => L209_c1_1 cs lf a bg bc0 lf s2) := by
  funext  s2
  exact L209_c1_1_eq cs lf a bg bc0 lf s2
 rw [h209_c1_1]
 rfl
theorem fi209_c1_ok : fi209_c1.ok Tryz.prog 209 := ⟨Tryz.func209, by decide, rfl, by rfl⟩
end Go.Proofs.YtkinbnepkpoofaaGreatDoor
/- billhook/tree.all[string]$1: what it comes to. -/
set_option linter.unusedVariables false
set_option maxRecDepth 100000
set_option maxHeartbeats 0
open Go Go.AM
namespace Go.Proofs.YtkinbnepkpoofaaGreatDoor
noncomputable def fi163 : Fi := mkFi T Tryz.f163 {  }
noncomputable abbrev X163 (cs : Oracle) : Px := fi163.px T cs 0
noncomputable abbrev K163 : S.Kq (S.Hms.T [.bool]) := S.finZ T fi163 0 (S.endP [.bool])
noncomputable def F163 (cs : Oracle) (lf : Nat) (a : List UInt8) (z0g : Nat) : Option (S.Hms.T [.bool]) :=
 S.optZ (Go.AM.S.pureS cs [Go.AM.S.Hm.bool] z0g [Go.AM.AV.im (Go.AM.D.str a)]) fun (d1 : Bool × Unit) =>
  some ((!Prod.fst d1, PUnit.unit))
theorem F163_eq (cs : Oracle) (lf : Nat) (a : List UInt8) (z0g : Nat) : S.bodyS T SG cs fi163 lf [.im (.str a), .pe (.fn (.func z0g) [] []) 0] [] (S.endP [.bool]) = F163 cs lf a z0g := by
 kernel_rfl
theorem fi163_ok : fi163.ok Tryz.prog 163 := ⟨Tryz.func163, by decide, rfl, by rfl⟩
end Go.Proofs.YtkinbnepkpoofaaGreatDoor
/- billhook/tree.all[billhook/tree.Decl]: what it comes to. -/
set_option linter.unusedVariables false
set_option maxRecDepth 100000
set_option maxHeartbeats 0
open Go Go.AM
namespace Go.Proofs.YtkinbnepkpoofaaGreatDoor
noncomputable def fi125_0 : Fi := mkFi T Tryz.f125 {  }
noncomputable abbrev X125_0 (cs : Oracle) : Px := fi125_0.px T cs 0
noncomputable abbrev K125_0 : S.Kq (S.Hms.T [.bool]) := S.finZ T fi125_0 0 (S.endP [.bool])
noncomputable def F125_0 (cs : Oracle) (lf : Nat) (a : List Go.AM.D) (bg : Nat) : Option (S.Hms.T [.bool]) :=
 S.optZ (Go.AM.S.plainS cs [Go.AM.S.Hm.bool] (164 : Nat) [Go.AM.AV.im (Go.AM.D.sl Bool.false (2 : Nat) a), Go.AM.AV.fn (Go.Fn.func (165 : Nat)) [] [Go.AM.AV.pe (Go.AM.D.fn (Go.Fn.func bg) [] []) (0 : Nat)]]) fun (d1 : Bool × Unit) =>
  some ((!Prod.fst d1, PUnit.unit))
theorem F125_0_eq (cs : Oracle) (lf : Nat) (a : List Go.AM.D) (bg : Nat) : S.bodyS T SG cs fi125_0 lf [.im (.sl false 2 a), .im (.fn (.func bg) [] [])] [] (S.endP [.bool]) = F125_0 cs lf a bg := by
 kernel_rfl
theorem fi125_0_ok : fi125_0.ok Tryz.prog 125 := ⟨Tryz.func125, by decide, rfl, by rfl⟩
end Go.Proofs.YtkinbnepkpoofaaGreatDoor
/- slices.ContainsFunc[[]billhook/tree.Decl,billhook/tree.Decl]: what it comes to. -/
set_option linter.unusedVariables false
set_option maxRecDepth 100000
set_option maxHeartbeats 0
open Go Go.AM
namespace Go.Proofs.YtkinbnepkpoofaaGreatDoor
noncomputable def fi164_c1 : Fi := mkFi T Tryz.f164 {  }
noncomputable abbrev X164_c1 (cs : Oracle) : Px := fi164_c1.px T cs 0
noncomputable abbrev K164_c1 : S.Kq (S.Hms.T [.bool]) := S.finZ T fi164_c1 0 (S.endP [.bool])
noncomputable def F164_c1 (cs : Oracle) (lf : Nat) (a : List Go.AM.D) (bg : Nat) (bc0 : Go.AM.D) : Option (S.Hms.T [.bool]) :=
 S.optZ (Go.AM.S.pureS cs [Go.AM.S.Hm.int Go.IntKind.i64] (60 : Nat) [Go.AM.AV.im (Go.AM.D.sl Bool.false (2 : Nat) a), Go.AM.AV.fn (Go.Fn.func bg) [] [Go.AM.AV.pe bc0 (0 : Nat)]]) fun (d1 : Int × Unit) =>
  some ((Decidable.decide (Prod.fst d1 ≥ (0 : Int)), PUnit.unit))
theorem F164_c1_eq (cs : Oracle) (lf : Nat) (a : List Go.AM.D) (bg : Nat) (bc0 : Go.AM.D) : S.bodyS T SG cs fi164_c1 lf [.im (.sl false 2 a), .fn (.func bg) [] [.pe bc0 0]] [] (S.endP [.bool]) = F164_c1 cs lf a bg bc0 := by
 kernel_rfl
theorem fi164_c1_ok : fi164_c1.ok Tryz.prog 164 := ⟨Tryz.func164, by decide, rfl, by rfl⟩
end Go.Proofs.YtkinbnepkpoofaaGreatDoor
/- billhook/tree.all[billhook/tree.Decl]$1: what it comes to. -/
set_option linter.unusedVariables false
set_option maxRecDepth 100000
set_option maxHeartbeats 0
open Go Go.AM
namespace Go.Proofs.YtkinbnepkpoofaaGreatDoor
noncomputable def fi165 : Fi := mkFi T Tryz.f165 {  }
noncomputable abbrev X165 (cs : Oracle) : Px := fi165.px T cs 0
noncomputable abbrev K165 : S.Kq (S.Hms.T [.bool]) := S.finZ T fi165 0 (S.endP [.bool])
noncomputable def F165 (cs : Oracle) (lf : Nat) (a0 : List UInt8) (a1 : Int) (z0g : Nat) : Option (S.Hms.T [.bool]) :=
 S.optZ (Go.AM.S.pureS cs [Go.AM.S.Hm.bool] z0g [Go.AM.AV.im (Go.AM.D.agg [Go.AM.D.str a0, Go.AM.D.int Go.IntKind.i64 a1])]) fun (d1 : Bool × Unit) =>
  some ((!Prod.fst d1, PUnit.unit))
theorem F165_eq (cs : Oracle) (lf : Nat) (a0 : List UInt8) (a1 : Int) (z0g : Nat) : S.bodyS T SG cs fi165 lf [.im (.agg [(.str a0), (.int .i64 a1)]), .pe (.fn (.func z0g) [] []) 0] [] (S.endP [.bool]) = F165 cs lf a0 a1 z0g := by
 kernel_rfl
theorem fi165_ok : fi165.ok Tryz.prog 165 := ⟨Tryz.func165, by decide, rfl, by rfl⟩
end Go.Proofs.YtkinbnepkpoofaaGreatDoor
/- slices.IndexFunc[[]billhook/tree.Decl,billhook/tree.Decl]: what it comes to. -/
set_option linter.unusedVariables false
set_option maxRecDepth 100000
set_option maxHeartbeats 0
open Go Go.AM
namespace Go.Proofs.YtkinbnepkpoofaaGreatDoor
noncomputable def fi60_c1 : Fi := mkFi T Tryz.f60 { live := fun d => if Nat.beq d 2 then slots 19 [0, 1, 7, 8] else none }
noncomputable abbrev X60_c1 (cs : Oracle) : Px := fi60_c1.px T cs 0
noncomputable abbrev K60_c1 : S.Kq (S.Hms.T [.int .i64]) := S.finZ T fi60_c1 0 (S.endP [.int .i64])
def E60_c1_1 (a : List Go.AM.D) (bg : Nat) (bc0 : Go.AM.D) (s : (Int)) : Env :=
 match s with
 | v1 =>
  [Go.AM.AV.im (Go.AM.D.sl Bool.false (2 : Nat) a), Go.AM.AV.fn (Go.Fn.func bg) [] [Go.AM.AV.pe bc0 (0 : Nat)], Go.AM.AV.bad, Go.AM.AV.bad, Go.AM.AV.bad, Go.AM.AV.bad, Go.AM.AV.bad, Go.AM.AV.im (Go.AM.D.int Go.IntKind.i64 (↑(List.length a) : Int)), Go.AM.AV.im (Go.AM.D.int Go.IntKind.i64 v1), Go.AM.AV.bad, Go.AM.AV.bad, Go.AM.AV.bad, Go.AM.AV.bad, Go.AM.AV.bad, Go.AM.AV.bad, Go.AM.AV.bad, Go.AM.AV.bad, Go.AM.AV.bad, Go.AM.AV.bad]
def H60_c1_1 (a : List Go.AM.D) (bg : Nat) (bc0 : Go.AM.D) (s : (Int)) : Heap :=
 match s with
 | v1 =>
  []
noncomputable def C60_c1_1 (cs : Oracle) (lf : Nat)  : Go.Code × S.Kq (S.Hms.T [.int .i64]) := S.subZ (X60_c1 cs) SG lf fi60_c1.code [1, 0, 1, 0] [] K60_c1
noncomputable def B60_c1_1 (cs : Oracle) (lf : Nat) (a : List Go.AM.D) (bg : Nat) (bc0 : Go.AM.D)   (s : (Int)) (R2 : (Int) → Option (S.Hms.T [.int .i64])) : Option (S.Hms.T [.int .i64]) :=
 match s with
 | v1 =>
  cond (Decidable.decide (v1 < (↑(List.length a) : Int)))
  (cond (Decidable.decide ((0 : Int) ≤ v1))
   (S.optZ (a[Int.toNat v1]?) fun (d3 : Go.AM.D) =>
    S.optZ (Go.AM.S.stDec [Go.AM.Sc.str, Go.AM.Sc.int Go.IntKind.i64] d3) fun (d4 : List UInt8 × Int) =>
     S.optZ (Go.AM.S.pureS cs [Go.AM.S.Hm.bool] bg [Go.AM.AV.im (Go.AM.D.agg [Go.AM.D.str (Prod.fst d4), Go.AM.D.int Go.IntKind.i64 (Prod.snd d4)]), Go.AM.AV.pe bc0 (0 : Nat)]) fun (d5 : Bool × Unit) =>
      cond (Prod.fst d5)
       (some ((v1, PUnit.unit)))
       (R2 (Go.IntKind.wrap Go.IntKind.i64 (v1 + (1 : Int)))))
   (none))
  (some (((-1 : Int), PUnit.unit)))
theorem B60_c1_1_eq (cs : Oracle) (lf : Nat) (a : List Go.AM.D) (bg : Nat) (bc0 : Go.AM.D)   (n : Nat) (s : (Int)) : S.roundsZ (X60_c1 cs) SG lf (C60_c1_1 cs lf ) (n + 1) (E60_c1_1 a bg bc0 s) (H60_c1_1 a bg bc0 s) = B60_c1_1 cs lf a bg bc0   s (fun s' => S.roundsZ (X60_c1 cs) SG lf (C60_c1_1 cs lf ) n (E60_c1_1 a bg bc0 s') (H60_c1_1 a bg bc0 s')) := by
 kernel_rfl
noncomputable def L60_c1_1 (cs : Oracle) (lf : Nat) (a : List Go.AM.D) (bg : Nat) (bc0 : Go.AM.D)  : Nat → (Int) → Option (S.Hms.T [.int .i64])
 | 0, _ => none
 | n + 1, s => B60_c1_1 cs lf a bg bc0   s (L60_c1_1 cs lf a bg bc0  n)
theorem L60_c1_1_eq (cs : Oracle) (lf : Nat) (a : List Go.AM.D) (bg : Nat) (bc0 : Go.AM.D)   : ∀ (n : Nat) (s : (Int)), S.roundsZ (X60_c1 cs) SG lf (C60_c1_1 cs lf ) n (E60_c1_1 a bg bc0 s) (H60_c1_1 a bg bc0 s) = L60_c1_1 cs lf a bg bc0  n s
 | 0, s => by
  show _ = none
  kernel_rfl
 | n + 1, s => by
  have h1 : (fun s' => S.roundsZ (X60_c1 cs) SG lf (C60_c1_1 cs lf ) n (E60_c1_1 a bg bc0 s') (H60_c1_1 a bg bc0 s')) = L60_c1_1 cs lf a bg bc0  n := funext (L60_c1_1_eq cs lf a bg bc0   n)
  rw [B60_c1_1_eq cs lf a bg bc0   n s, h1]
  rfl
noncomputable def G60_c1 (cs : Oracle) (lf : Nat) (a : List Go.AM.D) (bg : Nat) (bc0 : Go.AM.D) (P60_c1_1 : (Int) → Option (S.Hms.T [.int .i64])) : Option (S.Hms.T [.int .i64]) :=
 P60_c1_1  ((0 : Int))
theorem G60_c1_eq (cs : Oracle) (lf : Nat) (a : List Go.AM.D) (bg : Nat) (bc0 : Go.AM.D) : S.bodyS T SG cs fi60_c1 lf [.im (.sl false 2 a), .fn (.func bg) [] [.pe bc0 0]] [] (S.endP [.int .i64]) = G60_c1 cs lf a bg bc0 (fun  s2 => S.roundsZ (X60_c1 cs) SG lf (C60_c1_1 cs lf) lf (E60_c1_1 a bg bc0 s2) (H60_c1_1 a bg bc0 s2)) := by
 kernel_rfl
noncomputable def F60_c1 (cs : Oracle) (lf : Nat) (a : List Go.AM.D) (bg : Nat) (bc0 : Go.AM.D) : Option (S.Hms.T [.int .i64]) := G60_c1 cs lf a bg bc0 (fun  s2 => L60_c1_1 cs lf a bg bc0 lf s2)
theorem F60_c1_eq (cs : Oracle) (lf : Nat) (a : List Go.AM.D) (bg : Nat) (bc0 : Go.AM.D) : S.bodyS T SG cs fi60_c1 lf [.im (.sl false 2 a), .fn (.func bg) [] [.pe bc0 0]] [] (S.endP [.int .i64]) = F60_c1 cs lf a bg bc0 := by
 rw [G60_c1_eq]
 have h60_c1_1 : (fun  s2 => S.roundsZ (X60_c1 cs) SG lf (C60_c1_1 cs lf) lf (E60_c1_1 a bg bc0 s2) (H60_c1_1 a bg bc0 s2)) = (fun  s2 => L60_c1_1 cs lf a bg bc0 lf s2) := by
  funext  s2
  exact L60_c1_1_eq cs lf a bg bc0 lf s2
 rw [h60_c1_1]
 rfl
theorem fi60_c1_ok : fi60_c1.ok Tryz.prog 60 := ⟨Tryz.func60, by decide, rfl, by rfl⟩
end Go.Proofs.YtkinbnepkpoofaaGreatDoor
/- billhook/check.Size$1: what it comes to. -/
set_option linter.unusedVariables false
set_option maxRecDepth 100000
set_option maxHeartbeats 0
open Go Go.AM
namespace Go.Proofs.YtkinbnepkpoofaaGreatDoor
noncomputable def fi61 : Fi := mkFi T Tryz.f61 {  }
noncomputable abbrev X61 (cs : Oracle) : Px := fi61.px T cs 0
noncomputable abbrev K61 : S.Kq (S.Hms.T [.bool]) := S.finZ T fi61 0 (S.endP [.bool])
noncomputable def F61 (cs : Oracle) (lf : Nat) (a0 : List UInt8) (a1 : Int) (z0 : List UInt8) : Option (S.Hms.T [.bool]) :=
 some ((a0 == z0, PUnit.unit))
theorem F61_eq (cs : Oracle) (lf : Nat) (a0 : List UInt8) (a1 : Int) (z0 : List UInt8) : S.bodyS T SG cs fi61 lf [.im (.agg [(.str a0), (.int .i64 a1)]), .pe (.str z0) 0] [] (S.endP [.bool]) = F61 cs lf a0 a1 z0 := by
 kernel_rfl
theorem fi61_ok : fi61.ok Tryz.prog 61 := ⟨Tryz.func61, by decide, rfl, by rfl⟩
end Go.Proofs.YtkinbnepkpoofaaGreatDoor
/- (billhook/tree.Decl).right: what it comes to. -/
set_option linter.unusedVariables false
set_option maxRecDepth 100000
set_option maxHeartbeats 0
open Go Go.AM
namespace Go.Proofs.YtkinbnepkpoofaaGreatDoor
noncomputable def fi126 : Fi := mkFi T Tryz.f126 {  }
noncomputable abbrev X126 (cs : Oracle) : Px := fi126.px T cs 0
noncomputable abbrev K126 : S.Kq (S.Hms.T [.bool]) := S.finZ T fi126 0 (S.endP [.bool])
noncomputable def F126 (cs : Oracle) (lf : Nat) (a0 : List UInt8) (a1 : Int) : Option (S.Hms.T [.bool]) :=
 S.optZ (Go.AM.S.pureS cs [Go.AM.S.Hm.bool] (123 : Nat) [Go.AM.AV.im (Go.AM.D.str a0)]) fun (d1 : Bool × Unit) =>
  cond (Prod.fst d1)
   (some ((Decidable.decide (a1 ≥ (0 : Int)), PUnit.unit)))
   (some ((Bool.false, PUnit.unit)))
theorem F126_eq (cs : Oracle) (lf : Nat) (a0 : List UInt8) (a1 : Int) : S.bodyS T SG cs fi126 lf [.im (.agg [(.str a0), (.int .i64 a1)])] [] (S.endP [.bool]) = F126 cs lf a0 a1 := by
 kernel_rfl
theorem fi126_ok : fi126.ok Tryz.prog 126 := ⟨Tryz.func126, by decide, rfl, by rfl⟩
end Go.Proofs.YtkinbnepkpoofaaGreatDoor
/- billhook/tree.RightStmts: what it comes to. -/
set_option linter.unusedVariables false
set_option maxRecDepth 100000
set_option maxHeartbeats 0
open Go Go.AM
namespace Go.Proofs.YtkinbnepkpoofaaGreatDoor
noncomputable def fi127 : Fi := mkFi T Tryz.f127 {  }
noncomputable abbrev X127 (cs : Oracle) : Px := fi127.px T cs 0
noncomputable abbrev K127 : S.Kq (S.Hms.T [.bool]) := S.finZ T fi127 0 (S.endP [.bool])
noncomputable def F127 (cs : Oracle) (lf : Nat) (a : List Go.AM.D) : Option (S.Hms.T [.bool]) :=
 S.optZ (Go.AM.S.pureS cs [Go.AM.S.Hm.bool] (166 : Nat) [Go.AM.AV.im (Go.AM.D.sl Bool.false (7 : Nat) a), Go.AM.AV.im (Go.AM.D.fn (Go.Fn.func (167 : Nat)) [] [])]) fun (d1 : Bool × Unit) =>
  some ((Prod.fst d1, PUnit.unit))
theorem F127_eq (cs : Oracle) (lf : Nat) (a : List Go.AM.D) : S.bodyS T SG cs fi127 lf [.im (.sl false 7 a)] [] (S.endP [.bool]) = F127 cs lf a := by
 kernel_rfl
theorem fi127_ok : fi127.ok Tryz.prog 127 := ⟨Tryz.func127, by decide, rfl, by rfl⟩
end Go.Proofs.YtkinbnepkpoofaaGreatDoor
/- billhook/tree.all[billhook/tree.Stmt]: what it comes to. -/
set_option linter.unusedVariables false
set_option maxRecDepth 100000
set_option maxHeartbeats 0
open Go Go.AM
namespace Go.Proofs.YtkinbnepkpoofaaGreatDoor
noncomputable def fi166_0 : Fi := mkFi T Tryz.f166 {  }
noncomputable abbrev X166_0 (cs : Oracle) : Px := fi166_0.px T cs 0
noncomputable abbrev K166_0 : S.Kq (S.Hms.T [.bool]) := S.finZ T fi166_0 0 (S.endP [.bool])
noncomputable def F166_0 (cs : Oracle) (lf : Nat) (a : List Go.AM.D) (bg : Nat) : Option (S.Hms.T [.bool]) :=
 S.optZ (Go.AM.S.plainS cs [Go.AM.S.Hm.bool] (115 : Nat) [Go.AM.AV.im (Go.AM.D.sl Bool.false (7 : Nat) a), Go.AM.AV.fn (Go.Fn.func (210 : Nat)) [] [Go.AM.AV.pe (Go.AM.D.fn (Go.Fn.func bg) [] []) (0 : Nat)]]) fun (d1 : Bool × Unit) =>
  some ((!Prod.fst d1, PUnit.unit))
theorem F166_0_eq (cs : Oracle) (lf : Nat) (a : List Go.AM.D) (bg : Nat) : S.bodyS T SG cs fi166_0 lf [.im (.sl false 7 a), .im (.fn (.func bg) [] [])] [] (S.endP [.bool]) = F166_0 cs lf a bg := by
 kernel_rfl
theorem fi166_0_ok : fi166_0.ok Tryz.prog 166 := ⟨Tryz.func166, by decide, rfl, by rfl⟩
end Go.Proofs.YtkinbnepkpoofaaGreatDoor
/- slices.ContainsFunc[[]billhook/tree.Stmt,billhook/tree.Stmt]: what it comes to. -/
set_option linter.unusedVariables false
set_option maxRecDepth 100000
set_option maxHeartbeats 0
open Go Go.AM
namespace Go.Proofs.YtkinbnepkpoofaaGreatDoor
noncomputable def fi115_c1 : Fi := mkFi T Tryz.f115 {  }
noncomputable abbrev X115_c1 (cs : Oracle) : Px := fi115_c1.px T cs 0
noncomputable abbrev K115_c1 : S.Kq (S.Hms.T [.bool]) := S.finZ T fi115_c1 0 (S.endP [.bool])
noncomputable def F115_c1 (cs : Oracle) (lf : Nat) (a : List Go.AM.D) (bg : Nat) (bc0 : Go.AM.D) : Option (S.Hms.T [.bool]) :=
 S.optZ (Go.AM.S.pureS cs [Go.AM.S.Hm.int Go.IntKind.i64] (157 : Nat) [Go.AM.AV.im (Go.AM.D.sl Bool.false (7 : Nat) a), Go.AM.AV.fn (Go.Fn.func bg) [] [Go.AM.AV.pe bc0 (0 : Nat)]]) fun (d1 : Int × Unit) =>
  some ((Decidable.decide (Prod.fst d1 ≥ (0 : Int)), PUnit.unit))
theorem F115_c1_eq (cs : Oracle) (lf : Nat) (a : List Go.AM.D) (bg : Nat) (bc0 : Go.AM.D) : S.bodyS T SG cs fi115_c1 lf [.im (.sl false 7 a), .fn (.func bg) [] [.pe bc0 0]] [] (S.endP [.bool]) = F115_c1 cs lf a bg bc0 := by
 kernel_rfl
theorem fi115_c1_ok : fi115_c1.ok Tryz.prog 115 := ⟨Tryz.func115, by decide, rfl, by rfl⟩
end Go.Proofs.YtkinbnepkpoofaaGreatDoor
/- slices.IndexFunc[[]billhook/tree.Stmt,billhook/tree.Stmt]: what it comes to. -/
set_option linter.unusedVariables false
set_option maxRecDepth 100000
set_option maxHeartbeats 0
open Go Go.AM
namespace Go.Proofs.YtkinbnepkpoofaaGreatDoor
noncomputable def fi157_c1 : Fi := mkFi T Tryz.f157 { live := fun d => if Nat.beq d 2 then slots 19 [0, 1, 7, 8] else none }
noncomputable abbrev X157_c1 (cs : Oracle) : Px := fi157_c1.px T cs 0
noncomputable abbrev K157_c1 : S.Kq (S.Hms.T [.int .i64]) := S.finZ T fi157_c1 0 (S.endP [.int .i64])
def E157_c1_1 (a : List Go.AM.D) (bg : Nat) (bc0 : Go.AM.D) (s : (Int)) : Env :=
 match s with
 | v1 =>
  [Go.AM.AV.im (Go.AM.D.sl Bool.false (7 : Nat) a), Go.AM.AV.fn (Go.Fn.func bg) [] [Go.AM.AV.pe bc0 (0 : Nat)], Go.AM.AV.bad, Go.AM.AV.bad, Go.AM.AV.bad, Go.AM.AV.bad, Go.AM.AV.bad, Go.AM.AV.im (Go.AM.D.int Go.IntKind.i64 (↑(List.length a) : Int)), Go.AM.AV.im (Go.AM.D.int Go.IntKind.i64 v1), Go.AM.AV.bad, Go.AM.AV.bad, Go.AM.AV.bad, Go.AM.AV.bad, Go.AM.AV.bad, Go.AM.AV.bad, Go.AM.AV.bad, Go.AM.AV.bad, Go.AM.AV.bad, Go.AM.AV.bad]
def H157_c1_1 (a : List Go.AM.D) (bg : Nat) (bc0 : Go.AM.D) (s : (Int)) : Heap :=
 match s with
 | v1 =>
  []
noncomputable def C157_c1_1 (cs : Oracle) (lf : Nat)  : Go.Code × S.Kq (S.Hms.T [.int .i64]) := S.subZ (X157_c1 cs) SG lf fi157_c1.code [1, 0, 1, 0] [] K157_c1
noncomputable def B157_c1_1 (cs : Oracle) (lf : Nat) (a : List Go.AM.D) (bg : Nat) (bc0 : Go.AM.D)   (s : (Int)) (R2 : (Int) → Option (S.Hms.T [.int .i64])) : Option (S.Hms.T [.int .i64]) :=
 match s with
 | v1 =>
  cond (Decidable.decide (v1 < (↑(List.length a) : Int)))
  (cond (Decidable.decide ((0 : Int) ≤ v1))
   (S.optZ (a[Int.toNat v1]?) fun (d3 : Go.AM.D) =>
    S.optZ (Go.AM.S.stDec [Go.AM.Sc.int Go.IntKind.i64, Go.AM.Sc.int Go.IntKind.i64, Go.AM.Sc.str, Go.AM.Sc.str, Go.AM.Sc.sl (5 : Nat), Go.AM.Sc.sl (7 : Nat), Go.AM.Sc.sl (7 : Nat)] d3) fun (d4 : Int × Int × List UInt8 × List UInt8 × List Go.AM.D × List Go.AM.D × List Go.AM.D) =>
     S.optZ (Go.AM.S.pureS cs [Go.AM.S.Hm.bool] bg [Go.AM.AV.im (Go.AM.D.agg [Go.AM.D.int Go.IntKind.i64 (Prod.fst d4), Go.AM.D.int Go.IntKind.i64 (Prod.fst (Prod.snd d4)), Go.AM.D.str (Prod.fst (Prod.snd (Prod.snd d4))), Go.AM.D.str (Prod.fst (Prod.snd (Prod.snd (Prod.snd d4)))), Go.AM.D.sl Bool.false (5 : Nat) (Prod.fst (Prod.snd (Prod.snd (Prod.snd (Prod.snd d4))))), Go.AM.D.sl Bool.false (7 : Nat) (Prod.fst (Prod.snd (Prod.snd (Prod.snd (Prod.snd (Prod.snd d4)))))), Go.AM.D.sl Bool.false (7 : Nat) (Prod.snd (Prod.snd (Prod.snd (Prod.snd (Prod.snd (Prod.snd d4))))))]), Go.AM.AV.pe bc0 (0 : Nat)]) fun (d5 : Bool × Unit) =>
      cond (Prod.fst d5)
       (some ((v1, PUnit.unit)))
       (R2 (Go.IntKind.wrap Go.IntKind.i64 (v1 + (1 : Int)))))
   (none))
  (some (((-1 : Int), PUnit.unit)))
theorem B157_c1_1_eq (cs : Oracle) (lf : Nat) (a : List Go.AM.D) (bg : Nat) (bc0 : Go.AM.D)   (n : Nat) (s : (Int)) : S.roundsZ (X157_c1 cs) SG lf (C157_c1_1 cs lf ) (n + 1) (E157_c1_1 a bg bc0 s) (H157_c1_1 a bg bc0 s) = B157_c1_1 cs lf a bg bc0   s (fun s' => S.roundsZ (X157_c1 cs) SG lf (C157_c1_1 cs lf ) n (E157_c1_1 a bg bc0 s') (H157_c1_1 a bg bc0 s')) := by
 kernel_rfl
noncomputable def L157_c1_1 (cs : Oracle) (lf : Nat) (a : List Go.AM.D) (bg : Nat) (bc0 : Go.AM.D)  : Nat → (Int) → Option (S.Hms.T [.int .i64])
 | 0, _ => none
 | n + 1, s => B157_c1_1 cs lf a bg bc0   s (L157_c1_1 cs lf a bg bc0  n)
theorem L157_c1_1_eq (cs : Oracle) (lf : Nat) (a : List Go.AM.D) (bg : Nat) (bc0 : Go.AM.D)   : ∀ (n : Nat) (s : (Int)), S.roundsZ (X157_c1 cs) SG lf (C157_c1_1 cs lf ) n (E157_c1_1 a bg bc0 s) (H157_c1_1 a bg bc0 s) = L157_c1_1 cs lf a bg bc0  n s
 | 0, s => by
  show _ = none
  kernel_rfl
 | n + 1, s => by
  have h1 : (fun s' => S.roundsZ (X157_c1 cs) SG lf (C157_c1_1 cs lf ) n (E157_c1_1 a bg bc0 s') (H157_c1_1 a bg bc0 s')) = L157_c1_1 cs lf a bg bc0  n := funext (L157_c1_1_eq cs lf a bg bc0   n)
  rw [B157_c1_1_eq cs lf a bg bc0   n s, h1]
  rfl
noncomputable def G157_c1 (cs : Oracle) (lf : Nat) (a : List Go.AM.D) (bg : Nat) (bc0 : Go.AM.D) (P157_c1_1 : (Int) → Option (S.Hms.T [.int .i64])) : Option (S.Hms.T [.int .i64]) :=
 P157_c1_1  ((0 : Int))
theorem G157_c1_eq (cs : Oracle) (lf : Nat) (a : List Go.AM.D) (bg : Nat) (bc0 : Go.AM.D) : S.bodyS T SG cs fi157_c1 lf [.im (.sl false 7 a), .fn (.func bg) [] [.pe bc0 0]] [] (S.endP [.int .i64]) = G157_c1 cs lf a bg bc0 (fun  s2 => S.roundsZ (X157_c1 cs) SG lf (C157_c1_1 cs lf) lf (E157_c1_1 a bg bc0 s2) (H157_c1_1 a bg bc0 s2)) := by
 kernel_rfl
noncomputable def F157_c1 (cs : Oracle) (lf : Nat) (a : List Go.AM.D) (bg : Nat) (bc0 : Go.AM.D) : Option (S.Hms.T [.int .i64]) := G157_c1 cs lf a bg bc0 (fun  s2 => L157_c1_1 cs lf a bg bc0 lf s2)
theorem F157_c1_eq (cs : Oracle) (lf : Nat) (a : List Go.AM.D) (bg : Nat) (bc0 : Go.AM.D) : S.bodyS T SG cs fi157_c1 lf [.im (.sl false 7 a), .fn (.func bg) [] [.pe bc0 0]] [] (S.endP [.int .i64]) = F157_c1 cs lf a bg bc0 := by
 rw [G157_c1_eq]
 have h157_c1_1 : (fun  s2 => S.roundsZ (X157_c1 cs) SG lf (C157_c1_1 cs lf) lf (E157_c1_1 a bg bc0 s2) (H157_c1_1 a bg bc0 s2)) = (fun  s2 => L157_c1_1 cs lf a bg bc0 lf s2) := by
  funext  s2
  exact L157_c1_1_eq cs lf a bg bc0 lf s2
 rw [h157_c1_1]
 rfl
theorem fi157_c1_ok : fi157_c1.ok Tryz.prog 157 := ⟨Tryz.func157, by decide, rfl, by rfl⟩
end Go.Proofs.YtkinbnepkpoofaaGreatDoor
/- billhook/tree.Count: what it comes to. -/
set_option linter.unusedVariables false
set_option maxRecDepth 100000
set_option maxHeartbeats 0
open Go Go.AM
namespace Go.Proofs.YtkinbnepkpoofaaGreatDoor
noncomputable def fi86 : Fi := mkFi T Tryz.f86 { live := fun d => if Nat.beq d 3 then slots 25 [3, 8, 9, 10] else none }
noncomputable abbrev X86 (cs : Oracle) : Px := fi86.px T cs 0
noncomputable abbrev K86 : S.Kq (S.Hms.T [.int .i64]) := S.finZ T fi86 0 (S.endP [.int .i64])
def E86_1 (a : List Go.AM.D) (s : (Int) × (Int)) : Env :=
 match s with
 | (v1, v2) =>
  [Go.AM.AV.bad, Go.AM.AV.bad, Go.AM.AV.bad, Go.AM.AV.im (Go.AM.D.int Go.IntKind.i64 v1), Go.AM.AV.bad, Go.AM.AV.bad, Go.AM.AV.bad, Go.AM.AV.bad, Go.AM.AV.im (Go.AM.D.sl Bool.false (7 : Nat) a), Go.AM.AV.im (Go.AM.D.int Go.IntKind.i64 (↑(List.length a) : Int)), Go.AM.AV.im (Go.AM.D.int Go.IntKind.i64 v2), Go.AM.AV.bad, Go.AM.AV.bad, Go.AM.AV.bad, Go.AM.AV.bad, Go.AM.AV.bad, Go.AM.AV.bad, Go.AM.AV.bad, Go.AM.AV.bad, Go.AM.AV.bad, Go.AM.AV.bad, Go.AM.AV.bad, Go.AM.AV.bad, Go.AM.AV.bad, Go.AM.AV.bad]
def H86_1 (a : List Go.AM.D) (s : (Int) × (Int)) : Heap :=
 match s with
 | (v1, v2) =>
  []
noncomputable def C86_1 (cs : Oracle) (lf : Nat)  : Go.Code × S.Kq (S.Hms.T [.int .i64]) := S.subZ (X86 cs) SG lf fi86.code [1, 1, 0, 1, 0] [] K86
noncomputable def B86_1 (cs : Oracle) (lf : Nat) (a : List Go.AM.D)   (s : (Int) × (Int)) (R3 : (Int) × (Int) → Option (S.Hms.T [.int .i64])) : Option (S.Hms.T [.int .i64]) :=
 match s with
 | (v1, v2) =>
  cond (Decidable.decide (v2 < (↑(List.length a) : Int)))
  (cond (Decidable.decide ((0 : Int) ≤ v2))
   (S.optZ (a[Int.toNat v2]?) fun (d4 : Go.AM.D) =>
    S.optZ (Go.AM.S.stDec [Go.AM.Sc.int Go.IntKind.i64, Go.AM.Sc.int Go.IntKind.i64, Go.AM.Sc.str, Go.AM.Sc.str, Go.AM.Sc.sl (5 : Nat), Go.AM.Sc.sl (7 : Nat), Go.AM.Sc.sl (7 : Nat)] d4) fun (d5 : Int × Int × List UInt8 × List UInt8 × List Go.AM.D × List Go.AM.D × List Go.AM.D) =>
     S.optZ (Go.AM.S.pureS cs [Go.AM.S.Hm.int Go.IntKind.i64] (86 : Nat) [Go.AM.AV.im (Go.AM.D.sl Bool.false (7 : Nat) (Prod.fst (Prod.snd (Prod.snd (Prod.snd (Prod.snd (Prod.snd d5)))))))]) fun (d6 : Int × Unit) =>
      S.optZ (Go.AM.S.pureS cs [Go.AM.S.Hm.int Go.IntKind.i64] (86 : Nat) [Go.AM.AV.im (Go.AM.D.sl Bool.false (7 : Nat) (Prod.snd (Prod.snd (Prod.snd (Prod.snd (Prod.snd (Prod.snd d5)))))))]) fun (d7 : Int × Unit) =>
       R3 ((Go.IntKind.wrap Go.IntKind.i64 (v1 + Go.IntKind.wrap Go.IntKind.i64 (Prod.fst d6 + Prod.fst d7)), Go.IntKind.wrap Go.IntKind.i64 (v2 + (1 : Int)))))
   (none))
  (some ((v1, PUnit.unit)))
theorem B86_1_eq (cs : Oracle) (lf : Nat) (a : List Go.AM.D)   (n : Nat) (s : (Int) × (Int)) : S.roundsZ (X86 cs) SG lf (C86_1 cs lf ) (n + 1) (E86_1 a s) (H86_1 a s) = B86_1 cs lf a   s (fun s' => S.roundsZ (X86 cs) SG lf (C86_1 cs lf ) n (E86_1 a s') (H86_1 a s')) := by
 kernel_rfl
noncomputable def L86_1 (cs : Oracle) (lf : Nat) (a : List Go.AM.D)  : Nat → (Int) × (Int) → Option (S.Hms.T [.int .i64])
 | 0, _ => none
 | n + 1, s => B86_1 cs lf a   s (L86_1 cs lf a  n)
theorem L86_1_eq (cs : Oracle) (lf : Nat) (a : List Go.AM.D)   : ∀ (n : Nat) (s : (Int) × (Int)), S.roundsZ (X86 cs) SG lf (C86_1 cs lf ) n (E86_1 a s) (H86_1 a s) = L86_1 cs lf a  n s
 | 0, s => by
  show _ = none
  kernel_rfl
 | n + 1, s => by
  have h1 : (fun s' => S.roundsZ (X86 cs) SG lf (C86_1 cs lf ) n (E86_1 a s') (H86_1 a s')) = L86_1 cs lf a  n := funext (L86_1_eq cs lf a   n)
  rw [B86_1_eq cs lf a   n s, h1]
  rfl
noncomputable def G86 (cs : Oracle) (lf : Nat) (a : List Go.AM.D) (P86_1 : (Int) × (Int) → Option (S.Hms.T [.int .i64])) : Option (S.Hms.T [.int .i64]) :=
 P86_1  (((↑(List.length a) : Int), (0 : Int)))
theorem G86_eq (cs : Oracle) (lf : Nat) (a : List Go.AM.D) : S.bodyS T SG cs fi86 lf [.im (.sl false 7 a)] [] (S.endP [.int .i64]) = G86 cs lf a (fun  s2 => S.roundsZ (X86 cs) SG lf (C86_1 cs lf) lf (E86_1 a s2) (H86_1 a s2)) := by
 kernel_rfl
noncomputable def F86 (cs : Oracle) (lf : Nat) (a : List Go.AM.D) : Option (S.Hms.T [.int .i64]) := G86 cs lf a (fun  s2 => L86_1 cs lf a lf s2)
theorem F86_eq (cs : Oracle) (lf : Nat) (a : List Go.AM.D) : S.bodyS T SG cs fi86 lf [.im (.sl false 7 a)] [] (S.endP [.int .i64]) = F86 cs lf a := by
 rw [G86_eq]
 have h86_1 : (fun  s2 => S.roundsZ (X86 cs) SG lf (C86_1 cs lf) lf (E86_1 a s2) (H86_1 a s2)) = (fun  s2 => L86_1 cs lf a lf s2) := by
  funext  s2
  exact L86_1_eq cs lf a lf s2
 rw [h86_1]
 rfl
theorem fi86_ok : fi86.ok Tryz.prog 86 := ⟨Tryz.func86, by decide, rfl, by rfl⟩
end Go.Proofs.YtkinbnepkpoofaaGreatDoor
/- slices.Contains[[]string,string]: what it comes to. -/
set_option linter.unusedVariables false
set_option maxRecDepth 100000
set_option maxHeartbeats 0
open Go Go.AM
namespace Go.Proofs.YtkinbnepkpoofaaGreatDoor
noncomputable def fi59 : Fi := mkFi T Tryz.f59 {  }
noncomputable abbrev X59 (cs : Oracle) : Px := fi59.px T cs 0
noncomputable abbrev K59 : S.Kq (S.Hms.T [.bool]) := S.finZ T fi59 0 (S.endP [.bool])
noncomputable def F59 (cs : Oracle) (lf : Nat) (a : List Go.AM.D) (b : List UInt8) : Option (S.Hms.T [.bool]) :=
 S.optZ (Go.AM.S.pureS cs [Go.AM.S.Hm.int Go.IntKind.i64] (113 : Nat) [Go.AM.AV.im (Go.AM.D.sl Bool.false (1 : Nat) a), Go.AM.AV.im (Go.AM.D.str b)]) fun (d1 : Int × Unit) =>
  some ((Decidable.decide (Prod.fst d1 ≥ (0 : Int)), PUnit.unit))
theorem F59_eq (cs : Oracle) (lf : Nat) (a : List Go.AM.D) (b : List UInt8) : S.bodyS T SG cs fi59 lf [.im (.sl false 1 a), .im (.str b)] [] (S.endP [.bool]) = F59 cs lf a b := by
 kernel_rfl
theorem fi59_ok : fi59.ok Tryz.prog 59 := ⟨Tryz.func59, by decide, rfl, by rfl⟩
end Go.Proofs.YtkinbnepkpoofaaGreatDoor
/- slices.Index[[]string,string]: what it comes to. -/
set_option linter.unusedVariables false
set_option maxRecDepth 100000
set_option maxHeartbeats 0
open Go Go.AM
namespace Go.Proofs.YtkinbnepkpoofaaGreatDoor
noncomputable def fi113 : Fi := mkFi T Tryz.f113 { live := fun d => if Nat.beq d 2 then slots 19 [0, 1, 7, 8] else none }
noncomputable abbrev X113 (cs : Oracle) : Px := fi113.px T cs 0
noncomputable abbrev K113 : S.Kq (S.Hms.T [.int .i64]) := S.finZ T fi113 0 (S.endP [.int .i64])
def E113_1 (a : List Go.AM.D) (b : List UInt8) (s : (Int)) : Env :=
 match s with
 | v1 =>
  [Go.AM.AV.im (Go.AM.D.sl Bool.false (1 : Nat) a), Go.AM.AV.im (Go.AM.D.str b), Go.AM.AV.bad, Go.AM.AV.bad, Go.AM.AV.bad, Go.AM.AV.bad, Go.AM.AV.bad, Go.AM.AV.im (Go.AM.D.int Go.IntKind.i64 (↑(List.length a) : Int)), Go.AM.AV.im (Go.AM.D.int Go.IntKind.i64 v1), Go.AM.AV.bad, Go.AM.AV.bad, Go.AM.AV.bad, Go.AM.AV.bad, Go.AM.AV.bad, Go.AM.AV.bad, Go.AM.AV.bad, Go.AM.AV.bad, Go.AM.AV.bad, Go.AM.AV.bad]
def H113_1 (a : List Go.AM.D) (b : List UInt8) (s : (Int)) : Heap :=
 match s with
 | v1 =>
  []
noncomputable def C113_1 (cs : Oracle) (lf : Nat)  : Go.Code × S.Kq (S.Hms.T [.int .i64]) := S.subZ (X113 cs) SG lf fi113.code [1, 0, 1, 0] [] K113
noncomputable def B113_1 (cs : Oracle) (lf : Nat) (a : List Go.AM.D) (b : List UInt8)   (s : (Int)) (R2 : (Int) → Option (S.Hms.T [.int .i64])) : Option (S.Hms.T [.int .i64]) :=
 match s with
 | v1 =>
  cond (Decidable.decide (v1 < (↑(List.length a) : Int)))
  (cond (Decidable.decide ((0 : Int) ≤ v1))
   (S.optZ (a[Int.toNat v1]?) fun (d3 : Go.AM.D) =>
    S.optZ (Go.AM.D.asStr d3) fun (d4 : List UInt8) =>
     cond (b == d4)
      (some ((v1, PUnit.unit)))
      (R2 (Go.IntKind.wrap Go.IntKind.i64 (v1 + (1 : Int)))))
   (none))
  (some (((-1 : Int), PUnit.unit)))
theorem B113_1_eq (cs : Oracle) (lf : Nat) (a : List Go.AM.D) (b : List UInt8)   (n : Nat) (s : (Int)) : S.roundsZ (X113 cs) SG lf (C113_1 cs lf ) (n + 1) (E113_1 a b s) (H113_1 a b s) = B113_1 cs lf a b   s (fun s' => S.roundsZ (X113 cs) SG lf (C113_1 cs lf ) n (E113_1 a b s') (H113_1 a b s')) := by
 kernel_rfl
noncomputable def L113_1 (cs : Oracle) (lf : Nat) (a : List Go.AM.D) (b : List UInt8)  : Nat → (Int) → Option (S.Hms.T [.int .i64])
 | 0, _ => none
 | n + 1, s => B113_1 cs lf a b   s (L113_1 cs lf a b  n)
theorem L113_1_eq (cs : Oracle) (lf : Nat) (a : List Go.AM.D) (b : List UInt8)   : ∀ (n : Nat) (s : (Int)), S.roundsZ (X113 cs) SG lf (C113_1 cs lf ) n (E113_1 a b s) (H113_1 a b s) = L113_1 cs lf a b  n s
 | 0, s => by
  show _ = none
  kernel_rfl
 | n + 1, s => by
  have h1 : (fun s' => S.roundsZ (X113 cs) SG lf (C113_1 cs lf ) n (E113_1 a b s') (H113_1 a b s')) = L113_1 cs lf a b  n := funext (L113_1_eq cs lf a b   n)
  rw [B113_1_eq cs lf a b   n s, h1]
  rfl
noncomputable def G113 (cs : Oracle) (lf : Nat) (a : List Go.AM.D) (b : List UInt8) (P113_1 : (Int) → Option (S.Hms.T [.int .i64])) : Option (S.Hms.T [.int .i64]) :=
 P113_1  ((0 : Int))
theorem G113_eq (cs : Oracle) (lf : Nat) (a : List Go.AM.D) (b : List UInt8) : S.bodyS T SG cs fi113 lf [.im (.sl false 1 a), .im (.str b)] [] (S.endP [.int .i64]) = G113 cs lf a b (fun  s2 => S.roundsZ (X113 cs) SG lf (C113_1 cs lf) lf (E113_1 a b s2) (H113_1 a b s2)) := by
 kernel_rfl
noncomputable def F113 (cs : Oracle) (lf : Nat) (a : List Go.AM.D) (b : List UInt8) : Option (S.Hms.T [.int .i64]) := G113 cs lf a b (fun  s2 => L113_1 cs lf a b lf s2)
theorem F113_eq (cs : Oracle) (lf : Nat) (a : List Go.AM.D) (b : List UInt8) : S.bodyS T SG cs fi113 lf [.im (.sl false 1 a), .im (.str b)] [] (S.endP [.int .i64]) = F113 cs lf a b := by
 rw [G113_eq]
 have h113_1 : (fun  s2 => S.roundsZ (X113 cs) SG lf (C113_1 cs lf) lf (E113_1 a b s2) (H113_1 a b s2)) = (fun  s2 => L113_1 cs lf a b lf s2) := by
  funext  s2
  exact L113_1_eq cs lf a b lf s2
 rw [h113_1]
 rfl
theorem fi113_ok : fi113.ok Tryz.prog 113 := ⟨Tryz.func113, by decide, rfl, by rfl⟩
end Go.Proofs.YtkinbnepkpoofaaGreatDoor
/- (*billhook/check.checker).stmts: what it comes to. -/
set_option linter.unusedVariables false
set_option maxRecDepth 100000
set_option maxHeartbeats 0
open Go Go.AM
namespace Go.Proofs.YtkinbnepkpoofaaGreatDoor
noncomputable def fi55_e0 : Fi := mkFi T Tryz.f55 { live := fun d => if Nat.beq d 2 then slots 31 [3, 5, 11, 12, 13] else none, lend := isIn [51] }
noncomputable abbrev X55_e0 (cs : Oracle) : Px := fi55_e0.px T cs 2
noncomputable abbrev K55_e0 : S.Kq (S.Hms.T [.int .i64] × S.Hbs.T [.m [.sl 4, .str, .sl 1, .sl 2, .sl 7, .bool, .mp 1], .o]) := S.finZ T fi55_e0 2 (S.endS ⟨[.int .i64], [.m [.sl 4, .str, .sl 1, .sl 2, .sl 7, .bool, .mp 1], .o]⟩)
def E55_e0_1 (c : Bool) (p : List Go.AM.D) (f0 : List UInt8) (f1 : List Go.AM.D) (f2 : List Go.AM.D) (f3 : List Go.AM.D) (m : Bool) (t : List Go.AM.D) (s : Unit) : Env :=
[Go.AM.AV.bad, Go.AM.AV.bad, Go.AM.AV.bad, Go.AM.AV.ptr (2 : Nat) (0 : Nat) (0 : Nat), Go.AM.AV.bad, Go.AM.AV.ptr (3 : Nat) (0 : Nat) (0 : Nat), Go.AM.AV.bad, Go.AM.AV.bad, Go.AM.AV.bad, Go.AM.AV.bad, Go.AM.AV.bad, Go.AM.AV.im (Go.AM.D.sl Bool.false (7 : Nat) []), Go.AM.AV.im (Go.AM.D.int Go.IntKind.i64 (0 : Int)), Go.AM.AV.im (Go.AM.D.int Go.IntKind.i64 (0 : Int)), Go.AM.AV.bad, Go.AM.AV.bad, Go.AM.AV.bad, Go.AM.AV.bad, Go.AM.AV.bad, Go.AM.AV.bad, Go.AM.AV.bad, Go.AM.AV.bad, Go.AM.AV.bad, Go.AM.AV.bad, Go.AM.AV.bad, Go.AM.AV.bad, Go.AM.AV.bad, Go.AM.AV.bad, Go.AM.AV.bad, Go.AM.AV.bad, Go.AM.AV.bad]
def H55_e0_1 (c : Bool) (p : List Go.AM.D) (f0 : List UInt8) (f1 : List Go.AM.D) (f2 : List Go.AM.D) (f3 : List Go.AM.D) (m : Bool) (t : List Go.AM.D) (s : Unit) : Heap :=
[Option.some (Go.AM.Blk.m (7 : Nat) [Go.AM.AV.agg [Go.AM.AV.im (Go.AM.D.sl Bool.false (4 : Nat) p), Go.AM.AV.im (Go.AM.D.str f0), Go.AM.AV.im (Go.AM.D.sl Bool.false (1 : Nat) f1), Go.AM.AV.im (Go.AM.D.sl Bool.false (2 : Nat) f2), Go.AM.AV.im (Go.AM.D.sl Bool.false (7 : Nat) f3), Go.AM.AV.im (Go.AM.D.bool m), Go.AM.AV.mp (1 : Nat)]]), Option.some (Go.AM.Blk.o t), Option.some (Go.AM.Blk.m (1 : Nat) [Go.AM.AV.ptr (0 : Nat) (0 : Nat) (0 : Nat)]), Option.some (Go.AM.Blk.c (1 : Nat) [Go.AM.D.bool c])]
noncomputable def C55_e0_1 (cs : Oracle) (lf : Nat)  : Go.Code × S.Kq (S.Hms.T [.int .i64] × S.Hbs.T [.m [.sl 4, .str, .sl 1, .sl 2, .sl 7, .bool, .mp 1], .o]) := S.subZ (X55_e0 cs) (SGI cs) lf fi55_e0.code [1, 0, 1, 0] [] K55_e0
noncomputable def B55_e0_1 (cs : Oracle) (lf : Nat) (c : Bool) (p : List Go.AM.D) (f0 : List UInt8) (f1 : List Go.AM.D) (f2 : List Go.AM.D) (f3 : List Go.AM.D) (m : Bool) (t : List Go.AM.D)   (s : Unit) (R1 : Unit → Option (S.Hms.T [.int .i64] × S.Hbs.T [.m [.sl 4, .str, .sl 1, .sl 2, .sl 7, .bool, .mp 1], .o])) : Option (S.Hms.T [.int .i64] × S.Hbs.T [.m [.sl 4, .str, .sl 1, .sl 2, .sl 7, .bool, .mp 1], .o]) :=
some ((((0 : Int), PUnit.unit), (p, f0, f1, f2, f3, m, PUnit.unit, PUnit.unit), t, PUnit.unit))
theorem B55_e0_1_eq (cs : Oracle) (lf : Nat) (c : Bool) (p : List Go.AM.D) (f0 : List UInt8) (f1 : List Go.AM.D) (f2 : List Go.AM.D) (f3 : List Go.AM.D) (m : Bool) (t : List Go.AM.D)   (n : Nat) (s : Unit) : S.roundsZ (X55_e0 cs) (SGI cs) lf (C55_e0_1 cs lf ) (n + 1) (E55_e0_1 c p f0 f1 f2 f3 m t s) (H55_e0_1 c p f0 f1 f2 f3 m t s) = B55_e0_1 cs lf c p f0 f1 f2 f3 m t   s (fun s' => S.roundsZ (X55_e0 cs) (SGI cs) lf (C55_e0_1 cs lf ) n (E55_e0_1 c p f0 f1 f2 f3 m t s') (H55_e0_1 c p f0 f1 f2 f3 m t s')) := by
 kernel_rfl
noncomputable def L55_e0_1 (cs : Oracle) (lf : Nat) (c : Bool) (p : List Go.AM.D) (f0 : List UInt8) (f1 : List Go.AM.D) (f2 : List Go.AM.D) (f3 : List Go.AM.D) (m : Bool) (t : List Go.AM.D)  : Nat → Unit → Option (S.Hms.T [.int .i64] × S.Hbs.T [.m [.sl 4, .str, .sl 1, .sl 2, .sl 7, .bool, .mp 1], .o])
 | 0, _ => none
 | n + 1, s => B55_e0_1 cs lf c p f0 f1 f2 f3 m t   s (L55_e0_1 cs lf c p f0 f1 f2 f3 m t  n)
theorem L55_e0_1_eq (cs : Oracle) (lf : Nat) (c : Bool) (p : List Go.AM.D) (f0 : List UInt8) (f1 : List Go.AM.D) (f2 : List Go.AM.D) (f3 : List Go.AM.D) (m : Bool) (t : List Go.AM.D)   : ∀ (n : Nat) (s : Unit), S.roundsZ (X55_e0 cs) (SGI cs) lf (C55_e0_1 cs lf ) n (E55_e0_1 c p f0 f1 f2 f3 m t s) (H55_e0_1 c p f0 f1 f2 f3 m t s) = L55_e0_1 cs lf c p f0 f1 f2 f3 m t  n s
 | 0, s => by
  show _ = none
  kernel_rfl
 | n + 1, s => by
  have h1 : (fun s' => S.roundsZ (X55_e0 cs) (SGI cs) lf (C55_e0_1 cs lf ) n (E55_e0_1 c p f0 f1 f2 f3 m t s') (H55_e0_1 c p f0 f1 f2 f3 m t s')) = L55_e0_1 cs lf c p f0 f1 f2 f3 m t  n := funext (L55_e0_1_eq cs lf c p f0 f1 f2 f3 m t   n)
  rw [B55_e0_1_eq cs lf c p f0 f1 f2 f3 m t   n s, h1]
  rfl
noncomputable def G55_e0 (cs : Oracle) (lf : Nat) (c : Bool) (p : List Go.AM.D) (f0 : List UInt8) (f1 : List Go.AM.D) (f2 : List Go.AM.D) (f3 : List Go.AM.D) (m : Bool) (t : List Go.AM.D) (P55_e0_1 : Unit → Option (S.Hms.T [.int .i64] × S.Hbs.T [.m [.sl 4, .str, .sl 1, .sl 2, .sl 7, .bool, .mp 1], .o])) : Option (S.Hms.T [.int .i64] × S.Hbs.T [.m [.sl 4, .str, .sl 1, .sl 2, .sl 7, .bool, .mp 1], .o]) :=
 P55_e0_1  (())
theorem G55_e0_eq (cs : Oracle) (lf : Nat) (c : Bool) (p : List Go.AM.D) (f0 : List UInt8) (f1 : List Go.AM.D) (f2 : List Go.AM.D) (f3 : List Go.AM.D) (m : Bool) (t : List Go.AM.D) : S.bodyS T (SGI cs) cs fi55_e0 lf [.ptr 0 0 0, .im (.sl false 7 []), .im (.bool c)] [some (.m 7 [.agg [.im (.sl false 4 p), .im (.str f0), .im (.sl false 1 f1), .im (.sl false 2 f2), .im (.sl false 7 f3), .im (.bool m), .mp 1]]), some (.o t)] (S.endS ⟨[.int .i64], [.m [.sl 4, .str, .sl 1, .sl 2, .sl 7, .bool, .mp 1], .o]⟩) = G55_e0 cs lf c p f0 f1 f2 f3 m t (fun  s2 => S.roundsZ (X55_e0 cs) (SGI cs) lf (C55_e0_1 cs lf) lf (E55_e0_1 c p f0 f1 f2 f3 m t s2) (H55_e0_1 c p f0 f1 f2 f3 m t s2)) := by
 kernel_rfl
noncomputable def F55_e0 (cs : Oracle) (lf : Nat) (c : Bool) (p : List Go.AM.D) (f0 : List UInt8) (f1 : List Go.AM.D) (f2 : List Go.AM.D) (f3 : List Go.AM.D) (m : Bool) (t : List Go.AM.D) : Option (S.Hms.T [.int .i64] × S.Hbs.T [.m [.sl 4, .str, .sl 1, .sl 2, .sl 7, .bool, .mp 1], .o]) := G55_e0 cs lf c p f0 f1 f2 f3 m t (fun  s2 => L55_e0_1 cs lf c p f0 f1 f2 f3 m t lf s2)
theorem F55_e0_eq (cs : Oracle) (lf : Nat) (c : Bool) (p : List Go.AM.D) (f0 : List UInt8) (f1 : List Go.AM.D) (f2 : List Go.AM.D) (f3 : List Go.AM.D) (m : Bool) (t : List Go.AM.D) : S.bodyS T (SGI cs) cs fi55_e0 lf [.ptr 0 0 0, .im (.sl false 7 []), .im (.bool c)] [some (.m 7 [.agg [.im (.sl false 4 p), .im (.str f0), .im (.sl false 1 f1), .im (.sl false 2 f2), .im (.sl false 7 f3), .im (.bool m), .mp 1]]), some (.o t)] (S.endS ⟨[.int .i64], [.m [.sl 4, .str, .sl 1, .sl 2, .sl 7, .bool, .mp 1], .o]⟩) = F55_e0 cs lf c p f0 f1 f2 f3 m t := by
 rw [G55_e0_eq]
 have h55_e0_1 : (fun  s2 => S.roundsZ (X55_e0 cs) (SGI cs) lf (C55_e0_1 cs lf) lf (E55_e0_1 c p f0 f1 f2 f3 m t s2) (H55_e0_1 c p f0 f1 f2 f3 m t s2)) = (fun  s2 => L55_e0_1 cs lf c p f0 f1 f2 f3 m t lf s2) := by
  funext  s2
  exact L55_e0_1_eq cs lf c p f0 f1 f2 f3 m t lf s2
 rw [h55_e0_1]
 rfl
theorem fi55_e0_ok : fi55_e0.ok Tryz.prog 55 := ⟨Tryz.func55, by decide, rfl, by rfl⟩
end Go.Proofs.YtkinbnepkpoofaaGreatDoor
/- billhook/check.names: what it comes to. -/
set_option linter.unusedVariables false
set_option maxRecDepth 100000
set_option maxHeartbeats 0
open Go Go.AM
namespace Go.Proofs.YtkinbnepkpoofaaGreatDoor
noncomputable def fi53 : Fi := mkFi T Tryz.f53 { live := fun d => if Nat.beq d 3 then slots 41 [1, 3, 10, 11, 12] else none, frz := isIn [26], lend := isIn [97] }
noncomputable abbrev X53 (cs : Oracle) : Px := fi53.px T cs 0
noncomputable abbrev K53 : S.Kq (S.Hms.T [.int .i64]) := S.finZ T fi53 0 (S.endP [.int .i64])
def E53_1 (a0 : List UInt8) (a1 : List Go.AM.D) (a2 : List Go.AM.D) (a3 : List Go.AM.D) (s : (Nat) × (Int) × (List Go.AM.D)) : Env :=
 match s with
 | (v2, v3, v4) =>
  [Go.AM.AV.bad, Go.AM.AV.ptr (0 : Nat) (0 : Nat) (0 : Nat), Go.AM.AV.bad, Go.AM.AV.ref (1 : Nat) (0 : Nat) v2, Go.AM.AV.bad, Go.AM.AV.bad, Go.AM.AV.bad, Go.AM.AV.bad, Go.AM.AV.bad, Go.AM.AV.bad, Go.AM.AV.im (Go.AM.D.sl Bool.false (2 : Nat) a2), Go.AM.AV.im (Go.AM.D.int Go.IntKind.i64 (↑(List.length a2) : Int)), Go.AM.AV.im (Go.AM.D.int Go.IntKind.i64 v3), Go.AM.AV.bad, Go.AM.AV.bad, Go.AM.AV.bad, Go.AM.AV.bad, Go.AM.AV.bad, Go.AM.AV.bad, Go.AM.AV.bad, Go.AM.AV.bad, Go.AM.AV.bad, Go.AM.AV.bad, Go.AM.AV.bad, Go.AM.AV.bad, Go.AM.AV.bad, Go.AM.AV.bad, Go.AM.AV.bad, Go.AM.AV.bad, Go.AM.AV.bad, Go.AM.AV.bad, Go.AM.AV.bad, Go.AM.AV.bad, Go.AM.AV.bad, Go.AM.AV.bad, Go.AM.AV.bad, Go.AM.AV.bad, Go.AM.AV.bad, Go.AM.AV.bad, Go.AM.AV.bad, Go.AM.AV.bad]
def H53_1 (a0 : List UInt8) (a1 : List Go.AM.D) (a2 : List Go.AM.D) (a3 : List Go.AM.D) (s : (Nat) × (Int) × (List Go.AM.D)) : Heap :=
 match s with
 | (v2, v3, v4) =>
  [Option.some (Go.AM.Blk.c (4 : Nat) [Go.AM.D.agg [Go.AM.D.str a0, Go.AM.D.sl Bool.false (1 : Nat) a1, Go.AM.D.sl Bool.false (2 : Nat) a2, Go.AM.D.sl Bool.false (7 : Nat) a3]]), Option.some (Go.AM.Blk.c (1 : Nat) v4)]
noncomputable def C53_1 (cs : Oracle) (lf : Nat)  : Go.Code × S.Kq (S.Hms.T [.int .i64]) := S.subZ (X53 cs) SG lf fi53.code [1, 1, 0, 1, 0] [] K53
noncomputable def B53_1 (cs : Oracle) (lf : Nat) (a0 : List UInt8) (a1 : List Go.AM.D) (a2 : List Go.AM.D) (a3 : List Go.AM.D)   (s : (Nat) × (Int) × (List Go.AM.D)) (R5 : (Nat) × (Int) × (List Go.AM.D) → Option (S.Hms.T [.int .i64])) : Option (S.Hms.T [.int .i64]) :=
 match s with
 | (v2, v3, v4) =>
  cond (Decidable.decide (v3 < (↑(List.length a2) : Int)))
  (cond (Decidable.decide ((0 : Int) ≤ v3))
   (S.optZ (a2[Int.toNat v3]?) fun (d6 : Go.AM.D) =>
    S.optZ (Go.AM.S.stDec [Go.AM.Sc.str, Go.AM.Sc.int Go.IntKind.i64] d6) fun (d7 : List UInt8 × Int) =>
     cond (Decidable.decide (Prod.snd (Prod.fst d7, Prod.snd d7) > (64 : Int)))
      (some (((5 : Int), PUnit.unit)))
      (cond (Decidable.decide (List.length (List.take v2 (List.drop (0 : Nat) v4) ++ [Go.AM.D.str (Prod.fst d7)]) * (16 : Nat) ≤ (140737488355328 : Nat)))
       (cond (Decidable.decide (List.length (List.take v2 (List.drop (0 : Nat) v4) ++ [Go.AM.D.str (Prod.fst d7)]) ≤ (140737488355328 : Nat)))
        (R5 ((List.length (List.take v2 (List.drop (0 : Nat) v4) ++ [Go.AM.D.str (Prod.fst d7)]), Go.IntKind.wrap Go.IntKind.i64 (v3 + (1 : Int)), List.take v2 (List.drop (0 : Nat) v4) ++ [Go.AM.D.str (Prod.fst d7)])))
        (none))
       (none)))
   (none))
  (cond (Decidable.decide ((↑(List.length (List.take v2 (List.drop (0 : Nat) v4))) : Int) > (24 : Int)))
   (some (((5 : Int), PUnit.unit)))
   (S.optZ (Go.AM.S.pureS cs [] (98 : Nat) [Go.AM.AV.im (Go.AM.D.sl Bool.false (1 : Nat) (List.take v2 (List.drop (0 : Nat) v4)))]) fun (d8 : Unit) =>
    S.optZ (Go.AM.S.pureS cs [Go.AM.S.Hm.any] (99 : Nat) [Go.AM.AV.im (Go.AM.D.sl Bool.false (1 : Nat) (List.take v2 (List.drop (0 : Nat) v4)))]) fun (d9 : Go.AM.D × Unit) =>
     S.optZ (Go.AM.D.asSl (1 : Nat) (Prod.fst d9)) fun (d10 : List Go.AM.D) =>
      cond (Decidable.decide ((↑(List.length d10) : Int) < Go.IntKind.wrap Go.IntKind.i64 ((↑(List.length a1) : Int) + (↑(List.length a2) : Int))))
       (some (((6 : Int), PUnit.unit)))
       (some (((0 : Int), PUnit.unit)))))
theorem B53_1_eq (cs : Oracle) (lf : Nat) (a0 : List UInt8) (a1 : List Go.AM.D) (a2 : List Go.AM.D) (a3 : List Go.AM.D)   (n : Nat) (s : (Nat) × (Int) × (List Go.AM.D)) : S.roundsZ (X53 cs) SG lf (C53_1 cs lf ) (n + 1) (E53_1 a0 a1 a2 a3 s) (H53_1 a0 a1 a2 a3 s) = B53_1 cs lf a0 a1 a2 a3   s (fun s' => S.roundsZ (X53 cs) SG lf (C53_1 cs lf ) n (E53_1 a0 a1 a2 a3 s') (H53_1 a0 a1 a2 a3 s')) := by
 kernel_rfl
noncomputable def L53_1 (cs : Oracle) (lf : Nat) (a0 : List UInt8) (a1 : List Go.AM.D) (a2 : List Go.AM.D) (a3 : List Go.AM.D)  : Nat → (Nat) × (Int) × (List Go.AM.D) → Option (S.Hms.T [.int .i64])
 | 0, _ => none
 | n + 1, s => B53_1 cs lf a0 a1 a2 a3   s (L53_1 cs lf a0 a1 a2 a3  n)
theorem L53_1_eq (cs : Oracle) (lf : Nat) (a0 : List UInt8) (a1 : List Go.AM.D) (a2 : List Go.AM.D) (a3 : List Go.AM.D)   : ∀ (n : Nat) (s : (Nat) × (Int) × (List Go.AM.D)), S.roundsZ (X53 cs) SG lf (C53_1 cs lf ) n (E53_1 a0 a1 a2 a3 s) (H53_1 a0 a1 a2 a3 s) = L53_1 cs lf a0 a1 a2 a3  n s
 | 0, s => by
  show _ = none
  kernel_rfl
 | n + 1, s => by
  have h1 : (fun s' => S.roundsZ (X53 cs) SG lf (C53_1 cs lf ) n (E53_1 a0 a1 a2 a3 s') (H53_1 a0 a1 a2 a3 s')) = L53_1 cs lf a0 a1 a2 a3  n := funext (L53_1_eq cs lf a0 a1 a2 a3   n)
  rw [B53_1_eq cs lf a0 a1 a2 a3   n s, h1]
  rfl
noncomputable def G53 (cs : Oracle) (lf : Nat) (a0 : List UInt8) (a1 : List Go.AM.D) (a2 : List Go.AM.D) (a3 : List Go.AM.D) (P53_1 : (Nat) × (Int) × (List Go.AM.D) → Option (S.Hms.T [.int .i64])) : Option (S.Hms.T [.int .i64]) :=
 S.optZ (Go.AM.S.lentS cs { rs := [Go.AM.S.Hm.ref (0 : Nat)], hs := [Go.AM.S.Hb.row (1 : Nat)] } (97 : Nat) [Go.AM.AV.im (Go.AM.D.sl Bool.false (1 : Nat) a1)] []) fun (d1 : (Nat × Unit) × List Go.AM.D × Unit) =>
  P53_1  ((Prod.fst (Prod.fst d1), (0 : Int), Prod.fst (Prod.snd d1)))
theorem G53_eq (cs : Oracle) (lf : Nat) (a0 : List UInt8) (a1 : List Go.AM.D) (a2 : List Go.AM.D) (a3 : List Go.AM.D) : S.bodyS T SG cs fi53 lf [.im (.agg [(.str a0), (.sl false 1 a1), (.sl false 2 a2), (.sl false 7 a3)])] [] (S.endP [.int .i64]) = G53 cs lf a0 a1 a2 a3 (fun  s2 => S.roundsZ (X53 cs) SG lf (C53_1 cs lf) lf (E53_1 a0 a1 a2 a3 s2) (H53_1 a0 a1 a2 a3 s2)) := by
 kernel_rfl
noncomputable def F53 (cs : Oracle) (lf : Nat) (a0 : List UInt8) (a1 : List Go.AM.D) (a2 : List Go.AM.D) (a3 : List Go.AM.D) : Option (S.Hms.T [.int .i64]) := G53 cs lf a0 a1 a2 a3 (fun  s2 => L53_1 cs lf a0 a1 a2 a3 lf s2)
theorem F53_eq (cs : Oracle) (lf : Nat) (a0 : List UInt8) (a1 : List Go.AM.D) (a2 : List Go.AM.D) (a3 : List Go.AM.D) : S.bodyS T SG cs fi53 lf [.im (.agg [(.str a0), (.sl false 1 a1), (.sl false 2 a2), (.sl false 7 a3)])] [] (S.endP [.int .i64]) = F53 cs lf a0 a1 a2 a3 := by
 rw [G53_eq]
 have h53_1 : (fun  s2 => S.roundsZ (X53 cs) SG lf (C53_1 cs lf) lf (E53_1 a0 a1 a2 a3 s2) (H53_1 a0 a1 a2 a3 s2)) = (fun  s2 => L53_1 cs lf a0 a1 a2 a3 lf s2) := by
  funext  s2
  exact L53_1_eq cs lf a0 a1 a2 a3 lf s2
 rw [h53_1]
 rfl
theorem fi53_ok : fi53.ok Tryz.prog 53 := ⟨Tryz.func53, by decide, rfl, by rfl⟩
end Go.Proofs.YtkinbnepkpoofaaGreatDoor
/- billhook/check.Size: what it comes to. -/
set_option linter.unusedVariables false
set_option maxRecDepth 100000
set_option maxHeartbeats 0
open Go Go.AM
namespace Go.Proofs.YtkinbnepkpoofaaGreatDoor
noncomputable def fi21 : Fi := mkFi T Tryz.f21 {  }
noncomputable abbrev X21 (cs : Oracle) : Px := fi21.px T cs 0
noncomputable abbrev K21 : S.Kq (S.Hms.T [.int .i64, .bool]) := S.finZ T fi21 0 (S.endP [.int .i64, .bool])
noncomputable def F21 (cs : Oracle) (lf : Nat) (a0 : List UInt8) (a1 : List Go.AM.D) (a2 : List Go.AM.D) (a3 : List Go.AM.D) (b : List UInt8) : Option (S.Hms.T [.int .i64, .bool]) :=
 S.optZ (Go.AM.S.pureS cs [Go.AM.S.Hm.bool] (59 : Nat) [Go.AM.AV.im (Go.AM.D.sl Bool.false (1 : Nat) a1), Go.AM.AV.im (Go.AM.D.str b)]) fun (d1 : Bool × Unit) =>
  cond (Prod.fst d1)
   (some (((0 : Int), Bool.true, PUnit.unit)))
   (S.optZ (Go.AM.S.plainS cs [Go.AM.S.Hm.int Go.IntKind.i64] (60 : Nat) [Go.AM.AV.im (Go.AM.D.sl Bool.false (2 : Nat) a2), Go.AM.AV.fn (Go.Fn.func (61 : Nat)) [] [Go.AM.AV.pe (Go.AM.D.str b) (0 : Nat)]]) fun (d2 : Int × Unit) =>
    cond (Decidable.decide (Prod.fst d2 < (0 : Int)))
     (some (((0 : Int), Bool.false, PUnit.unit)))
     (cond (Decidable.decide ((0 : Int) ≤ Prod.fst d2))
      (S.optZ (a2[Int.toNat (Prod.fst d2)]?) fun (d3 : Go.AM.D) =>
       S.optZ (Go.AM.S.stDec [Go.AM.Sc.str, Go.AM.Sc.int Go.IntKind.i64] d3) fun (d4 : List UInt8 × Int) =>
        some ((Prod.snd d4, Bool.true, PUnit.unit)))
      (none)))
theorem F21_eq (cs : Oracle) (lf : Nat) (a0 : List UInt8) (a1 : List Go.AM.D) (a2 : List Go.AM.D) (a3 : List Go.AM.D) (b : List UInt8) : S.bodyS T SG cs fi21 lf [.im (.agg [(.str a0), (.sl false 1 a1), (.sl false 2 a2), (.sl false 7 a3)]), .im (.str b)] [] (S.endP [.int .i64, .bool]) = F21 cs lf a0 a1 a2 a3 b := by
 kernel_rfl
theorem fi21_ok : fi21.ok Tryz.prog 21 := ⟨Tryz.func21, by decide, rfl, by rfl⟩
end Go.Proofs.YtkinbnepkpoofaaGreatDoor
/- billhook/check.Find: what it comes to. -/
set_option linter.unusedVariables false
set_option maxRecDepth 100000
set_option maxHeartbeats 0
open Go Go.AM
namespace Go.Proofs.YtkinbnepkpoofaaGreatDoor
noncomputable def fi26 : Fi := mkFi T Tryz.f26 {  }
noncomputable abbrev X26 (cs : Oracle) : Px := fi26.px T cs 0
noncomputable abbrev K26 : S.Kq (S.Hms.T [.int .i64]) := S.finZ T fi26 0 (S.endP [.int .i64])
noncomputable def F26 (cs : Oracle) (lf : Nat) (a0 : List Go.AM.D) (b : List UInt8) : Option (S.Hms.T [.int .i64]) :=
 S.optZ (Go.AM.S.plainS cs [Go.AM.S.Hm.int Go.IntKind.i64] (67 : Nat) [Go.AM.AV.im (Go.AM.D.sl Bool.false (4 : Nat) a0), Go.AM.AV.fn (Go.Fn.func (68 : Nat)) [] [Go.AM.AV.pe (Go.AM.D.str b) (0 : Nat)]]) fun (d1 : Int × Unit) =>
  some ((Prod.fst d1, PUnit.unit))
theorem F26_eq (cs : Oracle) (lf : Nat) (a0 : List Go.AM.D) (b : List UInt8) : S.bodyS T SG cs fi26 lf [.im (.agg [(.sl false 4 a0)]), .im (.str b)] [] (S.endP [.int .i64]) = F26 cs lf a0 b := by
 kernel_rfl
theorem fi26_ok : fi26.ok Tryz.prog 26 := ⟨Tryz.func26, by decide, rfl, by rfl⟩
end Go.Proofs.YtkinbnepkpoofaaGreatDoor
/- slices.IndexFunc[[]billhook/tree.Func,billhook/tree.Func]: what it comes to. -/
set_option linter.unusedVariables false
set_option maxRecDepth 100000
set_option maxHeartbeats 0
open Go Go.AM
namespace Go.Proofs.YtkinbnepkpoofaaGreatDoor
noncomputable def fi67_c1 : Fi := mkFi T Tryz.f67 { live := fun d => if Nat.beq d 2 then slots 19 [0, 1, 7, 8] else none }
noncomputable abbrev X67_c1 (cs : Oracle) : Px := fi67_c1.px T cs 0
noncomputable abbrev K67_c1 : S.Kq (S.Hms.T [.int .i64]) := S.finZ T fi67_c1 0 (S.endP [.int .i64])
def E67_c1_1 (a : List Go.AM.D) (bg : Nat) (bc0 : Go.AM.D) (s : (Int)) : Env :=
 match s with
 | v1 =>
  [Go.AM.AV.im (Go.AM.D.sl Bool.false (4 : Nat) a), Go.AM.AV.fn (Go.Fn.func bg) [] [Go.AM.AV.pe bc0 (0 : Nat)], Go.AM.AV.bad, Go.AM.AV.bad, Go.AM.AV.bad, Go.AM.AV.bad, Go.AM.AV.bad, Go.AM.AV.im (Go.AM.D.int Go.IntKind.i64 (↑(List.length a) : Int)), Go.AM.AV.im (Go.AM.D.int Go.IntKind.i64 v1), Go.AM.AV.bad, Go.AM.AV.bad, Go.AM.AV.bad, Go.AM.AV.bad, Go.AM.AV.bad, Go.AM.AV.bad, Go.AM.AV.bad, Go.AM.AV.bad, Go.AM.AV.bad, Go.AM.AV.bad]
def H67_c1_1 (a : List Go.AM.D) (bg : Nat) (bc0 : Go.AM.D) (s : (Int)) : Heap :=
 match s with
 | v1 =>
  []
noncomputable def C67_c1_1 (cs : Oracle) (lf : Nat)  : Go.Code × S.Kq (S.Hms.T [.int .i64]) := S.subZ (X67_c1 cs) SG lf fi67_c1.code [1, 0, 1, 0] [] K67_c1
noncomputable def B67_c1_1 (cs : Oracle) (lf : Nat) (a : List Go.AM.D) (bg : Nat) (bc0 : Go.AM.D)   (s : (Int)) (R2 : (Int) → Option (S.Hms.T [.int .i64])) : Option (S.Hms.T [.int .i64]) :=
 match s with
 | v1 =>
  cond (Decidable.decide (v1 < (↑(List.length a) : Int)))
  (cond (Decidable.decide ((0 : Int) ≤ v1))
   (S.optZ (a[Int.toNat v1]?) fun (d3 : Go.AM.D) =>
    S.optZ (Go.AM.S.stDec [Go.AM.Sc.str, Go.AM.Sc.sl (1 : Nat), Go.AM.Sc.sl (2 : Nat), Go.AM.Sc.sl (7 : Nat)] d3) fun (d4 : List UInt8 × List Go.AM.D × List Go.AM.D × List Go.AM.D) =>
     S.optZ (Go.AM.S.pureS cs [Go.AM.S.Hm.bool] bg [Go.AM.AV.im (Go.AM.D.agg [Go.AM.D.str (Prod.fst d4), Go.AM.D.sl Bool.false (1 : Nat) (Prod.fst (Prod.snd d4)), Go.AM.D.sl Bool.false (2 : Nat) (Prod.fst (Prod.snd (Prod.snd d4))), Go.AM.D.sl Bool.false (7 : Nat) (Prod.snd (Prod.snd (Prod.snd d4)))]), Go.AM.AV.pe bc0 (0 : Nat)]) fun (d5 : Bool × Unit) =>
      cond (Prod.fst d5)
       (some ((v1, PUnit.unit)))
       (R2 (Go.IntKind.wrap Go.IntKind.i64 (v1 + (1 : Int)))))
   (none))
  (some (((-1 : Int), PUnit.unit)))
theorem B67_c1_1_eq (cs : Oracle) (lf : Nat) (a : List Go.AM.D) (bg : Nat) (bc0 : Go.AM.D)   (n : Nat) (s : (Int)) : S.roundsZ (X67_c1 cs) SG lf (C67_c1_1 cs lf ) (n + 1) (E67_c1_1 a bg bc0 s) (H67_c1_1 a bg bc0 s) = B67_c1_1 cs lf a bg bc0   s (fun s' => S.roundsZ (X67_c1 cs) SG lf (C67_c1_1 cs lf ) n (E67_c1_1 a bg bc0 s') (H67_c1_1 a bg bc0 s')) := by
 kernel_rfl
noncomputable def L67_c1_1 (cs : Oracle) (lf : Nat) (a : List Go.AM.D) (bg : Nat) (bc0 : Go.AM.D)  : Nat → (Int) → Option (S.Hms.T [.int .i64])
 | 0, _ => none
 | n + 1, s => B67_c1_1 cs lf a bg bc0   s (L67_c1_1 cs lf a bg bc0  n)
theorem L67_c1_1_eq (cs : Oracle) (lf : Nat) (a : List Go.AM.D) (bg : Nat) (bc0 : Go.AM.D)   : ∀ (n : Nat) (s : (Int)), S.roundsZ (X67_c1 cs) SG lf (C67_c1_1 cs lf ) n (E67_c1_1 a bg bc0 s) (H67_c1_1 a bg bc0 s) = L67_c1_1 cs lf a bg bc0  n s
 | 0, s => by
  show _ = none
  kernel_rfl
 | n + 1, s => by
  have h1 : (fun s' => S.roundsZ (X67_c1 cs) SG lf (C67_c1_1 cs lf ) n (E67_c1_1 a bg bc0 s') (H67_c1_1 a bg bc0 s')) = L67_c1_1 cs lf a bg bc0  n := funext (L67_c1_1_eq cs lf a bg bc0   n)
  rw [B67_c1_1_eq cs lf a bg bc0   n s, h1]
  rfl
noncomputable def G67_c1 (cs : Oracle) (lf : Nat) (a : List Go.AM.D) (bg : Nat) (bc0 : Go.AM.D) (P67_c1_1 : (Int) → Option (S.Hms.T [.int .i64])) : Option (S.Hms.T [.int .i64]) :=
 P67_c1_1  ((0 : Int))
theorem G67_c1_eq (cs : Oracle) (lf : Nat) (a : List Go.AM.D) (bg : Nat) (bc0 : Go.AM.D) : S.bodyS T SG cs fi67_c1 lf [.im (.sl false 4 a), .fn (.func bg) [] [.pe bc0 0]] [] (S.endP [.int .i64]) = G67_c1 cs lf a bg bc0 (fun  s2 => S.roundsZ (X67_c1 cs) SG lf (C67_c1_1 cs lf) lf (E67_c1_1 a bg bc0 s2) (H67_c1_1 a bg bc0 s2)) := by
 kernel_rfl
noncomputable def F67_c1 (cs : Oracle) (lf : Nat) (a : List Go.AM.D) (bg : Nat) (bc0 : Go.AM.D) : Option (S.Hms.T [.int .i64]) := G67_c1 cs lf a bg bc0 (fun  s2 => L67_c1_1 cs lf a bg bc0 lf s2)
theorem F67_c1_eq (cs : Oracle) (lf : Nat) (a : List Go.AM.D) (bg : Nat) (bc0 : Go.AM.D) : S.bodyS T SG cs fi67_c1 lf [.im (.sl false 4 a), .fn (.func bg) [] [.pe bc0 0]] [] (S.endP [.int .i64]) = F67_c1 cs lf a bg bc0 := by
 rw [G67_c1_eq]
 have h67_c1_1 : (fun  s2 => S.roundsZ (X67_c1 cs) SG lf (C67_c1_1 cs lf) lf (E67_c1_1 a bg bc0 s2) (H67_c1_1 a bg bc0 s2)) = (fun  s2 => L67_c1_1 cs lf a bg bc0 lf s2) := by
  funext  s2
  exact L67_c1_1_eq cs lf a bg bc0 lf s2
 rw [h67_c1_1]
 rfl
theorem fi67_c1_ok : fi67_c1.ok Tryz.prog 67 := ⟨Tryz.func67, by decide, rfl, by rfl⟩
end Go.Proofs.YtkinbnepkpoofaaGreatDoor
/- billhook/check.Find$1: what it comes to. -/
set_option linter.unusedVariables false
set_option maxRecDepth 100000
set_option maxHeartbeats 0
open Go Go.AM
namespace Go.Proofs.YtkinbnepkpoofaaGreatDoor
noncomputable def fi68 : Fi := mkFi T Tryz.f68 {  }
noncomputable abbrev X68 (cs : Oracle) : Px := fi68.px T cs 0
noncomputable abbrev K68 : S.Kq (S.Hms.T [.bool]) := S.finZ T fi68 0 (S.endP [.bool])
noncomputable def F68 (cs : Oracle) (lf : Nat) (a0 : List UInt8) (a1 : List Go.AM.D) (a2 : List Go.AM.D) (a3 : List Go.AM.D) (z0 : List UInt8) : Option (S.Hms.T [.bool]) :=
 some ((a0 == z0, PUnit.unit))
theorem F68_eq (cs : Oracle) (lf : Nat) (a0 : List UInt8) (a1 : List Go.AM.D) (a2 : List Go.AM.D) (a3 : List Go.AM.D) (z0 : List UInt8) : S.bodyS T SG cs fi68 lf [.im (.agg [(.str a0), (.sl false 1 a1), (.sl false 2 a2), (.sl false 7 a3)]), .pe (.str z0) 0] [] (S.endP [.bool]) = F68 cs lf a0 a1 a2 a3 z0 := by
 kernel_rfl
theorem fi68_ok : fi68.ok Tryz.prog 68 := ⟨Tryz.func68, by decide, rfl, by rfl⟩
end Go.Proofs.YtkinbnepkpoofaaGreatDoor