/- Texts joined into one: the first of them is told below. -/
import Derived.Test.YtankppgafdcknaaWb
import Derived.Test.YtankppgafdcknaaWa
/- billhook/billhooklaw12.StateNames: what its walk makes hold. -/
set_option linter.unusedVariables false
set_option maxRecDepth 100000
open Go Go.AM
namespace Go.Proofs.Ytankppgafdcknaa
def sig4 : Sig := ⟨[.v (.c (.int .u8)), .v (.c (.int .u8)), .v (.c (.int .u8))], [.c .bool]⟩
noncomputable def fi4 : Fi := mkFi T Try.f4 { live := fun d => if Nat.beq d 24 then slots 171 [2, 7, 8, 9, 10, 13, 15] else if Nat.beq d 19 then slots 171 [2, 7, 8, 9, 10, 13, 14] else if Nat.beq d 12 then slots 171 [2, 7, 8, 9, 10, 12] else if Nat.beq d 8 then slots 171 [2, 7, 8, 9, 10, 11] else none, frz := isIn [62], clm := fun d => if Nat.beq d 19 then [(1, 1), (2, 2)] else [] }
noncomputable def l4 : List (Entry Try.prog) := [e14, e23, e24, e25, e21, e22, e20, e18]
abbrev N4 (Q : Shs.T sig4.res → Prop) : AV → Heap → Prop := endK sig4 Q
noncomputable abbrev X4 : Px := fi4.px T (callOf l4) 0
noncomputable abbrev W4 : CallW := cwOf l4
def E4_4 (a : Int) (b : Int) (c : Int) (v2 : List Go.AM.D) (v5 : List Go.AM.D) (r7 : Bool × List Go.AM.D) (s : (Int)) : Env :=
  match s with
  | v17 =>
    [Go.AM.AV.bad, Go.AM.AV.bad, Go.AM.AV.im (Go.AM.D.int Go.IntKind.u8 c), Go.AM.AV.bad, Go.AM.AV.bad, Go.AM.AV.bad, Go.AM.AV.bad, Go.AM.AV.im (Go.AM.D.bool Bool.true), Go.AM.AV.ptr (0 : Nat) (0 : Nat) (0 : Nat), Go.AM.AV.im (Go.AM.D.int Go.IntKind.i64 (Go.IntKind.wrap Go.IntKind.i64 (Int.tmod a (5 : Int)))), Go.AM.AV.im (Go.AM.D.int Go.IntKind.i64 (Go.IntKind.wrap Go.IntKind.i64 (Int.tmod b (6 : Int)))), Go.AM.AV.bad, Go.AM.AV.bad, Go.AM.AV.ptr (1 : Nat) (0 : Nat) (0 : Nat), Go.AM.AV.bad, Go.AM.AV.im (Go.AM.D.int Go.IntKind.i64 v17), Go.AM.AV.bad, Go.AM.AV.bad, Go.AM.AV.bad, Go.AM.AV.bad, Go.AM.AV.bad, Go.AM.AV.bad, Go.AM.AV.bad, Go.AM.AV.bad, Go.AM.AV.bad, Go.AM.AV.bad, Go.AM.AV.bad, Go.AM.AV.bad, Go.AM.AV.bad, Go.AM.AV.bad, Go.AM.AV.bad, Go.AM.AV.bad, Go.AM.AV.bad, Go.AM.AV.bad, Go.AM.AV.bad, Go.AM.AV.bad, Go.AM.AV.bad, Go.AM.AV.bad, Go.AM.AV.bad, Go.AM.AV.bad, Go.AM.AV.bad, Go.AM.AV.bad, Go.AM.AV.bad, Go.AM.AV.bad, Go.AM.AV.bad, Go.AM.AV.bad, Go.AM.AV.bad, Go.AM.AV.bad, Go.AM.AV.bad, Go.AM.AV.bad, Go.AM.AV.bad, Go.AM.AV.bad, Go.AM.AV.bad, Go.AM.AV.bad, Go.AM.AV.bad, Go.AM.AV.bad, Go.AM.AV.bad, Go.AM.AV.bad, Go.AM.AV.bad, Go.AM.AV.bad, Go.AM.AV.bad, Go.AM.AV.bad, Go.AM.AV.bad, Go.AM.AV.bad, Go.AM.AV.bad, Go.AM.AV.bad, Go.AM.AV.bad, Go.AM.AV.bad, Go.AM.AV.bad, Go.AM.AV.bad, Go.AM.AV.bad, Go.AM.AV.bad, Go.AM.AV.bad, Go.AM.AV.bad, Go.AM.AV.bad, Go.AM.AV.bad, Go.AM.AV.bad, Go.AM.AV.bad, Go.AM.AV.bad, Go.AM.AV.bad, Go.AM.AV.bad, Go.AM.AV.bad, Go.AM.AV.bad, Go.AM.AV.bad, Go.AM.AV.bad, Go.AM.AV.bad, Go.AM.AV.bad, Go.AM.AV.bad, Go.AM.AV.bad, Go.AM.AV.bad, Go.AM.AV.bad, Go.AM.AV.bad, Go.AM.AV.bad, Go.AM.AV.bad, Go.AM.AV.bad, Go.AM.AV.bad, Go.AM.AV.bad, Go.AM.AV.bad, Go.AM.AV.bad, Go.AM.AV.bad, Go.AM.AV.bad, Go.AM.AV.bad, Go.AM.AV.bad, Go.AM.AV.bad, Go.AM.AV.bad, Go.AM.AV.bad, Go.AM.AV.bad, Go.AM.AV.bad, Go.AM.AV.bad, Go.AM.AV.bad, Go.AM.AV.bad, Go.AM.AV.bad, Go.AM.AV.bad, Go.AM.AV.bad, Go.AM.AV.bad, Go.AM.AV.bad, Go.AM.AV.bad, Go.AM.AV.bad, Go.AM.AV.bad, Go.AM.AV.bad, Go.AM.AV.bad, Go.AM.AV.bad, Go.AM.AV.bad, Go.AM.AV.bad, Go.AM.AV.bad, Go.AM.AV.bad, Go.AM.AV.bad, Go.AM.AV.bad, Go.AM.AV.bad, Go.AM.AV.bad, Go.AM.AV.bad, Go.AM.AV.bad, Go.AM.AV.bad, Go.AM.AV.bad, Go.AM.AV.bad, Go.AM.AV.bad, Go.AM.AV.bad, Go.AM.AV.bad, Go.AM.AV.bad, Go.AM.AV.bad, Go.AM.AV.bad, Go.AM.AV.bad, Go.AM.AV.bad, Go.AM.AV.bad, Go.AM.AV.bad, Go.AM.AV.bad, Go.AM.AV.bad, Go.AM.AV.bad, Go.AM.AV.bad, Go.AM.AV.bad, Go.AM.AV.bad, Go.AM.AV.bad, Go.AM.AV.bad, Go.AM.AV.bad, Go.AM.AV.bad, Go.AM.AV.bad, Go.AM.AV.bad, Go.AM.AV.bad, Go.AM.AV.bad, Go.AM.AV.bad, Go.AM.AV.bad, Go.AM.AV.bad, Go.AM.AV.bad, Go.AM.AV.bad, Go.AM.AV.bad, Go.AM.AV.bad, Go.AM.AV.bad, Go.AM.AV.bad, Go.AM.AV.bad, Go.AM.AV.bad, Go.AM.AV.bad]
def H4_4 (a : Int) (b : Int) (c : Int) (v2 : List Go.AM.D) (v5 : List Go.AM.D) (r7 : Bool × List Go.AM.D) (s : (Int)) : Heap :=
  match s with
  | v17 =>
    [Option.some (Go.AM.Blk.c (4 : Nat) [Go.AM.D.agg [Go.AM.D.str [], Go.AM.D.sl Bool.false (1 : Nat) (List.take (List.length v2) (List.drop (0 : Nat) v2)), Go.AM.D.sl Bool.false (2 : Nat) (List.take (List.length v5) (List.drop (0 : Nat) v5)), Go.AM.D.sl Bool.true (0 : Nat) []]]), Option.some (Go.AM.Blk.c (2 : Nat) [Go.AM.D.agg [Go.AM.D.bool (Prod.fst r7), Go.AM.D.sl Bool.false (2 : Nat) (Prod.snd r7)]])]
noncomputable def C4_4 (Q : Bool → Prop) (R3 : List Go.AM.AV → Go.AM.Heap → Prop) (R6 : List Go.AM.AV → Go.AM.Heap → Prop) (R9 : List Go.AM.AV → Go.AM.Heap → Prop) : Go.Code × Go.AM.Kx := sub X4 W4 fi4.code [1, 1, 1, 1, 1, 1, 1, 1, 1, 1, 1, 0, 1, 0] [R3, R6, R9] (finK T fi4 0 (N4 Q))
noncomputable def L4_4 (a : Int) (b : Int) (c : Int) (v2 : List Go.AM.D) (v5 : List Go.AM.D) (r7 : Bool × List Go.AM.D) (Q : Bool → Prop) (R3 : List Go.AM.AV → Go.AM.Heap → Prop) (R6 : List Go.AM.AV → Go.AM.Heap → Prop) (R9 : List Go.AM.AV → Go.AM.Heap → Prop) (s : (Int)) : Prop := ∃ n, loopV X4 W4 (C4_4 Q R3 R6 R9) n (E4_4 a b c v2 v5 r7 s) (H4_4 a b c v2 v5 r7 s)
def B4_4 (a : Int) (b : Int) (c : Int) (v1 : Int) (v2 : List Go.AM.D) (v4 : Int) (v5 : List Go.AM.D) (r7 : Bool × List Go.AM.D) (v8 : Int) (Q : Bool → Prop) (R3 : List Go.AM.AV → Go.AM.Heap → Prop) (R6 : List Go.AM.AV → Go.AM.Heap → Prop) (R9 : List Go.AM.AV → Go.AM.Heap → Prop) (s : (Int)) (R18 : Env → Heap → Prop) : Prop :=
  match s with
  | v17 =>
    cond (Decidable.decide (v17 < Go.IntKind.wrap Go.IntKind.i64 (Int.tmod b (6 : Int))))
    (((0 : Int) ≤ v17) ∧
    optP ((List.take (List.length v5) (List.drop (0 : Nat) v5))[Int.toNat v17]?) fun (d19 : Go.AM.D) =>
      optP (Go.AM.D.asAgg d19) fun (d20 : List Go.AM.D) =>
        (match d20 with
          | [] => False
          | d21 :: l22 =>
          (match l22 with
            | [] => False
            | d23 :: l24 =>
            (match l24 with
              | [] => optP (Go.AM.D.asStr d21) fun (d27 : List UInt8) =>
                optP (Go.AM.D.asInt Go.IntKind.i64 d23) fun (d28 : Int) =>
                  F24 (([], List.take (List.length v2) (List.drop (0 : Nat) v2), List.take (List.length v5) (List.drop (0 : Nat) v5), [])) (d27)
                    (fun (r29 : Int) =>
                    cond (r29 != Go.IntKind.wrap Go.IntKind.i64 (Go.IntKind.wrap Go.IntKind.i64 (Int.tmod a (5 : Int)) + v17))
                      (Q (Bool.false))
                      (F25 (([], List.take (List.length v2) (List.drop (0 : Nat) v2), List.take (List.length v5) (List.drop (0 : Nat) v5), [])) (Go.IntKind.wrap Go.IntKind.i64 (Go.IntKind.wrap Go.IntKind.i64 (Int.tmod a (5 : Int)) + v17))
                        (fun (r30 : Int) =>
                        cond (r30 != if (64 : Int) < Go.IntKind.wrap Go.IntKind.i64 ((30 : Int) * v17) then (64 : Int) else Go.IntKind.wrap Go.IntKind.i64 ((30 : Int) * v17))
                          (Q (Bool.false))
                          (F21 ((Prod.fst r7, Prod.snd r7)) (Go.IntKind.wrap Go.IntKind.i64 (Go.IntKind.wrap Go.IntKind.i64 (Int.tmod a (5 : Int)) + v17))
                            (fun (r31 : Int × Int) =>
                            F22 ((0 : Int))
                              (fun (r32 : Int × Int) =>
                              F20 ((Prod.fst r31, Prod.snd r31)) ((Prod.fst r32, Prod.snd r32))
                                (fun (r33 : Bool) =>
                                cond (!r33)
                                  (Q (Bool.false))
                                  (R18 (E4_4 a b c v2 v5 r7 (Go.IntKind.wrap Go.IntKind.i64 (v17 + (1 : Int)))) (H4_4 a b c v2 v5 r7 (Go.IntKind.wrap Go.IntKind.i64 (v17 + (1 : Int))))))))))))
              | d25 :: l26 =>
              False))))
    (F21 ((Prod.fst r7, Prod.snd r7)) (Go.IntKind.wrap Go.IntKind.i64 (Go.IntKind.wrap Go.IntKind.i64 (Int.tmod a (5 : Int)) + Go.IntKind.wrap Go.IntKind.i64 (Int.tmod b (6 : Int))))
      (fun (r34 : Int × Int) =>
      F18 ((Prod.fst r34, Prod.snd r34))
        (fun (r35 : Bool) =>
        cond (r35)
          (F21 ((Prod.fst r7, Prod.snd r7)) ((-1 : Int))
            (fun (r36 : Int × Int) =>
            F18 ((Prod.fst r36, Prod.snd r36))
              (fun (r37 : Bool) =>
              cond (r37)
                (F24 (([], List.take (List.length v2) (List.drop (0 : Nat) v2), List.take (List.length v5) (List.drop (0 : Nat) v5), [])) ([OfNat.ofNat (119 : Nat)])
                  (fun (r38 : Int) =>
                  cond (r38 == (-1 : Int))
                    (F25 (([], List.take (List.length v2) (List.drop (0 : Nat) v2), List.take (List.length v5) (List.drop (0 : Nat) v5), [])) (Go.IntKind.wrap Go.IntKind.i64 (Go.IntKind.wrap Go.IntKind.i64 (Go.IntKind.wrap Go.IntKind.i64 (Int.tmod a (5 : Int)) + Go.IntKind.wrap Go.IntKind.i64 (Int.tmod b (6 : Int))) + Go.IntKind.wrap Go.IntKind.i64 c))
                      (fun (r39 : Int) =>
                      Q (r39 == (0 : Int))))
                    (Q (Bool.false))))
                (Q (Bool.false)))))
          (Q (Bool.false)))))
theorem B4_4_eq (a : Int) (b : Int) (c : Int) (v1 : Int) (v2 : List Go.AM.D) (v4 : Int) (v5 : List Go.AM.D) (r7 : Bool × List Go.AM.D) (v8 : Int) (Q : Bool → Prop) (R3 : List Go.AM.AV → Go.AM.Heap → Prop) (R6 : List Go.AM.AV → Go.AM.Heap → Prop) (R9 : List Go.AM.AV → Go.AM.Heap → Prop) (s : (Int)) (n : Nat) : loopV X4 W4 (C4_4 Q R3 R6 R9) (n + 1) (E4_4 a b c v2 v5 r7 s) (H4_4 a b c v2 v5 r7 s) = B4_4 a b c v1 v2 v4 v5 r7 v8 Q R3 R6 R9 s (fun env H => loopV X4 W4 (C4_4 Q R3 R6 R9) n env H) := by
  kernel_rfl
def E4_3 (a : Int) (b : Int) (c : Int) (v2 : List Go.AM.D) (v5 : List Go.AM.D) (r7 : Bool × List Go.AM.D) (s : (Int)) : Env :=
  match s with
  | v8 =>
    [Go.AM.AV.bad, Go.AM.AV.bad, Go.AM.AV.im (Go.AM.D.int Go.IntKind.u8 c), Go.AM.AV.bad, Go.AM.AV.bad, Go.AM.AV.bad, Go.AM.AV.bad, Go.AM.AV.im (Go.AM.D.bool Bool.true), Go.AM.AV.ptr (0 : Nat) (0 : Nat) (0 : Nat), Go.AM.AV.im (Go.AM.D.int Go.IntKind.i64 (Go.IntKind.wrap Go.IntKind.i64 (Int.tmod a (5 : Int)))), Go.AM.AV.im (Go.AM.D.int Go.IntKind.i64 (Go.IntKind.wrap Go.IntKind.i64 (Int.tmod b (6 : Int)))), Go.AM.AV.bad, Go.AM.AV.bad, Go.AM.AV.ptr (1 : Nat) (0 : Nat) (0 : Nat), Go.AM.AV.im (Go.AM.D.int Go.IntKind.i64 v8), Go.AM.AV.bad, Go.AM.AV.bad, Go.AM.AV.bad, Go.AM.AV.bad, Go.AM.AV.bad, Go.AM.AV.bad, Go.AM.AV.bad, Go.AM.AV.bad, Go.AM.AV.bad, Go.AM.AV.bad, Go.AM.AV.bad, Go.AM.AV.bad, Go.AM.AV.bad, Go.AM.AV.bad, Go.AM.AV.bad, Go.AM.AV.bad, Go.AM.AV.bad, Go.AM.AV.bad, Go.AM.AV.bad, Go.AM.AV.bad, Go.AM.AV.bad, Go.AM.AV.bad, Go.AM.AV.bad, Go.AM.AV.bad, Go.AM.AV.bad, Go.AM.AV.bad, Go.AM.AV.bad, Go.AM.AV.bad, Go.AM.AV.bad, Go.AM.AV.bad, Go.AM.AV.bad, Go.AM.AV.bad, Go.AM.AV.bad, Go.AM.AV.bad, Go.AM.AV.bad, Go.AM.AV.bad, Go.AM.AV.bad, Go.AM.AV.bad, Go.AM.AV.bad, Go.AM.AV.bad, Go.AM.AV.bad, Go.AM.AV.bad, Go.AM.AV.bad, Go.AM.AV.bad, Go.AM.AV.bad, Go.AM.AV.bad, Go.AM.AV.bad, Go.AM.AV.bad, Go.AM.AV.bad, Go.AM.AV.bad, Go.AM.AV.bad, Go.AM.AV.bad, Go.AM.AV.bad, Go.AM.AV.bad, Go.AM.AV.bad, Go.AM.AV.bad, Go.AM.AV.bad, Go.AM.AV.bad, Go.AM.AV.bad, Go.AM.AV.bad, Go.AM.AV.bad, Go.AM.AV.bad, Go.AM.AV.bad, Go.AM.AV.bad, Go.AM.AV.bad, Go.AM.AV.bad, Go.AM.AV.bad, Go.AM.AV.bad, Go.AM.AV.bad, Go.AM.AV.bad, Go.AM.AV.bad, Go.AM.AV.bad, Go.AM.AV.bad, Go.AM.AV.bad, Go.AM.AV.bad, Go.AM.AV.bad, Go.AM.AV.bad, Go.AM.AV.bad, Go.AM.AV.bad, Go.AM.AV.bad, Go.AM.AV.bad, Go.AM.AV.bad, Go.AM.AV.bad, Go.AM.AV.bad, Go.AM.AV.bad, Go.AM.AV.bad, Go.AM.AV.bad, Go.AM.AV.bad, Go.AM.AV.bad, Go.AM.AV.bad, Go.AM.AV.bad, Go.AM.AV.bad, Go.AM.AV.bad, Go.AM.AV.bad, Go.AM.AV.bad, Go.AM.AV.bad, Go.AM.AV.bad, Go.AM.AV.bad, Go.AM.AV.bad, Go.AM.AV.bad, Go.AM.AV.bad, Go.AM.AV.bad, Go.AM.AV.bad, Go.AM.AV.bad, Go.AM.AV.bad, Go.AM.AV.bad, Go.AM.AV.bad, Go.AM.AV.bad, Go.AM.AV.bad, Go.AM.AV.bad, Go.AM.AV.bad, Go.AM.AV.bad, Go.AM.AV.bad, Go.AM.AV.bad, Go.AM.AV.bad, Go.AM.AV.bad, Go.AM.AV.bad, Go.AM.AV.bad, Go.AM.AV.bad, Go.AM.AV.bad, Go.AM.AV.bad, Go.AM.AV.bad, Go.AM.AV.bad, Go.AM.AV.bad, Go.AM.AV.bad, Go.AM.AV.bad, Go.AM.AV.bad, Go.AM.AV.bad, Go.AM.AV.bad, Go.AM.AV.bad, Go.AM.AV.bad, Go.AM.AV.bad, Go.AM.AV.bad, Go.AM.AV.bad, Go.AM.AV.bad, Go.AM.AV.bad, Go.AM.AV.bad, Go.AM.AV.bad, Go.AM.AV.bad, Go.AM.AV.bad, Go.AM.AV.bad, Go.AM.AV.bad, Go.AM.AV.bad, Go.AM.AV.bad, Go.AM.AV.bad, Go.AM.AV.bad, Go.AM.AV.bad, Go.AM.AV.bad, Go.AM.AV.bad, Go.AM.AV.bad, Go.AM.AV.bad, Go.AM.AV.bad, Go.AM.AV.bad, Go.AM.AV.bad, Go.AM.AV.bad, Go.AM.AV.bad]
def H4_3 (a : Int) (b : Int) (c : Int) (v2 : List Go.AM.D) (v5 : List Go.AM.D) (r7 : Bool × List Go.AM.D) (s : (Int)) : Heap :=
  match s with
  | v8 =>
    [Option.some (Go.AM.Blk.c (4 : Nat) [Go.AM.D.agg [Go.AM.D.str [], Go.AM.D.sl Bool.false (1 : Nat) (List.take (List.length v2) (List.drop (0 : Nat) v2)), Go.AM.D.sl Bool.false (2 : Nat) (List.take (List.length v5) (List.drop (0 : Nat) v5)), Go.AM.D.sl Bool.true (0 : Nat) []]]), Option.some (Go.AM.Blk.c (2 : Nat) [Go.AM.D.agg [Go.AM.D.bool (Prod.fst r7), Go.AM.D.sl Bool.false (2 : Nat) (Prod.snd r7)]])]
noncomputable def C4_3 (Q : Bool → Prop) (R3 : List Go.AM.AV → Go.AM.Heap → Prop) (R6 : List Go.AM.AV → Go.AM.Heap → Prop) : Go.Code × Go.AM.Kx := sub X4 W4 fi4.code [1, 1, 1, 1, 1, 1, 1, 1, 1, 1, 0, 1, 0] [R3, R6] (finK T fi4 0 (N4 Q))
noncomputable def L4_3 (a : Int) (b : Int) (c : Int) (v2 : List Go.AM.D) (v5 : List Go.AM.D) (r7 : Bool × List Go.AM.D) (Q : Bool → Prop) (R3 : List Go.AM.AV → Go.AM.Heap → Prop) (R6 : List Go.AM.AV → Go.AM.Heap → Prop) (s : (Int)) : Prop := ∃ n, loopV X4 W4 (C4_3 Q R3 R6) n (E4_3 a b c v2 v5 r7 s) (H4_3 a b c v2 v5 r7 s)
def B4_3 (a : Int) (b : Int) (c : Int) (v1 : Int) (v2 : List Go.AM.D) (v4 : Int) (v5 : List Go.AM.D) (r7 : Bool × List Go.AM.D) (Q : Bool → Prop) (R3 : List Go.AM.AV → Go.AM.Heap → Prop) (R6 : List Go.AM.AV → Go.AM.Heap → Prop) (s : (Int)) (R9 : Env → Heap → Prop) : Prop :=
  match s with
  | v8 =>
    cond (Decidable.decide (v8 < Go.IntKind.wrap Go.IntKind.i64 (Int.tmod a (5 : Int))))
    (((0 : Int) ≤ v8) ∧
    optP ((List.take (List.length v2) (List.drop (0 : Nat) v2))[Int.toNat v8]?) fun (d10 : Go.AM.D) =>
      optP (Go.AM.D.asStr d10) fun (d11 : List UInt8) =>
        F24 (([], List.take (List.length v2) (List.drop (0 : Nat) v2), List.take (List.length v5) (List.drop (0 : Nat) v5), [])) (d11)
          (fun (r12 : Int) =>
          cond (r12 != v8)
            (Q (Bool.false))
            (F25 (([], List.take (List.length v2) (List.drop (0 : Nat) v2), List.take (List.length v5) (List.drop (0 : Nat) v5), [])) (v8)
              (fun (r13 : Int) =>
              cond (r13 != (0 : Int))
                (Q (Bool.false))
                (F21 ((Prod.fst r7, Prod.snd r7)) (v8)
                  (fun (r14 : Int × Int) =>
                  F22 ((0 : Int))
                    (fun (r15 : Int × Int) =>
                    F20 ((Prod.fst r14, Prod.snd r14)) ((Prod.fst r15, Prod.snd r15))
                      (fun (r16 : Bool) =>
                      cond (!r16)
                        (Q (Bool.false))
                        (R9 (E4_3 a b c v2 v5 r7 (Go.IntKind.wrap Go.IntKind.i64 (v8 + (1 : Int)))) (H4_3 a b c v2 v5 r7 (Go.IntKind.wrap Go.IntKind.i64 (v8 + (1 : Int)))))))))))))
    (L4_4 a b c v2 v5 r7 Q R3 R6 R9 ((0 : Int)))
theorem B4_3_eq (a : Int) (b : Int) (c : Int) (v1 : Int) (v2 : List Go.AM.D) (v4 : Int) (v5 : List Go.AM.D) (r7 : Bool × List Go.AM.D) (Q : Bool → Prop) (R3 : List Go.AM.AV → Go.AM.Heap → Prop) (R6 : List Go.AM.AV → Go.AM.Heap → Prop) (s : (Int)) (n : Nat) : loopV X4 W4 (C4_3 Q R3 R6) (n + 1) (E4_3 a b c v2 v5 r7 s) (H4_3 a b c v2 v5 r7 s) = B4_3 a b c v1 v2 v4 v5 r7 Q R3 R6 s (fun env H => loopV X4 W4 (C4_3 Q R3 R6) n env H) := by
  kernel_rfl
def E4_2 (a : Int) (b : Int) (c : Int) (v2 : List Go.AM.D) (s : (Int) × (List Go.AM.D)) : Env :=
  match s with
  | (v4, v5) =>
    [Go.AM.AV.bad, Go.AM.AV.bad, Go.AM.AV.im (Go.AM.D.int Go.IntKind.u8 c), Go.AM.AV.bad, Go.AM.AV.bad, Go.AM.AV.bad, Go.AM.AV.bad, Go.AM.AV.im (Go.AM.D.bool Bool.true), Go.AM.AV.ptr (0 : Nat) (0 : Nat) (0 : Nat), Go.AM.AV.im (Go.AM.D.int Go.IntKind.i64 (Go.IntKind.wrap Go.IntKind.i64 (Int.tmod a (5 : Int)))), Go.AM.AV.im (Go.AM.D.int Go.IntKind.i64 (Go.IntKind.wrap Go.IntKind.i64 (Int.tmod b (6 : Int)))), Go.AM.AV.bad, Go.AM.AV.im (Go.AM.D.int Go.IntKind.i64 v4), Go.AM.AV.bad, Go.AM.AV.bad, Go.AM.AV.bad, Go.AM.AV.bad, Go.AM.AV.bad, Go.AM.AV.bad, Go.AM.AV.bad, Go.AM.AV.bad, Go.AM.AV.bad, Go.AM.AV.bad, Go.AM.AV.bad, Go.AM.AV.bad, Go.AM.AV.bad, Go.AM.AV.bad, Go.AM.AV.bad, Go.AM.AV.bad, Go.AM.AV.bad, Go.AM.AV.bad, Go.AM.AV.bad, Go.AM.AV.bad, Go.AM.AV.bad, Go.AM.AV.bad, Go.AM.AV.bad, Go.AM.AV.bad, Go.AM.AV.bad, Go.AM.AV.bad, Go.AM.AV.bad, Go.AM.AV.bad, Go.AM.AV.bad, Go.AM.AV.bad, Go.AM.AV.bad, Go.AM.AV.bad, Go.AM.AV.bad, Go.AM.AV.bad, Go.AM.AV.bad, Go.AM.AV.bad, Go.AM.AV.bad, Go.AM.AV.bad, Go.AM.AV.bad, Go.AM.AV.bad, Go.AM.AV.bad, Go.AM.AV.bad, Go.AM.AV.bad, Go.AM.AV.bad, Go.AM.AV.bad, Go.AM.AV.bad, Go.AM.AV.bad, Go.AM.AV.bad, Go.AM.AV.bad, Go.AM.AV.bad, Go.AM.AV.bad, Go.AM.AV.bad, Go.AM.AV.bad, Go.AM.AV.bad, Go.AM.AV.bad, Go.AM.AV.bad, Go.AM.AV.bad, Go.AM.AV.bad, Go.AM.AV.bad, Go.AM.AV.bad, Go.AM.AV.bad, Go.AM.AV.bad, Go.AM.AV.bad, Go.AM.AV.bad, Go.AM.AV.bad, Go.AM.AV.bad, Go.AM.AV.bad, Go.AM.AV.bad, Go.AM.AV.bad, Go.AM.AV.bad, Go.AM.AV.bad, Go.AM.AV.bad, Go.AM.AV.bad, Go.AM.AV.bad, Go.AM.AV.bad, Go.AM.AV.bad, Go.AM.AV.bad, Go.AM.AV.bad, Go.AM.AV.bad, Go.AM.AV.bad, Go.AM.AV.bad, Go.AM.AV.bad, Go.AM.AV.bad, Go.AM.AV.bad, Go.AM.AV.bad, Go.AM.AV.bad, Go.AM.AV.bad, Go.AM.AV.bad, Go.AM.AV.bad, Go.AM.AV.bad, Go.AM.AV.bad, Go.AM.AV.bad, Go.AM.AV.bad, Go.AM.AV.bad, Go.AM.AV.bad, Go.AM.AV.bad, Go.AM.AV.bad, Go.AM.AV.bad, Go.AM.AV.bad, Go.AM.AV.bad, Go.AM.AV.bad, Go.AM.AV.bad, Go.AM.AV.bad, Go.AM.AV.bad, Go.AM.AV.bad, Go.AM.AV.bad, Go.AM.AV.bad, Go.AM.AV.bad, Go.AM.AV.bad, Go.AM.AV.bad, Go.AM.AV.bad, Go.AM.AV.bad, Go.AM.AV.bad, Go.AM.AV.bad, Go.AM.AV.bad, Go.AM.AV.bad, Go.AM.AV.bad, Go.AM.AV.bad, Go.AM.AV.bad, Go.AM.AV.bad, Go.AM.AV.bad, Go.AM.AV.bad, Go.AM.AV.bad, Go.AM.AV.bad, Go.AM.AV.bad, Go.AM.AV.bad, Go.AM.AV.bad, Go.AM.AV.bad, Go.AM.AV.bad, Go.AM.AV.bad, Go.AM.AV.bad, Go.AM.AV.bad, Go.AM.AV.bad, Go.AM.AV.bad, Go.AM.AV.bad, Go.AM.AV.bad, Go.AM.AV.bad, Go.AM.AV.bad, Go.AM.AV.bad, Go.AM.AV.bad, Go.AM.AV.bad, Go.AM.AV.bad, Go.AM.AV.bad, Go.AM.AV.bad, Go.AM.AV.bad, Go.AM.AV.bad, Go.AM.AV.bad, Go.AM.AV.bad, Go.AM.AV.bad, Go.AM.AV.bad, Go.AM.AV.bad, Go.AM.AV.bad, Go.AM.AV.bad, Go.AM.AV.bad, Go.AM.AV.bad, Go.AM.AV.bad, Go.AM.AV.bad, Go.AM.AV.bad]
def H4_2 (a : Int) (b : Int) (c : Int) (v2 : List Go.AM.D) (s : (Int) × (List Go.AM.D)) : Heap :=
  match s with
  | (v4, v5) =>
    [Option.some (Go.AM.Blk.m (4 : Nat) [Go.AM.AV.agg [Go.AM.AV.im (Go.AM.D.str []), Go.AM.AV.ref (1 : Nat) (0 : Nat) (List.length v2), Go.AM.AV.ref (2 : Nat) (0 : Nat) (List.length v5), Go.AM.AV.im (Go.AM.D.sl Bool.true (0 : Nat) [])]]), Option.some (Go.AM.Blk.c (1 : Nat) v2), Option.some (Go.AM.Blk.c (2 : Nat) v5)]
noncomputable def C4_2 (Q : Bool → Prop) (R3 : List Go.AM.AV → Go.AM.Heap → Prop) : Go.Code × Go.AM.Kx := sub X4 W4 fi4.code [1, 1, 1, 1, 1, 1, 1, 0, 1, 0] [R3] (finK T fi4 0 (N4 Q))
noncomputable def L4_2 (a : Int) (b : Int) (c : Int) (v2 : List Go.AM.D) (Q : Bool → Prop) (R3 : List Go.AM.AV → Go.AM.Heap → Prop) (s : (Int) × (List Go.AM.D)) : Prop := ∃ n, loopV X4 W4 (C4_2 Q R3) n (E4_2 a b c v2 s) (H4_2 a b c v2 s)
def B4_2 (a : Int) (b : Int) (c : Int) (v1 : Int) (v2 : List Go.AM.D) (Q : Bool → Prop) (R3 : List Go.AM.AV → Go.AM.Heap → Prop) (s : (Int) × (List Go.AM.D)) (R6 : Env → Heap → Prop) : Prop :=
  match s with
  | (v4, v5) =>
    cond (Decidable.decide (v4 < Go.IntKind.wrap Go.IntKind.i64 (Int.tmod b (6 : Int))))
    (((1 : Nat) + List.length [UInt8.ofNat (Int.toNat (Go.IntKind.wrap Go.IntKind.u8 ((97 : Int) + Go.IntKind.wrap Go.IntKind.u8 v4)))] ≤ (9223372036854775807 : Nat)) ∧
    (List.length (List.take (List.length v5) (List.drop (0 : Nat) v5) ++ [Go.AM.D.agg [Go.AM.D.str [OfNat.ofNat (118 : Nat), UInt8.ofNat (Int.toNat (Go.IntKind.wrap Go.IntKind.u8 ((97 : Int) + Go.IntKind.wrap Go.IntKind.u8 v4)))], Go.AM.D.int Go.IntKind.i64 (Go.IntKind.wrap Go.IntKind.i64 ((30 : Int) * v4))]]) * (24 : Nat) ≤ (140737488355328 : Nat)) ∧
    (List.length (List.take (List.length v5) (List.drop (0 : Nat) v5) ++ [Go.AM.D.agg [Go.AM.D.str [OfNat.ofNat (118 : Nat), UInt8.ofNat (Int.toNat (Go.IntKind.wrap Go.IntKind.u8 ((97 : Int) + Go.IntKind.wrap Go.IntKind.u8 v4)))], Go.AM.D.int Go.IntKind.i64 (Go.IntKind.wrap Go.IntKind.i64 ((30 : Int) * v4))]]) ≤ (140737488355328 : Nat)) ∧
    ((3 : Nat) ≤ List.length [Go.AM.AV.im (Go.AM.D.str []), Go.AM.AV.ref (1 : Nat) (0 : Nat) (List.length v2), Go.AM.AV.bad, Go.AM.AV.im (Go.AM.D.sl Bool.true (0 : Nat) [])]) ∧
    R6 (E4_2 a b c v2 ((Go.IntKind.wrap Go.IntKind.i64 (v4 + (1 : Int)), List.take (List.length v5) (List.drop (0 : Nat) v5) ++ [Go.AM.D.agg [Go.AM.D.str [OfNat.ofNat (118 : Nat), UInt8.ofNat (Int.toNat (Go.IntKind.wrap Go.IntKind.u8 ((97 : Int) + Go.IntKind.wrap Go.IntKind.u8 v4)))], Go.AM.D.int Go.IntKind.i64 (Go.IntKind.wrap Go.IntKind.i64 ((30 : Int) * v4))]]))) (H4_2 a b c v2 ((Go.IntKind.wrap Go.IntKind.i64 (v4 + (1 : Int)), List.take (List.length v5) (List.drop (0 : Nat) v5) ++ [Go.AM.D.agg [Go.AM.D.str [OfNat.ofNat (118 : Nat), UInt8.ofNat (Int.toNat (Go.IntKind.wrap Go.IntKind.u8 ((97 : Int) + Go.IntKind.wrap Go.IntKind.u8 v4)))], Go.AM.D.int Go.IntKind.i64 (Go.IntKind.wrap Go.IntKind.i64 ((30 : Int) * v4))]]))))
    (F23 (([], List.take (List.length v2) (List.drop (0 : Nat) v2), List.take (List.length v5) (List.drop (0 : Nat) v5), []))
      (fun (r7 : Bool × List Go.AM.D) =>
      ((0 : Nat) < (1 : Nat)) ∧
      cond ((↑(List.length (Prod.snd r7)) : Int) != Go.IntKind.wrap Go.IntKind.i64 (Go.IntKind.wrap Go.IntKind.i64 (Int.tmod a (5 : Int)) + Go.IntKind.wrap Go.IntKind.i64 (Int.tmod b (6 : Int))))
        (Q (Bool.false))
        (cond (!Prod.fst r7)
          (Q (Bool.false))
          (L4_3 a b c v2 v5 r7 Q R3 R6 ((0 : Int))))))
theorem B4_2_eq (a : Int) (b : Int) (c : Int) (v1 : Int) (v2 : List Go.AM.D) (Q : Bool → Prop) (R3 : List Go.AM.AV → Go.AM.Heap → Prop) (s : (Int) × (List Go.AM.D)) (n : Nat) : loopV X4 W4 (C4_2 Q R3) (n + 1) (E4_2 a b c v2 s) (H4_2 a b c v2 s) = B4_2 a b c v1 v2 Q R3 s (fun env H => loopV X4 W4 (C4_2 Q R3) n env H) := by
  kernel_rfl
def E4_1 (a : Int) (b : Int) (c : Int) (s : (Int) × (List Go.AM.D)) : Env :=
  match s with
  | (v1, v2) =>
    [Go.AM.AV.bad, Go.AM.AV.bad, Go.AM.AV.im (Go.AM.D.int Go.IntKind.u8 c), Go.AM.AV.bad, Go.AM.AV.bad, Go.AM.AV.bad, Go.AM.AV.bad, Go.AM.AV.im (Go.AM.D.bool Bool.true), Go.AM.AV.ptr (0 : Nat) (0 : Nat) (0 : Nat), Go.AM.AV.im (Go.AM.D.int Go.IntKind.i64 (Go.IntKind.wrap Go.IntKind.i64 (Int.tmod a (5 : Int)))), Go.AM.AV.im (Go.AM.D.int Go.IntKind.i64 (Go.IntKind.wrap Go.IntKind.i64 (Int.tmod b (6 : Int)))), Go.AM.AV.im (Go.AM.D.int Go.IntKind.i64 v1), Go.AM.AV.bad, Go.AM.AV.bad, Go.AM.AV.bad, Go.AM.AV.bad, Go.AM.AV.bad, Go.AM.AV.bad, Go.AM.AV.bad, Go.AM.AV.bad, Go.AM.AV.bad, Go.AM.AV.bad, Go.AM.AV.bad, Go.AM.AV.bad, Go.AM.AV.bad, Go.AM.AV.bad, Go.AM.AV.bad, Go.AM.AV.bad, Go.AM.AV.bad, Go.AM.AV.bad, Go.AM.AV.bad, Go.AM.AV.bad, Go.AM.AV.bad, Go.AM.AV.bad, Go.AM.AV.bad, Go.AM.AV.bad, Go.AM.AV.bad, Go.AM.AV.bad, Go.AM.AV.bad, Go.AM.AV.bad, Go.AM.AV.bad, Go.AM.AV.bad, Go.AM.AV.bad, Go.AM.AV.bad, Go.AM.AV.bad, Go.AM.AV.bad, Go.AM.AV.bad, Go.AM.AV.bad, Go.AM.AV.bad, Go.AM.AV.bad, Go.AM.AV.bad, Go.AM.AV.bad, Go.AM.AV.bad, Go.AM.AV.bad, Go.AM.AV.bad, Go.AM.AV.bad, Go.AM.AV.bad, Go.AM.AV.bad, Go.AM.AV.bad, Go.AM.AV.bad, Go.AM.AV.bad, Go.AM.AV.bad, Go.AM.AV.bad, Go.AM.AV.bad, Go.AM.AV.bad, Go.AM.AV.bad, Go.AM.AV.bad, Go.AM.AV.bad, Go.AM.AV.bad, Go.AM.AV.bad, Go.AM.AV.bad, Go.AM.AV.bad, Go.AM.AV.bad, Go.AM.AV.bad, Go.AM.AV.bad, Go.AM.AV.bad, Go.AM.AV.bad, Go.AM.AV.bad, Go.AM.AV.bad, Go.AM.AV.bad, Go.AM.AV.bad, Go.AM.AV.bad, Go.AM.AV.bad, Go.AM.AV.bad, Go.AM.AV.bad, Go.AM.AV.bad, Go.AM.AV.bad, Go.AM.AV.bad, Go.AM.AV.bad, Go.AM.AV.bad, Go.AM.AV.bad, Go.AM.AV.bad, Go.AM.AV.bad, Go.AM.AV.bad, Go.AM.AV.bad, Go.AM.AV.bad, Go.AM.AV.bad, Go.AM.AV.bad, Go.AM.AV.bad, Go.AM.AV.bad, Go.AM.AV.bad, Go.AM.AV.bad, Go.AM.AV.bad, Go.AM.AV.bad, Go.AM.AV.bad, Go.AM.AV.bad, Go.AM.AV.bad, Go.AM.AV.bad, Go.AM.AV.bad, Go.AM.AV.bad, Go.AM.AV.bad, Go.AM.AV.bad, Go.AM.AV.bad, Go.AM.AV.bad, Go.AM.AV.bad, Go.AM.AV.bad, Go.AM.AV.bad, Go.AM.AV.bad, Go.AM.AV.bad, Go.AM.AV.bad, Go.AM.AV.bad, Go.AM.AV.bad, Go.AM.AV.bad, Go.AM.AV.bad, Go.AM.AV.bad, Go.AM.AV.bad, Go.AM.AV.bad, Go.AM.AV.bad, Go.AM.AV.bad, Go.AM.AV.bad, Go.AM.AV.bad, Go.AM.AV.bad, Go.AM.AV.bad, Go.AM.AV.bad, Go.AM.AV.bad, Go.AM.AV.bad, Go.AM.AV.bad, Go.AM.AV.bad, Go.AM.AV.bad, Go.AM.AV.bad, Go.AM.AV.bad, Go.AM.AV.bad, Go.AM.AV.bad, Go.AM.AV.bad, Go.AM.AV.bad, Go.AM.AV.bad, Go.AM.AV.bad, Go.AM.AV.bad, Go.AM.AV.bad, Go.AM.AV.bad, Go.AM.AV.bad, Go.AM.AV.bad, Go.AM.AV.bad, Go.AM.AV.bad, Go.AM.AV.bad, Go.AM.AV.bad, Go.AM.AV.bad, Go.AM.AV.bad, Go.AM.AV.bad, Go.AM.AV.bad, Go.AM.AV.bad, Go.AM.AV.bad, Go.AM.AV.bad, Go.AM.AV.bad, Go.AM.AV.bad, Go.AM.AV.bad, Go.AM.AV.bad, Go.AM.AV.bad, Go.AM.AV.bad, Go.AM.AV.bad, Go.AM.AV.bad]
def H4_1 (a : Int) (b : Int) (c : Int) (s : (Int) × (List Go.AM.D)) : Heap :=
  match s with
  | (v1, v2) =>
    [Option.some (Go.AM.Blk.m (4 : Nat) [Go.AM.AV.agg [Go.AM.AV.im (Go.AM.D.str []), Go.AM.AV.ref (1 : Nat) (0 : Nat) (List.length v2), Go.AM.AV.ref (2 : Nat) (0 : Nat) (0 : Nat), Go.AM.AV.im (Go.AM.D.sl Bool.true (0 : Nat) [])]]), Option.some (Go.AM.Blk.c (1 : Nat) v2), Option.some (Go.AM.Blk.c (2 : Nat) [])]
noncomputable def C4_1 (Q : Bool → Prop) : Go.Code × Go.AM.Kx := sub X4 W4 fi4.code [1, 1, 1, 1, 1, 1, 0, 1, 0] [] (finK T fi4 0 (N4 Q))
noncomputable def L4_1 (a : Int) (b : Int) (c : Int) (Q : Bool → Prop) (s : (Int) × (List Go.AM.D)) : Prop := ∃ n, loopV X4 W4 (C4_1 Q) n (E4_1 a b c s) (H4_1 a b c s)
def B4_1 (a : Int) (b : Int) (c : Int) (Q : Bool → Prop) (s : (Int) × (List Go.AM.D)) (R3 : Env → Heap → Prop) : Prop :=
  match s with
  | (v1, v2) =>
    cond (Decidable.decide (v1 < Go.IntKind.wrap Go.IntKind.i64 (Int.tmod a (5 : Int))))
    (((1 : Nat) + List.length [UInt8.ofNat (Int.toNat (Go.IntKind.wrap Go.IntKind.u8 ((97 : Int) + Go.IntKind.wrap Go.IntKind.u8 v1)))] ≤ (9223372036854775807 : Nat)) ∧
    (List.length (List.take (List.length v2) (List.drop (0 : Nat) v2) ++ [Go.AM.D.str [OfNat.ofNat (112 : Nat), UInt8.ofNat (Int.toNat (Go.IntKind.wrap Go.IntKind.u8 ((97 : Int) + Go.IntKind.wrap Go.IntKind.u8 v1)))]]) * (16 : Nat) ≤ (140737488355328 : Nat)) ∧
    (List.length (List.take (List.length v2) (List.drop (0 : Nat) v2) ++ [Go.AM.D.str [OfNat.ofNat (112 : Nat), UInt8.ofNat (Int.toNat (Go.IntKind.wrap Go.IntKind.u8 ((97 : Int) + Go.IntKind.wrap Go.IntKind.u8 v1)))]]) ≤ (140737488355328 : Nat)) ∧
    ((2 : Nat) ≤ List.length [Go.AM.AV.im (Go.AM.D.str []), Go.AM.AV.bad, Go.AM.AV.ref (2 : Nat) (0 : Nat) (0 : Nat), Go.AM.AV.im (Go.AM.D.sl Bool.true (0 : Nat) [])]) ∧
    R3 (E4_1 a b c ((Go.IntKind.wrap Go.IntKind.i64 (v1 + (1 : Int)), List.take (List.length v2) (List.drop (0 : Nat) v2) ++ [Go.AM.D.str [OfNat.ofNat (112 : Nat), UInt8.ofNat (Int.toNat (Go.IntKind.wrap Go.IntKind.u8 ((97 : Int) + Go.IntKind.wrap Go.IntKind.u8 v1)))]]))) (H4_1 a b c ((Go.IntKind.wrap Go.IntKind.i64 (v1 + (1 : Int)), List.take (List.length v2) (List.drop (0 : Nat) v2) ++ [Go.AM.D.str [OfNat.ofNat (112 : Nat), UInt8.ofNat (Int.toNat (Go.IntKind.wrap Go.IntKind.u8 ((97 : Int) + Go.IntKind.wrap Go.IntKind.u8 v1)))]]))))
    (L4_2 a b c v2 Q R3 (((0 : Int), [])))
theorem B4_1_eq (a : Int) (b : Int) (c : Int) (Q : Bool → Prop) (s : (Int) × (List Go.AM.D)) (n : Nat) : loopV X4 W4 (C4_1 Q) (n + 1) (E4_1 a b c s) (H4_1 a b c s) = B4_1 a b c Q s (fun env H => loopV X4 W4 (C4_1 Q) n env H) := by
  kernel_rfl
def F4 (a : Int) (b : Int) (c : Int) (Q : Bool → Prop) : Prop :=
  ((0 : Nat) < (1 : Nat)) ∧
  ((5 : Int) ≠ (0 : Int)) ∧
  ((6 : Int) ≠ (0 : Int)) ∧
  L4_1 a b c Q (((0 : Int), []))

theorem F4_eq (x : Ars.T sig4.args) (Q : Shs.T sig4.res → Prop) : callBodyK T (callOf l4) (cwOf l4) fi4 (Ars.enc sig4.args x) [] (endK sig4 Q) = F4 x.1 x.2.1 x.2.2 Q := by
  kernel_rfl
theorem fi4_ok : fi4.ok Try.prog 4 := ⟨Try.func4, by decide, rfl, by rfl⟩
noncomputable def e4 : Entry Try.prog := mkE hT hm 4 fi4 fi4_ok l4 sig4 (fun x Q => F4 x.1 x.2.1 x.2.2 Q) F4_eq
end Go.Proofs.Ytankppgafdcknaa
