/- Texts joined into one: the first of them is told below. -/
import Derived.Test.YtankppgafdcknaaWb
import Derived.Test.YtankppgafdcknaaWa
/- billhook/billhooklaw12.StateSets: what its walk makes hold. -/
set_option linter.unusedVariables false
set_option maxRecDepth 100000
open Go Go.AM
namespace Go.Proofs.Ytankppgafdcknaa
def sig3 : Sig := ⟨[.v (.st [.bool, .sl 5]), .v (.c (.int .u8)), .v (.st [.int .i64, .int .i64, .bool, .int .u8, .int .u8])], [.c .bool]⟩
noncomputable def fi3 : Fi := mkFi T Try.f3 { live := fun d => if Nat.beq d 12 then slots 114 [7, 8, 9, 10, 11, 12, 13] else none, keep := isIn [30] }
noncomputable def l3 : List (Entry Try.prog) := [e14, e15, e16, e17_o, e18, e19, e21, e20, e22]
abbrev N3 (Q : Shs.T sig3.res → Prop) : AV → Heap → Prop := endK sig3 Q
noncomputable abbrev X3 : Px := fi3.px T (callOf l3) 0
noncomputable abbrev W3 : CallW := cwOf l3
def E3_1 (b : Int) (r1 : Bool × List Go.AM.D) (r2 : Bool × List Go.AM.D) (r3 : Int × Int) (r5 : Bool × List Go.AM.D) (s : (Int)) : Env :=
  match s with
  | v8 =>
    [Go.AM.AV.bad, Go.AM.AV.bad, Go.AM.AV.bad, Go.AM.AV.bad, Go.AM.AV.bad, Go.AM.AV.bad, Go.AM.AV.bad, Go.AM.AV.im (Go.AM.D.bool Bool.true), Go.AM.AV.ptr (0 : Nat) (0 : Nat) (0 : Nat), Go.AM.AV.ptr (1 : Nat) (0 : Nat) (0 : Nat), Go.AM.AV.im (Go.AM.D.int Go.IntKind.i64 (Go.IntKind.wrap Go.IntKind.i64 (Int.tmod b (7 : Int)))), Go.AM.AV.ptr (2 : Nat) (0 : Nat) (0 : Nat), Go.AM.AV.ptr (3 : Nat) (0 : Nat) (0 : Nat), Go.AM.AV.im (Go.AM.D.int Go.IntKind.i64 v8), Go.AM.AV.bad, Go.AM.AV.bad, Go.AM.AV.bad, Go.AM.AV.bad, Go.AM.AV.bad, Go.AM.AV.bad, Go.AM.AV.bad, Go.AM.AV.bad, Go.AM.AV.bad, Go.AM.AV.bad, Go.AM.AV.bad, Go.AM.AV.bad, Go.AM.AV.bad, Go.AM.AV.bad, Go.AM.AV.bad, Go.AM.AV.bad, Go.AM.AV.bad, Go.AM.AV.bad, Go.AM.AV.bad, Go.AM.AV.bad, Go.AM.AV.bad, Go.AM.AV.bad, Go.AM.AV.bad, Go.AM.AV.bad, Go.AM.AV.bad, Go.AM.AV.bad, Go.AM.AV.bad, Go.AM.AV.bad, Go.AM.AV.bad, Go.AM.AV.bad, Go.AM.AV.bad, Go.AM.AV.bad, Go.AM.AV.bad, Go.AM.AV.bad, Go.AM.AV.bad, Go.AM.AV.bad, Go.AM.AV.bad, Go.AM.AV.bad, Go.AM.AV.bad, Go.AM.AV.bad, Go.AM.AV.bad, Go.AM.AV.bad, Go.AM.AV.bad, Go.AM.AV.bad, Go.AM.AV.bad, Go.AM.AV.bad, Go.AM.AV.bad, Go.AM.AV.bad, Go.AM.AV.bad, Go.AM.AV.bad, Go.AM.AV.bad, Go.AM.AV.bad, Go.AM.AV.bad, Go.AM.AV.bad, Go.AM.AV.bad, Go.AM.AV.bad, Go.AM.AV.bad, Go.AM.AV.bad, Go.AM.AV.bad, Go.AM.AV.bad, Go.AM.AV.bad, Go.AM.AV.bad, Go.AM.AV.bad, Go.AM.AV.bad, Go.AM.AV.bad, Go.AM.AV.bad, Go.AM.AV.bad, Go.AM.AV.bad, Go.AM.AV.bad, Go.AM.AV.bad, Go.AM.AV.bad, Go.AM.AV.bad, Go.AM.AV.bad, Go.AM.AV.bad, Go.AM.AV.bad, Go.AM.AV.bad, Go.AM.AV.bad, Go.AM.AV.bad, Go.AM.AV.bad, Go.AM.AV.bad, Go.AM.AV.bad, Go.AM.AV.bad, Go.AM.AV.bad, Go.AM.AV.bad, Go.AM.AV.bad, Go.AM.AV.bad, Go.AM.AV.bad, Go.AM.AV.bad, Go.AM.AV.bad, Go.AM.AV.bad, Go.AM.AV.bad, Go.AM.AV.bad, Go.AM.AV.bad, Go.AM.AV.bad, Go.AM.AV.bad, Go.AM.AV.bad, Go.AM.AV.bad, Go.AM.AV.bad, Go.AM.AV.bad, Go.AM.AV.bad]
def H3_1 (b : Int) (r1 : Bool × List Go.AM.D) (r2 : Bool × List Go.AM.D) (r3 : Int × Int) (r5 : Bool × List Go.AM.D) (s : (Int)) : Heap :=
  match s with
  | v8 =>
    [Option.some (Go.AM.Blk.c (2 : Nat) [Go.AM.D.agg [Go.AM.D.bool (Prod.fst r1), Go.AM.D.sl Bool.false (2 : Nat) (Prod.snd r1)]]), Option.some (Go.AM.Blk.c (2 : Nat) [Go.AM.D.agg [Go.AM.D.bool (Prod.fst r2), Go.AM.D.sl Bool.false (2 : Nat) (Prod.snd r2)]]), Option.some (Go.AM.Blk.c (2 : Nat) [Go.AM.D.agg [Go.AM.D.int Go.IntKind.i64 (Prod.fst r3), Go.AM.D.int Go.IntKind.i64 (Prod.snd r3)]]), Option.some (Go.AM.Blk.c (2 : Nat) [Go.AM.D.agg [Go.AM.D.bool (Prod.fst r5), Go.AM.D.sl Bool.false (2 : Nat) (Prod.snd r5)]])]
noncomputable def C3_1 (Q : Bool → Prop) : Go.Code × Go.AM.Kx := sub X3 W3 fi3.code [1, 1, 1, 1, 1, 1, 1, 1, 1, 0, 1, 0] [] (finK T fi3 0 (N3 Q))
noncomputable def L3_1 (b : Int) (r1 : Bool × List Go.AM.D) (r2 : Bool × List Go.AM.D) (r3 : Int × Int) (r5 : Bool × List Go.AM.D) (Q : Bool → Prop) (s : (Int)) : Prop := ∃ n, loopV X3 W3 (C3_1 Q) n (E3_1 b r1 r2 r3 r5 s) (H3_1 b r1 r2 r3 r5 s)
def B3_1 (a : Bool × List Go.AM.D) (b : Int) (c : Int × Int × Bool × Int × Int) (r1 : Bool × List Go.AM.D) (r2 : Bool × List Go.AM.D) (r3 : Int × Int) (r4 : Bool × List Go.AM.D ⊕ Bool × List Go.AM.D) (r5 : Bool × List Go.AM.D) (r6 : Bool) (Q : Bool → Prop) (s : (Int)) (R9 : Env → Heap → Prop) : Prop :=
  match s with
  | v8 =>
    cond (Decidable.decide (v8 < (5 : Int)))
    (cond (v8 != Go.IntKind.wrap Go.IntKind.i64 (Int.tmod b (7 : Int)))
      (F21 ((Prod.fst r5, Prod.snd r5)) (v8)
        (fun (r10 : Int × Int) =>
        F21 ((Prod.fst r1, Prod.snd r1)) (v8)
          (fun (r11 : Int × Int) =>
          F20 ((Prod.fst r10, Prod.snd r10)) ((Prod.fst r11, Prod.snd r11))
            (fun (r12 : Bool) =>
            cond (!r12)
              (Q (Bool.false))
              (R9 (E3_1 b r1 r2 r3 r5 (Go.IntKind.wrap Go.IntKind.i64 (v8 + (1 : Int)))) (H3_1 b r1 r2 r3 r5 (Go.IntKind.wrap Go.IntKind.i64 (v8 + (1 : Int)))))))))
      (R9 (E3_1 b r1 r2 r3 r5 (Go.IntKind.wrap Go.IntKind.i64 (v8 + (1 : Int)))) (H3_1 b r1 r2 r3 r5 (Go.IntKind.wrap Go.IntKind.i64 (v8 + (1 : Int))))))
    (cond (Decidable.decide (Go.IntKind.wrap Go.IntKind.i64 (Int.tmod b (7 : Int)) < (5 : Int)))
      (F21 ((Prod.fst r1, Prod.snd r1)) (Go.IntKind.wrap Go.IntKind.i64 (Int.tmod b (7 : Int)))
        (fun (r13 : Int × Int) =>
        F20 ((Prod.fst r13, Prod.snd r13)) ((Prod.fst r3, Prod.snd r3))
          (fun (r14 : Bool) =>
          cond (!r14)
            (cond (Decidable.decide ((↑(List.length (Prod.snd r5)) : Int) > (0 : Int)))
              (F22 ((99 : Int))
                (fun (r15 : Int × Int) =>
                ((0 : Int) ≤ (0 : Int)) ∧
                optP ((Prod.snd r5)[(0 : Nat)]?) fun (d16 : Go.AM.D) =>
                  optP (Go.AM.D.asAgg d16) fun (d17 : List Go.AM.D) =>
                    (match d17 with
                      | [] => False
                      | d18 :: l19 =>
                      (match l19 with
                        | [] => False
                        | d20 :: l21 =>
                        (match l21 with
                          | [] => optP (Go.AM.D.asInt Go.IntKind.i64 d18) fun (d24 : Int) =>
                            optP (Go.AM.D.asInt Go.IntKind.i64 d20) fun (d25 : Int) =>
                              False
                          | d22 :: l23 =>
                          False)))))
              (F17_o ((Prod.fst r1, Prod.snd r1)) (Go.IntKind.wrap Go.IntKind.i64 (Int.tmod b (7 : Int))) ((Prod.fst r3, Prod.snd r3))
                (fun (r26 : Bool × List Go.AM.D ⊕ Bool × List Go.AM.D) =>
                Sum.elim (fun (r27 : Bool × List Go.AM.D) =>
                  F21 ((Prod.fst r27, Prod.snd r27)) (Go.IntKind.wrap Go.IntKind.i64 (Int.tmod b (7 : Int)))
                    (fun (r28 : Int × Int) =>
                    ((0 : Nat) < (1 : Nat)) ∧
                    cond (Prod.fst r5)
                      (F19 ((Prod.fst r1, Prod.snd r1)) ((Prod.fst r2, Prod.snd r2))
                        (fun (r29 : Bool) =>
                        cond (r29)
                          (cond (Decidable.decide (Go.IntKind.wrap Go.IntKind.i64 (Int.tmod b (7 : Int)) > (4 : Int)))
                            (F18 ((Prod.fst r28, Prod.snd r28))
                              (fun (r30 : Bool) =>
                              cond (r30)
                                (Q (Bool.true))
                                (cond (Decidable.decide (Go.IntKind.wrap Go.IntKind.i64 (Int.tmod b (7 : Int)) < (5 : Int)))
                                  (F20 ((Prod.fst r28, Prod.snd r28)) ((Prod.fst r3, Prod.snd r3))
                                    (fun (r31 : Bool) =>
                                    Q (r31)))
                                  (Q (Bool.false)))))
                            (cond (Decidable.decide (Go.IntKind.wrap Go.IntKind.i64 (Int.tmod b (7 : Int)) < (5 : Int)))
                              (F20 ((Prod.fst r28, Prod.snd r28)) ((Prod.fst r3, Prod.snd r3))
                                (fun (r32 : Bool) =>
                                Q (r32)))
                              (Q (Bool.false))))
                          (Q (Bool.false))))
                      (Q (Bool.false))))
                (fun (r33 : Bool × List Go.AM.D) =>
                  F21 ((Prod.fst r33, List.take (List.length (Prod.snd r33)) (List.drop (0 : Nat) (Prod.snd r33)))) (Go.IntKind.wrap Go.IntKind.i64 (Int.tmod b (7 : Int)))
                    (fun (r34 : Int × Int) =>
                    ((0 : Nat) < (1 : Nat)) ∧
                    cond (Prod.fst r5)
                      (F19 ((Prod.fst r1, Prod.snd r1)) ((Prod.fst r2, Prod.snd r2))
                        (fun (r35 : Bool) =>
                        cond (r35)
                          (cond (Decidable.decide (Go.IntKind.wrap Go.IntKind.i64 (Int.tmod b (7 : Int)) > (4 : Int)))
                            (F18 ((Prod.fst r34, Prod.snd r34))
                              (fun (r36 : Bool) =>
                              cond (r36)
                                (Q (Bool.true))
                                (cond (Decidable.decide (Go.IntKind.wrap Go.IntKind.i64 (Int.tmod b (7 : Int)) < (5 : Int)))
                                  (F20 ((Prod.fst r34, Prod.snd r34)) ((Prod.fst r3, Prod.snd r3))
                                    (fun (r37 : Bool) =>
                                    Q (r37)))
                                  (Q (Bool.false)))))
                            (cond (Decidable.decide (Go.IntKind.wrap Go.IntKind.i64 (Int.tmod b (7 : Int)) < (5 : Int)))
                              (F20 ((Prod.fst r34, Prod.snd r34)) ((Prod.fst r3, Prod.snd r3))
                                (fun (r38 : Bool) =>
                                Q (r38)))
                              (Q (Bool.false))))
                          (Q (Bool.false))))
                      (Q (Bool.false)))) (r26))))
            (F17_o ((Prod.fst r1, Prod.snd r1)) (Go.IntKind.wrap Go.IntKind.i64 (Int.tmod b (7 : Int))) ((Prod.fst r3, Prod.snd r3))
              (fun (r39 : Bool × List Go.AM.D ⊕ Bool × List Go.AM.D) =>
              Sum.elim (fun (r40 : Bool × List Go.AM.D) =>
                F21 ((Prod.fst r40, Prod.snd r40)) (Go.IntKind.wrap Go.IntKind.i64 (Int.tmod b (7 : Int)))
                  (fun (r41 : Int × Int) =>
                  ((0 : Nat) < (1 : Nat)) ∧
                  cond (Prod.fst r5)
                    (F19 ((Prod.fst r1, Prod.snd r1)) ((Prod.fst r2, Prod.snd r2))
                      (fun (r42 : Bool) =>
                      cond (r42)
                        (cond (Decidable.decide (Go.IntKind.wrap Go.IntKind.i64 (Int.tmod b (7 : Int)) > (4 : Int)))
                          (F18 ((Prod.fst r41, Prod.snd r41))
                            (fun (r43 : Bool) =>
                            cond (r43)
                              (Q (Bool.true))
                              (cond (Decidable.decide (Go.IntKind.wrap Go.IntKind.i64 (Int.tmod b (7 : Int)) < (5 : Int)))
                                (F20 ((Prod.fst r41, Prod.snd r41)) ((Prod.fst r3, Prod.snd r3))
                                  (fun (r44 : Bool) =>
                                  Q (r44)))
                                (Q (Bool.false)))))
                          (cond (Decidable.decide (Go.IntKind.wrap Go.IntKind.i64 (Int.tmod b (7 : Int)) < (5 : Int)))
                            (F20 ((Prod.fst r41, Prod.snd r41)) ((Prod.fst r3, Prod.snd r3))
                              (fun (r45 : Bool) =>
                              Q (r45)))
                            (Q (Bool.false))))
                        (Q (Bool.false))))
                    (Q (Bool.false))))
              (fun (r46 : Bool × List Go.AM.D) =>
                F21 ((Prod.fst r46, List.take (List.length (Prod.snd r46)) (List.drop (0 : Nat) (Prod.snd r46)))) (Go.IntKind.wrap Go.IntKind.i64 (Int.tmod b (7 : Int)))
                  (fun (r47 : Int × Int) =>
                  ((0 : Nat) < (1 : Nat)) ∧
                  cond (Prod.fst r5)
                    (F19 ((Prod.fst r1, Prod.snd r1)) ((Prod.fst r2, Prod.snd r2))
                      (fun (r48 : Bool) =>
                      cond (r48)
                        (cond (Decidable.decide (Go.IntKind.wrap Go.IntKind.i64 (Int.tmod b (7 : Int)) > (4 : Int)))
                          (F18 ((Prod.fst r47, Prod.snd r47))
                            (fun (r49 : Bool) =>
                            cond (r49)
                              (Q (Bool.true))
                              (cond (Decidable.decide (Go.IntKind.wrap Go.IntKind.i64 (Int.tmod b (7 : Int)) < (5 : Int)))
                                (F20 ((Prod.fst r47, Prod.snd r47)) ((Prod.fst r3, Prod.snd r3))
                                  (fun (r50 : Bool) =>
                                  Q (r50)))
                                (Q (Bool.false)))))
                          (cond (Decidable.decide (Go.IntKind.wrap Go.IntKind.i64 (Int.tmod b (7 : Int)) < (5 : Int)))
                            (F20 ((Prod.fst r47, Prod.snd r47)) ((Prod.fst r3, Prod.snd r3))
                              (fun (r51 : Bool) =>
                              Q (r51)))
                            (Q (Bool.false))))
                        (Q (Bool.false))))
                    (Q (Bool.false)))) (r39))))))
      (F17_o ((Prod.fst r1, Prod.snd r1)) (Go.IntKind.wrap Go.IntKind.i64 (Int.tmod b (7 : Int))) ((Prod.fst r3, Prod.snd r3))
        (fun (r52 : Bool × List Go.AM.D ⊕ Bool × List Go.AM.D) =>
        Sum.elim (fun (r53 : Bool × List Go.AM.D) =>
          F21 ((Prod.fst r53, Prod.snd r53)) (Go.IntKind.wrap Go.IntKind.i64 (Int.tmod b (7 : Int)))
            (fun (r54 : Int × Int) =>
            ((0 : Nat) < (1 : Nat)) ∧
            cond (Prod.fst r5)
              (F19 ((Prod.fst r1, Prod.snd r1)) ((Prod.fst r2, Prod.snd r2))
                (fun (r55 : Bool) =>
                cond (r55)
                  (cond (Decidable.decide (Go.IntKind.wrap Go.IntKind.i64 (Int.tmod b (7 : Int)) > (4 : Int)))
                    (F18 ((Prod.fst r54, Prod.snd r54))
                      (fun (r56 : Bool) =>
                      cond (r56)
                        (Q (Bool.true))
                        (cond (Decidable.decide (Go.IntKind.wrap Go.IntKind.i64 (Int.tmod b (7 : Int)) < (5 : Int)))
                          (F20 ((Prod.fst r54, Prod.snd r54)) ((Prod.fst r3, Prod.snd r3))
                            (fun (r57 : Bool) =>
                            Q (r57)))
                          (Q (Bool.false)))))
                    (cond (Decidable.decide (Go.IntKind.wrap Go.IntKind.i64 (Int.tmod b (7 : Int)) < (5 : Int)))
                      (F20 ((Prod.fst r54, Prod.snd r54)) ((Prod.fst r3, Prod.snd r3))
                        (fun (r58 : Bool) =>
                        Q (r58)))
                      (Q (Bool.false))))
                  (Q (Bool.false))))
              (Q (Bool.false))))
        (fun (r59 : Bool × List Go.AM.D) =>
          F21 ((Prod.fst r59, List.take (List.length (Prod.snd r59)) (List.drop (0 : Nat) (Prod.snd r59)))) (Go.IntKind.wrap Go.IntKind.i64 (Int.tmod b (7 : Int)))
            (fun (r60 : Int × Int) =>
            ((0 : Nat) < (1 : Nat)) ∧
            cond (Prod.fst r5)
              (F19 ((Prod.fst r1, Prod.snd r1)) ((Prod.fst r2, Prod.snd r2))
                (fun (r61 : Bool) =>
                cond (r61)
                  (cond (Decidable.decide (Go.IntKind.wrap Go.IntKind.i64 (Int.tmod b (7 : Int)) > (4 : Int)))
                    (F18 ((Prod.fst r60, Prod.snd r60))
                      (fun (r62 : Bool) =>
                      cond (r62)
                        (Q (Bool.true))
                        (cond (Decidable.decide (Go.IntKind.wrap Go.IntKind.i64 (Int.tmod b (7 : Int)) < (5 : Int)))
                          (F20 ((Prod.fst r60, Prod.snd r60)) ((Prod.fst r3, Prod.snd r3))
                            (fun (r63 : Bool) =>
                            Q (r63)))
                          (Q (Bool.false)))))
                    (cond (Decidable.decide (Go.IntKind.wrap Go.IntKind.i64 (Int.tmod b (7 : Int)) < (5 : Int)))
                      (F20 ((Prod.fst r60, Prod.snd r60)) ((Prod.fst r3, Prod.snd r3))
                        (fun (r64 : Bool) =>
                        Q (r64)))
                      (Q (Bool.false))))
                  (Q (Bool.false))))
              (Q (Bool.false)))) (r52))))
theorem B3_1_eq (a : Bool × List Go.AM.D) (b : Int) (c : Int × Int × Bool × Int × Int) (r1 : Bool × List Go.AM.D) (r2 : Bool × List Go.AM.D) (r3 : Int × Int) (r4 : Bool × List Go.AM.D ⊕ Bool × List Go.AM.D) (r5 : Bool × List Go.AM.D) (r6 : Bool) (Q : Bool → Prop) (s : (Int)) (n : Nat) : loopV X3 W3 (C3_1 Q) (n + 1) (E3_1 b r1 r2 r3 r5 s) (H3_1 b r1 r2 r3 r5 s) = B3_1 a b c r1 r2 r3 r4 r5 r6 Q s (fun env H => loopV X3 W3 (C3_1 Q) n env H) := by
  kernel_rfl
def E3_2 (b : Int) (r1 : Bool × List Go.AM.D) (r2 : Bool × List Go.AM.D) (r3 : Int × Int) (r65 : Bool × List Go.AM.D) (s : (Int)) : Env :=
  match s with
  | v68 =>
    [Go.AM.AV.bad, Go.AM.AV.bad, Go.AM.AV.bad, Go.AM.AV.bad, Go.AM.AV.bad, Go.AM.AV.bad, Go.AM.AV.bad, Go.AM.AV.im (Go.AM.D.bool Bool.true), Go.AM.AV.ptr (0 : Nat) (0 : Nat) (0 : Nat), Go.AM.AV.ptr (1 : Nat) (0 : Nat) (0 : Nat), Go.AM.AV.im (Go.AM.D.int Go.IntKind.i64 (Go.IntKind.wrap Go.IntKind.i64 (Int.tmod b (7 : Int)))), Go.AM.AV.ptr (2 : Nat) (0 : Nat) (0 : Nat), Go.AM.AV.ptr (3 : Nat) (0 : Nat) (0 : Nat), Go.AM.AV.im (Go.AM.D.int Go.IntKind.i64 v68), Go.AM.AV.bad, Go.AM.AV.bad, Go.AM.AV.bad, Go.AM.AV.bad, Go.AM.AV.bad, Go.AM.AV.bad, Go.AM.AV.bad, Go.AM.AV.bad, Go.AM.AV.bad, Go.AM.AV.bad, Go.AM.AV.bad, Go.AM.AV.bad, Go.AM.AV.bad, Go.AM.AV.bad, Go.AM.AV.bad, Go.AM.AV.bad, Go.AM.AV.bad, Go.AM.AV.bad, Go.AM.AV.bad, Go.AM.AV.bad, Go.AM.AV.bad, Go.AM.AV.bad, Go.AM.AV.bad, Go.AM.AV.bad, Go.AM.AV.bad, Go.AM.AV.bad, Go.AM.AV.bad, Go.AM.AV.bad, Go.AM.AV.bad, Go.AM.AV.bad, Go.AM.AV.bad, Go.AM.AV.bad, Go.AM.AV.bad, Go.AM.AV.bad, Go.AM.AV.bad, Go.AM.AV.bad, Go.AM.AV.bad, Go.AM.AV.bad, Go.AM.AV.bad, Go.AM.AV.bad, Go.AM.AV.bad, Go.AM.AV.bad, Go.AM.AV.bad, Go.AM.AV.bad, Go.AM.AV.bad, Go.AM.AV.bad, Go.AM.AV.bad, Go.AM.AV.bad, Go.AM.AV.bad, Go.AM.AV.bad, Go.AM.AV.bad, Go.AM.AV.bad, Go.AM.AV.bad, Go.AM.AV.bad, Go.AM.AV.bad, Go.AM.AV.bad, Go.AM.AV.bad, Go.AM.AV.bad, Go.AM.AV.bad, Go.AM.AV.bad, Go.AM.AV.bad, Go.AM.AV.bad, Go.AM.AV.bad, Go.AM.AV.bad, Go.AM.AV.bad, Go.AM.AV.bad, Go.AM.AV.bad, Go.AM.AV.bad, Go.AM.AV.bad, Go.AM.AV.bad, Go.AM.AV.bad, Go.AM.AV.bad, Go.AM.AV.bad, Go.AM.AV.bad, Go.AM.AV.bad, Go.AM.AV.bad, Go.AM.AV.bad, Go.AM.AV.bad, Go.AM.AV.bad, Go.AM.AV.bad, Go.AM.AV.bad, Go.AM.AV.bad, Go.AM.AV.bad, Go.AM.AV.bad, Go.AM.AV.bad, Go.AM.AV.bad, Go.AM.AV.bad, Go.AM.AV.bad, Go.AM.AV.bad, Go.AM.AV.bad, Go.AM.AV.bad, Go.AM.AV.bad, Go.AM.AV.bad, Go.AM.AV.bad, Go.AM.AV.bad, Go.AM.AV.bad, Go.AM.AV.bad, Go.AM.AV.bad, Go.AM.AV.bad, Go.AM.AV.bad]
def H3_2 (b : Int) (r1 : Bool × List Go.AM.D) (r2 : Bool × List Go.AM.D) (r3 : Int × Int) (r65 : Bool × List Go.AM.D) (s : (Int)) : Heap :=
  match s with
  | v68 =>
    [Option.some (Go.AM.Blk.c (2 : Nat) [Go.AM.D.agg [Go.AM.D.bool (Prod.fst r1), Go.AM.D.sl Bool.false (2 : Nat) (Prod.snd r1)]]), Option.some (Go.AM.Blk.c (2 : Nat) [Go.AM.D.agg [Go.AM.D.bool (Prod.fst r2), Go.AM.D.sl Bool.false (2 : Nat) (Prod.snd r2)]]), Option.some (Go.AM.Blk.c (2 : Nat) [Go.AM.D.agg [Go.AM.D.int Go.IntKind.i64 (Prod.fst r3), Go.AM.D.int Go.IntKind.i64 (Prod.snd r3)]]), Option.some (Go.AM.Blk.m (2 : Nat) [Go.AM.AV.agg [Go.AM.AV.im (Go.AM.D.bool (Prod.fst r65)), Go.AM.AV.ref (4 : Nat) (0 : Nat) (List.length (Prod.snd r65))]]), Option.some (Go.AM.Blk.c (2 : Nat) (Prod.snd r65))]
noncomputable def C3_2 (Q : Bool → Prop) : Go.Code × Go.AM.Kx := sub X3 W3 fi3.code [1, 1, 1, 1, 1, 1, 1, 1, 1, 0, 1, 0] [] (finK T fi3 0 (N3 Q))
noncomputable def L3_2 (b : Int) (r1 : Bool × List Go.AM.D) (r2 : Bool × List Go.AM.D) (r3 : Int × Int) (r65 : Bool × List Go.AM.D) (Q : Bool → Prop) (s : (Int)) : Prop := ∃ n, loopV X3 W3 (C3_2 Q) n (E3_2 b r1 r2 r3 r65 s) (H3_2 b r1 r2 r3 r65 s)
def B3_2 (a : Bool × List Go.AM.D) (b : Int) (c : Int × Int × Bool × Int × Int) (r1 : Bool × List Go.AM.D) (r2 : Bool × List Go.AM.D) (r3 : Int × Int) (r4 : Bool × List Go.AM.D ⊕ Bool × List Go.AM.D) (r65 : Bool × List Go.AM.D) (r66 : Bool) (Q : Bool → Prop) (s : (Int)) (R69 : Env → Heap → Prop) : Prop :=
  match s with
  | v68 =>
    cond (Decidable.decide (v68 < (5 : Int)))
    (cond (v68 != Go.IntKind.wrap Go.IntKind.i64 (Int.tmod b (7 : Int)))
      (F21 ((Prod.fst r65, List.take (List.length (Prod.snd r65)) (List.drop (0 : Nat) (Prod.snd r65)))) (v68)
        (fun (r70 : Int × Int) =>
        F21 ((Prod.fst r1, Prod.snd r1)) (v68)
          (fun (r71 : Int × Int) =>
          F20 ((Prod.fst r70, Prod.snd r70)) ((Prod.fst r71, Prod.snd r71))
            (fun (r72 : Bool) =>
            cond (!r72)
              (Q (Bool.false))
              (R69 (E3_2 b r1 r2 r3 r65 (Go.IntKind.wrap Go.IntKind.i64 (v68 + (1 : Int)))) (H3_2 b r1 r2 r3 r65 (Go.IntKind.wrap Go.IntKind.i64 (v68 + (1 : Int)))))))))
      (R69 (E3_2 b r1 r2 r3 r65 (Go.IntKind.wrap Go.IntKind.i64 (v68 + (1 : Int)))) (H3_2 b r1 r2 r3 r65 (Go.IntKind.wrap Go.IntKind.i64 (v68 + (1 : Int))))))
    (cond (Decidable.decide (Go.IntKind.wrap Go.IntKind.i64 (Int.tmod b (7 : Int)) < (5 : Int)))
      (F21 ((Prod.fst r1, Prod.snd r1)) (Go.IntKind.wrap Go.IntKind.i64 (Int.tmod b (7 : Int)))
        (fun (r73 : Int × Int) =>
        F20 ((Prod.fst r73, Prod.snd r73)) ((Prod.fst r3, Prod.snd r3))
          (fun (r74 : Bool) =>
          cond (!r74)
            (cond (Decidable.decide ((↑(List.length (Prod.snd r65)) : Int) > (0 : Int)))
              (F22 ((99 : Int))
                (fun (r75 : Int × Int) =>
                ((0 : Int) ≤ (0 : Int)) ∧
                ((0 : Nat) < List.length (Prod.snd r65)) ∧
                ((0 : Nat) < List.length (Prod.snd r65)) ∧
                F17_o ((Prod.fst r1, Prod.snd r1)) (Go.IntKind.wrap Go.IntKind.i64 (Int.tmod b (7 : Int))) ((Prod.fst r3, Prod.snd r3))
                  (fun (r76 : Bool × List Go.AM.D ⊕ Bool × List Go.AM.D) =>
                  Sum.elim (fun (r77 : Bool × List Go.AM.D) =>
                    F21 ((Prod.fst r77, Prod.snd r77)) (Go.IntKind.wrap Go.IntKind.i64 (Int.tmod b (7 : Int)))
                      (fun (r78 : Int × Int) =>
                      ((0 : Nat) < (1 : Nat)) ∧
                      cond (Prod.fst r65)
                        (F19 ((Prod.fst r1, Prod.snd r1)) ((Prod.fst r2, Prod.snd r2))
                          (fun (r79 : Bool) =>
                          cond (r79)
                            (cond (Decidable.decide (Go.IntKind.wrap Go.IntKind.i64 (Int.tmod b (7 : Int)) > (4 : Int)))
                              (F18 ((Prod.fst r78, Prod.snd r78))
                                (fun (r80 : Bool) =>
                                cond (r80)
                                  (Q (Bool.true))
                                  (cond (Decidable.decide (Go.IntKind.wrap Go.IntKind.i64 (Int.tmod b (7 : Int)) < (5 : Int)))
                                    (F20 ((Prod.fst r78, Prod.snd r78)) ((Prod.fst r3, Prod.snd r3))
                                      (fun (r81 : Bool) =>
                                      Q (r81)))
                                    (Q (Bool.false)))))
                              (cond (Decidable.decide (Go.IntKind.wrap Go.IntKind.i64 (Int.tmod b (7 : Int)) < (5 : Int)))
                                (F20 ((Prod.fst r78, Prod.snd r78)) ((Prod.fst r3, Prod.snd r3))
                                  (fun (r82 : Bool) =>
                                  Q (r82)))
                                (Q (Bool.false))))
                            (Q (Bool.false))))
                        (Q (Bool.false))))
                  (fun (r83 : Bool × List Go.AM.D) =>
                    F21 ((Prod.fst r83, List.take (List.length (Prod.snd r83)) (List.drop (0 : Nat) (Prod.snd r83)))) (Go.IntKind.wrap Go.IntKind.i64 (Int.tmod b (7 : Int)))
                      (fun (r84 : Int × Int) =>
                      ((0 : Nat) < (1 : Nat)) ∧
                      cond (Prod.fst r65)
                        (F19 ((Prod.fst r1, Prod.snd r1)) ((Prod.fst r2, Prod.snd r2))
                          (fun (r85 : Bool) =>
                          cond (r85)
                            (cond (Decidable.decide (Go.IntKind.wrap Go.IntKind.i64 (Int.tmod b (7 : Int)) > (4 : Int)))
                              (F18 ((Prod.fst r84, Prod.snd r84))
                                (fun (r86 : Bool) =>
                                cond (r86)
                                  (Q (Bool.true))
                                  (cond (Decidable.decide (Go.IntKind.wrap Go.IntKind.i64 (Int.tmod b (7 : Int)) < (5 : Int)))
                                    (F20 ((Prod.fst r84, Prod.snd r84)) ((Prod.fst r3, Prod.snd r3))
                                      (fun (r87 : Bool) =>
                                      Q (r87)))
                                    (Q (Bool.false)))))
                              (cond (Decidable.decide (Go.IntKind.wrap Go.IntKind.i64 (Int.tmod b (7 : Int)) < (5 : Int)))
                                (F20 ((Prod.fst r84, Prod.snd r84)) ((Prod.fst r3, Prod.snd r3))
                                  (fun (r88 : Bool) =>
                                  Q (r88)))
                                (Q (Bool.false))))
                            (Q (Bool.false))))
                        (Q (Bool.false)))) (r76))))
              (F17_o ((Prod.fst r1, Prod.snd r1)) (Go.IntKind.wrap Go.IntKind.i64 (Int.tmod b (7 : Int))) ((Prod.fst r3, Prod.snd r3))
                (fun (r89 : Bool × List Go.AM.D ⊕ Bool × List Go.AM.D) =>
                Sum.elim (fun (r90 : Bool × List Go.AM.D) =>
                  F21 ((Prod.fst r90, Prod.snd r90)) (Go.IntKind.wrap Go.IntKind.i64 (Int.tmod b (7 : Int)))
                    (fun (r91 : Int × Int) =>
                    ((0 : Nat) < (1 : Nat)) ∧
                    cond (Prod.fst r65)
                      (F19 ((Prod.fst r1, Prod.snd r1)) ((Prod.fst r2, Prod.snd r2))
                        (fun (r92 : Bool) =>
                        cond (r92)
                          (cond (Decidable.decide (Go.IntKind.wrap Go.IntKind.i64 (Int.tmod b (7 : Int)) > (4 : Int)))
                            (F18 ((Prod.fst r91, Prod.snd r91))
                              (fun (r93 : Bool) =>
                              cond (r93)
                                (Q (Bool.true))
                                (cond (Decidable.decide (Go.IntKind.wrap Go.IntKind.i64 (Int.tmod b (7 : Int)) < (5 : Int)))
                                  (F20 ((Prod.fst r91, Prod.snd r91)) ((Prod.fst r3, Prod.snd r3))
                                    (fun (r94 : Bool) =>
                                    Q (r94)))
                                  (Q (Bool.false)))))
                            (cond (Decidable.decide (Go.IntKind.wrap Go.IntKind.i64 (Int.tmod b (7 : Int)) < (5 : Int)))
                              (F20 ((Prod.fst r91, Prod.snd r91)) ((Prod.fst r3, Prod.snd r3))
                                (fun (r95 : Bool) =>
                                Q (r95)))
                              (Q (Bool.false))))
                          (Q (Bool.false))))
                      (Q (Bool.false))))
                (fun (r96 : Bool × List Go.AM.D) =>
                  F21 ((Prod.fst r96, List.take (List.length (Prod.snd r96)) (List.drop (0 : Nat) (Prod.snd r96)))) (Go.IntKind.wrap Go.IntKind.i64 (Int.tmod b (7 : Int)))
                    (fun (r97 : Int × Int) =>
                    ((0 : Nat) < (1 : Nat)) ∧
                    cond (Prod.fst r65)
                      (F19 ((Prod.fst r1, Prod.snd r1)) ((Prod.fst r2, Prod.snd r2))
                        (fun (r98 : Bool) =>
                        cond (r98)
                          (cond (Decidable.decide (Go.IntKind.wrap Go.IntKind.i64 (Int.tmod b (7 : Int)) > (4 : Int)))
                            (F18 ((Prod.fst r97, Prod.snd r97))
                              (fun (r99 : Bool) =>
                              cond (r99)
                                (Q (Bool.true))
                                (cond (Decidable.decide (Go.IntKind.wrap Go.IntKind.i64 (Int.tmod b (7 : Int)) < (5 : Int)))
                                  (F20 ((Prod.fst r97, Prod.snd r97)) ((Prod.fst r3, Prod.snd r3))
                                    (fun (r100 : Bool) =>
                                    Q (r100)))
                                  (Q (Bool.false)))))
                            (cond (Decidable.decide (Go.IntKind.wrap Go.IntKind.i64 (Int.tmod b (7 : Int)) < (5 : Int)))
                              (F20 ((Prod.fst r97, Prod.snd r97)) ((Prod.fst r3, Prod.snd r3))
                                (fun (r101 : Bool) =>
                                Q (r101)))
                              (Q (Bool.false))))
                          (Q (Bool.false))))
                      (Q (Bool.false)))) (r89))))
            (F17_o ((Prod.fst r1, Prod.snd r1)) (Go.IntKind.wrap Go.IntKind.i64 (Int.tmod b (7 : Int))) ((Prod.fst r3, Prod.snd r3))
              (fun (r102 : Bool × List Go.AM.D ⊕ Bool × List Go.AM.D) =>
              Sum.elim (fun (r103 : Bool × List Go.AM.D) =>
                F21 ((Prod.fst r103, Prod.snd r103)) (Go.IntKind.wrap Go.IntKind.i64 (Int.tmod b (7 : Int)))
                  (fun (r104 : Int × Int) =>
                  ((0 : Nat) < (1 : Nat)) ∧
                  cond (Prod.fst r65)
                    (F19 ((Prod.fst r1, Prod.snd r1)) ((Prod.fst r2, Prod.snd r2))
                      (fun (r105 : Bool) =>
                      cond (r105)
                        (cond (Decidable.decide (Go.IntKind.wrap Go.IntKind.i64 (Int.tmod b (7 : Int)) > (4 : Int)))
                          (F18 ((Prod.fst r104, Prod.snd r104))
                            (fun (r106 : Bool) =>
                            cond (r106)
                              (Q (Bool.true))
                              (cond (Decidable.decide (Go.IntKind.wrap Go.IntKind.i64 (Int.tmod b (7 : Int)) < (5 : Int)))
                                (F20 ((Prod.fst r104, Prod.snd r104)) ((Prod.fst r3, Prod.snd r3))
                                  (fun (r107 : Bool) =>
                                  Q (r107)))
                                (Q (Bool.false)))))
                          (cond (Decidable.decide (Go.IntKind.wrap Go.IntKind.i64 (Int.tmod b (7 : Int)) < (5 : Int)))
                            (F20 ((Prod.fst r104, Prod.snd r104)) ((Prod.fst r3, Prod.snd r3))
                              (fun (r108 : Bool) =>
                              Q (r108)))
                            (Q (Bool.false))))
                        (Q (Bool.false))))
                    (Q (Bool.false))))
              (fun (r109 : Bool × List Go.AM.D) =>
                F21 ((Prod.fst r109, List.take (List.length (Prod.snd r109)) (List.drop (0 : Nat) (Prod.snd r109)))) (Go.IntKind.wrap Go.IntKind.i64 (Int.tmod b (7 : Int)))
                  (fun (r110 : Int × Int) =>
                  ((0 : Nat) < (1 : Nat)) ∧
                  cond (Prod.fst r65)
                    (F19 ((Prod.fst r1, Prod.snd r1)) ((Prod.fst r2, Prod.snd r2))
                      (fun (r111 : Bool) =>
                      cond (r111)
                        (cond (Decidable.decide (Go.IntKind.wrap Go.IntKind.i64 (Int.tmod b (7 : Int)) > (4 : Int)))
                          (F18 ((Prod.fst r110, Prod.snd r110))
                            (fun (r112 : Bool) =>
                            cond (r112)
                              (Q (Bool.true))
                              (cond (Decidable.decide (Go.IntKind.wrap Go.IntKind.i64 (Int.tmod b (7 : Int)) < (5 : Int)))
                                (F20 ((Prod.fst r110, Prod.snd r110)) ((Prod.fst r3, Prod.snd r3))
                                  (fun (r113 : Bool) =>
                                  Q (r113)))
                                (Q (Bool.false)))))
                          (cond (Decidable.decide (Go.IntKind.wrap Go.IntKind.i64 (Int.tmod b (7 : Int)) < (5 : Int)))
                            (F20 ((Prod.fst r110, Prod.snd r110)) ((Prod.fst r3, Prod.snd r3))
                              (fun (r114 : Bool) =>
                              Q (r114)))
                            (Q (Bool.false))))
                        (Q (Bool.false))))
                    (Q (Bool.false)))) (r102))))))
      (F17_o ((Prod.fst r1, Prod.snd r1)) (Go.IntKind.wrap Go.IntKind.i64 (Int.tmod b (7 : Int))) ((Prod.fst r3, Prod.snd r3))
        (fun (r115 : Bool × List Go.AM.D ⊕ Bool × List Go.AM.D) =>
        Sum.elim (fun (r116 : Bool × List Go.AM.D) =>
          F21 ((Prod.fst r116, Prod.snd r116)) (Go.IntKind.wrap Go.IntKind.i64 (Int.tmod b (7 : Int)))
            (fun (r117 : Int × Int) =>
            ((0 : Nat) < (1 : Nat)) ∧
            cond (Prod.fst r65)
              (F19 ((Prod.fst r1, Prod.snd r1)) ((Prod.fst r2, Prod.snd r2))
                (fun (r118 : Bool) =>
                cond (r118)
                  (cond (Decidable.decide (Go.IntKind.wrap Go.IntKind.i64 (Int.tmod b (7 : Int)) > (4 : Int)))
                    (F18 ((Prod.fst r117, Prod.snd r117))
                      (fun (r119 : Bool) =>
                      cond (r119)
                        (Q (Bool.true))
                        (cond (Decidable.decide (Go.IntKind.wrap Go.IntKind.i64 (Int.tmod b (7 : Int)) < (5 : Int)))
                          (F20 ((Prod.fst r117, Prod.snd r117)) ((Prod.fst r3, Prod.snd r3))
                            (fun (r120 : Bool) =>
                            Q (r120)))
                          (Q (Bool.false)))))
                    (cond (Decidable.decide (Go.IntKind.wrap Go.IntKind.i64 (Int.tmod b (7 : Int)) < (5 : Int)))
                      (F20 ((Prod.fst r117, Prod.snd r117)) ((Prod.fst r3, Prod.snd r3))
                        (fun (r121 : Bool) =>
                        Q (r121)))
                      (Q (Bool.false))))
                  (Q (Bool.false))))
              (Q (Bool.false))))
        (fun (r122 : Bool × List Go.AM.D) =>
          F21 ((Prod.fst r122, List.take (List.length (Prod.snd r122)) (List.drop (0 : Nat) (Prod.snd r122)))) (Go.IntKind.wrap Go.IntKind.i64 (Int.tmod b (7 : Int)))
            (fun (r123 : Int × Int) =>
            ((0 : Nat) < (1 : Nat)) ∧
            cond (Prod.fst r65)
              (F19 ((Prod.fst r1, Prod.snd r1)) ((Prod.fst r2, Prod.snd r2))
                (fun (r124 : Bool) =>
                cond (r124)
                  (cond (Decidable.decide (Go.IntKind.wrap Go.IntKind.i64 (Int.tmod b (7 : Int)) > (4 : Int)))
                    (F18 ((Prod.fst r123, Prod.snd r123))
                      (fun (r125 : Bool) =>
                      cond (r125)
                        (Q (Bool.true))
                        (cond (Decidable.decide (Go.IntKind.wrap Go.IntKind.i64 (Int.tmod b (7 : Int)) < (5 : Int)))
                          (F20 ((Prod.fst r123, Prod.snd r123)) ((Prod.fst r3, Prod.snd r3))
                            (fun (r126 : Bool) =>
                            Q (r126)))
                          (Q (Bool.false)))))
                    (cond (Decidable.decide (Go.IntKind.wrap Go.IntKind.i64 (Int.tmod b (7 : Int)) < (5 : Int)))
                      (F20 ((Prod.fst r123, Prod.snd r123)) ((Prod.fst r3, Prod.snd r3))
                        (fun (r127 : Bool) =>
                        Q (r127)))
                      (Q (Bool.false))))
                  (Q (Bool.false))))
              (Q (Bool.false)))) (r115))))
theorem B3_2_eq (a : Bool × List Go.AM.D) (b : Int) (c : Int × Int × Bool × Int × Int) (r1 : Bool × List Go.AM.D) (r2 : Bool × List Go.AM.D) (r3 : Int × Int) (r4 : Bool × List Go.AM.D ⊕ Bool × List Go.AM.D) (r65 : Bool × List Go.AM.D) (r66 : Bool) (Q : Bool → Prop) (s : (Int)) (n : Nat) : loopV X3 W3 (C3_2 Q) (n + 1) (E3_2 b r1 r2 r3 r65 s) (H3_2 b r1 r2 r3 r65 s) = B3_2 a b c r1 r2 r3 r4 r65 r66 Q s (fun env H => loopV X3 W3 (C3_2 Q) n env H) := by
  kernel_rfl
def F3 (a : Bool × List Go.AM.D) (b : Int) (c : Int × Int × Bool × Int × Int) (Q : Bool → Prop) : Prop :=
  F15 ((Prod.fst a, Prod.snd a)) ((5 : Int))
    (fun (r1 : Bool × List Go.AM.D) =>
    ((0 : Nat) < (1 : Nat)) ∧
    F15 ((Prod.fst a, Prod.snd a)) ((5 : Int))
      (fun (r2 : Bool × List Go.AM.D) =>
      ((0 : Nat) < (1 : Nat)) ∧
      ((7 : Int) ≠ (0 : Int)) ∧
      F16 ((Prod.fst c, Prod.fst (Prod.snd c), Prod.fst (Prod.snd (Prod.snd c)), Prod.fst (Prod.snd (Prod.snd (Prod.snd c))), Prod.snd (Prod.snd (Prod.snd (Prod.snd c)))))
        (fun (r3 : Int × Int) =>
        ((0 : Nat) < (1 : Nat)) ∧
        F17_o ((Prod.fst r1, Prod.snd r1)) (Go.IntKind.wrap Go.IntKind.i64 (Int.tmod b (7 : Int))) ((Prod.fst r3, Prod.snd r3))
          (fun (r4 : Bool × List Go.AM.D ⊕ Bool × List Go.AM.D) =>
          Sum.elim (fun (r5 : Bool × List Go.AM.D) =>
            ((0 : Nat) < (1 : Nat)) ∧
            F18 ((Prod.fst r3, Prod.snd r3))
              (fun (r6 : Bool) =>
              cond (r6)
                (cond (!Prod.fst r5)
                  (F19 ((Prod.fst r1, Prod.snd r1)) ((Prod.fst r2, Prod.snd r2))
                    (fun (r7 : Bool) =>
                    Q (r7)))
                  (Q (Bool.false)))
                (L3_1 b r1 r2 r3 r5 Q ((0 : Int)))))
          (fun (r65 : Bool × List Go.AM.D) =>
            ((0 : Nat) < (1 : Nat)) ∧
            F18 ((Prod.fst r3, Prod.snd r3))
              (fun (r66 : Bool) =>
              cond (r66)
                (cond (!Prod.fst r65)
                  (F19 ((Prod.fst r1, Prod.snd r1)) ((Prod.fst r2, Prod.snd r2))
                    (fun (r67 : Bool) =>
                    Q (r67)))
                  (Q (Bool.false)))
                (L3_2 b r1 r2 r3 r65 Q ((0 : Int))))) (r4)))))

theorem F3_eq (x : Ars.T sig3.args) (Q : Shs.T sig3.res → Prop) : callBodyK T (callOf l3) (cwOf l3) fi3 (Ars.enc sig3.args x) [] (endK sig3 Q) = F3 x.1 x.2.1 x.2.2 Q := by
  kernel_rfl
theorem fi3_ok : fi3.ok Try.prog 3 := ⟨Try.func3, by decide, rfl, by rfl⟩
noncomputable def e3 : Entry Try.prog := mkE hT hm 3 fi3 fi3_ok l3 sig3 (fun x Q => F3 x.1 x.2.1 x.2.2 Q) F3_eq
end Go.Proofs.Ytankppgafdcknaa
