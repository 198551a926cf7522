/- Texts joined into one: the first of them is told below. -/
import Derived.Test.YtankppgafdcknaaWb
import Derived.Test.YtankppgafdcknaaWa
/- billhook/billhooklaw12.StateHolds: what its walk makes hold. -/
set_option linter.unusedVariables false
set_option maxRecDepth 100000
open Go Go.AM
namespace Go.Proofs.Ytankppgafdcknaa
def sig12 : Sig := ⟨[.v (.st [.bool, .sl 5]), .v (.st [.bool, .sl 5]), .v (.c (.sl 1)), .v (.c (.int .u8)), .v (.st [.int .i64, .int .i64, .bool, .int .u8, .int .u8]), .v (.c (.int .u64))], [.c .bool]⟩
noncomputable def fi12 : Fi := mkFi T Try.f12 { live := fun d => if Nat.beq d 8 then slots 163 [2, 3, 5, 10, 13, 14, 15, 16, 17] else none, own := isIn [16] }
noncomputable def l12 : List (Entry Try.prog) := [e14, e15, e39, e40, e41, e42, e43, e16, e44, e18, e17, e45]
abbrev N12 (Q : Shs.T sig12.res → Prop) : AV → Heap → Prop := endK sig12 Q
noncomputable abbrev X12 : Px := fi12.px T (callOf l12) 0
noncomputable abbrev W12 : CallW := cwOf l12
def E12_1 (c : List Go.AM.D) (d : Int) (e : Int × Int × Bool × Int × Int) (f : Int) (r1 : Bool × List Go.AM.D) (r2 : Bool × List Go.AM.D) (s : (Int) × (List Go.AM.D)) : Env :=
  match s with
  | (v3, v4) =>
    [Go.AM.AV.bad, Go.AM.AV.bad, Go.AM.AV.im (Go.AM.D.sl Bool.false (1 : Nat) c), Go.AM.AV.im (Go.AM.D.int Go.IntKind.u8 d), Go.AM.AV.bad, Go.AM.AV.im (Go.AM.D.int Go.IntKind.u64 f), Go.AM.AV.bad, Go.AM.AV.bad, Go.AM.AV.bad, Go.AM.AV.bad, Go.AM.AV.ptr (0 : Nat) (0 : Nat) (0 : Nat), Go.AM.AV.bad, Go.AM.AV.bad, Go.AM.AV.im (Go.AM.D.bool Bool.true), Go.AM.AV.ptr (1 : Nat) (0 : Nat) (0 : Nat), Go.AM.AV.ptr (2 : Nat) (0 : Nat) (0 : Nat), Go.AM.AV.ref (3 : Nat) (0 : Nat) (List.length v4), Go.AM.AV.im (Go.AM.D.int Go.IntKind.i64 v3), Go.AM.AV.bad, Go.AM.AV.bad, Go.AM.AV.bad, Go.AM.AV.bad, Go.AM.AV.bad, Go.AM.AV.bad, Go.AM.AV.bad, Go.AM.AV.bad, Go.AM.AV.bad, Go.AM.AV.bad, Go.AM.AV.bad, Go.AM.AV.bad, Go.AM.AV.bad, Go.AM.AV.bad, Go.AM.AV.bad, Go.AM.AV.bad, Go.AM.AV.bad, Go.AM.AV.bad, Go.AM.AV.bad, Go.AM.AV.bad, Go.AM.AV.bad, Go.AM.AV.bad, Go.AM.AV.bad, Go.AM.AV.bad, Go.AM.AV.bad, Go.AM.AV.bad, Go.AM.AV.bad, Go.AM.AV.bad, Go.AM.AV.bad, Go.AM.AV.bad, Go.AM.AV.bad, Go.AM.AV.bad, Go.AM.AV.bad, Go.AM.AV.bad, Go.AM.AV.bad, Go.AM.AV.bad, Go.AM.AV.bad, Go.AM.AV.bad, Go.AM.AV.bad, Go.AM.AV.bad, Go.AM.AV.bad, Go.AM.AV.bad, Go.AM.AV.bad, Go.AM.AV.bad, Go.AM.AV.bad, Go.AM.AV.bad, Go.AM.AV.bad, Go.AM.AV.bad, Go.AM.AV.bad, Go.AM.AV.bad, Go.AM.AV.bad, Go.AM.AV.bad, Go.AM.AV.bad, Go.AM.AV.bad, Go.AM.AV.bad, Go.AM.AV.bad, Go.AM.AV.bad, Go.AM.AV.bad, Go.AM.AV.bad, Go.AM.AV.bad, Go.AM.AV.bad, Go.AM.AV.bad, Go.AM.AV.bad, Go.AM.AV.bad, Go.AM.AV.bad, Go.AM.AV.bad, Go.AM.AV.bad, Go.AM.AV.bad, Go.AM.AV.bad, Go.AM.AV.bad, Go.AM.AV.bad, Go.AM.AV.bad, Go.AM.AV.bad, Go.AM.AV.bad, Go.AM.AV.bad, Go.AM.AV.bad, Go.AM.AV.bad, Go.AM.AV.bad, Go.AM.AV.bad, Go.AM.AV.bad, Go.AM.AV.bad, Go.AM.AV.bad, Go.AM.AV.bad, Go.AM.AV.bad, Go.AM.AV.bad, Go.AM.AV.bad, Go.AM.AV.bad, Go.AM.AV.bad, Go.AM.AV.bad, Go.AM.AV.bad, Go.AM.AV.bad, Go.AM.AV.bad, Go.AM.AV.bad, Go.AM.AV.bad, Go.AM.AV.bad, Go.AM.AV.bad, Go.AM.AV.bad, Go.AM.AV.bad, Go.AM.AV.bad, Go.AM.AV.bad, Go.AM.AV.bad, Go.AM.AV.bad, Go.AM.AV.bad, Go.AM.AV.bad, Go.AM.AV.bad, Go.AM.AV.bad, Go.AM.AV.bad, Go.AM.AV.bad, Go.AM.AV.bad, Go.AM.AV.bad, Go.AM.AV.bad, Go.AM.AV.bad, Go.AM.AV.bad, Go.AM.AV.bad, Go.AM.AV.bad, Go.AM.AV.bad, Go.AM.AV.bad, Go.AM.AV.bad, Go.AM.AV.bad, Go.AM.AV.bad, Go.AM.AV.bad, Go.AM.AV.bad, Go.AM.AV.bad, Go.AM.AV.bad, Go.AM.AV.bad, Go.AM.AV.bad, Go.AM.AV.bad, Go.AM.AV.bad, Go.AM.AV.bad, Go.AM.AV.bad, Go.AM.AV.bad, Go.AM.AV.bad, Go.AM.AV.bad, Go.AM.AV.bad, Go.AM.AV.bad, Go.AM.AV.bad, Go.AM.AV.bad, Go.AM.AV.bad, Go.AM.AV.bad, Go.AM.AV.bad, Go.AM.AV.bad, Go.AM.AV.bad, Go.AM.AV.bad, Go.AM.AV.bad, Go.AM.AV.bad]
def H12_1 (c : List Go.AM.D) (d : Int) (e : Int × Int × Bool × Int × Int) (f : Int) (r1 : Bool × List Go.AM.D) (r2 : Bool × List Go.AM.D) (s : (Int) × (List Go.AM.D)) : Heap :=
  match s with
  | (v3, v4) =>
    [Option.some (Go.AM.Blk.c (5 : Nat) [Go.AM.D.agg [Go.AM.D.int Go.IntKind.i64 (Prod.fst e), Go.AM.D.int Go.IntKind.i64 (Prod.fst (Prod.snd e)), Go.AM.D.bool (Prod.fst (Prod.snd (Prod.snd e))), Go.AM.D.int Go.IntKind.u8 (Prod.fst (Prod.snd (Prod.snd (Prod.snd e)))), Go.AM.D.int Go.IntKind.u8 (Prod.snd (Prod.snd (Prod.snd (Prod.snd e))))]]), Option.some (Go.AM.Blk.c (2 : Nat) [Go.AM.D.agg [Go.AM.D.bool (Prod.fst r1), Go.AM.D.sl Bool.false (2 : Nat) (Prod.snd r1)]]), Option.some (Go.AM.Blk.c (2 : Nat) [Go.AM.D.agg [Go.AM.D.bool (Prod.fst r2), Go.AM.D.sl Bool.false (2 : Nat) (Prod.snd r2)]]), Option.some (Go.AM.Blk.c (3 : Nat) v4)]
noncomputable def C12_1 (Q : Bool → Prop) : Go.Code × Go.AM.Kx := sub X12 W12 fi12.code [1, 1, 1, 1, 1, 1, 0, 1, 0] [] (finK T fi12 0 (N12 Q))
noncomputable def L12_1 (c : List Go.AM.D) (d : Int) (e : Int × Int × Bool × Int × Int) (f : Int) (r1 : Bool × List Go.AM.D) (r2 : Bool × List Go.AM.D) (Q : Bool → Prop) (s : (Int) × (List Go.AM.D)) : Prop := ∃ n, loopV X12 W12 (C12_1 Q) n (E12_1 c d e f r1 r2 s) (H12_1 c d e f r1 r2 s)
def B12_1 (a : Bool × List Go.AM.D) (b : Bool × List Go.AM.D) (c : List Go.AM.D) (d : Int) (e : Int × Int × Bool × Int × Int) (f : Int) (r1 : Bool × List Go.AM.D) (r2 : Bool × List Go.AM.D) (Q : Bool → Prop) (s : (Int) × (List Go.AM.D)) (R5 : Env → Heap → Prop) : Prop :=
  match s with
  | (v3, v4) =>
    cond (Decidable.decide (v3 < (5 : Int)))
    (cond (Decidable.decide (v3 < (↑(List.length c) : Int)))
      (((0 : Int) ≤ v3) ∧
      optP (c[Int.toNat v3]?) fun (d6 : Go.AM.D) =>
        optP (Go.AM.D.asInt Go.IntKind.u64 d6) fun (d7 : Int) =>
          ((0 : Int) ≤ v3) ∧
          optP ((Prod.snd r1)[Int.toNat v3]?) fun (d8 : Go.AM.D) =>
            optP (Go.AM.D.asAgg d8) fun (d9 : List Go.AM.D) =>
              (match d9 with
                | [] => False
                | d10 :: l11 =>
                (match l11 with
                  | [] => False
                  | d12 :: l13 =>
                  (match l13 with
                    | [] => optP (Go.AM.D.asInt Go.IntKind.i64 d10) fun (d16 : Int) =>
                      optP (Go.AM.D.asInt Go.IntKind.i64 d12) fun (d17 : Int) =>
                        F39 ((d16, d17)) (d7)
                          (fun (r18 : Int) =>
                          (List.length (List.take (List.length v4) (List.drop (0 : Nat) v4) ++ [Go.AM.D.agg [Go.AM.D.str [], Go.AM.D.bool Bool.false, Go.AM.D.sl Bool.true (1 : Nat) [Go.AM.D.int Go.IntKind.i64 r18]]]) * (48 : Nat) ≤ (140737488355328 : Nat)) ∧
                          (List.length (List.take (List.length v4) (List.drop (0 : Nat) v4) ++ [Go.AM.D.agg [Go.AM.D.str [], Go.AM.D.bool Bool.false, Go.AM.D.sl Bool.true (1 : Nat) [Go.AM.D.int Go.IntKind.i64 r18]]]) ≤ (140737488355328 : Nat)) ∧
                          R5 (E12_1 c d e f r1 r2 ((Go.IntKind.wrap Go.IntKind.i64 (v3 + (1 : Int)), List.take (List.length v4) (List.drop (0 : Nat) v4) ++ [Go.AM.D.agg [Go.AM.D.str [], Go.AM.D.bool Bool.false, Go.AM.D.sl Bool.true (1 : Nat) [Go.AM.D.int Go.IntKind.i64 r18]]]))) (H12_1 c d e f r1 r2 ((Go.IntKind.wrap Go.IntKind.i64 (v3 + (1 : Int)), List.take (List.length v4) (List.drop (0 : Nat) v4) ++ [Go.AM.D.agg [Go.AM.D.str [], Go.AM.D.bool Bool.false, Go.AM.D.sl Bool.true (1 : Nat) [Go.AM.D.int Go.IntKind.i64 r18]]]))))
                    | d14 :: l15 =>
                    False))))
      (((0 : Int) ≤ v3) ∧
      optP ((Prod.snd r1)[Int.toNat v3]?) fun (d19 : Go.AM.D) =>
        optP (Go.AM.D.asAgg d19) fun (d20 : List Go.AM.D) =>
          (match d20 with
            | [] => False
            | d21 :: l22 =>
            (match l22 with
              | [] => False
              | d23 :: l24 =>
              (match l24 with
                | [] => optP (Go.AM.D.asInt Go.IntKind.i64 d21) fun (d27 : Int) =>
                  optP (Go.AM.D.asInt Go.IntKind.i64 d23) fun (d28 : Int) =>
                    F39 ((d27, d28)) (Go.IntKind.wrap Go.IntKind.u64 v3)
                      (fun (r29 : Int) =>
                      (List.length (List.take (List.length v4) (List.drop (0 : Nat) v4) ++ [Go.AM.D.agg [Go.AM.D.str [], Go.AM.D.bool Bool.false, Go.AM.D.sl Bool.true (1 : Nat) [Go.AM.D.int Go.IntKind.i64 r29]]]) * (48 : Nat) ≤ (140737488355328 : Nat)) ∧
                      (List.length (List.take (List.length v4) (List.drop (0 : Nat) v4) ++ [Go.AM.D.agg [Go.AM.D.str [], Go.AM.D.bool Bool.false, Go.AM.D.sl Bool.true (1 : Nat) [Go.AM.D.int Go.IntKind.i64 r29]]]) ≤ (140737488355328 : Nat)) ∧
                      R5 (E12_1 c d e f r1 r2 ((Go.IntKind.wrap Go.IntKind.i64 (v3 + (1 : Int)), List.take (List.length v4) (List.drop (0 : Nat) v4) ++ [Go.AM.D.agg [Go.AM.D.str [], Go.AM.D.bool Bool.false, Go.AM.D.sl Bool.true (1 : Nat) [Go.AM.D.int Go.IntKind.i64 r29]]]))) (H12_1 c d e f r1 r2 ((Go.IntKind.wrap Go.IntKind.i64 (v3 + (1 : Int)), List.take (List.length v4) (List.drop (0 : Nat) v4) ++ [Go.AM.D.agg [Go.AM.D.str [], Go.AM.D.bool Bool.false, Go.AM.D.sl Bool.true (1 : Nat) [Go.AM.D.int Go.IntKind.i64 r29]]]))))
                | d25 :: l26 =>
                False)))))
    (F40 ((Prod.fst r1, Prod.snd r1)) (List.take (List.length v4) (List.drop (0 : Nat) v4))
      (fun (r30 : Bool) =>
      cond (!r30)
        (Q (Bool.false))
        (F41 ((Prod.fst r1, Prod.snd r1)) ((Prod.fst r2, Prod.snd r2))
          (fun (r31 : Bool × List Go.AM.D) =>
          F40 ((Prod.fst r31, Prod.snd r31)) (List.take (List.length v4) (List.drop (0 : Nat) v4))
            (fun (r32 : Bool) =>
            cond (!r32)
              (Q (Bool.false))
              (F41 ((Prod.fst r2, Prod.snd r2)) ((Prod.fst r1, Prod.snd r1))
                (fun (r33 : Bool × List Go.AM.D) =>
                F40 ((Prod.fst r33, Prod.snd r33)) (List.take (List.length v4) (List.drop (0 : Nat) v4))
                  (fun (r34 : Bool) =>
                  cond (!r34)
                    (Q (Bool.false))
                    (F42 ((Prod.fst r1, Prod.snd r1)) ((Prod.fst r2, Prod.snd r2))
                      (fun (r35 : Bool × List Go.AM.D) =>
                      F40 ((Prod.fst r35, Prod.snd r35)) (List.take (List.length v4) (List.drop (0 : Nat) v4))
                        (fun (r36 : Bool) =>
                        cond (!r36)
                          (Q (Bool.false))
                          (F42 ((Prod.fst r2, Prod.snd r2)) ((Prod.fst r1, Prod.snd r1))
                            (fun (r37 : Bool × List Go.AM.D) =>
                            F40 ((Prod.fst r37, Prod.snd r37)) (List.take (List.length v4) (List.drop (0 : Nat) v4))
                              (fun (r38 : Bool) =>
                              cond (!r38)
                                (Q (Bool.false))
                                (F43
                                  (fun (r39 : Bool × List Go.AM.D) =>
                                  F40 ((Prod.fst r39, Prod.snd r39)) (List.take (List.length v4) (List.drop (0 : Nat) v4))
                                    (fun (r40 : Bool) =>
                                    cond (r40)
                                      (Q (Bool.false))
                                      (F16 ((Prod.fst e, Prod.fst (Prod.snd e), Prod.fst (Prod.snd (Prod.snd e)), Prod.fst (Prod.snd (Prod.snd (Prod.snd e))), Prod.snd (Prod.snd (Prod.snd (Prod.snd e)))))
                                        (fun (r41 : Int × Int) =>
                                        ((0 : Nat) < (1 : Nat)) ∧
                                        ((5 : Int) ≠ (0 : Int)) ∧
                                        F44 ((Prod.fst r1, Prod.snd r1)) (Go.IntKind.wrap Go.IntKind.i64 (Int.tmod d (5 : Int))) ((Prod.fst r41, Prod.snd r41))
                                          (fun (r42 : Bool × List Go.AM.D) =>
                                          ((0 : Nat) < (1 : Nat)) ∧
                                          F18 ((Prod.fst r41, Prod.snd r41))
                                            (fun (r43 : Bool) =>
                                            cond (r43)
                                              (F17 ((Prod.fst r1, Prod.snd r1)) (Go.IntKind.wrap Go.IntKind.i64 (Int.tmod d (5 : Int))) ((Prod.fst r41, Prod.snd r41))
                                                (fun (r44 : Bool × List Go.AM.D) =>
                                                cond (!Prod.fst r44)
                                                  (F40 ((Prod.fst r42, Prod.snd r42)) (List.take (List.length v4) (List.drop (0 : Nat) v4))
                                                    (fun (r45 : Bool) =>
                                                    Q (r45)))
                                                  (Q (Bool.false))))
                                              (F39 ((Prod.fst r41, Prod.snd r41)) (f)
                                                (fun (r46 : Int) =>
                                                F40 ((Prod.fst r42, Prod.snd r42)) (List.take (List.length v4) (List.drop (0 : Nat) v4))
                                                  (fun (r47 : Bool) =>
                                                  cond (!r47)
                                                    (Q (Bool.false))
                                                    (((0 : Int) ≤ Go.IntKind.wrap Go.IntKind.i64 (Int.tmod d (5 : Int))) ∧
                                                    (Int.toNat (Go.IntKind.wrap Go.IntKind.i64 (Int.tmod d (5 : Int))) < List.length v4) ∧
                                                    ((0 : Nat) + Int.toNat (Go.IntKind.wrap Go.IntKind.i64 (Int.tmod d (5 : Int))) < List.length v4) ∧
                                                    F17 ((Prod.fst r1, Prod.snd r1)) (Go.IntKind.wrap Go.IntKind.i64 (Int.tmod d (5 : Int))) ((Prod.fst r41, Prod.snd r41))
                                                      (fun (r48 : Bool × List Go.AM.D) =>
                                                      F40 ((Prod.fst r48, Prod.snd r48)) (List.take (List.length v4) (List.drop (0 : Nat) (List.set v4 ((0 : Nat) + Int.toNat (Go.IntKind.wrap Go.IntKind.i64 (Int.tmod d (5 : Int)))) (Go.AM.D.agg [Go.AM.D.str [], Go.AM.D.bool Bool.false, Go.AM.D.sl Bool.true (1 : Nat) [Go.AM.D.int Go.IntKind.i64 r46, Go.AM.D.int Go.IntKind.i64 r46]]))))
                                                        (fun (r49 : Bool) =>
                                                        cond (r49)
                                                          (F40 ((Prod.fst r42, Prod.snd r42)) (List.take (List.length v4) (List.drop (0 : Nat) (List.set v4 ((0 : Nat) + Int.toNat (Go.IntKind.wrap Go.IntKind.i64 (Int.tmod d (5 : Int)))) (Go.AM.D.agg [Go.AM.D.str [], Go.AM.D.bool Bool.false, Go.AM.D.sl Bool.true (1 : Nat) [Go.AM.D.int Go.IntKind.i64 r46, Go.AM.D.int Go.IntKind.i64 r46]]))))
                                                            (fun (r50 : Bool) =>
                                                            cond (r50)
                                                              (F40 ((Prod.fst r1, Prod.snd r1)) (List.take (List.length v4) (List.drop (0 : Nat) (List.set v4 ((0 : Nat) + Int.toNat (Go.IntKind.wrap Go.IntKind.i64 (Int.tmod d (5 : Int)))) (Go.AM.D.agg [Go.AM.D.str [], Go.AM.D.bool Bool.false, Go.AM.D.sl Bool.true (1 : Nat) [Go.AM.D.int Go.IntKind.i64 r46, Go.AM.D.int Go.IntKind.i64 r46]]))))
                                                                (fun (r51 : Bool) =>
                                                                ((0 : Int) ≤ Go.IntKind.wrap Go.IntKind.i64 (Int.tmod d (5 : Int))) ∧
                                                                optP ((Prod.snd r1)[Int.toNat (Go.IntKind.wrap Go.IntKind.i64 (Int.tmod d (5 : Int)))]?) fun (d52 : Go.AM.D) =>
                                                                  optP (Go.AM.D.asAgg d52) fun (d53 : List Go.AM.D) =>
                                                                    (match d53 with
                                                                      | [] => False
                                                                      | d54 :: l55 =>
                                                                      (match l55 with
                                                                        | [] => False
                                                                        | d56 :: l57 =>
                                                                        (match l57 with
                                                                          | [] => optP (Go.AM.D.asInt Go.IntKind.i64 d54) fun (d60 : Int) =>
                                                                            optP (Go.AM.D.asInt Go.IntKind.i64 d56) fun (d61 : Int) =>
                                                                              F45 ((d60, d61)) (r46)
                                                                                (fun (r62 : Bool) =>
                                                                                Q (r51 == r62))
                                                                          | d58 :: l59 =>
                                                                          False)))))
                                                              (Q (Bool.false))))
                                                          (Q (Bool.false)))))))))))))))))))))))))))))
theorem B12_1_eq (a : Bool × List Go.AM.D) (b : Bool × List Go.AM.D) (c : List Go.AM.D) (d : Int) (e : Int × Int × Bool × Int × Int) (f : Int) (r1 : Bool × List Go.AM.D) (r2 : Bool × List Go.AM.D) (Q : Bool → Prop) (s : (Int) × (List Go.AM.D)) (n : Nat) : loopV X12 W12 (C12_1 Q) (n + 1) (E12_1 c d e f r1 r2 s) (H12_1 c d e f r1 r2 s) = B12_1 a b c d e f r1 r2 Q s (fun env H => loopV X12 W12 (C12_1 Q) n env H) := by
  kernel_rfl
def F12 (a : Bool × List Go.AM.D) (b : Bool × List Go.AM.D) (c : List Go.AM.D) (d : Int) (e : Int × Int × Bool × Int × Int) (f : Int) (Q : Bool → Prop) : Prop :=
  F15 ((Prod.fst a, Prod.snd a)) ((5 : Int))
    (fun (r1 : Bool × List Go.AM.D) =>
    ((0 : Nat) < (1 : Nat)) ∧
    F15 ((Prod.fst b, Prod.snd b)) ((5 : Int))
      (fun (r2 : Bool × List Go.AM.D) =>
      ((0 : Nat) < (1 : Nat)) ∧
      L12_1 c d e f r1 r2 Q (((0 : Int), []))))

theorem F12_eq (x : Ars.T sig12.args) (Q : Shs.T sig12.res → Prop) : callBodyK T (callOf l12) (cwOf l12) fi12 (Ars.enc sig12.args x) [] (endK sig12 Q) = F12 x.1 x.2.1 x.2.2.1 x.2.2.2.1 x.2.2.2.2.1 x.2.2.2.2.2 Q := by
  kernel_rfl
theorem fi12_ok : fi12.ok Try.prog 12 := ⟨Try.func12, by decide, rfl, by rfl⟩
noncomputable def e12 : Entry Try.prog := mkE hT hm 12 fi12 fi12_ok l12 sig12 (fun x Q => F12 x.1 x.2.1 x.2.2.1 x.2.2.2.1 x.2.2.2.2.1 x.2.2.2.2.2 Q) F12_eq
end Go.Proofs.Ytankppgafdcknaa
