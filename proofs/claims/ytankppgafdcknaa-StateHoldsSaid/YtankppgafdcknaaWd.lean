/- Texts joined into one: the first of them is told below. -/
import Derived.Test.YtankppgafdcknaaWb
import Derived.Test.YtankppgafdcknaaWa
/- billhook/billhooklaw12.StateOrder: what its walk makes hold. -/
set_option linter.unusedVariables false
set_option maxRecDepth 100000
open Go Go.AM
namespace Go.Proofs.Ytankppgafdcknaa
def sig13 : Sig := ⟨[.v (.st [.bool, .sl 5]), .v (.st [.bool, .sl 5])], [.c .bool]⟩
noncomputable def fi13 : Fi := mkFi T Try.f13 {  }
noncomputable def l13 : List (Entry Try.prog) := [e14, e15, e41, e42, e46, e19, e43]
abbrev N13 (Q : Shs.T sig13.res → Prop) : AV → Heap → Prop := endK sig13 Q
noncomputable abbrev X13 : Px := fi13.px T (callOf l13) 0
noncomputable abbrev W13 : CallW := cwOf l13
def F13 (a : Bool × List Go.AM.D) (b : Bool × List Go.AM.D) (Q : Bool → Prop) : Prop :=
  F15 ((Prod.fst a, Prod.snd a)) ((4 : Int))
    (fun (r1 : Bool × List Go.AM.D) =>
    ((0 : Nat) < (1 : Nat)) ∧
    F15 ((Prod.fst b, Prod.snd b)) ((4 : Int))
      (fun (r2 : Bool × List Go.AM.D) =>
      ((0 : Nat) < (1 : Nat)) ∧
      F41 ((Prod.fst r1, Prod.snd r1)) ((Prod.fst r2, Prod.snd r2))
        (fun (r3 : Bool × List Go.AM.D) =>
        ((0 : Nat) < (1 : Nat)) ∧
        F42 ((Prod.fst r1, Prod.snd r1)) ((Prod.fst r2, Prod.snd r2))
          (fun (r4 : Bool × List Go.AM.D) =>
          ((0 : Nat) < (1 : Nat)) ∧
          F46 ((Prod.fst r1, Prod.snd r1)) ((Prod.fst r1, Prod.snd r1))
            (fun (r5 : Bool) =>
            cond (r5)
              (F46 ((Prod.fst r1, Prod.snd r1)) ((Prod.fst r3, Prod.snd r3))
                (fun (r6 : Bool) =>
                cond (r6)
                  (F46 ((Prod.fst r2, Prod.snd r2)) ((Prod.fst r3, Prod.snd r3))
                    (fun (r7 : Bool) =>
                    cond (r7)
                      (F46 ((Prod.fst r3, Prod.snd r3)) ((Prod.fst r4, Prod.snd r4))
                        (fun (r8 : Bool) =>
                        cond (r8)
                          (F46 ((Prod.fst r1, Prod.snd r1)) ((Prod.fst r2, Prod.snd r2))
                            (fun (r9 : Bool) =>
                            F19 ((Prod.fst r3, Prod.snd r3)) ((Prod.fst r2, Prod.snd r2))
                              (fun (r10 : Bool) =>
                              cond (r9 == r10)
                                (F43
                                  (fun (r11 : Bool × List Go.AM.D) =>
                                  F46 ((Prod.fst r11, Prod.snd r11)) ((Prod.fst r1, Prod.snd r1))
                                    (fun (r12 : Bool) =>
                                    cond (r12)
                                      (F43
                                        (fun (r13 : Bool × List Go.AM.D) =>
                                        F46 ((Prod.fst r1, Prod.snd r1)) ((Prod.fst r13, Prod.snd r13))
                                          (fun (r14 : Bool) =>
                                          cond (!r14)
                                            (F43
                                              (fun (r15 : Bool × List Go.AM.D) =>
                                              F41 ((Prod.fst r15, Prod.snd r15)) ((Prod.fst r1, Prod.snd r1))
                                                (fun (r16 : Bool × List Go.AM.D) =>
                                                F19 ((Prod.fst r16, Prod.snd r16)) ((Prod.fst r1, Prod.snd r1))
                                                  (fun (r17 : Bool) =>
                                                  cond (r17)
                                                    (F43
                                                      (fun (r18 : Bool × List Go.AM.D) =>
                                                      F41 ((Prod.fst r1, Prod.snd r1)) ((Prod.fst r18, Prod.snd r18))
                                                        (fun (r19 : Bool × List Go.AM.D) =>
                                                        F19 ((Prod.fst r19, Prod.snd r19)) ((Prod.fst r1, Prod.snd r1))
                                                          (fun (r20 : Bool) =>
                                                          cond (r20)
                                                            (F41 ((Prod.fst r2, Prod.snd r2)) ((Prod.fst r1, Prod.snd r1))
                                                              (fun (r21 : Bool × List Go.AM.D) =>
                                                              F19 ((Prod.fst r3, Prod.snd r3)) ((Prod.fst r21, Prod.snd r21))
                                                                (fun (r22 : Bool) =>
                                                                Q (r22))))
                                                            (Q (Bool.false))))))
                                                    (Q (Bool.false))))))
                                            (Q (Bool.false)))))
                                      (Q (Bool.false)))))
                                (Q (Bool.false)))))
                          (Q (Bool.false))))
                      (Q (Bool.false))))
                  (Q (Bool.false))))
              (Q (Bool.false)))))))

theorem F13_eq (x : Ars.T sig13.args) (Q : Shs.T sig13.res → Prop) : callBodyK T (callOf l13) (cwOf l13) fi13 (Ars.enc sig13.args x) [] (endK sig13 Q) = F13 x.1 x.2 Q := by
  kernel_rfl
theorem fi13_ok : fi13.ok Try.prog 13 := ⟨Try.func13, by decide, rfl, by rfl⟩
noncomputable def e13 : Entry Try.prog := mkE hT hm 13 fi13 fi13_ok l13 sig13 (fun x Q => F13 x.1 x.2 Q) F13_eq
end Go.Proofs.Ytankppgafdcknaa
