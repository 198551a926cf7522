/- Texts joined into one: Base F56 F58 F70_58 F57_58 F31 F37 T37 F28 F53 F29 F33 F34 F36 E26 C37. -/
import Derived.Test.YtankppgafdcknaaChecked
import Derived.Test.YtankppgafdcknaaKc
import Derived.KernelRfl
import Derived.Laws.StructEq
import Derived.Test.YtankppgafdcknaaKd
import Derived.Test.YtankppgafdcknaaKq
/- The machine at this program: its table of types, and what is told of it. -/
set_option linter.unusedVariables false
set_option maxRecDepth 100000
namespace Go.Proofs.Ytankppgafdcknaa
open Go Go.AM
def eqs : TypeId → Option (List Ck) := fun t => if Nat.beq t 26 then some [.int .i64, .int .i64] else none
noncomputable def T : Tab := tabOf Try.prog eqs
theorem hm : Try.prog.follows .mixedOrders = true := Try.checked.mixed
theorem are2 {k1 k2 : IntKind} {a : List D} (h : areK [.int k1, .int k2] a = true) : ∃ x y, a = [.int k1 x, .int k2 y] := by
  cases a with
  | nil => simp [areK] at h
  | cons d l =>
    cases l with
    | nil => simp [areK] at h
    | cons e l =>
      cases l with
      | cons _ _ => simp [areK] at h
      | nil =>
        cases d <;> cases e <;> simp [areK, isK] at h
        exact ⟨_, _, by rw [h.1, h.2]⟩
theorem fields26 : Try.prog.fieldsOf 26 = #[{ name := "Low", type := 2, offset := 0, embedded := false, tag := "", pkgPath := "", byteOffset := 0 }, { name := "High", type := 2, offset := 1, embedded := false, tag := "", pkgPath := "", byteOffset := 8 }] := by kernel_rfl
theorem eq26 (a b : List D) (ha : areK [.int .i64, .int .i64] a = true) (hb : areK [.int .i64, .int .i64] b = true) : EqOK Try.prog 26 a b := by
  obtain ⟨x, y, rfl⟩ := are2 ha
  obtain ⟨z, u, rfl⟩ := are2 hb
  intro I w o1 o2 op va vb r d h1 h2 hr hd
  cases h1 with
  | cons _ _ _ _ h11 h12 =>
  cases h11
  cases h12 with
  | cons _ _ _ _ h13 h14 =>
  cases h13
  cases h14
  cases h2 with
  | cons _ _ _ _ h21 h22 =>
  cases h21
  cases h22 with
  | cons _ _ _ _ h23 h24 =>
  cases h23
  cases h24
  have hrr : r = (x == z && y == u) := by
    simp only [eqCells, eqCell, if_true] at hr
    by_cases hxz : (x == z) = true
    · rw [hxz] at hr ⊢
      by_cases hyu : (y == u) = true
      · rw [hyu] at hr ⊢; simpa using hr.symm
      · have hyu' : (y == u) = false := by simpa using hyu
        rw [hyu'] at hr ⊢; simpa using hr.symm
    · have hxz' : (x == z) = false := by simpa using hxz
      rw [hxz'] at hr ⊢; simpa using hr.symm
  have hrun : (Op.equalIn 10000 26 (.agg [Value.int .i64 x, Value.int .i64 y].toArray) (.agg [Value.int .i64 z, Value.int .i64 u].toArray)).run Try.prog w = .ok r w := by
    rw [run_equalIn_agg w 9999 26 _ _ (by kernel_rfl) (by kernel_rfl), fields26]
    have e2 : Try.prog.cellsOf 2 = 1 := by kernel_rfl
    subst hrr
    simp [Op.eqFields, part, isAgg, run_underlying Try.underlying2, run_equalIn_int w 9998 2 .i64 .i64 _ _ Try.underlying2]
    by_cases h1 : x = z <;> by_cases h2 : y = u <;> simp [h1, h2]
  unfold eqOp at hd
  split at hd
  · simp at hd; subst hd
    refine ⟨.bool r, ?_, .bool r⟩
    simp only [Sem.run_bind, run_eqGuard_agg w _ _ _ _ _ _ Try.eqGuardType26, Result.andThen_ok, run_eql_struct, hrun]
  · simp at hd; subst hd
    refine ⟨.bool (!r), ?_, .bool _⟩
    simp only [Sem.run_bind, run_eqGuard_agg w _ _ _ _ _ _ Try.eqGuardType26, Result.andThen_ok, run_neq_struct, hrun]
  · simp at hd
theorem hT : T.ok Try.prog := tabOf_ok fun t ks a b ht ha hb => by
  unfold eqs at ht
  split at ht
  · rename_i h
    simp only [Nat.beq_eq] at h
    simp at ht
    subst ht
    rw [h]
    exact eq26 a b ha hb
  · simp at ht
end Go.Proofs.Ytankppgafdcknaa

/- (billhook/dom.graph).is: what its walk makes hold. -/
set_option linter.unusedVariables false
set_option maxRecDepth 100000
open Go Go.AM
namespace Go.Proofs.Ytankppgafdcknaa
def sig56 : Sig := ⟨[.v (.c (.sl 1)), .v (.c (.int .i64))], [.c .bool]⟩
noncomputable def fi56 : Fi := mkFi T Try.f56 {  }
noncomputable def l56 : List (Entry Try.prog) := []
abbrev nl56 : Nat := 0
abbrev N56 (Q : Shs.T sig56.res → Prop) : AV → Heap → Prop := endK sig56 Q
noncomputable abbrev X56 : Px := fi56.px T (callOf l56) nl56
noncomputable abbrev W56 : CallW := cwOf l56
def F56 (a : List Go.AM.D) (b : Int) (Q : Bool → Prop) : Prop :=
  cond (Decidable.decide (Prod.snd (a, b) ≥ (0 : Int)))
    (Q (Decidable.decide (Prod.snd (a, b) < (↑(List.length (Prod.fst (a, b))) : Int))))
    (Q (Bool.false))

theorem F56_eq (x : Ars.T sig56.args) (Q : Shs.T sig56.res → Prop) : callBodyK T (callOf l56) (cwOf l56) fi56 (Ars.enc sig56.args x) [] (endK sig56 Q) = F56 x.1 x.2 Q := by
  kernel_rfl
theorem fi56_ok : fi56.ok Try.prog 56 := ⟨Try.func56, by decide, rfl, by rfl⟩
noncomputable def e56 : Entry Try.prog := mkE hT hm 56 fi56 fi56_ok l56 sig56 (fun x Q => F56 x.1 x.2 Q) F56_eq
end Go.Proofs.Ytankppgafdcknaa

/- billhook/dom.Control$1: what its walk makes hold. -/
set_option linter.unusedVariables false
set_option maxRecDepth 100000
open Go Go.AM
namespace Go.Proofs.Ytankppgafdcknaa
def sig58 : Sig := ⟨[.v (.c (.int .i64)), .p (.c (.sl 1)), .p (.c (.sl 1)), .p (.c (.int .i64))], [.c .bool]⟩
noncomputable def fi58 : Fi := mkFi T Try.f58 {  }
noncomputable def l58 : List (Entry Try.prog) := [e56]
abbrev nl58 : Nat := 0
abbrev N58 (Q : Shs.T sig58.res → Prop) : AV → Heap → Prop := endK sig58 Q
noncomputable abbrev X58 : Px := fi58.px T (callOf l58) nl58
noncomputable abbrev W58 : CallW := cwOf l58
def F58 (a : Int) (b : List Go.AM.D) (c : List Go.AM.D) (d : Int) (Q : Bool → Prop) : Prop :=
  F56 (b) (a)
    (fun (r1 : Bool) =>
    cond (r1)
      (((0 : Int) ≤ a) ∧
      optP (c[Int.toNat a]?) fun (d2 : Go.AM.D) =>
        optP (Go.AM.D.asSl (1 : Nat) d2) fun (d3 : List Go.AM.D) =>
          ((0 : Int) ≤ d) ∧
          optP (d3[Int.toNat d]?) fun (d4 : Go.AM.D) =>
            optP (Go.AM.D.asBool d4) fun (d5 : Bool) =>
              Q (d5))
      (Q (Bool.false)))

theorem F58_eq (x : Ars.T sig58.args) (Q : Shs.T sig58.res → Prop) : callBodyK T (callOf l58) (cwOf l58) fi58 (Ars.enc sig58.args x) [] (endK sig58 Q) = F58 x.1 x.2.1 x.2.2.1 x.2.2.2 Q := by
  kernel_rfl
theorem fi58_ok : fi58.ok Try.prog 58 := ⟨Try.func58, by decide, rfl, by rfl⟩
noncomputable def e58 : Entry Try.prog := mkE hT hm 58 fi58 fi58_ok l58 sig58 (fun x Q => F58 x.1 x.2.1 x.2.2.1 x.2.2.2 Q) F58_eq
end Go.Proofs.Ytankppgafdcknaa

/- slices.IndexFunc[[]int,int]: what its walk makes hold. -/
set_option linter.unusedVariables false
set_option maxRecDepth 100000
open Go Go.AM
namespace Go.Proofs.Ytankppgafdcknaa
def sig70_58 : Sig := ⟨[.v (.c (.sl 1)), .clo 58 [.c (.sl 1), .c (.sl 1), .c (.int .i64)]], [.c (.int .i64)]⟩
noncomputable def fi70_58 : Fi := mkFi T Try.f70 { live := fun d => if Nat.beq d 2 then slots 19 [0, 1, 7, 8] else none }
noncomputable def l70_58 : List (Entry Try.prog) := [e58]
abbrev nl70_58 : Nat := 0
abbrev N70_58 (Q : Shs.T sig70_58.res → Prop) : AV → Heap → Prop := endK sig70_58 Q
noncomputable abbrev X70_58 : Px := fi70_58.px T (callOf l70_58) nl70_58
noncomputable abbrev W70_58 : CallW := cwOf l70_58
def E70_58_1 (a : List Go.AM.D) (b : List Go.AM.D × List Go.AM.D × Int) (s : (Int)) : Env :=
  match s with
  | v1 =>
    [Go.AM.AV.im (Go.AM.D.sl Bool.false (1 : Nat) a), Go.AM.AV.fn (Go.Fn.func (58 : Nat)) [] [Go.AM.AV.pe (Go.AM.D.sl Bool.false (1 : Nat) (Prod.fst b)) (0 : Nat), Go.AM.AV.pe (Go.AM.D.sl Bool.false (1 : Nat) (Prod.fst (Prod.snd b))) (0 : Nat), Go.AM.AV.pe (Go.AM.D.int Go.IntKind.i64 (Prod.snd (Prod.snd b))) (0 : Nat)], Go.AM.AV.bad, Go.AM.AV.bad, Go.AM.AV.bad, Go.AM.AV.bad, Go.AM.AV.bad, Go.AM.AV.im (Go.AM.D.int Go.IntKind.i64 (↑(List.length a) : Int)), Go.AM.AV.im (Go.AM.D.int Go.IntKind.i64 v1), Go.AM.AV.bad, Go.AM.AV.bad, Go.AM.AV.bad, Go.AM.AV.bad, Go.AM.AV.bad, Go.AM.AV.bad, Go.AM.AV.bad, Go.AM.AV.bad, Go.AM.AV.bad, Go.AM.AV.bad]
def H70_58_1 (a : List Go.AM.D) (b : List Go.AM.D × List Go.AM.D × Int) (s : (Int)) : Heap :=
  match s with
  | v1 =>
    []
noncomputable def C70_58_1 (Q : Int → Prop) : Go.Code × Go.AM.Kx := sub X70_58 W70_58 fi70_58.code [1, 0, 1, 0] [] (finK T fi70_58 nl70_58 (N70_58 Q))
noncomputable def L70_58_1 (a : List Go.AM.D) (b : List Go.AM.D × List Go.AM.D × Int) (Q : Int → Prop) (s : (Int)) : Prop := ∃ n, loopV X70_58 W70_58 (C70_58_1 Q) n (E70_58_1 a b s) (H70_58_1 a b s)
def B70_58_1 (a : List Go.AM.D) (b : List Go.AM.D × List Go.AM.D × Int) (Q : Int → Prop) (s : (Int)) (R2 : Env → Heap → Prop) : Prop :=
  match s with
  | v1 =>
    cond (Decidable.decide (v1 < (↑(List.length a) : Int)))
    (((0 : Int) ≤ v1) ∧
    optP (a[Int.toNat v1]?) fun (d3 : Go.AM.D) =>
      optP (Go.AM.D.asInt Go.IntKind.i64 d3) fun (d4 : Int) =>
        F58 (d4) (Prod.fst b) (Prod.fst (Prod.snd b)) (Prod.snd (Prod.snd b))
          (fun (r5 : Bool) =>
          cond (r5)
            (Q (v1))
            (R2 (E70_58_1 a b (Go.IntKind.wrap Go.IntKind.i64 (v1 + (1 : Int)))) (H70_58_1 a b (Go.IntKind.wrap Go.IntKind.i64 (v1 + (1 : Int)))))))
    (Q ((-1 : Int)))
theorem B70_58_1_eq (a : List Go.AM.D) (b : List Go.AM.D × List Go.AM.D × Int) (Q : Int → Prop) (s : (Int)) (n : Nat) : loopV X70_58 W70_58 (C70_58_1 Q) (n + 1) (E70_58_1 a b s) (H70_58_1 a b s) = B70_58_1 a b Q s (fun env H => loopV X70_58 W70_58 (C70_58_1 Q) n env H) := by
  kernel_rfl
def F70_58u (a : List Go.AM.D) (b : List Go.AM.D × List Go.AM.D × Int) (Q : Int → Prop) : Prop :=
  L70_58_1 a b Q ((0 : Int))

theorem F70_58u_eq (x : Ars.T sig70_58.args) (Q : Shs.T sig70_58.res → Prop) : callBodyK T (callOf l70_58) (cwOf l70_58) fi70_58 (Ars.enc sig70_58.args x) [] (endK sig70_58 Q) = F70_58u x.1 x.2 Q := by
  kernel_rfl
noncomputable def F70_58 := lock @F70_58u
theorem F70_58_un : F70_58 = F70_58u := lock_eq _
theorem F70_58_eq (x : Ars.T sig70_58.args) (Q : Shs.T sig70_58.res → Prop) : callBodyK T (callOf l70_58) (cwOf l70_58) fi70_58 (Ars.enc sig70_58.args x) [] (endK sig70_58 Q) = F70_58 x.1 x.2 Q := by
  rw [F70_58_un]
  exact F70_58u_eq x Q
theorem fi70_58_ok : fi70_58.ok Try.prog 70 := ⟨Try.func70, by decide, rfl, by rfl⟩
noncomputable def e70_58 : Entry Try.prog := mkE hT hm 70 fi70_58 fi70_58_ok l70_58 sig70_58 (fun x Q => F70_58 x.1 x.2 Q) F70_58_eq
end Go.Proofs.Ytankppgafdcknaa

/- slices.ContainsFunc[[]int,int]: what its walk makes hold. -/
set_option linter.unusedVariables false
set_option maxRecDepth 100000
open Go Go.AM
namespace Go.Proofs.Ytankppgafdcknaa
def sig57_58 : Sig := ⟨[.v (.c (.sl 1)), .clo 58 [.c (.sl 1), .c (.sl 1), .c (.int .i64)]], [.c .bool]⟩
noncomputable def fi57_58 : Fi := mkFi T Try.f57 {  }
noncomputable def l57_58 : List (Entry Try.prog) := [e70_58]
abbrev nl57_58 : Nat := 0
abbrev N57_58 (Q : Shs.T sig57_58.res → Prop) : AV → Heap → Prop := endK sig57_58 Q
noncomputable abbrev X57_58 : Px := fi57_58.px T (callOf l57_58) nl57_58
noncomputable abbrev W57_58 : CallW := cwOf l57_58
def F57_58u (a : List Go.AM.D) (b : List Go.AM.D × List Go.AM.D × Int) (Q : Bool → Prop) : Prop :=
  F70_58 (a) ((Prod.fst b, Prod.fst (Prod.snd b), Prod.snd (Prod.snd b)))
    (fun (r1 : Int) =>
    Q (Decidable.decide (r1 ≥ (0 : Int))))

theorem F57_58u_eq (x : Ars.T sig57_58.args) (Q : Shs.T sig57_58.res → Prop) : callBodyK T (callOf l57_58) (cwOf l57_58) fi57_58 (Ars.enc sig57_58.args x) [] (endK sig57_58 Q) = F57_58u x.1 x.2 Q := by
  kernel_rfl
noncomputable def F57_58 := lock @F57_58u
theorem F57_58_un : F57_58 = F57_58u := lock_eq _
theorem F57_58_eq (x : Ars.T sig57_58.args) (Q : Shs.T sig57_58.res → Prop) : callBodyK T (callOf l57_58) (cwOf l57_58) fi57_58 (Ars.enc sig57_58.args x) [] (endK sig57_58 Q) = F57_58 x.1 x.2 Q := by
  rw [F57_58_un]
  exact F57_58u_eq x Q
theorem fi57_58_ok : fi57_58.ok Try.prog 57 := ⟨Try.func57, by decide, rfl, by rfl⟩
noncomputable def e57_58 : Entry Try.prog := mkE hT hm 57 fi57_58 fi57_58_ok l57_58 sig57_58 (fun x Q => F57_58 x.1 x.2 Q) F57_58_eq
end Go.Proofs.Ytankppgafdcknaa

/- dom.Post: the kit's contract of it, in the machine. -/
set_option linter.unusedVariables false
set_option maxRecDepth 100000
open Go Go.AM
namespace Go.Proofs.Ytankppgafdcknaa
open Go.RowKit Go.Proofs.YtankppgafdcknaaW.PrintWords

theorem LeO_le {α : Type} {f : Nat → Option α} (h : ∀ k, LeO (f k) (f (k + 1))) {k j : Nat} (hk : k ≤ j) {r : α} (hr : f k = some r) : f j = some r := by
  induction hk with
  | refl => exact hr
  | step _ ih => exact h _ _ ih
theorem LeO_uniq {α : Type} {f : Nat → Option α} (h : ∀ k, LeO (f k) (f (k + 1))) {k j : Nat} {r s : α} (hr : f k = some r) (hs : f j = some s) : r = s := by
  have a := LeO_le h (Nat.le_max_left k j) hr
  have b := LeO_le h (Nat.le_max_right k j) hs
  rw [a] at b
  exact Option.some.inj b
abbrev Ints := Br.slice 3 (Br.int .i64)
abbrev Bools := Br.slice 4 Br.bool
theorem ints_inj (x y : List Int) (h : Ints.el x = Ints.el y) : x = y := by
  simp only [Br.slice, Br.int, D.sl.injEq, true_and] at h
  exact (List.map_inj_right (fun a b h => by injection h)).1 h
open Classical in
/-- What Post answers; nothing, where it answers nothing. -/
noncomputable def postC (xs : List (List Int)) : List (List Bool) := if h : ∃ r k, PPost.dom_Post.f k xs = some r then h.choose else []
def PostOK (xs : List (List Int)) : Prop := (∃ r k, PPost.dom_Post.f k xs = some r) ∧ ∀ x ∈ xs, x.length ≤ 9223372036854775807
theorem postC_eq {xs : List (List Int)} {k : Nat} {r : List (List Bool)} (h : PPost.dom_Post.f k xs = some r) : postC xs = r := by
  have hx : ∃ r k, PPost.dom_Post.f k xs = some r := ⟨r, k, h⟩
  unfold postC
  rw [dif_pos hx]
  obtain ⟨j, hj⟩ := hx.choose_spec
  exact LeO_uniq (fun k => PPost.dom_Post.mono xs k) hj h
theorem postC_some {xs : List (List Int)} (h : PostOK xs) : ∃ k, PPost.dom_Post.f k xs = some (postC xs) := by
  obtain ⟨⟨r, k, h⟩, _⟩ := h
  exact ⟨k, by rw [h, postC_eq h]⟩
def sig31 : Sig := ⟨[.v (.c (.sl 1))], [.c (.sl 1)]⟩
def F31 (a : List D) (Q : List D → Prop) : Prop := ∃ xs : List (List Int), a = xs.map Ints.el ∧ xs.length ≤ 9223372036854775807 ∧ PostOK xs ∧ Q ((postC xs).map Bools.el)
noncomputable def rowE31 : Entry Try.prog := rowE Ints Bools 31 Try.f31 _ Try.func31 (by decide) rfl PostOK postC ints_inj
  (fun xs _ h x hx => ⟨h.2 x hx, fun _ _ => trivial⟩)
  (fun A c xs w hC hc hg => by
    obtain ⟨k, hk⟩ := postC_some hg
    refine (PPost.dom_Post.calls k A c xs (postC xs) w hC hc hk).mono fun e w' h => ?_
    obtain ⟨v, rfl, hS, hb⟩ := h
    have hS2 := Kd.S_mono (ok' := fun b => w.heap.size ≤ b) (Kd.S_bound hS) (fun k hk => hk.2.1)
    obtain ⟨A', c', rfl, hl, _⟩ := Kd.S_reads hS2
    exact ⟨_, rfl, ⟨A', c', rfl, hl, Kd.S_F hS2⟩, hb⟩)
noncomputable def e31 : Entry Try.prog := rowE31.cast sig31 (fun x Q => F31 x Q) fun x Q h => by
  obtain ⟨xs, rfl, h1, h2, h⟩ := h
  exact ⟨xs, rfl, rfl, h1, h2, h⟩
end Go.Proofs.Ytankppgafdcknaa

/- billhook/dom.Control: what its walk makes hold. -/
set_option linter.unusedVariables false
set_option maxRecDepth 100000
open Go Go.AM
namespace Go.Proofs.Ytankppgafdcknaa
def sig37 : Sig := ⟨[.v (.c (.sl 1))], [.c (.sl 1)]⟩
noncomputable def fi37 : Fi := mkFi T Try.f37 { live := fun d => if Nat.beq d 8 then slots 54 [1, 3, 4, 5, 6, 12, 13, 17, 18] else if Nat.beq d 4 then slots 54 [1, 3, 4, 12, 13] else none, own := isIn [4, 6], frz := isIn [50] }
noncomputable def l37 : List (Entry Try.prog) := [e31, e57_58]
abbrev nl37 : Nat := 0
abbrev N37 (Q : Shs.T sig37.res → Prop) : AV → Heap → Prop := endK sig37 Q
noncomputable abbrev X37 : Px := fi37.px T (callOf l37) nl37
noncomputable abbrev W37 : CallW := cwOf l37
def E37_1 (a : List Go.AM.D) (r1 : List Go.AM.D) (s : (Int) × (List Go.AM.D)) : Env :=
  match s with
  | (v2, v3) =>
    [Go.AM.AV.bad, Go.AM.AV.ptr (0 : Nat) (0 : Nat) (0 : Nat), Go.AM.AV.bad, Go.AM.AV.ptr (1 : Nat) (0 : Nat) (0 : Nat), Go.AM.AV.ref (2 : Nat) (0 : Nat) (List.length v3), Go.AM.AV.bad, Go.AM.AV.bad, Go.AM.AV.bad, Go.AM.AV.bad, Go.AM.AV.bad, Go.AM.AV.bad, Go.AM.AV.bad, Go.AM.AV.im (Go.AM.D.int Go.IntKind.i64 (↑(List.length a) : Int)), Go.AM.AV.im (Go.AM.D.int Go.IntKind.i64 v2), Go.AM.AV.bad, Go.AM.AV.bad, Go.AM.AV.bad, Go.AM.AV.bad, Go.AM.AV.bad, Go.AM.AV.bad, Go.AM.AV.bad, Go.AM.AV.bad, Go.AM.AV.bad, Go.AM.AV.bad, Go.AM.AV.bad, Go.AM.AV.bad, Go.AM.AV.bad, Go.AM.AV.bad, Go.AM.AV.bad, Go.AM.AV.bad, Go.AM.AV.bad, Go.AM.AV.bad, Go.AM.AV.bad, Go.AM.AV.bad, Go.AM.AV.bad, Go.AM.AV.bad, Go.AM.AV.bad, Go.AM.AV.bad, Go.AM.AV.bad, Go.AM.AV.bad, Go.AM.AV.bad, Go.AM.AV.bad, Go.AM.AV.bad, Go.AM.AV.bad, Go.AM.AV.bad, Go.AM.AV.bad, Go.AM.AV.bad, Go.AM.AV.bad, Go.AM.AV.bad, Go.AM.AV.bad, Go.AM.AV.bad, Go.AM.AV.bad, Go.AM.AV.bad, Go.AM.AV.bad]
def H37_1 (a : List Go.AM.D) (r1 : List Go.AM.D) (s : (Int) × (List Go.AM.D)) : Heap :=
  match s with
  | (v2, v3) =>
    [Option.some (Go.AM.Blk.c (1 : Nat) [Go.AM.D.sl Bool.false (1 : Nat) a]), Option.some (Go.AM.Blk.c (1 : Nat) [Go.AM.D.sl Bool.false (1 : Nat) r1]), Option.some (Go.AM.Blk.c (1 : Nat) v3)]
def E37_2 (a : List Go.AM.D) (r1 : List Go.AM.D) (v2 : Int) (v3 : List Go.AM.D) (s : (Int) × (List Go.AM.D)) : Env :=
  match s with
  | (v5, v6) =>
    [Go.AM.AV.bad, Go.AM.AV.ptr (0 : Nat) (0 : Nat) (0 : Nat), Go.AM.AV.bad, Go.AM.AV.ptr (1 : Nat) (0 : Nat) (0 : Nat), Go.AM.AV.ref (2 : Nat) (0 : Nat) (List.length v3), Go.AM.AV.ptr (3 : Nat) (0 : Nat) (0 : Nat), Go.AM.AV.ref (4 : Nat) (0 : Nat) (List.length v6), Go.AM.AV.bad, Go.AM.AV.bad, Go.AM.AV.bad, Go.AM.AV.bad, Go.AM.AV.bad, Go.AM.AV.im (Go.AM.D.int Go.IntKind.i64 (↑(List.length a) : Int)), Go.AM.AV.im (Go.AM.D.int Go.IntKind.i64 v2), Go.AM.AV.bad, Go.AM.AV.bad, Go.AM.AV.bad, Go.AM.AV.im (Go.AM.D.int Go.IntKind.i64 (↑(List.length a) : Int)), Go.AM.AV.im (Go.AM.D.int Go.IntKind.i64 v5), Go.AM.AV.bad, Go.AM.AV.bad, Go.AM.AV.bad, Go.AM.AV.bad, Go.AM.AV.bad, Go.AM.AV.bad, Go.AM.AV.bad, Go.AM.AV.bad, Go.AM.AV.bad, Go.AM.AV.bad, Go.AM.AV.bad, Go.AM.AV.bad, Go.AM.AV.bad, Go.AM.AV.bad, Go.AM.AV.bad, Go.AM.AV.bad, Go.AM.AV.bad, Go.AM.AV.bad, Go.AM.AV.bad, Go.AM.AV.bad, Go.AM.AV.bad, Go.AM.AV.bad, Go.AM.AV.bad, Go.AM.AV.bad, Go.AM.AV.bad, Go.AM.AV.bad, Go.AM.AV.bad, Go.AM.AV.bad, Go.AM.AV.bad, Go.AM.AV.bad, Go.AM.AV.bad, Go.AM.AV.bad, Go.AM.AV.bad, Go.AM.AV.bad, Go.AM.AV.bad]
def H37_2 (a : List Go.AM.D) (r1 : List Go.AM.D) (v2 : Int) (v3 : List Go.AM.D) (s : (Int) × (List Go.AM.D)) : Heap :=
  match s with
  | (v5, v6) =>
    [Option.some (Go.AM.Blk.c (1 : Nat) [Go.AM.D.sl Bool.false (1 : Nat) a]), Option.some (Go.AM.Blk.c (1 : Nat) [Go.AM.D.sl Bool.false (1 : Nat) r1]), Option.some (Go.AM.Blk.c (1 : Nat) v3), Option.some (Go.AM.Blk.c (1 : Nat) [Go.AM.D.int Go.IntKind.i64 v2]), Option.some (Go.AM.Blk.c (1 : Nat) v6)]
noncomputable def C37_2 (Q : List Go.AM.D → Prop) (R4 : List Go.AM.AV → Go.AM.Heap → Prop) : Go.Code × Go.AM.Kx := sub X37 W37 fi37.code [1, 1, 1, 0, 1, 0, 0, 1, 1, 0, 0, 1, 1, 0, 1, 0] [R4] (finK T fi37 nl37 (N37 Q))
noncomputable def L37_2 (a : List Go.AM.D) (r1 : List Go.AM.D) (v2 : Int) (v3 : List Go.AM.D) (Q : List Go.AM.D → Prop) (R4 : List Go.AM.AV → Go.AM.Heap → Prop) (s : (Int) × (List Go.AM.D)) : Prop := ∃ n, loopV X37 W37 (C37_2 Q R4) n (E37_2 a r1 v2 v3 s) (H37_2 a r1 v2 v3 s)
def B37_2 (a : List Go.AM.D) (r1 : List Go.AM.D) (v2 : Int) (v3 : List Go.AM.D) (Q : List Go.AM.D → Prop) (R4 : List Go.AM.AV → Go.AM.Heap → Prop) (s : (Int) × (List Go.AM.D)) (R7 : Env → Heap → Prop) : Prop :=
  match s with
  | (v5, v6) =>
    cond (Decidable.decide (v5 < (↑(List.length a) : Int)))
    (((0 : Int) ≤ v5) ∧
    optP (a[Int.toNat v5]?) fun (d8 : Go.AM.D) =>
      optP (Go.AM.D.asSl (1 : Nat) d8) fun (d9 : List Go.AM.D) =>
        F57_58 (d9) ((a, r1, v2))
          (fun (r10 : Bool) =>
          cond (r10)
            (((0 : Int) ≤ v5) ∧
            optP (r1[Int.toNat v5]?) fun (d11 : Go.AM.D) =>
              optP (Go.AM.D.asSl (1 : Nat) d11) fun (d12 : List Go.AM.D) =>
                ((0 : Int) ≤ v2) ∧
                optP (d12[Int.toNat v2]?) fun (d13 : Go.AM.D) =>
                  optP (Go.AM.D.asBool d13) fun (d14 : Bool) =>
                    cond (!d14)
                      ((List.length (List.take (List.length v6) (List.drop (0 : Nat) v6) ++ [Go.AM.D.int Go.IntKind.i64 v5]) * (8 : Nat) ≤ (140737488355328 : Nat)) ∧
                      (List.length (List.take (List.length v6) (List.drop (0 : Nat) v6) ++ [Go.AM.D.int Go.IntKind.i64 v5]) ≤ (140737488355328 : Nat)) ∧
                      R7 (E37_2 a r1 v2 v3 ((Go.IntKind.wrap Go.IntKind.i64 (v5 + (1 : Int)), List.take (List.length v6) (List.drop (0 : Nat) v6) ++ [Go.AM.D.int Go.IntKind.i64 v5]))) (H37_2 a r1 v2 v3 ((Go.IntKind.wrap Go.IntKind.i64 (v5 + (1 : Int)), List.take (List.length v6) (List.drop (0 : Nat) v6) ++ [Go.AM.D.int Go.IntKind.i64 v5]))))
                      (cond (v2 == v5)
                        ((List.length (List.take (List.length v6) (List.drop (0 : Nat) v6) ++ [Go.AM.D.int Go.IntKind.i64 v5]) * (8 : Nat) ≤ (140737488355328 : Nat)) ∧
                        (List.length (List.take (List.length v6) (List.drop (0 : Nat) v6) ++ [Go.AM.D.int Go.IntKind.i64 v5]) ≤ (140737488355328 : Nat)) ∧
                        R7 (E37_2 a r1 v2 v3 ((Go.IntKind.wrap Go.IntKind.i64 (v5 + (1 : Int)), List.take (List.length v6) (List.drop (0 : Nat) v6) ++ [Go.AM.D.int Go.IntKind.i64 v5]))) (H37_2 a r1 v2 v3 ((Go.IntKind.wrap Go.IntKind.i64 (v5 + (1 : Int)), List.take (List.length v6) (List.drop (0 : Nat) v6) ++ [Go.AM.D.int Go.IntKind.i64 v5]))))
                        (R7 (E37_2 a r1 v2 v3 ((Go.IntKind.wrap Go.IntKind.i64 (v5 + (1 : Int)), v6))) (H37_2 a r1 v2 v3 ((Go.IntKind.wrap Go.IntKind.i64 (v5 + (1 : Int)), v6))))))
            (R7 (E37_2 a r1 v2 v3 ((Go.IntKind.wrap Go.IntKind.i64 (v5 + (1 : Int)), v6))) (H37_2 a r1 v2 v3 ((Go.IntKind.wrap Go.IntKind.i64 (v5 + (1 : Int)), v6))))))
    ((List.length (List.take (List.length v3) (List.drop (0 : Nat) v3) ++ [Go.AM.D.sl Bool.false (1 : Nat) (List.take (List.length v6) (List.drop (0 : Nat) v6))]) * (24 : Nat) ≤ (140737488355328 : Nat)) ∧
    (List.length (List.take (List.length v3) (List.drop (0 : Nat) v3) ++ [Go.AM.D.sl Bool.false (1 : Nat) (List.take (List.length v6) (List.drop (0 : Nat) v6))]) ≤ (140737488355328 : Nat)) ∧
    R4 (E37_1 a r1 ((Go.IntKind.wrap Go.IntKind.i64 (v2 + (1 : Int)), List.take (List.length v3) (List.drop (0 : Nat) v3) ++ [Go.AM.D.sl Bool.false (1 : Nat) (List.take (List.length v6) (List.drop (0 : Nat) v6))]))) (H37_1 a r1 ((Go.IntKind.wrap Go.IntKind.i64 (v2 + (1 : Int)), List.take (List.length v3) (List.drop (0 : Nat) v3) ++ [Go.AM.D.sl Bool.false (1 : Nat) (List.take (List.length v6) (List.drop (0 : Nat) v6))]))))
theorem B37_2_eq (a : List Go.AM.D) (r1 : List Go.AM.D) (v2 : Int) (v3 : List Go.AM.D) (Q : List Go.AM.D → Prop) (R4 : List Go.AM.AV → Go.AM.Heap → Prop) (s : (Int) × (List Go.AM.D)) (n : Nat) : loopV X37 W37 (C37_2 Q R4) (n + 1) (E37_2 a r1 v2 v3 s) (H37_2 a r1 v2 v3 s) = B37_2 a r1 v2 v3 Q R4 s (fun env H => loopV X37 W37 (C37_2 Q R4) n env H) := by
  kernel_rfl
noncomputable def C37_1 (Q : List Go.AM.D → Prop) : Go.Code × Go.AM.Kx := sub X37 W37 fi37.code [1, 1, 1, 0, 1, 0] [] (finK T fi37 nl37 (N37 Q))
noncomputable def L37_1 (a : List Go.AM.D) (r1 : List Go.AM.D) (Q : List Go.AM.D → Prop) (s : (Int) × (List Go.AM.D)) : Prop := ∃ n, loopV X37 W37 (C37_1 Q) n (E37_1 a r1 s) (H37_1 a r1 s)
def B37_1 (a : List Go.AM.D) (r1 : List Go.AM.D) (Q : List Go.AM.D → Prop) (s : (Int) × (List Go.AM.D)) (R4 : Env → Heap → Prop) : Prop :=
  match s with
  | (v2, v3) =>
    cond (Decidable.decide (v2 < (↑(List.length a) : Int)))
    (((0 : Nat) < (1 : Nat)) ∧
    L37_2 a r1 v2 v3 Q R4 (((0 : Int), [])))
    (Q (List.take (List.length v3) (List.drop (0 : Nat) v3)))
theorem B37_1_eq (a : List Go.AM.D) (r1 : List Go.AM.D) (Q : List Go.AM.D → Prop) (s : (Int) × (List Go.AM.D)) (n : Nat) : loopV X37 W37 (C37_1 Q) (n + 1) (E37_1 a r1 s) (H37_1 a r1 s) = B37_1 a r1 Q s (fun env H => loopV X37 W37 (C37_1 Q) n env H) := by
  kernel_rfl
def F37u (a : List Go.AM.D) (Q : List Go.AM.D → Prop) : Prop :=
  F31 (a)
    (fun (r1 : List Go.AM.D) =>
    ((0 : Nat) < (1 : Nat)) ∧
    L37_1 a r1 Q (((0 : Int), [])))

theorem F37u_eq (x : Ars.T sig37.args) (Q : Shs.T sig37.res → Prop) : callBodyK T (callOf l37) (cwOf l37) fi37 (Ars.enc sig37.args x) [] (endK sig37 Q) = F37u x Q := by
  kernel_rfl
noncomputable def F37 := lock @F37u
theorem F37_un : F37 = F37u := lock_eq _
theorem F37_eq (x : Ars.T sig37.args) (Q : Shs.T sig37.res → Prop) : callBodyK T (callOf l37) (cwOf l37) fi37 (Ars.enc sig37.args x) [] (endK sig37 Q) = F37 x Q := by
  rw [F37_un]
  exact F37u_eq x Q
theorem fi37_ok : fi37.ok Try.prog 37 := ⟨Try.func37, by decide, rfl, by rfl⟩
noncomputable def e37 : Entry Try.prog := mkE hT hm 37 fi37 fi37_ok l37 sig37 (fun x Q => F37 x Q) F37_eq
end Go.Proofs.Ytankppgafdcknaa

/- dom.Control: what it answers, over what Post answers. -/
set_option linter.unusedVariables false
set_option linter.unusedSimpArgs false
set_option maxRecDepth 100000
open Go Go.AM
namespace Go.Proofs.Ytankppgafdcknaa

def isn (n : Nat) (s : Int) : Bool := decide (0 ≤ s) && decide (s < n)
def bit (r : List (List Bool)) (s v : Nat) : Bool := (r.getD s []).getD v false
def lead (r : List (List Bool)) (n : Nat) (row : List Int) (v : Nat) : Bool := row.any fun s => isn n s && bit r s.toNat v
def ctlIf (xs : List (List Int)) (r : List (List Bool)) (v p : Nat) : Bool := lead r xs.length (xs.getD p []) v && (!(bit r p v) || v == p)
def ctlRow (xs : List (List Int)) (r : List (List Bool)) (v : Nat) : List Int := ((List.range xs.length).filter (ctlIf xs r v)).map fun (p : Nat) => (p : Int)
/-- What each node depends on. -/
def ctl (xs : List (List Int)) (r : List (List Bool)) : List (List Int) := (List.range xs.length).map (ctlRow xs r)
def Sq (n : Nat) (r : List (List Bool)) : Prop := r.length = n ∧ ∀ row ∈ r, row.length = n

theorem wrapd {n : Int} (h0 : -9223372036854775808 ≤ n) (h1 : n ≤ 9223372036854775807) : IntKind.i64.wrap n = n := by
  rw [IntKind.wrap_i64]; omega
theorem ints_el (x : List Int) : Ints.el x = .sl false 1 (x.map (D.int .i64)) := rfl
theorem bools_el (x : List Bool) : Bools.el x = .sl false 1 (x.map D.bool) := rfl
theorem asSl_mk (l : List D) : (D.sl false 1 l).asSl 1 = some l := by simp [D.asSl]
theorem cell_of {xs : List (List Int)} {r : List (List Bool)} {s v : Nat} (hr : Sq xs.length r) (hs : s < xs.length) (hv : v < xs.length) (Q : Bool → Prop) (h : Q (bit r s v)) :
    optP ((r.map Bools.el)[s]?) fun d2 => optP (d2.asSl 1) fun d3 => ((0 : Int) ≤ (v : Int)) ∧ optP (d3[(v : Int).toNat]?) fun d4 => optP d4.asBool fun d5 => Q d5 := by
  have h1 : s < r.length := by have := hr.1; omega
  have h2 : r[s].length = xs.length := hr.2 _ (List.getElem_mem h1)
  have hb : bit r s v = r[s][v] := by simp [bit, List.getD_eq_getElem?_getD, h1, h2, hv]
  rw [List.getElem?_map, List.getElem?_eq_getElem h1]
  simp only [Option.map_some, optP_some, bools_el, asSl_mk, Int.toNat_natCast, List.getElem?_map]
  refine ⟨by omega, ?_⟩
  rw [List.getElem?_eq_getElem (by omega)]
  simp only [Option.map_some, optP_some, D.asBool]
  rw [← hb]
  exact h
theorem t58 {xs : List (List Int)} {r : List (List Bool)} {v : Nat} (s : Int) (hr : Sq xs.length r) (hv : v < xs.length) (Q : Bool → Prop) (h : Q (isn xs.length s && bit r s.toNat v)) :
    F58 s (xs.map Ints.el) (r.map Bools.el) (v : Int) Q := by
  unfold F58 F56
  simp only [List.length_map]
  by_cases h0 : 0 ≤ s
  · by_cases h1 : s < (xs.length : Int)
    · simp only [ge_iff_le, h0, h1, decide_true, cond_true, true_and]
      have hi : isn xs.length s = true := by simp [isn, h0, h1]
      rw [hi] at h
      have := cell_of hr (s := s.toNat) (by omega) hv Q (by simpa using h)
      exact this
    · have hi : isn xs.length s = false := by simp [isn, h1]
      rw [hi] at h
      simp only [ge_iff_le, h0, h1, decide_true, decide_false, cond_true, cond_false]
      simpa using h
  · have hi : isn xs.length s = false := by simp [isn, h0]
    rw [hi] at h
    simp only [ge_iff_le, h0, decide_false, cond_false]
    simpa using h
theorem t70_58 {xs : List (List Int)} {r : List (List Bool)} {v : Nat} (row : List Int) (hl : row.length ≤ 9223372036854775806) (hr : Sq xs.length r) (hv : v < xs.length) (Q : Int → Prop)
    (h : ∀ i : Int, decide (i ≥ 0) = lead r xs.length row v → Q i) : F70_58 (row.map (D.int .i64)) (xs.map Ints.el, r.map Bools.el, (v : Int)) Q := by
  rw [F70_58_un]
  unfold F70_58u L70_58_1
  refine loop_rule (E70_58_1 (row.map (D.int .i64)) (xs.map Ints.el, r.map Bools.el, (v : Int))) (H70_58_1 (row.map (D.int .i64)) (xs.map Ints.el, r.map Bools.el, (v : Int))) _
    (fun i : Int => 0 ≤ i ∧ i ≤ row.length ∧ lead r xs.length (row.drop i.toNat) v = lead r xs.length row v) (fun i => row.length - i.toNat) ?_ 0 ⟨by omega, by omega, by simp⟩
  intro n i ⟨h0, h1, h2⟩ ih
  rw [B70_58_1_eq]
  unfold B70_58_1
  simp only [List.length_map]
  by_cases hi : i < row.length
  · have hx : i.toNat < row.length := by omega
    rw [wrapd (by omega) (by omega)]
    simp only [hi, decide_true, cond_true, List.getElem?_map, List.getElem?_eq_getElem hx, Option.map_some, optP_some, h0, true_and]
    have ha : (D.int IntKind.i64 row[i.toNat]).asInt IntKind.i64 = some row[i.toNat] := by simp [D.asInt]
    rw [ha, optP_some]
    refine t58 _ hr hv _ ?_
    rw [List.drop_eq_getElem_cons hx] at h2
    cases hz : (isn xs.length row[i.toNat] && bit r row[i.toNat].toNat v) with
    | true =>
      simp only [cond_true]
      refine h i ?_
      rw [← h2]
      simp only [lead, List.any_cons, hz, Bool.true_or]
      simpa using h0
    | false =>
      simp only [cond_false]
      refine ih (i + 1) ⟨by omega, by omega, ?_⟩ (by omega)
      rw [show (i + 1).toNat = i.toNat + 1 by omega, ← h2]
      simp only [lead, List.any_cons, hz, Bool.false_or]
  · simp only [hi, decide_false, cond_false]
    have hin : i.toNat = row.length := by omega
    rw [hin, List.drop_length] at h2
    refine h _ ?_
    rw [← h2]
    rfl
theorem t57_58 {xs : List (List Int)} {r : List (List Bool)} {v : Nat} (row : List Int) (hl : row.length ≤ 9223372036854775806) (hr : Sq xs.length r) (hv : v < xs.length) (Q : Bool → Prop)
    (h : Q (lead r xs.length row v)) : F57_58 (row.map (D.int .i64)) (xs.map Ints.el, r.map Bools.el, (v : Int)) Q := by
  rw [F57_58_un]
  unfold F57_58u
  refine t70_58 row hl hr hv _ fun i hi => ?_
  rw [hi]
  exact h
theorem filter_range_succ (p : Nat → Bool) (n : Nat) : (List.range (n + 1)).filter p = (List.range n).filter p ++ (if p n then [n] else []) := by
  rw [List.range_succ, List.filter_append]
  congr 1
  simp only [List.filter_cons, List.filter_nil]
theorem t37 (xs : List (List Int)) (hl : xs.length ≤ 1000000000000) (hrow : ∀ x ∈ xs, x.length ≤ 9223372036854775806) (hp : PostOK xs) (hr : Sq xs.length (postC xs)) (Q : List D → Prop) (h : Q ((ctl xs (postC xs)).map Ints.el)) :
    F37 (xs.map Ints.el) Q := by
  rw [F37_un]
  unfold F37u
  refine ⟨xs, rfl, by omega, hp, by omega, ?_⟩
  generalize postC xs = r at hr h
  unfold L37_1
  let st1 : Nat → Int × List D := fun v => ((v : Int), ((List.range v).map (ctlRow xs r)).map Ints.el)
  have key : ∃ n, loopV X37 W37 (C37_1 Q) n (E37_1 (xs.map Ints.el) (r.map Bools.el) (st1 0)) (H37_1 (xs.map Ints.el) (r.map Bools.el) (st1 0)) := by
    refine loop_rule (fun v => E37_1 (xs.map Ints.el) (r.map Bools.el) (st1 v)) (fun v => H37_1 (xs.map Ints.el) (r.map Bools.el) (st1 v)) _ (fun v => v ≤ xs.length) (fun v => xs.length - v) ?_ 0 (by omega)
    intro n v hv ih
    rw [B37_1_eq]
    unfold B37_1
    simp only [st1, List.length_map, List.length_range]
    by_cases hi : v < xs.length
    · have hi' : ((v : Int) < (xs.length : Int)) := by omega
      simp only [hi', decide_true, cond_true]
      refine ⟨by omega, ?_⟩
      unfold L37_2
      let st2 : Nat → Int × List D := fun p => ((p : Int), (((List.range p).filter (ctlIf xs r v)).map fun (p : Nat) => (p : Int)).map (D.int .i64))
      have key2 : ∀ R4 : List AV → Heap → Prop, R4 (E37_1 (xs.map Ints.el) (r.map Bools.el) (st1 (v + 1))) (H37_1 (xs.map Ints.el) (r.map Bools.el) (st1 (v + 1))) →
          ∃ n, loopV X37 W37 (C37_2 Q R4) n (E37_2 (xs.map Ints.el) (r.map Bools.el) v (((List.range v).map (ctlRow xs r)).map Ints.el) (st2 0)) (H37_2 (xs.map Ints.el) (r.map Bools.el) v (((List.range v).map (ctlRow xs r)).map Ints.el) (st2 0)) := by
        intro R4 hR
        refine loop_rule (fun p => E37_2 (xs.map Ints.el) (r.map Bools.el) v (((List.range v).map (ctlRow xs r)).map Ints.el) (st2 p)) (fun p => H37_2 (xs.map Ints.el) (r.map Bools.el) v (((List.range v).map (ctlRow xs r)).map Ints.el) (st2 p)) _
          (fun p => p ≤ xs.length) (fun p => xs.length - p) ?_ 0 (by omega)
        intro n p hp ih2
        rw [B37_2_eq]
        unfold B37_2
        simp only [st2, List.length_map, List.length_range, List.drop_zero]
        by_cases hpi : p < xs.length
        · have hpi' : ((p : Int) < (xs.length : Int)) := by omega
          simp only [hpi', decide_true, cond_true]
          refine ⟨by omega, ?_⟩
          rw [List.getElem?_map, Int.toNat_natCast, List.getElem?_eq_getElem hpi]
          simp only [Option.map_some, optP_some, ints_el, asSl_mk]
          have hx : xs.getD p [] = xs[p] := by simp [List.getD_eq_getElem?_getD, hpi]
          have hw : IntKind.i64.wrap ((p : Int) + 1) = ((p + 1 : Nat) : Int) := by rw [wrapd (by omega) (by omega)]; omega
          have hfl : ((List.range p).filter (ctlIf xs r v)).length ≤ p := by
            have := List.length_filter_le (ctlIf xs r v) (List.range p)
            simpa using this
          refine t57_58 xs[p] (hrow _ (List.getElem_mem hpi)) hr hi _ ?_
          have done := ih2 (p + 1) (by omega) (by omega)
          simp only [st2, filter_range_succ] at done
          rw [hw]
          have tk : ∀ l : List D, List.take l.length l = l := fun l => List.take_of_length_le (Nat.le_refl _)
          have tk2 : ∀ (l : List Nat), List.take l.length ((l.map fun (p : Nat) => (p : Int)).map (D.int .i64)) = (l.map fun (p : Nat) => (p : Int)).map (D.int .i64) := fun l => List.take_of_length_le (by simp)
          rw [tk2]
          cases hld : lead r xs.length xs[p] v with
          | false =>
            simp only [cond_false]
            have : ctlIf xs r v p = false := by unfold ctlIf; rw [hx, hld]; simp
            simp only [this, Bool.false_eq_true, if_false, List.append_nil] at done
            exact done
          | true =>
            simp only [cond_true]
            refine ⟨by omega, ?_⟩
            refine cell_of hr hpi hi _ ?_
            cases hb : bit r p v with
            | false =>
              have : ctlIf xs r v p = true := by unfold ctlIf; rw [hx, hld, hb]; simp
              simp only [this, if_true, List.map_append, List.map_cons, List.map_nil] at done
              simp only [Bool.not_false, cond_true]
              refine ⟨by simp; omega, by simp; omega, done⟩
            | true =>
              simp only [Bool.not_true, cond_false]
              by_cases hvp : v = p
              · have : ctlIf xs r v p = true := by unfold ctlIf; rw [hx, hld, hvp]; simp
                simp only [this, if_true, List.map_append, List.map_cons, List.map_nil] at done
                have e : ((v : Int) == (p : Int)) = true := by simp [hvp]
                rw [e]
                simp only [cond_true]
                refine ⟨by simp; omega, by simp; omega, done⟩
              · have : ctlIf xs r v p = false := by unfold ctlIf; rw [hx, hld, hb]; simp [hvp]
                simp only [this, Bool.false_eq_true, if_false, List.append_nil] at done
                have e : ((v : Int) == (p : Int)) = false := by simp; omega
                rw [e]
                simp only [cond_false]
                exact done
        · have hpe : p = xs.length := by omega
          have hpi' : ¬ ((p : Int) < (xs.length : Int)) := by omega
          simp only [hpi', decide_false, cond_false]
          have hw : IntKind.i64.wrap ((v : Int) + 1) = ((v + 1 : Nat) : Int) := by rw [wrapd (by omega) (by omega)]; omega
          rw [hw]
          have tk2 : ∀ (l : List Nat), List.take l.length ((l.map fun (p : Nat) => (p : Int)).map (D.int .i64)) = (l.map fun (p : Nat) => (p : Int)).map (D.int .i64) := fun l => List.take_of_length_le (by simp)
          rw [tk2]
          have tk3 : List.take v (((List.range v).map (ctlRow xs r)).map Ints.el) = ((List.range v).map (ctlRow xs r)).map Ints.el := List.take_of_length_le (by simp)
          rw [tk3]
          have e : st1 (v + 1) = (((v + 1 : Nat) : Int), ((List.range v).map (ctlRow xs r)).map Ints.el ++ [D.sl false 1 ((((List.range p).filter (ctlIf xs r v)).map fun (p : Nat) => (p : Int)).map (D.int .i64))]) := by
            simp only [st1, List.range_succ, List.map_append, List.map_cons, List.map_nil, ints_el, ctlRow, hpe]
          rw [e] at hR
          exact ⟨by simp; omega, by simp; omega, hR⟩
      exact key2 _ (ih (v + 1) (by omega) (by omega))
    · have hve : v = xs.length := by omega
      have hi' : ¬ ((v : Int) < (xs.length : Int)) := by omega
      simp only [hi', decide_false, cond_false, List.drop_zero]
      have tk3 : List.take v (((List.range v).map (ctlRow xs r)).map Ints.el) = ((List.range v).map (ctlRow xs r)).map Ints.el := List.take_of_length_le (by simp)
      rw [tk3, hve]
      exact h
  exact key
end Go.Proofs.Ytankppgafdcknaa

/- billhook/billhooklaw10.bools: what its walk makes hold. -/
set_option linter.unusedVariables false
set_option maxRecDepth 100000
open Go Go.AM
namespace Go.Proofs.Ytankppgafdcknaa
def sig28 : Sig := ⟨[.v (.c (.sl 1)), .v (.c (.sl 1))], [.c .bool]⟩
noncomputable def fi28 : Fi := mkFi T Try.f28 { live := fun d => if Nat.beq d 4 then slots 26 [0, 1, 5] else none }
noncomputable def l28 : List (Entry Try.prog) := []
abbrev nl28 : Nat := 0
abbrev N28 (Q : Shs.T sig28.res → Prop) : AV → Heap → Prop := endK sig28 Q
noncomputable abbrev X28 : Px := fi28.px T (callOf l28) nl28
noncomputable abbrev W28 : CallW := cwOf l28
def E28_1 (a : List Go.AM.D) (b : List Go.AM.D) (s : (Int)) : Env :=
  match s with
  | v1 =>
    [Go.AM.AV.im (Go.AM.D.sl Bool.false (1 : Nat) a), Go.AM.AV.im (Go.AM.D.sl Bool.false (1 : Nat) b), Go.AM.AV.bad, Go.AM.AV.bad, Go.AM.AV.bad, Go.AM.AV.im (Go.AM.D.int Go.IntKind.i64 v1), Go.AM.AV.bad, Go.AM.AV.bad, Go.AM.AV.bad, Go.AM.AV.bad, Go.AM.AV.bad, Go.AM.AV.bad, Go.AM.AV.bad, Go.AM.AV.bad, Go.AM.AV.bad, Go.AM.AV.bad, Go.AM.AV.bad, Go.AM.AV.bad, Go.AM.AV.bad, Go.AM.AV.bad, Go.AM.AV.bad, Go.AM.AV.bad, Go.AM.AV.bad, Go.AM.AV.bad, Go.AM.AV.bad, Go.AM.AV.bad]
def H28_1 (a : List Go.AM.D) (b : List Go.AM.D) (s : (Int)) : Heap :=
  match s with
  | v1 =>
    []
noncomputable def C28_1 (Q : Bool → Prop) : Go.Code × Go.AM.Kx := sub X28 W28 fi28.code [1, 1, 0, 1, 0] [] (finK T fi28 nl28 (N28 Q))
noncomputable def L28_1 (a : List Go.AM.D) (b : List Go.AM.D) (Q : Bool → Prop) (s : (Int)) : Prop := ∃ n, loopV X28 W28 (C28_1 Q) n (E28_1 a b s) (H28_1 a b s)
def B28_1 (a : List Go.AM.D) (b : List Go.AM.D) (Q : Bool → Prop) (s : (Int)) (R2 : Env → Heap → Prop) : Prop :=
  match s with
  | v1 =>
    cond (Decidable.decide (v1 < (↑(List.length a) : Int)))
    (((0 : Int) ≤ v1) ∧
    optP (a[Int.toNat v1]?) fun (d3 : Go.AM.D) =>
      optP (Go.AM.D.asBool d3) fun (d4 : Bool) =>
        ((0 : Int) ≤ v1) ∧
        optP (b[Int.toNat v1]?) fun (d5 : Go.AM.D) =>
          optP (Go.AM.D.asBool d5) fun (d6 : Bool) =>
            cond (!d4 == d6)
              (Q (Bool.false))
              (R2 (E28_1 a b (Go.IntKind.wrap Go.IntKind.i64 (v1 + (1 : Int)))) (H28_1 a b (Go.IntKind.wrap Go.IntKind.i64 (v1 + (1 : Int))))))
    (Q (Bool.true))
theorem B28_1_eq (a : List Go.AM.D) (b : List Go.AM.D) (Q : Bool → Prop) (s : (Int)) (n : Nat) : loopV X28 W28 (C28_1 Q) (n + 1) (E28_1 a b s) (H28_1 a b s) = B28_1 a b Q s (fun env H => loopV X28 W28 (C28_1 Q) n env H) := by
  kernel_rfl
def F28u (a : List Go.AM.D) (b : List Go.AM.D) (Q : Bool → Prop) : Prop :=
  cond ((↑(List.length a) : Int) != (↑(List.length b) : Int))
    (Q (Bool.false))
    (L28_1 a b Q ((0 : Int)))

theorem F28u_eq (x : Ars.T sig28.args) (Q : Shs.T sig28.res → Prop) : callBodyK T (callOf l28) (cwOf l28) fi28 (Ars.enc sig28.args x) [] (endK sig28 Q) = F28u x.1 x.2 Q := by
  kernel_rfl
noncomputable def F28 := lock @F28u
theorem F28_un : F28 = F28u := lock_eq _
theorem F28_eq (x : Ars.T sig28.args) (Q : Shs.T sig28.res → Prop) : callBodyK T (callOf l28) (cwOf l28) fi28 (Ars.enc sig28.args x) [] (endK sig28 Q) = F28 x.1 x.2 Q := by
  rw [F28_un]
  exact F28u_eq x Q
theorem fi28_ok : fi28.ok Try.prog 28 := ⟨Try.func28, by decide, rfl, by rfl⟩
noncomputable def e28 : Entry Try.prog := mkE hT hm 28 fi28 fi28_ok l28 sig28 (fun x Q => F28 x.1 x.2 Q) F28_eq
end Go.Proofs.Ytankppgafdcknaa

/- (billhook/dom.graph).visit: what its walk makes hold. -/
set_option linter.unusedVariables false
set_option maxRecDepth 100000
open Go Go.AM
namespace Go.Proofs.Ytankppgafdcknaa
def sig53 : LSig := ⟨[.v (.c (.sl 1))], 1, [.v (.c (.int .i64))], []⟩
noncomputable def fi53 : Fi := mkFi T Try.f53 { live := fun d => if Nat.beq d 1 then slots 42 [0, 1, 6] else none, own := isIn [8] }
noncomputable def l53 : List (Entry Try.prog) := [e56]
abbrev nl53 : Nat := 1
abbrev N53 (Q : Shs.T sig53.res → List D → Prop) : AV → Heap → Prop := endL sig53 Q
noncomputable abbrev X53 : Px := fi53.px T (callOf l53) nl53
noncomputable abbrev W53 : CallW := cwOf l53
def E53_1 (a : List Go.AM.D) (b : List Go.AM.D) (s : (Nat) × (List Go.AM.D) × (List Go.AM.D)) : Env :=
  match s with
  | (v1, v2, v3) =>
    [Go.AM.AV.im (Go.AM.D.sl Bool.false (1 : Nat) a), Go.AM.AV.ref (0 : Nat) (0 : Nat) (List.length b), Go.AM.AV.bad, Go.AM.AV.bad, Go.AM.AV.bad, Go.AM.AV.bad, Go.AM.AV.ref (1 : Nat) (0 : Nat) v1, Go.AM.AV.bad, Go.AM.AV.bad, Go.AM.AV.bad, Go.AM.AV.bad, Go.AM.AV.bad, Go.AM.AV.bad, Go.AM.AV.bad, Go.AM.AV.bad, Go.AM.AV.bad, Go.AM.AV.bad, Go.AM.AV.bad, Go.AM.AV.bad, Go.AM.AV.bad, Go.AM.AV.bad, Go.AM.AV.bad, Go.AM.AV.bad, Go.AM.AV.bad, Go.AM.AV.bad, Go.AM.AV.bad, Go.AM.AV.bad, Go.AM.AV.bad, Go.AM.AV.bad, Go.AM.AV.bad, Go.AM.AV.bad, Go.AM.AV.bad, Go.AM.AV.bad, Go.AM.AV.bad, Go.AM.AV.bad, Go.AM.AV.bad, Go.AM.AV.bad, Go.AM.AV.bad, Go.AM.AV.bad, Go.AM.AV.bad, Go.AM.AV.bad, Go.AM.AV.bad]
def H53_1 (a : List Go.AM.D) (b : List Go.AM.D) (s : (Nat) × (List Go.AM.D) × (List Go.AM.D)) : Heap :=
  match s with
  | (v1, v2, v3) =>
    [Option.some (Go.AM.Blk.c (1 : Nat) v2), Option.some (Go.AM.Blk.c (1 : Nat) v3)]
noncomputable def C53_1 (Q : Unit → List Go.AM.D → Prop) : Go.Code × Go.AM.Kx := sub X53 W53 fi53.code [1, 0] [] (finK T fi53 nl53 (N53 Q))
noncomputable def L53_1 (a : List Go.AM.D) (b : List Go.AM.D) (Q : Unit → List Go.AM.D → Prop) (s : (Nat) × (List Go.AM.D) × (List Go.AM.D)) : Prop := ∃ n, loopV X53 W53 (C53_1 Q) n (E53_1 a b s) (H53_1 a b s)
def B53_1 (a : List Go.AM.D) (b : List Go.AM.D) (c : Int) (Q : Unit → List Go.AM.D → Prop) (s : (Nat) × (List Go.AM.D) × (List Go.AM.D)) (R4 : Env → Heap → Prop) : Prop :=
  match s with
  | (v1, v2, v3) =>
    cond (Decidable.decide ((↑v1 : Int) > (0 : Int)))
    (((0 : Int) ≤ Go.IntKind.wrap Go.IntKind.i64 ((↑v1 : Int) - (1 : Int))) ∧
    (Int.toNat (Go.IntKind.wrap Go.IntKind.i64 ((↑v1 : Int) - (1 : Int))) < v1) ∧
    optP (v3[(0 : Nat) + Int.toNat (Go.IntKind.wrap Go.IntKind.i64 ((↑v1 : Int) - (1 : Int)))]?) fun (d5 : Go.AM.D) =>
      optP (Go.AM.D.asInt Go.IntKind.i64 d5) fun (d6 : Int) =>
        ((0 : Int) ≤ Go.IntKind.wrap Go.IntKind.i64 ((↑v1 : Int) - (1 : Int))) ∧
        (Go.IntKind.wrap Go.IntKind.i64 ((↑v1 : Int) - (1 : Int)) ≤ (↑v1 : Int)) ∧
        F56 (a) (d6)
          (fun (r7 : Bool) =>
          cond (r7)
            (((0 : Int) ≤ d6) ∧
            (Int.toNat d6 < List.length b) ∧
            optP (v2[(0 : Nat) + Int.toNat d6]?) fun (d8 : Go.AM.D) =>
              optP (Go.AM.D.asBool d8) fun (d9 : Bool) =>
                cond (!d9)
                  (((0 : Int) ≤ d6) ∧
                  (Int.toNat d6 < List.length b) ∧
                  ((0 : Nat) + Int.toNat d6 < List.length v2) ∧
                  ((0 : Int) ≤ d6) ∧
                  optP (a[Int.toNat d6]?) fun (d10 : Go.AM.D) =>
                    optP (Go.AM.D.asSl (1 : Nat) d10) fun (d11 : List Go.AM.D) =>
                      cond (List.all (List.map Go.AM.AV.im d11) fun (e : Go.AM.AV) =>
  List.all
    (match e with
    | Go.AM.AV.im (Go.AM.D.agg cs) => List.map Go.AM.AV.im cs
    | Go.AM.AV.agg cs => cs
    | Go.AM.AV.tup vs => []
    | Go.AM.AV.bad => []
    | x => [x])
    Go.AM.okCell)
                        ((List.length (List.take (Int.toNat (Go.IntKind.wrap Go.IntKind.i64 ((↑v1 : Int) - (1 : Int))) - (0 : Nat)) (List.drop (0 : Nat) v3) ++ d11) * (8 : Nat) ≤ (140737488355328 : Nat)) ∧
                        (List.length (List.take (Int.toNat (Go.IntKind.wrap Go.IntKind.i64 ((↑v1 : Int) - (1 : Int))) - (0 : Nat)) (List.drop (0 : Nat) v3) ++ d11) ≤ (140737488355328 : Nat)) ∧
                        R4 (E53_1 a b ((List.length (List.take (Int.toNat (Go.IntKind.wrap Go.IntKind.i64 ((↑v1 : Int) - (1 : Int))) - (0 : Nat)) (List.drop (0 : Nat) v3) ++ d11), List.set v2 ((0 : Nat) + Int.toNat d6) (Go.AM.D.bool Bool.true), List.take (Int.toNat (Go.IntKind.wrap Go.IntKind.i64 ((↑v1 : Int) - (1 : Int))) - (0 : Nat)) (List.drop (0 : Nat) v3) ++ d11))) (H53_1 a b ((List.length (List.take (Int.toNat (Go.IntKind.wrap Go.IntKind.i64 ((↑v1 : Int) - (1 : Int))) - (0 : Nat)) (List.drop (0 : Nat) v3) ++ d11), List.set v2 ((0 : Nat) + Int.toNat d6) (Go.AM.D.bool Bool.true), List.take (Int.toNat (Go.IntKind.wrap Go.IntKind.i64 ((↑v1 : Int) - (1 : Int))) - (0 : Nat)) (List.drop (0 : Nat) v3) ++ d11))))
                        (False))
                  (R4 (E53_1 a b ((Int.toNat (Go.IntKind.wrap Go.IntKind.i64 ((↑v1 : Int) - (1 : Int))) - (0 : Nat), v2, v3))) (H53_1 a b ((Int.toNat (Go.IntKind.wrap Go.IntKind.i64 ((↑v1 : Int) - (1 : Int))) - (0 : Nat), v2, v3)))))
            (R4 (E53_1 a b ((Int.toNat (Go.IntKind.wrap Go.IntKind.i64 ((↑v1 : Int) - (1 : Int))) - (0 : Nat), v2, v3))) (H53_1 a b ((Int.toNat (Go.IntKind.wrap Go.IntKind.i64 ((↑v1 : Int) - (1 : Int))) - (0 : Nat), v2, v3))))))
    (Q (()) (v2))
theorem B53_1_eq (a : List Go.AM.D) (b : List Go.AM.D) (c : Int) (Q : Unit → List Go.AM.D → Prop) (s : (Nat) × (List Go.AM.D) × (List Go.AM.D)) (n : Nat) : loopV X53 W53 (C53_1 Q) (n + 1) (E53_1 a b s) (H53_1 a b s) = B53_1 a b c Q s (fun env H => loopV X53 W53 (C53_1 Q) n env H) := by
  kernel_rfl
def F53u (a : List Go.AM.D) (b : List Go.AM.D) (c : Int) (Q : Unit → List Go.AM.D → Prop) : Prop :=
  L53_1 a b Q ((List.length [Go.AM.D.int Go.IntKind.i64 c], b, [Go.AM.D.int Go.IntKind.i64 c]))

theorem F53u_eq (x : Ars.T sig53.pre) (ds : List D) (y : Ars.T sig53.post) (Q : Shs.T sig53.res → List D → Prop) : callBodyK T (callOf l53) (cwOf l53) fi53 (encL sig53 x ds y) [some (.c sig53.z ds)] (endL sig53 Q) = F53u x ds y Q := by
  kernel_rfl
noncomputable def F53 := lock @F53u
theorem F53_un : F53 = F53u := lock_eq _
theorem F53_eq (x : Ars.T sig53.pre) (ds : List D) (y : Ars.T sig53.post) (Q : Shs.T sig53.res → List D → Prop) : callBodyK T (callOf l53) (cwOf l53) fi53 (encL sig53 x ds y) [some (.c sig53.z ds)] (endL sig53 Q) = F53 x ds y Q := by
  rw [F53_un]
  exact F53u_eq x ds y Q
theorem fi53_ok : fi53.ok Try.prog 53 := ⟨Try.func53, by decide, rfl, by rfl⟩
noncomputable def e53 : Entry Try.prog := mkEL hT hm 53 fi53 fi53_ok l53 sig53 (fun x ds y Q => F53 x ds y Q) F53_eq
end Go.Proofs.Ytankppgafdcknaa

/- billhook/dom.Reach: what its walk makes hold. -/
set_option linter.unusedVariables false
set_option maxRecDepth 100000
open Go Go.AM
namespace Go.Proofs.Ytankppgafdcknaa
def sig29 : Sig := ⟨[.v (.c (.sl 1)), .v (.c (.sl 1))], [.c (.sl 1)]⟩
noncomputable def fi29 : Fi := mkFi T Try.f29 { live := fun d => if Nat.beq d 3 then slots 23 [0, 5, 11, 12, 13] else none, lend := isIn [53] }
noncomputable def l29 : List (Entry Try.prog) := [e53]
abbrev nl29 : Nat := 0
abbrev N29 (Q : Shs.T sig29.res → Prop) : AV → Heap → Prop := endK sig29 Q
noncomputable abbrev X29 : Px := fi29.px T (callOf l29) nl29
noncomputable abbrev W29 : CallW := cwOf l29
def E29_1 (a : List Go.AM.D) (b : List Go.AM.D) (s : (Int) × (List Go.AM.D)) : Env :=
  match s with
  | (v1, v2) =>
    [Go.AM.AV.im (Go.AM.D.sl Bool.false (1 : Nat) a), Go.AM.AV.bad, Go.AM.AV.bad, Go.AM.AV.bad, Go.AM.AV.bad, Go.AM.AV.ref (0 : Nat) (0 : Nat) (List.length (Go.AM.rep (Int.toNat (↑(List.length a) : Int)) (Go.AM.D.bool Bool.false))), Go.AM.AV.bad, Go.AM.AV.bad, Go.AM.AV.bad, Go.AM.AV.bad, Go.AM.AV.bad, Go.AM.AV.im (Go.AM.D.sl Bool.false (1 : Nat) b), Go.AM.AV.im (Go.AM.D.int Go.IntKind.i64 (↑(List.length b) : Int)), Go.AM.AV.im (Go.AM.D.int Go.IntKind.i64 v1), Go.AM.AV.bad, Go.AM.AV.bad, Go.AM.AV.bad, Go.AM.AV.bad, Go.AM.AV.bad, Go.AM.AV.bad, Go.AM.AV.bad, Go.AM.AV.bad, Go.AM.AV.bad]
def H29_1 (a : List Go.AM.D) (b : List Go.AM.D) (s : (Int) × (List Go.AM.D)) : Heap :=
  match s with
  | (v1, v2) =>
    [Option.some (Go.AM.Blk.c (1 : Nat) v2)]
noncomputable def C29_1 (Q : List Go.AM.D → Prop) : Go.Code × Go.AM.Kx := sub X29 W29 fi29.code [1, 1, 0, 1, 0] [] (finK T fi29 nl29 (N29 Q))
noncomputable def L29_1 (a : List Go.AM.D) (b : List Go.AM.D) (Q : List Go.AM.D → Prop) (s : (Int) × (List Go.AM.D)) : Prop := ∃ n, loopV X29 W29 (C29_1 Q) n (E29_1 a b s) (H29_1 a b s)
def B29_1 (a : List Go.AM.D) (b : List Go.AM.D) (Q : List Go.AM.D → Prop) (s : (Int) × (List Go.AM.D)) (R3 : Env → Heap → Prop) : Prop :=
  match s with
  | (v1, v2) =>
    cond (Decidable.decide (v1 < (↑(List.length b) : Int)))
    (((0 : Int) ≤ v1) ∧
    optP (b[Int.toNat v1]?) fun (d4 : Go.AM.D) =>
      optP (Go.AM.D.asInt Go.IntKind.i64 d4) fun (d5 : Int) =>
        (List.length (Go.AM.rep (Int.toNat (↑(List.length a) : Int)) (Go.AM.D.bool Bool.false)) = List.length v2) ∧
        F53 (a) (v2) (d5)
          (fun (r6 : Unit) =>
          fun (r7 : List Go.AM.D) =>
          R3 (E29_1 a b ((Go.IntKind.wrap Go.IntKind.i64 (v1 + (1 : Int)), r7))) (H29_1 a b ((Go.IntKind.wrap Go.IntKind.i64 (v1 + (1 : Int)), r7)))))
    (Q (List.take (List.length (Go.AM.rep (Int.toNat (↑(List.length a) : Int)) (Go.AM.D.bool Bool.false))) (List.drop (0 : Nat) v2)))
theorem B29_1_eq (a : List Go.AM.D) (b : List Go.AM.D) (Q : List Go.AM.D → Prop) (s : (Int) × (List Go.AM.D)) (n : Nat) : loopV X29 W29 (C29_1 Q) (n + 1) (E29_1 a b s) (H29_1 a b s) = B29_1 a b Q s (fun env H => loopV X29 W29 (C29_1 Q) n env H) := by
  kernel_rfl
def F29u (a : List Go.AM.D) (b : List Go.AM.D) (Q : List Go.AM.D → Prop) : Prop :=
  ((↑(List.length a) : Int) = (↑(List.length a) : Int)) ∧
  ((0 : Int) ≤ (↑(List.length a) : Int)) ∧
  ((↑(List.length a) : Int) * (1 : Int) ≤ (140737488355328 : Int)) ∧
  ((↑(List.length a) : Int) ≤ (140737488355328 : Int)) ∧
  L29_1 a b Q (((0 : Int), Go.AM.rep (Int.toNat (↑(List.length a) : Int)) (Go.AM.D.bool Bool.false)))

theorem F29u_eq (x : Ars.T sig29.args) (Q : Shs.T sig29.res → Prop) : callBodyK T (callOf l29) (cwOf l29) fi29 (Ars.enc sig29.args x) [] (endK sig29 Q) = F29u x.1 x.2 Q := by
  kernel_rfl
noncomputable def F29 := lock @F29u
theorem F29_un : F29 = F29u := lock_eq _
theorem F29_eq (x : Ars.T sig29.args) (Q : Shs.T sig29.res → Prop) : callBodyK T (callOf l29) (cwOf l29) fi29 (Ars.enc sig29.args x) [] (endK sig29 Q) = F29 x.1 x.2 Q := by
  rw [F29_un]
  exact F29u_eq x Q
theorem fi29_ok : fi29.ok Try.prog 29 := ⟨Try.func29, by decide, rfl, by rfl⟩
noncomputable def e29 : Entry Try.prog := mkE hT hm 29 fi29 fi29_ok l29 sig29 (fun x Q => F29 x.1 x.2 Q) F29_eq
end Go.Proofs.Ytankppgafdcknaa

/- billhook/billhooklaw10.same: what its walk makes hold. -/
set_option linter.unusedVariables false
set_option maxRecDepth 100000
open Go Go.AM
namespace Go.Proofs.Ytankppgafdcknaa
def sig33 : Sig := ⟨[.v (.c (.sl 1)), .v (.c (.sl 1))], [.c .bool]⟩
noncomputable def fi33 : Fi := mkFi T Try.f33 { live := fun d => if Nat.beq d 4 then slots 26 [0, 1, 5] else none }
noncomputable def l33 : List (Entry Try.prog) := []
abbrev nl33 : Nat := 0
abbrev N33 (Q : Shs.T sig33.res → Prop) : AV → Heap → Prop := endK sig33 Q
noncomputable abbrev X33 : Px := fi33.px T (callOf l33) nl33
noncomputable abbrev W33 : CallW := cwOf l33
def E33_1 (a : List Go.AM.D) (b : List Go.AM.D) (s : (Int)) : Env :=
  match s with
  | v1 =>
    [Go.AM.AV.im (Go.AM.D.sl Bool.false (1 : Nat) a), Go.AM.AV.im (Go.AM.D.sl Bool.false (1 : Nat) b), Go.AM.AV.bad, Go.AM.AV.bad, Go.AM.AV.bad, Go.AM.AV.im (Go.AM.D.int Go.IntKind.i64 v1), Go.AM.AV.bad, Go.AM.AV.bad, Go.AM.AV.bad, Go.AM.AV.bad, Go.AM.AV.bad, Go.AM.AV.bad, Go.AM.AV.bad, Go.AM.AV.bad, Go.AM.AV.bad, Go.AM.AV.bad, Go.AM.AV.bad, Go.AM.AV.bad, Go.AM.AV.bad, Go.AM.AV.bad, Go.AM.AV.bad, Go.AM.AV.bad, Go.AM.AV.bad, Go.AM.AV.bad, Go.AM.AV.bad, Go.AM.AV.bad]
def H33_1 (a : List Go.AM.D) (b : List Go.AM.D) (s : (Int)) : Heap :=
  match s with
  | v1 =>
    []
noncomputable def C33_1 (Q : Bool → Prop) : Go.Code × Go.AM.Kx := sub X33 W33 fi33.code [1, 1, 0, 1, 0] [] (finK T fi33 nl33 (N33 Q))
noncomputable def L33_1 (a : List Go.AM.D) (b : List Go.AM.D) (Q : Bool → Prop) (s : (Int)) : Prop := ∃ n, loopV X33 W33 (C33_1 Q) n (E33_1 a b s) (H33_1 a b s)
def B33_1 (a : List Go.AM.D) (b : List Go.AM.D) (Q : Bool → Prop) (s : (Int)) (R2 : Env → Heap → Prop) : Prop :=
  match s with
  | v1 =>
    cond (Decidable.decide (v1 < (↑(List.length a) : Int)))
    (((0 : Int) ≤ v1) ∧
    optP (a[Int.toNat v1]?) fun (d3 : Go.AM.D) =>
      optP (Go.AM.D.asInt Go.IntKind.i64 d3) fun (d4 : Int) =>
        ((0 : Int) ≤ v1) ∧
        optP (b[Int.toNat v1]?) fun (d5 : Go.AM.D) =>
          optP (Go.AM.D.asInt Go.IntKind.i64 d5) fun (d6 : Int) =>
            cond (d4 != d6)
              (Q (Bool.false))
              (R2 (E33_1 a b (Go.IntKind.wrap Go.IntKind.i64 (v1 + (1 : Int)))) (H33_1 a b (Go.IntKind.wrap Go.IntKind.i64 (v1 + (1 : Int))))))
    (Q (Bool.true))
theorem B33_1_eq (a : List Go.AM.D) (b : List Go.AM.D) (Q : Bool → Prop) (s : (Int)) (n : Nat) : loopV X33 W33 (C33_1 Q) (n + 1) (E33_1 a b s) (H33_1 a b s) = B33_1 a b Q s (fun env H => loopV X33 W33 (C33_1 Q) n env H) := by
  kernel_rfl
def F33u (a : List Go.AM.D) (b : List Go.AM.D) (Q : Bool → Prop) : Prop :=
  cond ((↑(List.length a) : Int) != (↑(List.length b) : Int))
    (Q (Bool.false))
    (L33_1 a b Q ((0 : Int)))

theorem F33u_eq (x : Ars.T sig33.args) (Q : Shs.T sig33.res → Prop) : callBodyK T (callOf l33) (cwOf l33) fi33 (Ars.enc sig33.args x) [] (endK sig33 Q) = F33u x.1 x.2 Q := by
  kernel_rfl
noncomputable def F33 := lock @F33u
theorem F33_un : F33 = F33u := lock_eq _
theorem F33_eq (x : Ars.T sig33.args) (Q : Shs.T sig33.res → Prop) : callBodyK T (callOf l33) (cwOf l33) fi33 (Ars.enc sig33.args x) [] (endK sig33 Q) = F33 x.1 x.2 Q := by
  rw [F33_un]
  exact F33u_eq x Q
theorem fi33_ok : fi33.ok Try.prog 33 := ⟨Try.func33, by decide, rfl, by rfl⟩
noncomputable def e33 : Entry Try.prog := mkE hT hm 33 fi33 fi33_ok l33 sig33 (fun x Q => F33 x.1 x.2 Q) F33_eq
end Go.Proofs.Ytankppgafdcknaa

/- billhook/dom.Least: what its walk makes hold. -/
set_option linter.unusedVariables false
set_option maxRecDepth 100000
open Go Go.AM
namespace Go.Proofs.Ytankppgafdcknaa
def sig34 : Sig := ⟨[.v (.c (.sl 1))], [.c (.sl 1)]⟩
noncomputable def fi34 : Fi := mkFi T Try.f34 { live := fun d => if Nat.beq d 14 then slots 91 [0, 3, 4, 5, 6, 7, 13, 14, 31, 32, 51, 52, 53] else if Nat.beq d 9 then slots 91 [0, 3, 4, 5, 13, 14, 31, 32] else if Nat.beq d 4 then slots 91 [0, 3, 4, 13, 14] else none, own := isIn [4] }
noncomputable def l34 : List (Entry Try.prog) := [e31, e29]
abbrev nl34 : Nat := 0
abbrev N34 (Q : Shs.T sig34.res → Prop) : AV → Heap → Prop := endK sig34 Q
noncomputable abbrev X34 : Px := fi34.px T (callOf l34) nl34
noncomputable abbrev W34 : CallW := cwOf l34
def E34_1 (a : List Go.AM.D) (r1 : List Go.AM.D) (s : (Nat) × (Int) × (List Go.AM.D)) : Env :=
  match s with
  | (v2, v3, v4) =>
    [Go.AM.AV.im (Go.AM.D.sl Bool.false (1 : Nat) a), Go.AM.AV.bad, Go.AM.AV.bad, Go.AM.AV.im (Go.AM.D.sl Bool.false (1 : Nat) r1), Go.AM.AV.ref (0 : Nat) (0 : Nat) v2, Go.AM.AV.bad, Go.AM.AV.bad, Go.AM.AV.bad, Go.AM.AV.bad, Go.AM.AV.bad, Go.AM.AV.bad, Go.AM.AV.bad, Go.AM.AV.bad, Go.AM.AV.im (Go.AM.D.int Go.IntKind.i64 (↑(List.length a) : Int)), Go.AM.AV.im (Go.AM.D.int Go.IntKind.i64 v3), Go.AM.AV.bad, Go.AM.AV.bad, Go.AM.AV.bad, Go.AM.AV.bad, Go.AM.AV.bad, Go.AM.AV.bad, Go.AM.AV.bad, Go.AM.AV.bad, Go.AM.AV.bad, Go.AM.AV.bad, Go.AM.AV.bad, Go.AM.AV.bad, Go.AM.AV.bad, Go.AM.AV.bad, Go.AM.AV.bad, Go.AM.AV.bad, Go.AM.AV.bad, Go.AM.AV.bad, Go.AM.AV.bad, Go.AM.AV.bad, Go.AM.AV.bad, Go.AM.AV.bad, Go.AM.AV.bad, Go.AM.AV.bad, Go.AM.AV.bad, Go.AM.AV.bad, Go.AM.AV.bad, Go.AM.AV.bad, Go.AM.AV.bad, Go.AM.AV.bad, Go.AM.AV.bad, Go.AM.AV.bad, Go.AM.AV.bad, Go.AM.AV.bad, Go.AM.AV.bad, Go.AM.AV.bad, Go.AM.AV.bad, Go.AM.AV.bad, Go.AM.AV.bad, Go.AM.AV.bad, Go.AM.AV.bad, Go.AM.AV.bad, Go.AM.AV.bad, Go.AM.AV.bad, Go.AM.AV.bad, Go.AM.AV.bad, Go.AM.AV.bad, Go.AM.AV.bad, Go.AM.AV.bad, Go.AM.AV.bad, Go.AM.AV.bad, Go.AM.AV.bad, Go.AM.AV.bad, Go.AM.AV.bad, Go.AM.AV.bad, Go.AM.AV.bad, Go.AM.AV.bad, Go.AM.AV.bad, Go.AM.AV.bad, Go.AM.AV.bad, Go.AM.AV.bad, Go.AM.AV.bad, Go.AM.AV.bad, Go.AM.AV.bad, Go.AM.AV.bad, Go.AM.AV.bad, Go.AM.AV.bad, Go.AM.AV.bad, Go.AM.AV.bad, Go.AM.AV.bad, Go.AM.AV.bad, Go.AM.AV.bad, Go.AM.AV.bad, Go.AM.AV.bad, Go.AM.AV.bad, Go.AM.AV.bad]
def H34_1 (a : List Go.AM.D) (r1 : List Go.AM.D) (s : (Nat) × (Int) × (List Go.AM.D)) : Heap :=
  match s with
  | (v2, v3, v4) =>
    [Option.some (Go.AM.Blk.c (1 : Nat) v4)]
def E34_2 (a : List Go.AM.D) (r1 : List Go.AM.D) (v2 : Nat) (v3 : Int) (v4 : List Go.AM.D) (s : (Int)) : Env :=
  match s with
  | v9 =>
    [Go.AM.AV.im (Go.AM.D.sl Bool.false (1 : Nat) a), Go.AM.AV.bad, Go.AM.AV.bad, Go.AM.AV.im (Go.AM.D.sl Bool.false (1 : Nat) r1), Go.AM.AV.ref (0 : Nat) (0 : Nat) (List.length (List.take v2 (List.drop (0 : Nat) v4) ++ [Go.AM.D.int Go.IntKind.i64 (-1 : Int)])), Go.AM.AV.im (Go.AM.D.int Go.IntKind.i64 v3), Go.AM.AV.bad, Go.AM.AV.bad, Go.AM.AV.bad, Go.AM.AV.bad, Go.AM.AV.bad, Go.AM.AV.bad, Go.AM.AV.bad, Go.AM.AV.im (Go.AM.D.int Go.IntKind.i64 (↑(List.length a) : Int)), Go.AM.AV.im (Go.AM.D.int Go.IntKind.i64 v3), Go.AM.AV.bad, Go.AM.AV.bad, Go.AM.AV.bad, Go.AM.AV.bad, Go.AM.AV.bad, Go.AM.AV.bad, Go.AM.AV.bad, Go.AM.AV.bad, Go.AM.AV.bad, Go.AM.AV.bad, Go.AM.AV.bad, Go.AM.AV.bad, Go.AM.AV.bad, Go.AM.AV.bad, Go.AM.AV.bad, Go.AM.AV.bad, Go.AM.AV.im (Go.AM.D.int Go.IntKind.i64 (↑(List.length a) : Int)), Go.AM.AV.im (Go.AM.D.int Go.IntKind.i64 v9), Go.AM.AV.bad, Go.AM.AV.bad, Go.AM.AV.bad, Go.AM.AV.bad, Go.AM.AV.bad, Go.AM.AV.bad, Go.AM.AV.bad, Go.AM.AV.bad, Go.AM.AV.bad, Go.AM.AV.bad, Go.AM.AV.bad, Go.AM.AV.bad, Go.AM.AV.bad, Go.AM.AV.bad, Go.AM.AV.bad, Go.AM.AV.bad, Go.AM.AV.bad, Go.AM.AV.bad, Go.AM.AV.bad, Go.AM.AV.bad, Go.AM.AV.bad, Go.AM.AV.bad, Go.AM.AV.bad, Go.AM.AV.bad, Go.AM.AV.bad, Go.AM.AV.bad, Go.AM.AV.bad, Go.AM.AV.bad, Go.AM.AV.bad, Go.AM.AV.bad, Go.AM.AV.bad, Go.AM.AV.bad, Go.AM.AV.bad, Go.AM.AV.bad, Go.AM.AV.bad, Go.AM.AV.bad, Go.AM.AV.bad, Go.AM.AV.bad, Go.AM.AV.bad, Go.AM.AV.bad, Go.AM.AV.bad, Go.AM.AV.bad, Go.AM.AV.bad, Go.AM.AV.bad, Go.AM.AV.bad, Go.AM.AV.bad, Go.AM.AV.bad, Go.AM.AV.bad, Go.AM.AV.bad, Go.AM.AV.bad, Go.AM.AV.bad, Go.AM.AV.bad, Go.AM.AV.bad, Go.AM.AV.bad, Go.AM.AV.bad, Go.AM.AV.bad, Go.AM.AV.bad, Go.AM.AV.bad]
def H34_2 (a : List Go.AM.D) (r1 : List Go.AM.D) (v2 : Nat) (v3 : Int) (v4 : List Go.AM.D) (s : (Int)) : Heap :=
  match s with
  | v9 =>
    [Option.some (Go.AM.Blk.c (1 : Nat) (List.take v2 (List.drop (0 : Nat) v4) ++ [Go.AM.D.int Go.IntKind.i64 (-1 : Int)]))]
def E34_3 (a : List Go.AM.D) (r1 : List Go.AM.D) (v2 : Nat) (v3 : Int) (v4 : List Go.AM.D) (v9 : Int) (d16 : List Go.AM.D) (s : (Bool) × (Int)) : Env :=
  match s with
  | (v17, v18) =>
    [Go.AM.AV.im (Go.AM.D.sl Bool.false (1 : Nat) a), Go.AM.AV.bad, Go.AM.AV.bad, Go.AM.AV.im (Go.AM.D.sl Bool.false (1 : Nat) r1), Go.AM.AV.ref (0 : Nat) (0 : Nat) (List.length (List.take v2 (List.drop (0 : Nat) v4) ++ [Go.AM.D.int Go.IntKind.i64 (-1 : Int)])), Go.AM.AV.im (Go.AM.D.int Go.IntKind.i64 v3), Go.AM.AV.im (Go.AM.D.int Go.IntKind.i64 v9), Go.AM.AV.im (Go.AM.D.bool v17), Go.AM.AV.bad, Go.AM.AV.bad, Go.AM.AV.bad, Go.AM.AV.bad, Go.AM.AV.bad, Go.AM.AV.im (Go.AM.D.int Go.IntKind.i64 (↑(List.length a) : Int)), Go.AM.AV.im (Go.AM.D.int Go.IntKind.i64 v3), Go.AM.AV.bad, Go.AM.AV.bad, Go.AM.AV.bad, Go.AM.AV.bad, Go.AM.AV.bad, Go.AM.AV.bad, Go.AM.AV.bad, Go.AM.AV.bad, Go.AM.AV.bad, Go.AM.AV.bad, Go.AM.AV.bad, Go.AM.AV.bad, Go.AM.AV.bad, Go.AM.AV.bad, Go.AM.AV.bad, Go.AM.AV.bad, Go.AM.AV.im (Go.AM.D.int Go.IntKind.i64 (↑(List.length a) : Int)), Go.AM.AV.im (Go.AM.D.int Go.IntKind.i64 v9), Go.AM.AV.bad, Go.AM.AV.bad, Go.AM.AV.bad, Go.AM.AV.bad, Go.AM.AV.bad, Go.AM.AV.bad, Go.AM.AV.bad, Go.AM.AV.bad, Go.AM.AV.bad, Go.AM.AV.bad, Go.AM.AV.bad, Go.AM.AV.bad, Go.AM.AV.bad, Go.AM.AV.bad, Go.AM.AV.bad, Go.AM.AV.bad, Go.AM.AV.bad, Go.AM.AV.bad, Go.AM.AV.im (Go.AM.D.sl Bool.false (1 : Nat) d16), Go.AM.AV.im (Go.AM.D.int Go.IntKind.i64 (↑(List.length d16) : Int)), Go.AM.AV.im (Go.AM.D.int Go.IntKind.i64 v18), Go.AM.AV.bad, Go.AM.AV.bad, Go.AM.AV.bad, Go.AM.AV.bad, Go.AM.AV.bad, Go.AM.AV.bad, Go.AM.AV.bad, Go.AM.AV.bad, Go.AM.AV.bad, Go.AM.AV.bad, Go.AM.AV.bad, Go.AM.AV.bad, Go.AM.AV.bad, Go.AM.AV.bad, Go.AM.AV.bad, Go.AM.AV.bad, Go.AM.AV.bad, Go.AM.AV.bad, Go.AM.AV.bad, Go.AM.AV.bad, Go.AM.AV.bad, Go.AM.AV.bad, Go.AM.AV.bad, Go.AM.AV.bad, Go.AM.AV.bad, Go.AM.AV.bad, Go.AM.AV.bad, Go.AM.AV.bad, Go.AM.AV.bad, Go.AM.AV.bad, Go.AM.AV.bad, Go.AM.AV.bad, Go.AM.AV.bad, Go.AM.AV.bad, Go.AM.AV.bad, Go.AM.AV.bad, Go.AM.AV.bad]
def H34_3 (a : List Go.AM.D) (r1 : List Go.AM.D) (v2 : Nat) (v3 : Int) (v4 : List Go.AM.D) (v9 : Int) (d16 : List Go.AM.D) (s : (Bool) × (Int)) : Heap :=
  match s with
  | (v17, v18) =>
    [Option.some (Go.AM.Blk.c (1 : Nat) (List.take v2 (List.drop (0 : Nat) v4) ++ [Go.AM.D.int Go.IntKind.i64 (-1 : Int)]))]
noncomputable def C34_3 (Q : List Go.AM.D → Prop) (R5 : List Go.AM.AV → Go.AM.Heap → Prop) (R10 : List Go.AM.AV → Go.AM.Heap → Prop) : Go.Code × Go.AM.Kx := sub X34 W34 fi34.code [1, 1, 1, 0, 1, 0, 0, 1, 1, 0, 0, 1, 1, 1, 1, 0, 0, 1, 1, 0, 0, 1, 1, 1, 0, 1, 0] [R5, R10] (finK T fi34 nl34 (N34 Q))
noncomputable def L34_3 (a : List Go.AM.D) (r1 : List Go.AM.D) (v2 : Nat) (v3 : Int) (v4 : List Go.AM.D) (v9 : Int) (d16 : List Go.AM.D) (Q : List Go.AM.D → Prop) (R5 : List Go.AM.AV → Go.AM.Heap → Prop) (R10 : List Go.AM.AV → Go.AM.Heap → Prop) (s : (Bool) × (Int)) : Prop := ∃ n, loopV X34 W34 (C34_3 Q R5 R10) n (E34_3 a r1 v2 v3 v4 v9 d16 s) (H34_3 a r1 v2 v3 v4 v9 d16 s)
def B34_3 (a : List Go.AM.D) (r1 : List Go.AM.D) (v2 : Nat) (v3 : Int) (v4 : List Go.AM.D) (r6 : List Go.AM.D) (d7 : Go.AM.D) (d8 : Bool) (v9 : Int) (d11 : Go.AM.D) (d12 : List Go.AM.D) (d13 : Go.AM.D) (d14 : Bool) (d15 : Go.AM.D) (d16 : List Go.AM.D) (Q : List Go.AM.D → Prop) (R5 : List Go.AM.AV → Go.AM.Heap → Prop) (R10 : List Go.AM.AV → Go.AM.Heap → Prop) (s : (Bool) × (Int)) (R19 : Env → Heap → Prop) : Prop :=
  match s with
  | (v17, v18) =>
    cond (Decidable.decide (v18 < (↑(List.length d16) : Int)))
    (((0 : Int) ≤ v18) ∧
    optP (d16[Int.toNat v18]?) fun (d20 : Go.AM.D) =>
      optP (Go.AM.D.asBool d20) fun (d21 : Bool) =>
        cond (v17)
          (cond (v18 == v3)
            (R19 (E34_3 a r1 v2 v3 v4 v9 d16 ((Bool.true, Go.IntKind.wrap Go.IntKind.i64 (v18 + (1 : Int))))) (H34_3 a r1 v2 v3 v4 v9 d16 ((Bool.true, Go.IntKind.wrap Go.IntKind.i64 (v18 + (1 : Int))))))
            (cond (v18 == v9)
              (R19 (E34_3 a r1 v2 v3 v4 v9 d16 ((Bool.true, Go.IntKind.wrap Go.IntKind.i64 (v18 + (1 : Int))))) (H34_3 a r1 v2 v3 v4 v9 d16 ((Bool.true, Go.IntKind.wrap Go.IntKind.i64 (v18 + (1 : Int))))))
              (cond (!d21)
                (R19 (E34_3 a r1 v2 v3 v4 v9 d16 ((Bool.true, Go.IntKind.wrap Go.IntKind.i64 (v18 + (1 : Int))))) (H34_3 a r1 v2 v3 v4 v9 d16 ((Bool.true, Go.IntKind.wrap Go.IntKind.i64 (v18 + (1 : Int))))))
                (((0 : Int) ≤ v9) ∧
                optP (r1[Int.toNat v9]?) fun (d22 : Go.AM.D) =>
                  optP (Go.AM.D.asSl (1 : Nat) d22) fun (d23 : List Go.AM.D) =>
                    ((0 : Int) ≤ v18) ∧
                    optP (d23[Int.toNat v18]?) fun (d24 : Go.AM.D) =>
                      optP (Go.AM.D.asBool d24) fun (d25 : Bool) =>
                        R19 (E34_3 a r1 v2 v3 v4 v9 d16 ((d25, Go.IntKind.wrap Go.IntKind.i64 (v18 + (1 : Int))))) (H34_3 a r1 v2 v3 v4 v9 d16 ((d25, Go.IntKind.wrap Go.IntKind.i64 (v18 + (1 : Int)))))))))
          (R19 (E34_3 a r1 v2 v3 v4 v9 d16 ((Bool.false, Go.IntKind.wrap Go.IntKind.i64 (v18 + (1 : Int))))) (H34_3 a r1 v2 v3 v4 v9 d16 ((Bool.false, Go.IntKind.wrap Go.IntKind.i64 (v18 + (1 : Int)))))))
    (cond (v17)
      (((0 : Int) ≤ v3) ∧
      (Int.toNat v3 < List.length (List.take v2 (List.drop (0 : Nat) v4) ++ [Go.AM.D.int Go.IntKind.i64 (-1 : Int)])) ∧
      ((0 : Nat) + Int.toNat v3 < List.length (List.take v2 (List.drop (0 : Nat) v4) ++ [Go.AM.D.int Go.IntKind.i64 (-1 : Int)])) ∧
      R5 (E34_1 a r1 ((List.length (List.take v2 (List.drop (0 : Nat) v4) ++ [Go.AM.D.int Go.IntKind.i64 (-1 : Int)]), Go.IntKind.wrap Go.IntKind.i64 (v3 + (1 : Int)), List.set (List.take v2 (List.drop (0 : Nat) v4) ++ [Go.AM.D.int Go.IntKind.i64 (-1 : Int)]) ((0 : Nat) + Int.toNat v3) (Go.AM.D.int Go.IntKind.i64 v9)))) (H34_1 a r1 ((List.length (List.take v2 (List.drop (0 : Nat) v4) ++ [Go.AM.D.int Go.IntKind.i64 (-1 : Int)]), Go.IntKind.wrap Go.IntKind.i64 (v3 + (1 : Int)), List.set (List.take v2 (List.drop (0 : Nat) v4) ++ [Go.AM.D.int Go.IntKind.i64 (-1 : Int)]) ((0 : Nat) + Int.toNat v3) (Go.AM.D.int Go.IntKind.i64 v9)))))
      (R10 (E34_2 a r1 v2 v3 v4 (Go.IntKind.wrap Go.IntKind.i64 (v9 + (1 : Int)))) (H34_2 a r1 v2 v3 v4 (Go.IntKind.wrap Go.IntKind.i64 (v9 + (1 : Int))))))
theorem B34_3_eq (a : List Go.AM.D) (r1 : List Go.AM.D) (v2 : Nat) (v3 : Int) (v4 : List Go.AM.D) (r6 : List Go.AM.D) (d7 : Go.AM.D) (d8 : Bool) (v9 : Int) (d11 : Go.AM.D) (d12 : List Go.AM.D) (d13 : Go.AM.D) (d14 : Bool) (d15 : Go.AM.D) (d16 : List Go.AM.D) (Q : List Go.AM.D → Prop) (R5 : List Go.AM.AV → Go.AM.Heap → Prop) (R10 : List Go.AM.AV → Go.AM.Heap → Prop) (s : (Bool) × (Int)) (n : Nat) : loopV X34 W34 (C34_3 Q R5 R10) (n + 1) (E34_3 a r1 v2 v3 v4 v9 d16 s) (H34_3 a r1 v2 v3 v4 v9 d16 s) = B34_3 a r1 v2 v3 v4 r6 d7 d8 v9 d11 d12 d13 d14 d15 d16 Q R5 R10 s (fun env H => loopV X34 W34 (C34_3 Q R5 R10) n env H) := by
  kernel_rfl
noncomputable def C34_2 (Q : List Go.AM.D → Prop) (R5 : List Go.AM.AV → Go.AM.Heap → Prop) : Go.Code × Go.AM.Kx := sub X34 W34 fi34.code [1, 1, 1, 0, 1, 0, 0, 1, 1, 0, 0, 1, 1, 1, 1, 0] [R5] (finK T fi34 nl34 (N34 Q))
noncomputable def L34_2 (a : List Go.AM.D) (r1 : List Go.AM.D) (v2 : Nat) (v3 : Int) (v4 : List Go.AM.D) (Q : List Go.AM.D → Prop) (R5 : List Go.AM.AV → Go.AM.Heap → Prop) (s : (Int)) : Prop := ∃ n, loopV X34 W34 (C34_2 Q R5) n (E34_2 a r1 v2 v3 v4 s) (H34_2 a r1 v2 v3 v4 s)
def B34_2 (a : List Go.AM.D) (r1 : List Go.AM.D) (v2 : Nat) (v3 : Int) (v4 : List Go.AM.D) (r6 : List Go.AM.D) (d7 : Go.AM.D) (d8 : Bool) (Q : List Go.AM.D → Prop) (R5 : List Go.AM.AV → Go.AM.Heap → Prop) (s : (Int)) (R10 : Env → Heap → Prop) : Prop :=
  match s with
  | v9 =>
    cond (Decidable.decide (v9 < (↑(List.length a) : Int)))
    (cond (v9 == v3)
      (R10 (E34_2 a r1 v2 v3 v4 (Go.IntKind.wrap Go.IntKind.i64 (v9 + (1 : Int)))) (H34_2 a r1 v2 v3 v4 (Go.IntKind.wrap Go.IntKind.i64 (v9 + (1 : Int)))))
      (((0 : Int) ≤ v3) ∧
      optP (r1[Int.toNat v3]?) fun (d11 : Go.AM.D) =>
        optP (Go.AM.D.asSl (1 : Nat) d11) fun (d12 : List Go.AM.D) =>
          ((0 : Int) ≤ v9) ∧
          optP (d12[Int.toNat v9]?) fun (d13 : Go.AM.D) =>
            optP (Go.AM.D.asBool d13) fun (d14 : Bool) =>
              cond (!d14)
                (R10 (E34_2 a r1 v2 v3 v4 (Go.IntKind.wrap Go.IntKind.i64 (v9 + (1 : Int)))) (H34_2 a r1 v2 v3 v4 (Go.IntKind.wrap Go.IntKind.i64 (v9 + (1 : Int)))))
                (((0 : Int) ≤ v3) ∧
                optP (r1[Int.toNat v3]?) fun (d15 : Go.AM.D) =>
                  optP (Go.AM.D.asSl (1 : Nat) d15) fun (d16 : List Go.AM.D) =>
                    L34_3 a r1 v2 v3 v4 v9 d16 Q R5 R10 ((Bool.true, (0 : Int))))))
    (R5 (E34_1 a r1 ((List.length (List.take v2 (List.drop (0 : Nat) v4) ++ [Go.AM.D.int Go.IntKind.i64 (-1 : Int)]), Go.IntKind.wrap Go.IntKind.i64 (v3 + (1 : Int)), List.take v2 (List.drop (0 : Nat) v4) ++ [Go.AM.D.int Go.IntKind.i64 (-1 : Int)]))) (H34_1 a r1 ((List.length (List.take v2 (List.drop (0 : Nat) v4) ++ [Go.AM.D.int Go.IntKind.i64 (-1 : Int)]), Go.IntKind.wrap Go.IntKind.i64 (v3 + (1 : Int)), List.take v2 (List.drop (0 : Nat) v4) ++ [Go.AM.D.int Go.IntKind.i64 (-1 : Int)]))))
theorem B34_2_eq (a : List Go.AM.D) (r1 : List Go.AM.D) (v2 : Nat) (v3 : Int) (v4 : List Go.AM.D) (r6 : List Go.AM.D) (d7 : Go.AM.D) (d8 : Bool) (Q : List Go.AM.D → Prop) (R5 : List Go.AM.AV → Go.AM.Heap → Prop) (s : (Int)) (n : Nat) : loopV X34 W34 (C34_2 Q R5) (n + 1) (E34_2 a r1 v2 v3 v4 s) (H34_2 a r1 v2 v3 v4 s) = B34_2 a r1 v2 v3 v4 r6 d7 d8 Q R5 s (fun env H => loopV X34 W34 (C34_2 Q R5) n env H) := by
  kernel_rfl
noncomputable def C34_1 (Q : List Go.AM.D → Prop) : Go.Code × Go.AM.Kx := sub X34 W34 fi34.code [1, 1, 1, 0, 1, 0] [] (finK T fi34 nl34 (N34 Q))
noncomputable def L34_1 (a : List Go.AM.D) (r1 : List Go.AM.D) (Q : List Go.AM.D → Prop) (s : (Nat) × (Int) × (List Go.AM.D)) : Prop := ∃ n, loopV X34 W34 (C34_1 Q) n (E34_1 a r1 s) (H34_1 a r1 s)
def B34_1 (a : List Go.AM.D) (r1 : List Go.AM.D) (Q : List Go.AM.D → Prop) (s : (Nat) × (Int) × (List Go.AM.D)) (R5 : Env → Heap → Prop) : Prop :=
  match s with
  | (v2, v3, v4) =>
    cond (Decidable.decide (v3 < (↑(List.length a) : Int)))
    ((List.length (List.take v2 (List.drop (0 : Nat) v4) ++ [Go.AM.D.int Go.IntKind.i64 (-1 : Int)]) * (8 : Nat) ≤ (140737488355328 : Nat)) ∧
    (List.length (List.take v2 (List.drop (0 : Nat) v4) ++ [Go.AM.D.int Go.IntKind.i64 (-1 : Int)]) ≤ (140737488355328 : Nat)) ∧
    F29 (a) ([Go.AM.D.int Go.IntKind.i64 v3])
      (fun (r6 : List Go.AM.D) =>
      ((0 : Int) ≤ Go.IntKind.wrap Go.IntKind.i64 ((↑(List.length a) : Int) - (1 : Int))) ∧
      optP (r6[Int.toNat (Go.IntKind.wrap Go.IntKind.i64 ((↑(List.length a) : Int) - (1 : Int)))]?) fun (d7 : Go.AM.D) =>
        optP (Go.AM.D.asBool d7) fun (d8 : Bool) =>
          cond (!d8)
            (R5 (E34_1 a r1 ((List.length (List.take v2 (List.drop (0 : Nat) v4) ++ [Go.AM.D.int Go.IntKind.i64 (-1 : Int)]), Go.IntKind.wrap Go.IntKind.i64 (v3 + (1 : Int)), List.take v2 (List.drop (0 : Nat) v4) ++ [Go.AM.D.int Go.IntKind.i64 (-1 : Int)]))) (H34_1 a r1 ((List.length (List.take v2 (List.drop (0 : Nat) v4) ++ [Go.AM.D.int Go.IntKind.i64 (-1 : Int)]), Go.IntKind.wrap Go.IntKind.i64 (v3 + (1 : Int)), List.take v2 (List.drop (0 : Nat) v4) ++ [Go.AM.D.int Go.IntKind.i64 (-1 : Int)]))))
            (L34_2 a r1 v2 v3 v4 Q R5 ((0 : Int)))))
    (Q (List.take v2 (List.drop (0 : Nat) v4)))
theorem B34_1_eq (a : List Go.AM.D) (r1 : List Go.AM.D) (Q : List Go.AM.D → Prop) (s : (Nat) × (Int) × (List Go.AM.D)) (n : Nat) : loopV X34 W34 (C34_1 Q) (n + 1) (E34_1 a r1 s) (H34_1 a r1 s) = B34_1 a r1 Q s (fun env H => loopV X34 W34 (C34_1 Q) n env H) := by
  kernel_rfl
def F34u (a : List Go.AM.D) (Q : List Go.AM.D → Prop) : Prop :=
  F31 (a)
    (fun (r1 : List Go.AM.D) =>
    L34_1 a r1 Q (((0 : Nat), (0 : Int), [])))

theorem F34u_eq (x : Ars.T sig34.args) (Q : Shs.T sig34.res → Prop) : callBodyK T (callOf l34) (cwOf l34) fi34 (Ars.enc sig34.args x) [] (endK sig34 Q) = F34u x Q := by
  kernel_rfl
noncomputable def F34 := lock @F34u
theorem F34_un : F34 = F34u := lock_eq _
theorem F34_eq (x : Ars.T sig34.args) (Q : Shs.T sig34.res → Prop) : callBodyK T (callOf l34) (cwOf l34) fi34 (Ars.enc sig34.args x) [] (endK sig34 Q) = F34 x Q := by
  rw [F34_un]
  exact F34u_eq x Q
theorem fi34_ok : fi34.ok Try.prog 34 := ⟨Try.func34, by decide, rfl, by rfl⟩
noncomputable def e34 : Entry Try.prog := mkE hT hm 34 fi34 fi34_ok l34 sig34 (fun x Q => F34 x Q) F34_eq
end Go.Proofs.Ytankppgafdcknaa

/- billhook/billhooklaw10.rows: what its walk makes hold. -/
set_option linter.unusedVariables false
set_option maxRecDepth 100000
open Go Go.AM
namespace Go.Proofs.Ytankppgafdcknaa
def sig36 : Sig := ⟨[.v (.c (.sl 1)), .v (.c (.sl 1))], [.c .bool]⟩
noncomputable def fi36 : Fi := mkFi T Try.f36 { live := fun d => if Nat.beq d 4 then slots 27 [0, 1, 5] else none }
noncomputable def l36 : List (Entry Try.prog) := [e33]
abbrev nl36 : Nat := 0
abbrev N36 (Q : Shs.T sig36.res → Prop) : AV → Heap → Prop := endK sig36 Q
noncomputable abbrev X36 : Px := fi36.px T (callOf l36) nl36
noncomputable abbrev W36 : CallW := cwOf l36
def E36_1 (a : List Go.AM.D) (b : List Go.AM.D) (s : (Int)) : Env :=
  match s with
  | v1 =>
    [Go.AM.AV.im (Go.AM.D.sl Bool.false (1 : Nat) a), Go.AM.AV.im (Go.AM.D.sl Bool.false (1 : Nat) b), Go.AM.AV.bad, Go.AM.AV.bad, Go.AM.AV.bad, Go.AM.AV.im (Go.AM.D.int Go.IntKind.i64 v1), Go.AM.AV.bad, Go.AM.AV.bad, Go.AM.AV.bad, Go.AM.AV.bad, Go.AM.AV.bad, Go.AM.AV.bad, Go.AM.AV.bad, Go.AM.AV.bad, Go.AM.AV.bad, Go.AM.AV.bad, Go.AM.AV.bad, Go.AM.AV.bad, Go.AM.AV.bad, Go.AM.AV.bad, Go.AM.AV.bad, Go.AM.AV.bad, Go.AM.AV.bad, Go.AM.AV.bad, Go.AM.AV.bad, Go.AM.AV.bad, Go.AM.AV.bad]
def H36_1 (a : List Go.AM.D) (b : List Go.AM.D) (s : (Int)) : Heap :=
  match s with
  | v1 =>
    []
noncomputable def C36_1 (Q : Bool → Prop) : Go.Code × Go.AM.Kx := sub X36 W36 fi36.code [1, 1, 0, 1, 0] [] (finK T fi36 nl36 (N36 Q))
noncomputable def L36_1 (a : List Go.AM.D) (b : List Go.AM.D) (Q : Bool → Prop) (s : (Int)) : Prop := ∃ n, loopV X36 W36 (C36_1 Q) n (E36_1 a b s) (H36_1 a b s)
def B36_1 (a : List Go.AM.D) (b : List Go.AM.D) (Q : Bool → Prop) (s : (Int)) (R2 : Env → Heap → Prop) : Prop :=
  match s with
  | v1 =>
    cond (Decidable.decide (v1 < (↑(List.length a) : Int)))
    (((0 : Int) ≤ v1) ∧
    optP (a[Int.toNat v1]?) fun (d3 : Go.AM.D) =>
      optP (Go.AM.D.asSl (1 : Nat) d3) fun (d4 : List Go.AM.D) =>
        ((0 : Int) ≤ v1) ∧
        optP (b[Int.toNat v1]?) fun (d5 : Go.AM.D) =>
          optP (Go.AM.D.asSl (1 : Nat) d5) fun (d6 : List Go.AM.D) =>
            F33 (d4) (d6)
              (fun (r7 : Bool) =>
              cond (!r7)
                (Q (Bool.false))
                (R2 (E36_1 a b (Go.IntKind.wrap Go.IntKind.i64 (v1 + (1 : Int)))) (H36_1 a b (Go.IntKind.wrap Go.IntKind.i64 (v1 + (1 : Int)))))))
    (Q (Bool.true))
theorem B36_1_eq (a : List Go.AM.D) (b : List Go.AM.D) (Q : Bool → Prop) (s : (Int)) (n : Nat) : loopV X36 W36 (C36_1 Q) (n + 1) (E36_1 a b s) (H36_1 a b s) = B36_1 a b Q s (fun env H => loopV X36 W36 (C36_1 Q) n env H) := by
  kernel_rfl
def F36u (a : List Go.AM.D) (b : List Go.AM.D) (Q : Bool → Prop) : Prop :=
  cond ((↑(List.length a) : Int) != (↑(List.length b) : Int))
    (Q (Bool.false))
    (L36_1 a b Q ((0 : Int)))

theorem F36u_eq (x : Ars.T sig36.args) (Q : Shs.T sig36.res → Prop) : callBodyK T (callOf l36) (cwOf l36) fi36 (Ars.enc sig36.args x) [] (endK sig36 Q) = F36u x.1 x.2 Q := by
  kernel_rfl
noncomputable def F36 := lock @F36u
theorem F36_un : F36 = F36u := lock_eq _
theorem F36_eq (x : Ars.T sig36.args) (Q : Shs.T sig36.res → Prop) : callBodyK T (callOf l36) (cwOf l36) fi36 (Ars.enc sig36.args x) [] (endK sig36 Q) = F36 x.1 x.2 Q := by
  rw [F36_un]
  exact F36u_eq x Q
theorem fi36_ok : fi36.ok Try.prog 36 := ⟨Try.func36, by decide, rfl, by rfl⟩
noncomputable def e36 : Entry Try.prog := mkE hT hm 36 fi36 fi36_ok l36 sig36 (fun x Q => F36 x.1 x.2 Q) F36_eq
end Go.Proofs.Ytankppgafdcknaa

/- The examples of chapter 10, run. -/
set_option linter.unusedVariables false
set_option linter.unusedSimpArgs false
set_option maxRecDepth 100000
open Go Go.AM
namespace Go.Proofs.Ytankppgafdcknaa

def asIntL : List D → Option (List Int)
  | [] => some []
  | .int .i64 n :: ds => match asIntL ds with
    | some xs => some (n :: xs)
    | none => none
  | _ => none
theorem asIntL_eq : ∀ {ds : List D} {xs : List Int}, asIntL ds = some xs → ds = xs.map (D.int .i64)
  | [], xs, h => by simp [asIntL] at h; subst h; rfl
  | d :: ds, xs, h => by
    unfold asIntL at h
    split at h
    · rename_i e; cases e
    · rename_i e
      cases e
      split at h
      · rename_i h2
        simp at h
        subst h
        rw [asIntL_eq h2]
        rfl
      · cases h
    · cases h
def asRows : List D → Option (List (List Int))
  | [] => some []
  | d :: ds => match d.asSl 1 with
    | some es => match asIntL es, asRows ds with
      | some x, some xs => some (x :: xs)
      | _, _ => none
    | none => none
theorem asSl_cells {z : Nat} {d : D} {es : List D} (h : d.asSl z = some es) : d.cells = [d] := by
  cases d <;> first | rfl | simp [D.asSl] at h
theorem asRows_rd {I : Nat → Option (Array Value)} : ∀ {ds : List D} {xs : List (List Int)} {vs : List Value}, asRows ds = some xs → RDs I (ds.flatMap D.cells) vs → RDs I ((xs.map Ints.el).flatMap D.cells) vs ∧ xs.length = ds.length
  | [], xs, vs, h, hr => by simp [asRows] at h; subst h; exact ⟨hr, rfl⟩
  | d :: ds, xs, vs, h, hr => by
    unfold asRows at h
    split at h
    · rename_i es hes
      split at h
      · rename_i x ys h1 h2
        simp at h
        subst h
        rw [List.flatMap_cons, asSl_cells hes] at hr
        cases hr with
        | cons _ _ v vs h3 h4 =>
          obtain ⟨h5, h6⟩ := asRows_rd h2 h4
          have h7 := asSl_rd hes h3
          rw [asIntL_eq h1] at h7
          exact ⟨.cons _ _ _ _ h7 h5, by simp [h6]⟩
      · cases h
    · cases h
theorem rows_rd {I : Nat → Option (Array Value)} {es : List D} {xs : List (List Int)} {v : Value} (h : asRows es = some xs) (hr : RD I (.sl false 1 es) v) : RD I (.sl false 1 (xs.map Ints.el)) v := by
  cases hr with
  | slnil => simp [asRows] at h; subst h; exact .slnil _ _
  | slz _ _ a hz => simp [asRows] at h; subst h; exact .slz _ _ a hz
  | sle _ A n hz => simp [asRows] at h; subst h; exact .sle _ A n hz
  | sl _ _ _ b off cap c vs h0 h1 h2 h3 h4 h5 h6 =>
    obtain ⟨h7, h8⟩ := asRows_rd h h2
    have := RD.sl false 1 (xs.map Ints.el) b off cap c vs h0 h1 h7 h3 (fun d hd => by
      obtain ⟨x, _, rfl⟩ := List.mem_map.1 hd
      rfl) (by simp) (by simp; omega)
    rw [List.length_map, h8] at this
    exact this
def g5 : List (List Int) := [[1, 2], [3], [3], [4, 0], []]
def p5 : List (List Bool) := [[true, false, false, true, true], [false, true, false, true, true], [false, false, true, true, true], [false, false, false, true, true], [false, false, false, false, true]]
theorem post_g5 : PPost.dom_Post.f 1000 g5 = some p5 := by kernel_rfl
theorem post_nil : PPost.dom_Post.f 1 [] = some [] := by kernel_rfl
theorem ok_g5 : PostOK g5 := ⟨⟨_, _, post_g5⟩, by decide⟩
theorem ok_nil : PostOK [] := ⟨⟨_, _, post_nil⟩, by simp⟩
/-- Post at the examples' graphs. -/
def sp31t : Sp := fun az H => match az, H with
  | [.im d], [] => match d.asSl 1 with
    | some es => match asRows es with
      | some xs => if xs == g5 then some (.im (.sl false 1 (p5.map Bools.el)), []) else if xs == [] then some (.im (.sl false 1 []), []) else none
      | none => none
    | none => none
  | _, _ => none
theorem sp31t_ok : Ok1 Try.prog 31 sp31t := by
  intro az H res H' hs I κ w vals hw hdom hr
  unfold sp31t at hs
  split at hs
  · rename_i d
    split at hs
    · rename_i es hes
      split at hs
      · rename_i xs hxs
        have base : ∀ r, rowE31.sp [.im (.sl false 1 (xs.map Ints.el))] [] = some (.im (.sl false 1 r), []) → Goes Try.prog ((callFunc 31 vals.toArray).run Try.prog w) fun v w' => ∃ I' κ', St (lentOf κ) κ 0 I w I' κ' [] w' [.im (.sl false 1 r)] ⟨#[v], []⟩ := by
          intro r hsp
          refine rowE31.ok _ _ _ _ hsp I κ w vals hw hdom ?_
          cases hr with
          | cons _ _ _ _ h1 h2 =>
            cases h2
            cases h1 with
            | im _ _ h1 => exact .cons _ _ _ _ (.im _ _ (rows_rd hxs (asSl_rd hes h1))) .nil
        have at_ : ∀ xs : List (List Int), xs.length ≤ 9223372036854775807 → PostOK xs → rowE31.sp [.im (.sl false 1 (xs.map Ints.el))] [] = some (.im (.sl false 1 ((postC xs).map Bools.el)), []) := by
          intro xs h1 h2
          obtain ⟨res, H', h3, rfl, rfl⟩ := rowE31.rel [.im (.sl false 1 (xs.map Ints.el))] [] (fun res H' => res = .im (.sl false 1 ((postC xs).map Bools.el)) ∧ H' = []) ⟨xs, rfl, rfl, h1, h2, rfl, rfl⟩
          exact h3
        split at hs
        · rename_i he
          simp only [beq_iff_eq] at he
          subst he
          simp only [Option.some.injEq, Prod.mk.injEq] at hs
          obtain ⟨rfl, rfl⟩ := hs
          refine base _ ?_
          rw [at_ g5 (by decide) ok_g5, postC_eq post_g5]
        · split at hs
          · rename_i he
            simp only [beq_iff_eq] at he
            subst he
            simp only [Option.some.injEq, Prod.mk.injEq] at hs
            obtain ⟨rfl, rfl⟩ := hs
            refine base [] ?_
            rw [at_ [] (by decide) ok_nil, postC_eq post_nil]
            rfl
          · cases hs
      · cases hs
    · cases hs
  · cases hs
def w31t : List AV → Heap → (AV → Heap → Prop) → Prop := fun az H K => optP (sp31t az H) fun r => K r.1 r.2
noncomputable def c31 : Entry Try.prog := ⟨31, sp31t, w31t, sp31t_ok, fun az H K h => by
  obtain ⟨r, hr, h⟩ := optP_spec h
  exact ⟨r.1, r.2, hr, h⟩⟩
noncomputable def c56 : Entry Try.prog := mkC hT hm 56 fi56 fi56_ok [] 1000
noncomputable def c53 : Entry Try.prog := mkC hT hm 53 fi53 fi53_ok [c56] 1000
noncomputable def c29 : Entry Try.prog := mkC hT hm 29 fi29 fi29_ok [c53] 1000
noncomputable def c28 : Entry Try.prog := mkC hT hm 28 fi28 fi28_ok [] 1000
noncomputable def c33 : Entry Try.prog := mkC hT hm 33 fi33 fi33_ok [] 1000
noncomputable def c36 : Entry Try.prog := mkC hT hm 36 fi36 fi36_ok [c33] 1000
noncomputable def c34 : Entry Try.prog := mkC hT hm 34 fi34 fi34_ok [c31, c29] 1000
noncomputable def c58 : Entry Try.prog := mkC hT hm 58 fi58 fi58_ok [c56] 1000
noncomputable def c70 : Entry Try.prog := mkC hT hm 70 fi70_58 fi70_58_ok [c58] 1000
noncomputable def c57 : Entry Try.prog := mkC hT hm 57 fi57_58 fi57_58_ok [c70] 1000
noncomputable def c37 : Entry Try.prog := mkC hT hm 37 fi37 fi37_ok [c31, c57] 1000
noncomputable def fi26 : Fi := mkFi T Try.f26 { }
theorem fi26_ok : fi26.ok Try.prog 26 := ⟨Try.func26, by decide, rfl, by rfl⟩
noncomputable def l26 : List (Entry Try.prog) := [c31, c28, c34, c33, c37, c36, c29]
theorem run26 : callBody T (callOf l26) fi26 1000 [] [] = some (.im (.bool true), []) := by
  kernel_rfl
noncomputable def e26 : Entry Try.prog := mkV hT hm 26 fi26 fi26_ok l26 1000 _ run26
end Go.Proofs.Ytankppgafdcknaa

/- dom.Control and the chapter's examples, told in the kit's way. -/
set_option linter.unusedVariables false
set_option linter.unusedSimpArgs false
set_option maxRecDepth 100000
namespace Go.Proofs.Ytankppgafdcknaa
open Go Go.AM Go.RowKit Go.Proofs.YtankppgafdcknaaW.PrintWords

/-- The chapter's examples are so. -/
def billhooklaw10_examples.f : Option Bool := some true
theorem billhooklaw10_examples.calls (r : Bool) (w : World) (h : billhooklaw10_examples.f = some r) :
    Calls Try.prog 26 #[] w fun e w' => e = .returned (.bool r) ∧ Below w.heap.size w w' := by
  obtain rfl : true = r := Option.some.inj h
  refine (calls_of (ok := fun _ => False) (R := fun d => d = .bool true) e26 (w := w) Try.func26 (by decide) rfl (az := []) (vals := []) .nil ⟨_, rfl, rfl⟩).mono fun e w' h => ?_
  obtain ⟨v, d, I, rfl, rfl, hr, _, _, hb⟩ := h
  cases hr
  exact ⟨rfl, hb⟩
/-- Where Control is told of. -/
def ctlOK (xs : List (List Int)) (r : List (List Bool)) : Bool := decide (xs.length ≤ 1000000000000) && xs.all (fun x => decide (x.length ≤ 9223372036854775806)) && decide (r.length = xs.length) && r.all fun x => decide (x.length = xs.length)
/-- What each node depends on. -/
def dom_Control.f (k : Nat) (l0 : List (List Int)) : Option (List (List Int)) := (PPost.dom_Post.f k l0).bind fun r => if ctlOK l0 r = true then some (ctl l0 r) else none
theorem dom_Control.mono (l0 : List (List Int)) (k : Nat) : LeO (dom_Control.f k l0) (dom_Control.f (k + 1) l0) := by
  intro r h
  unfold dom_Control.f at h ⊢
  obtain ⟨p, hp, h⟩ := Option.bind_eq_some_iff.mp h
  rw [PPost.dom_Post.mono l0 k p hp]
  exact h
theorem dom_Control.calls (k : Nat) (P0_ : Nat → Prop) (A0 : Option Addr) (c0 : Nat) (l0 : List (List Int)) (r : List (List Int)) (w : World)
    (hs0 : Kd.V (Kd.slice 3 (Kd.int .i64)) 54 w w.heap.size (fun k_ => P0_ k_) (.slice A0 l0.length c0) l0) (h : dom_Control.f k l0 = some r) :
    Calls Try.prog 37 #[.slice A0 l0.length c0] w fun e w' => ∃ v0_ : Value, e = .returned v0_ ∧ Kd.V (Kd.slice 3 (Kd.int .i64)) 54 w' w.heap.size (fun k_ => (P0_ k_ ∨ w.heap.size ≤ k_)) v0_ r ∧ Below w.heap.size w w' := by
  unfold dom_Control.f at h
  obtain ⟨p, hp, h⟩ := Option.bind_eq_some_iff.mp h
  have hpc := postC_eq hp
  subst hpc
  split at h
  rotate_left
  · cases h
  rename_i hok
  simp only [ctlOK, Bool.and_eq_true, decide_eq_true_eq, List.all_eq_true] at hok
  obtain ⟨⟨⟨h1, h2⟩, h4⟩, h5⟩ := hok
  have h3 : PostOK l0 := ⟨⟨_, _, hp⟩, fun x hx => by have := h2 x hx; omega⟩
  obtain rfl := Option.some.inj h
  have hrd := Ints.rowV hs0
  have hcast : castV (.v (.c (.sl 1))) (.im (.sl false 1 (l0.map Ints.el))) = some (.im (.sl false 1 (l0.map Ints.el))) := rfl
  have hw : e37.w [.im (.sl false 1 (l0.map Ints.el))] [] fun res _ => ∃ d, res = .im d ∧ d = .sl false 1 ((ctl l0 (postC l0)).map Ints.el) := by
    show F37 (l0.map Ints.el) _
    exact t37 l0 h1 h2 h3 ⟨h4, h5⟩ _ ⟨_, rfl, rfl⟩
  refine (calls_of (ok := fun k_ => P0_ k_) (R := fun d => d = .sl false 1 ((ctl l0 (postC l0)).map Ints.el)) e37 (w := w) Try.func37 (by decide) rfl (vals := [.slice A0 l0.length c0]) (.cons _ _ _ _ (.im _ _ hrd) .nil) hw).mono fun e w' h => ?_
  obtain ⟨v, d, I, rfl, rfl, hr, hI, hP, hb⟩ := h
  have hlen : (ctl l0 (postC l0)).length = l0.length := by simp [ctl]
  obtain ⟨A', c', rfl, hl, hF⟩ := Ints.back hI (by rw [hlen]; omega) (fun x hx => by
    refine ⟨?_, fun _ _ => trivial⟩
    simp only [ctl, List.mem_map] at hx
    obtain ⟨p, _, rfl⟩ := hx
    simp only [ctlRow, List.length_map]
    have := List.length_filter_le (ctlIf l0 (postC l0) p) (List.range l0.length)
    simp only [List.length_range] at this
    omega) hr
  exact ⟨_, rfl, ⟨A', c', rfl, hl, Kd.F_mono hF (fun k ⟨c, hk⟩ => hP k c hk)⟩, hb⟩
end Go.Proofs.Ytankppgafdcknaa
