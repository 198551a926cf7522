/- Texts joined into one: the first of them is told below. -/
import Derived.Test.YtankppgafdcknaaChecked
import Derived.Test.YtankppgafdcknaaKc
import Derived.KernelRfl
import Derived.Laws.StructEq
/- The machine at this program: its table of types, and what is told of it. -/
set_option linter.unusedVariables false
set_option maxRecDepth 100000
namespace Go.Proofs.Ytankppgafdcknaa
open Go Go.AM
def eqs : TypeId → Option (List Ck) := fun t => if Nat.beq t 26 then some [.int .i64, .int .i64] else none
noncomputable def T : Tab := tabOf Try.prog eqs
theorem hm : Try.prog.follows .mixedOrders = true := Try.checked.mixed
theorem are2 {k1 k2 : IntKind} {a : List D} (h : areK [.int k1, .int k2] a = true) : ∃ x y, a = [.int k1 x, .int k2 y] := by
  cases a with
  | nil => simp [areK] at h
  | cons d l =>
    cases l with
    | nil => simp [areK] at h
    | cons e l =>
      cases l with
      | cons _ _ => simp [areK] at h
      | nil =>
        cases d <;> cases e <;> simp [areK, isK] at h
        exact ⟨_, _, by rw [h.1, h.2]⟩
theorem fields26 : Try.prog.fieldsOf 26 = #[{ name := "Low", type := 2, offset := 0, embedded := false, tag := "", pkgPath := "", byteOffset := 0 }, { name := "High", type := 2, offset := 1, embedded := false, tag := "", pkgPath := "", byteOffset := 8 }] := by kernel_rfl
theorem eq26 (a b : List D) (ha : areK [.int .i64, .int .i64] a = true) (hb : areK [.int .i64, .int .i64] b = true) : EqOK Try.prog 26 a b := by
  obtain ⟨x, y, rfl⟩ := are2 ha
  obtain ⟨z, u, rfl⟩ := are2 hb
  intro I w o1 o2 op va vb r d h1 h2 hr hd
  cases h1 with
  | cons _ _ _ _ h11 h12 =>
  cases h11
  cases h12 with
  | cons _ _ _ _ h13 h14 =>
  cases h13
  cases h14
  cases h2 with
  | cons _ _ _ _ h21 h22 =>
  cases h21
  cases h22 with
  | cons _ _ _ _ h23 h24 =>
  cases h23
  cases h24
  have hrr : r = (x == z && y == u) := by
    simp only [eqCells, eqCell, if_true] at hr
    by_cases hxz : (x == z) = true
    · rw [hxz] at hr ⊢
      by_cases hyu : (y == u) = true
      · rw [hyu] at hr ⊢; simpa using hr.symm
      · have hyu' : (y == u) = false := by simpa using hyu
        rw [hyu'] at hr ⊢; simpa using hr.symm
    · have hxz' : (x == z) = false := by simpa using hxz
      rw [hxz'] at hr ⊢; simpa using hr.symm
  have hrun : (Op.equalIn 10000 26 (.agg [Value.int .i64 x, Value.int .i64 y].toArray) (.agg [Value.int .i64 z, Value.int .i64 u].toArray)).run Try.prog w = .ok r w := by
    rw [run_equalIn_agg w 9999 26 _ _ (by kernel_rfl) (by kernel_rfl), fields26]
    have e2 : Try.prog.cellsOf 2 = 1 := by kernel_rfl
    subst hrr
    simp [Op.eqFields, part, isAgg, run_underlying Try.underlying2, run_equalIn_int w 9998 2 .i64 .i64 _ _ Try.underlying2]
    by_cases h1 : x = z <;> by_cases h2 : y = u <;> simp [h1, h2]
  unfold eqOp at hd
  split at hd
  · simp at hd; subst hd
    refine ⟨.bool r, ?_, .bool r⟩
    simp only [Sem.run_bind, run_eqGuard_agg w _ _ _ _ _ _ Try.eqGuardType26, Result.andThen_ok, run_eql_struct, hrun]
  · simp at hd; subst hd
    refine ⟨.bool (!r), ?_, .bool _⟩
    simp only [Sem.run_bind, run_eqGuard_agg w _ _ _ _ _ _ Try.eqGuardType26, Result.andThen_ok, run_neq_struct, hrun]
  · simp at hd
theorem hT : T.ok Try.prog := tabOf_ok fun t ks a b ht ha hb => by
  unfold eqs at ht
  split at ht
  · rename_i h
    simp only [Nat.beq_eq] at h
    simp at ht
    subst ht
    rw [h]
    exact eq26 a b ha hb
  · simp at ht
end Go.Proofs.Ytankppgafdcknaa

/- billhook/span.Of: what its walk makes hold. -/
set_option linter.unusedVariables false
set_option maxRecDepth 100000
open Go Go.AM
namespace Go.Proofs.Ytankppgafdcknaa
def sig22 : Sig := ⟨[.v (.c (.int .i64))], [.st [.int .i64, .int .i64]]⟩
noncomputable def fi22 : Fi := mkFi T Try.f22 {  }
noncomputable def l22 : List (Entry Try.prog) := []
abbrev N22 (Q : Shs.T sig22.res → Prop) : AV → Heap → Prop := endK sig22 Q
noncomputable abbrev X22 : Px := fi22.px T (callOf l22) 0
noncomputable abbrev W22 : CallW := cwOf l22
def F22 (a : Int) (Q : Int × Int → Prop) : Prop :=
  ((0 : Nat) < (1 : Nat)) ∧
  Q ((a, a))

theorem F22_eq (x : Ars.T sig22.args) (Q : Shs.T sig22.res → Prop) : callBodyK T (callOf l22) (cwOf l22) fi22 (Ars.enc sig22.args x) [] (endK sig22 Q) = F22 x Q := by
  kernel_rfl
theorem fi22_ok : fi22.ok Try.prog 22 := ⟨Try.func22, by decide, rfl, by rfl⟩
noncomputable def e22 : Entry Try.prog := mkE hT hm 22 fi22 fi22_ok l22 sig22 (fun x Q => F22 x Q) F22_eq
end Go.Proofs.Ytankppgafdcknaa

/- (billhook/span.Span).Empty: what its walk makes hold. -/
set_option linter.unusedVariables false
set_option maxRecDepth 100000
open Go Go.AM
namespace Go.Proofs.Ytankppgafdcknaa
def sig18 : Sig := ⟨[.v (.st [.int .i64, .int .i64])], [.c .bool]⟩
noncomputable def fi18 : Fi := mkFi T Try.f18 {  }
noncomputable def l18 : List (Entry Try.prog) := []
abbrev N18 (Q : Shs.T sig18.res → Prop) : AV → Heap → Prop := endK sig18 Q
noncomputable abbrev X18 : Px := fi18.px T (callOf l18) 0
noncomputable abbrev W18 : CallW := cwOf l18
def F18 (a : Int × Int) (Q : Bool → Prop) : Prop :=
  Q (Decidable.decide (Prod.fst a > Prod.snd a))

theorem F18_eq (x : Ars.T sig18.args) (Q : Shs.T sig18.res → Prop) : callBodyK T (callOf l18) (cwOf l18) fi18 (Ars.enc sig18.args x) [] (endK sig18 Q) = F18 x Q := by
  kernel_rfl
theorem fi18_ok : fi18.ok Try.prog 18 := ⟨Try.func18, by decide, rfl, by rfl⟩
noncomputable def e18 : Entry Try.prog := mkE hT hm 18 fi18 fi18_ok l18 sig18 (fun x Q => F18 x Q) F18_eq
end Go.Proofs.Ytankppgafdcknaa

/- billhook/span.None: what its walk makes hold. -/
set_option linter.unusedVariables false
set_option maxRecDepth 100000
open Go Go.AM
namespace Go.Proofs.Ytankppgafdcknaa
def sig47 : Sig := ⟨[], [.st [.int .i64, .int .i64]]⟩
noncomputable def fi47 : Fi := mkFi T Try.f47 {  }
noncomputable def l47 : List (Entry Try.prog) := []
abbrev N47 (Q : Shs.T sig47.res → Prop) : AV → Heap → Prop := endK sig47 Q
noncomputable abbrev X47 : Px := fi47.px T (callOf l47) 0
noncomputable abbrev W47 : CallW := cwOf l47
def F47 (Q : Int × Int → Prop) : Prop :=
  ((0 : Nat) < (1 : Nat)) ∧
  Q (((1 : Int), (0 : Int)))

theorem F47_eq (x : Ars.T sig47.args) (Q : Shs.T sig47.res → Prop) : callBodyK T (callOf l47) (cwOf l47) fi47 (Ars.enc sig47.args x) [] (endK sig47 Q) = F47  Q := by
  kernel_rfl
theorem fi47_ok : fi47.ok Try.prog 47 := ⟨Try.func47, by decide, rfl, by rfl⟩
noncomputable def e47 : Entry Try.prog := mkE hT hm 47 fi47 fi47_ok l47 sig47 (fun x Q => F47  Q) F47_eq
end Go.Proofs.Ytankppgafdcknaa

/- billhook/state.Dead: what its walk makes hold. -/
set_option linter.unusedVariables false
set_option maxRecDepth 100000
open Go Go.AM
namespace Go.Proofs.Ytankppgafdcknaa
def sig43 : Sig := ⟨[], [.st [.bool, .sl 2]]⟩
noncomputable def fi43 : Fi := mkFi T Try.f43 {  }
noncomputable def l43 : List (Entry Try.prog) := []
abbrev N43 (Q : Shs.T sig43.res → Prop) : AV → Heap → Prop := endK sig43 Q
noncomputable abbrev X43 : Px := fi43.px T (callOf l43) 0
noncomputable abbrev W43 : CallW := cwOf l43
def F43 (Q : Bool × List Go.AM.D → Prop) : Prop :=
  ((0 : Nat) < (1 : Nat)) ∧
  Q ((Bool.false, []))

theorem F43_eq (x : Ars.T sig43.args) (Q : Shs.T sig43.res → Prop) : callBodyK T (callOf l43) (cwOf l43) fi43 (Ars.enc sig43.args x) [] (endK sig43 Q) = F43  Q := by
  kernel_rfl
theorem fi43_ok : fi43.ok Try.prog 43 := ⟨Try.func43, by decide, rfl, by rfl⟩
noncomputable def e43 : Entry Try.prog := mkE hT hm 43 fi43 fi43_ok l43 sig43 (fun x Q => F43  Q) F43_eq
end Go.Proofs.Ytankppgafdcknaa

/- (billhook/span.Span).Has: what its walk makes hold. -/
set_option linter.unusedVariables false
set_option maxRecDepth 100000
open Go Go.AM
namespace Go.Proofs.Ytankppgafdcknaa
def sig45 : Sig := ⟨[.v (.st [.int .i64, .int .i64]), .v (.c (.int .i64))], [.c .bool]⟩
noncomputable def fi45 : Fi := mkFi T Try.f45 {  }
noncomputable def l45 : List (Entry Try.prog) := []
abbrev N45 (Q : Shs.T sig45.res → Prop) : AV → Heap → Prop := endK sig45 Q
noncomputable abbrev X45 : Px := fi45.px T (callOf l45) 0
noncomputable abbrev W45 : CallW := cwOf l45
def F45 (a : Int × Int) (b : Int) (Q : Bool → Prop) : Prop :=
  cond (Decidable.decide (Prod.fst (Prod.fst (a, b)) ≤ Prod.snd (a, b)))
    (Q (Decidable.decide (Prod.snd (a, b) ≤ Prod.snd (Prod.fst (a, b)))))
    (Q (Bool.false))

theorem F45_eq (x : Ars.T sig45.args) (Q : Shs.T sig45.res → Prop) : callBodyK T (callOf l45) (cwOf l45) fi45 (Ars.enc sig45.args x) [] (endK sig45 Q) = F45 x.1 x.2 Q := by
  kernel_rfl
theorem fi45_ok : fi45.ok Try.prog 45 := ⟨Try.func45, by decide, rfl, by rfl⟩
noncomputable def e45 : Entry Try.prog := mkE hT hm 45 fi45 fi45_ok l45 sig45 (fun x Q => F45 x.1 x.2 Q) F45_eq
end Go.Proofs.Ytankppgafdcknaa

/- (billhook/state.State).has: what its walk makes hold. -/
set_option linter.unusedVariables false
set_option maxRecDepth 100000
open Go Go.AM
namespace Go.Proofs.Ytankppgafdcknaa
def sig49 : Sig := ⟨[.v (.st [.bool, .sl 2]), .v (.c (.int .i64))], [.c .bool]⟩
noncomputable def fi49 : Fi := mkFi T Try.f49 {  }
noncomputable def l49 : List (Entry Try.prog) := []
abbrev N49 (Q : Shs.T sig49.res → Prop) : AV → Heap → Prop := endK sig49 Q
noncomputable abbrev X49 : Px := fi49.px T (callOf l49) 0
noncomputable abbrev W49 : CallW := cwOf l49
def F49 (a : Bool × List Go.AM.D) (b : Int) (Q : Bool → Prop) : Prop :=
  cond (Prod.fst a)
    (cond (Decidable.decide (Prod.snd (a, b) ≥ (0 : Int)))
      (Q (Decidable.decide (Prod.snd (a, b) < (↑(List.length (Prod.snd (Prod.fst (a, b)))) : Int))))
      (Q (Bool.false)))
    (Q (Bool.false))

theorem F49_eq (x : Ars.T sig49.args) (Q : Shs.T sig49.res → Prop) : callBodyK T (callOf l49) (cwOf l49) fi49 (Ars.enc sig49.args x) [] (endK sig49 Q) = F49 x.1 x.2 Q := by
  kernel_rfl
theorem fi49_ok : fi49.ok Try.prog 49 := ⟨Try.func49, by decide, rfl, by rfl⟩
noncomputable def e49 : Entry Try.prog := mkE hT hm 49 fi49 fi49_ok l49 sig49 (fun x Q => F49 x.1 x.2 Q) F49_eq
end Go.Proofs.Ytankppgafdcknaa

/- (billhook/state.State).Get: what its walk makes hold. -/
set_option linter.unusedVariables false
set_option maxRecDepth 100000
open Go Go.AM
namespace Go.Proofs.Ytankppgafdcknaa
def sig21 : Sig := ⟨[.v (.st [.bool, .sl 2]), .v (.c (.int .i64))], [.st [.int .i64, .int .i64]]⟩
noncomputable def fi21 : Fi := mkFi T Try.f21 {  }
noncomputable def l21 : List (Entry Try.prog) := [e49, e47]
abbrev N21 (Q : Shs.T sig21.res → Prop) : AV → Heap → Prop := endK sig21 Q
noncomputable abbrev X21 : Px := fi21.px T (callOf l21) 0
noncomputable abbrev W21 : CallW := cwOf l21
def F21 (a : Bool × List Go.AM.D) (b : Int) (Q : Int × Int → Prop) : Prop :=
  F49 ((Prod.fst a, Prod.snd a)) (b)
    (fun (r1 : Bool) =>
    cond (!r1)
      (F47
        (fun (r2 : Int × Int) =>
        ((0 : Nat) < (1 : Nat)) ∧
        Q ((Prod.fst r2, Prod.snd r2))))
      (((0 : Int) ≤ b) ∧
      optP ((Prod.snd a)[Int.toNat b]?) fun (d3 : Go.AM.D) =>
        optP (Go.AM.D.asAgg d3) fun (d4 : List Go.AM.D) =>
          (match d4 with
            | [] => False
            | d5 :: l6 =>
            (match l6 with
              | [] => False
              | d7 :: l8 =>
              (match l8 with
                | [] => optP (Go.AM.D.asInt Go.IntKind.i64 d5) fun (d11 : Int) =>
                  optP (Go.AM.D.asInt Go.IntKind.i64 d7) fun (d12 : Int) =>
                    ((0 : Nat) < (1 : Nat)) ∧
                    Q ((d11, d12))
                | d9 :: l10 =>
                False)))))

theorem F21_eq (x : Ars.T sig21.args) (Q : Shs.T sig21.res → Prop) : callBodyK T (callOf l21) (cwOf l21) fi21 (Ars.enc sig21.args x) [] (endK sig21 Q) = F21 x.1 x.2 Q := by
  kernel_rfl
theorem fi21_ok : fi21.ok Try.prog 21 := ⟨Try.func21, by decide, rfl, by rfl⟩
noncomputable def e21 : Entry Try.prog := mkE hT hm 21 fi21 fi21_ok l21 sig21 (fun x Q => F21 x.1 x.2 Q) F21_eq
end Go.Proofs.Ytankppgafdcknaa

/- slices.Clone at one type. -/
set_option linter.unusedVariables false
set_option maxRecDepth 100000
open Go Go.AM
namespace Go.Proofs.Ytankppgafdcknaa
theorem clone48_Wt (K : AV → Heap → Prop) : W ((cloneFi T Try.f48).px T (fun _ _ _ => none) 0) (fun _ _ _ _ => False) (cloneR2 30) ((env2 2 []).set 4 (.im (.bool true))) [some (.c 2 [])] (finK T (cloneFi T Try.f48) 0 K) = K (.ref 0 0 0) [some (.c 2 [])] := by
  kernel_rfl
theorem clone48_Wf (es : List D) (K : AV → Heap → Prop) : W ((cloneFi T Try.f48).px T (fun _ _ _ => none) 0) (fun _ _ _ _ => False) (cloneR3 30) ((env2 2 es).set 4 (.im (.bool false))) [some (.c 2 [])] (finK T (cloneFi T Try.f48) 0 K) =
    cond ((es.map AV.im).all fun e => e.cells.all okCell) (es.length * 16 ≤ 140737488355328 ∧ es.length ≤ 140737488355328 ∧ K (.ref 0 0 es.length) [some (.c 2 es)]) False := by
  kernel_rfl
noncomputable def e48 : Entry Try.prog := ⟨48, cloneSp 2 16, cloneW 2 16, clone_ok (T := T) hT hm Try.func48 (by decide) (by kernel_rfl) (by kernel_rfl) (by kernel_rfl) Try.underlying30
  (fun es => by kernel_rfl) (fun es o h => by cases h; kernel_rfl) (fun K h => (clone48_Wt K).symm ▸ h) (fun es K hc h => by
    rw [clone48_Wf]
    obtain ⟨h1, h2, h3⟩ := hc
    have h1' : ((es.map AV.im).all fun e => e.cells.all okCell) = true := by
      rw [List.all_map]
      simpa [Function.comp_def, im_cells, List.all_map] using h1
    rw [h1']
    exact ⟨h2, h3, h⟩), cloneW_spec⟩
end Go.Proofs.Ytankppgafdcknaa

/- slices.Clone at one type. -/
set_option linter.unusedVariables false
set_option maxRecDepth 100000
open Go Go.AM
namespace Go.Proofs.Ytankppgafdcknaa
theorem clone68_Wt (K : AV → Heap → Prop) : W ((cloneFi T Try.f68).px T (fun _ _ _ => none) 0) (fun _ _ _ _ => False) (cloneR2 41) ((env2 1 []).set 4 (.im (.bool true))) [some (.c 1 [])] (finK T (cloneFi T Try.f68) 0 K) = K (.ref 0 0 0) [some (.c 1 [])] := by
  kernel_rfl
theorem clone68_Wf (es : List D) (K : AV → Heap → Prop) : W ((cloneFi T Try.f68).px T (fun _ _ _ => none) 0) (fun _ _ _ _ => False) (cloneR3 41) ((env2 1 es).set 4 (.im (.bool false))) [some (.c 1 [])] (finK T (cloneFi T Try.f68) 0 K) =
    cond ((es.map AV.im).all fun e => e.cells.all okCell) (es.length * 16 ≤ 140737488355328 ∧ es.length ≤ 140737488355328 ∧ K (.ref 0 0 es.length) [some (.c 1 es)]) False := by
  kernel_rfl
noncomputable def e68 : Entry Try.prog := ⟨68, cloneSp 1 16, cloneW 1 16, clone_ok (T := T) hT hm Try.func68 (by decide) (by kernel_rfl) (by kernel_rfl) (by kernel_rfl) Try.underlying41
  (fun es => by kernel_rfl) (fun es o h => by cases h; kernel_rfl) (fun K h => (clone68_Wt K).symm ▸ h) (fun es K hc h => by
    rw [clone68_Wf]
    obtain ⟨h1, h2, h3⟩ := hc
    have h1' : ((es.map AV.im).all fun e => e.cells.all okCell) = true := by
      rw [List.all_map]
      simpa [Function.comp_def, im_cells, List.all_map] using h1
    rw [h1']
    exact ⟨h2, h3, h⟩), cloneW_spec⟩
end Go.Proofs.Ytankppgafdcknaa

/- slices.Equal[[]billhook/span.Span,billhook/span.Span]: what its walk makes hold. -/
set_option linter.unusedVariables false
set_option maxRecDepth 100000
open Go Go.AM
namespace Go.Proofs.Ytankppgafdcknaa
def sig50 : Sig := ⟨[.v (.c (.sl 2)), .v (.c (.sl 2))], [.c .bool]⟩
noncomputable def fi50 : Fi := mkFi T Try.f50 { live := fun d => if Nat.beq d 4 then slots 26 [0, 1, 12, 13] else none }
noncomputable def l50 : List (Entry Try.prog) := []
abbrev N50 (Q : Shs.T sig50.res → Prop) : AV → Heap → Prop := endK sig50 Q
noncomputable abbrev X50 : Px := fi50.px T (callOf l50) 0
noncomputable abbrev W50 : CallW := cwOf l50
def E50_1 (a : List Go.AM.D) (b : List Go.AM.D) (s : (Int)) : Env :=
  match s with
  | v1 =>
    [Go.AM.AV.im (Go.AM.D.sl Bool.false (2 : Nat) a), Go.AM.AV.im (Go.AM.D.sl Bool.false (2 : Nat) b), Go.AM.AV.bad, Go.AM.AV.bad, Go.AM.AV.bad, Go.AM.AV.bad, Go.AM.AV.bad, Go.AM.AV.bad, Go.AM.AV.bad, Go.AM.AV.bad, Go.AM.AV.bad, Go.AM.AV.bad, Go.AM.AV.im (Go.AM.D.int Go.IntKind.i64 (↑(List.length a) : Int)), Go.AM.AV.im (Go.AM.D.int Go.IntKind.i64 v1), Go.AM.AV.bad, Go.AM.AV.bad, Go.AM.AV.bad, Go.AM.AV.bad, Go.AM.AV.bad, Go.AM.AV.bad, Go.AM.AV.bad, Go.AM.AV.bad, Go.AM.AV.bad, Go.AM.AV.bad, Go.AM.AV.bad, Go.AM.AV.bad]
def H50_1 (a : List Go.AM.D) (b : List Go.AM.D) (s : (Int)) : Heap :=
  match s with
  | v1 =>
    []
noncomputable def C50_1 (Q : Bool → Prop) : Go.Code × Go.AM.Kx := sub X50 W50 fi50.code [1, 1, 0, 1, 0] [] (finK T fi50 0 (N50 Q))
noncomputable def L50_1 (a : List Go.AM.D) (b : List Go.AM.D) (Q : Bool → Prop) (s : (Int)) : Prop := ∃ n, loopV X50 W50 (C50_1 Q) n (E50_1 a b s) (H50_1 a b s)
def B50_1 (a : List Go.AM.D) (b : List Go.AM.D) (Q : Bool → Prop) (s : (Int)) (R2 : Env → Heap → Prop) : Prop :=
  match s with
  | v1 =>
    cond (Decidable.decide (v1 < (↑(List.length a) : Int)))
    (((0 : Int) ≤ v1) ∧
    optP (a[Int.toNat v1]?) fun (d3 : Go.AM.D) =>
      optP (Go.AM.D.asAgg d3) fun (d4 : List Go.AM.D) =>
        (match d4 with
          | [] => False
          | d5 :: l6 =>
          (match l6 with
            | [] => False
            | d7 :: l8 =>
            (match l8 with
              | [] => optP (Go.AM.D.asInt Go.IntKind.i64 d5) fun (d11 : Int) =>
                optP (Go.AM.D.asInt Go.IntKind.i64 d7) fun (d12 : Int) =>
                  ((0 : Int) ≤ v1) ∧
                  optP (b[Int.toNat v1]?) fun (d13 : Go.AM.D) =>
                    optP (Go.AM.D.asAgg d13) fun (d14 : List Go.AM.D) =>
                      (match d14 with
                        | [] => False
                        | d15 :: l16 =>
                        (match l16 with
                          | [] => False
                          | d17 :: l18 =>
                          (match l18 with
                            | [] => optP (Go.AM.D.asInt Go.IntKind.i64 d15) fun (d21 : Int) =>
                              optP (Go.AM.D.asInt Go.IntKind.i64 d17) fun (d22 : Int) =>
                                cond (!(d11 == d21 && (d12 == d22 && Bool.true)))
                                  (Q (Bool.false))
                                  (R2 (E50_1 a b (Go.IntKind.wrap Go.IntKind.i64 (v1 + (1 : Int)))) (H50_1 a b (Go.IntKind.wrap Go.IntKind.i64 (v1 + (1 : Int)))))
                            | d19 :: l20 =>
                            False)))
              | d9 :: l10 =>
              False))))
    (Q (Bool.true))
theorem B50_1_eq (a : List Go.AM.D) (b : List Go.AM.D) (Q : Bool → Prop) (s : (Int)) (n : Nat) : loopV X50 W50 (C50_1 Q) (n + 1) (E50_1 a b s) (H50_1 a b s) = B50_1 a b Q s (fun env H => loopV X50 W50 (C50_1 Q) n env H) := by
  kernel_rfl
def F50u (a : List Go.AM.D) (b : List Go.AM.D) (Q : Bool → Prop) : Prop :=
  cond ((↑(List.length a) : Int) != (↑(List.length b) : Int))
    (Q (Bool.false))
    (L50_1 a b Q ((0 : Int)))

theorem F50u_eq (x : Ars.T sig50.args) (Q : Shs.T sig50.res → Prop) : callBodyK T (callOf l50) (cwOf l50) fi50 (Ars.enc sig50.args x) [] (endK sig50 Q) = F50u x.1 x.2 Q := by
  kernel_rfl
noncomputable def F50 := lock @F50u
theorem F50_un : F50 = F50u := lock_eq _
theorem F50_eq (x : Ars.T sig50.args) (Q : Shs.T sig50.res → Prop) : callBodyK T (callOf l50) (cwOf l50) fi50 (Ars.enc sig50.args x) [] (endK sig50 Q) = F50 x.1 x.2 Q := by
  rw [F50_un]
  exact F50u_eq x Q
theorem fi50_ok : fi50.ok Try.prog 50 := ⟨Try.func50, by decide, rfl, by rfl⟩
noncomputable def e50 : Entry Try.prog := mkE hT hm 50 fi50 fi50_ok l50 sig50 (fun x Q => F50 x.1 x.2 Q) F50_eq
end Go.Proofs.Ytankppgafdcknaa

/- billhook/state.Same: what its walk makes hold. -/
set_option linter.unusedVariables false
set_option maxRecDepth 100000
open Go Go.AM
namespace Go.Proofs.Ytankppgafdcknaa
def sig19 : Sig := ⟨[.v (.st [.bool, .sl 2]), .v (.st [.bool, .sl 2])], [.c .bool]⟩
noncomputable def fi19 : Fi := mkFi T Try.f19 {  }
noncomputable def l19 : List (Entry Try.prog) := [e50]
abbrev N19 (Q : Shs.T sig19.res → Prop) : AV → Heap → Prop := endK sig19 Q
noncomputable abbrev X19 : Px := fi19.px T (callOf l19) 0
noncomputable abbrev W19 : CallW := cwOf l19
def F19u (a : Bool × List Go.AM.D) (b : Bool × List Go.AM.D) (Q : Bool → Prop) : Prop :=
  cond (Prod.fst a == Prod.fst b)
    (cond (!Prod.fst a)
      (Q (Bool.true))
      (F50 (Prod.snd a) (Prod.snd b)
        (fun (r1 : Bool) =>
        Q (r1))))
    (Q (Bool.false))

theorem F19u_eq (x : Ars.T sig19.args) (Q : Shs.T sig19.res → Prop) : callBodyK T (callOf l19) (cwOf l19) fi19 (Ars.enc sig19.args x) [] (endK sig19 Q) = F19u x.1 x.2 Q := by
  kernel_rfl
noncomputable def F19 := lock @F19u
theorem F19_un : F19 = F19u := lock_eq _
theorem F19_eq (x : Ars.T sig19.args) (Q : Shs.T sig19.res → Prop) : callBodyK T (callOf l19) (cwOf l19) fi19 (Ars.enc sig19.args x) [] (endK sig19 Q) = F19 x.1 x.2 Q := by
  rw [F19_un]
  exact F19u_eq x Q
theorem fi19_ok : fi19.ok Try.prog 19 := ⟨Try.func19, by decide, rfl, by rfl⟩
noncomputable def e19 : Entry Try.prog := mkE hT hm 19 fi19 fi19_ok l19 sig19 (fun x Q => F19 x.1 x.2 Q) F19_eq
end Go.Proofs.Ytankppgafdcknaa

/- billhook/billhooklaw12.is: what its walk makes hold. -/
set_option linter.unusedVariables false
set_option maxRecDepth 100000
open Go Go.AM
namespace Go.Proofs.Ytankppgafdcknaa
def sig20 : Sig := ⟨[.v (.st [.int .i64, .int .i64]), .v (.st [.int .i64, .int .i64])], [.c .bool]⟩
noncomputable def fi20 : Fi := mkFi T Try.f20 {  }
noncomputable def l20 : List (Entry Try.prog) := []
abbrev N20 (Q : Shs.T sig20.res → Prop) : AV → Heap → Prop := endK sig20 Q
noncomputable abbrev X20 : Px := fi20.px T (callOf l20) 0
noncomputable abbrev W20 : CallW := cwOf l20
def F20 (a : Int × Int) (b : Int × Int) (Q : Bool → Prop) : Prop :=
  cond (Prod.fst a == Prod.fst b)
    (Q (Prod.snd a == Prod.snd b))
    (Q (Bool.false))

theorem F20_eq (x : Ars.T sig20.args) (Q : Shs.T sig20.res → Prop) : callBodyK T (callOf l20) (cwOf l20) fi20 (Ars.enc sig20.args x) [] (endK sig20 Q) = F20 x.1 x.2 Q := by
  kernel_rfl
theorem fi20_ok : fi20.ok Try.prog 20 := ⟨Try.func20, by decide, rfl, by rfl⟩
noncomputable def e20 : Entry Try.prog := mkE hT hm 20 fi20 fi20_ok l20 sig20 (fun x Q => F20 x.1 x.2 Q) F20_eq
end Go.Proofs.Ytankppgafdcknaa

/- billhook/span.of: what its walk makes hold. -/
set_option linter.unusedVariables false
set_option maxRecDepth 100000
open Go Go.AM
namespace Go.Proofs.Ytankppgafdcknaa
def sig72 : Sig := ⟨[.v (.c (.int .i64)), .v (.c (.int .i64))], [.st [.int .i64, .int .i64]]⟩
noncomputable def fi72 : Fi := mkFi T Try.f72 {  }
noncomputable def l72 : List (Entry Try.prog) := [e47]
abbrev N72 (Q : Shs.T sig72.res → Prop) : AV → Heap → Prop := endK sig72 Q
noncomputable abbrev X72 : Px := fi72.px T (callOf l72) 0
noncomputable abbrev W72 : CallW := cwOf l72
def F72 (a : Int) (b : Int) (Q : Int × Int → Prop) : Prop :=
  cond (Decidable.decide (Prod.fst (a, b) > Prod.snd (a, b)))
    (F47
      (fun (r1 : Int × Int) =>
      ((0 : Nat) < (1 : Nat)) ∧
      Q ((Prod.fst r1, Prod.snd r1))))
    (((0 : Nat) < (1 : Nat)) ∧
    Q ((a, b)))

theorem F72_eq (x : Ars.T sig72.args) (Q : Shs.T sig72.res → Prop) : callBodyK T (callOf l72) (cwOf l72) fi72 (Ars.enc sig72.args x) [] (endK sig72 Q) = F72 x.1 x.2 Q := by
  kernel_rfl
theorem fi72_ok : fi72.ok Try.prog 72 := ⟨Try.func72, by decide, rfl, by rfl⟩
noncomputable def e72 : Entry Try.prog := mkE hT hm 72 fi72 fi72_ok l72 sig72 (fun x Q => F72 x.1 x.2 Q) F72_eq
end Go.Proofs.Ytankppgafdcknaa

/- billhook/span.Join: what its walk makes hold. -/
set_option linter.unusedVariables false
set_option maxRecDepth 100000
open Go Go.AM
namespace Go.Proofs.Ytankppgafdcknaa
def sig64 : Sig := ⟨[.v (.st [.int .i64, .int .i64]), .v (.st [.int .i64, .int .i64])], [.st [.int .i64, .int .i64]]⟩
noncomputable def fi64 : Fi := mkFi T Try.f64 {  }
noncomputable def l64 : List (Entry Try.prog) := [e18, e72]
abbrev N64 (Q : Shs.T sig64.res → Prop) : AV → Heap → Prop := endK sig64 Q
noncomputable abbrev X64 : Px := fi64.px T (callOf l64) 0
noncomputable abbrev W64 : CallW := cwOf l64
def F64 (a : Int × Int) (b : Int × Int) (Q : Int × Int → Prop) : Prop :=
  F18 ((Prod.fst a, Prod.snd a))
    (fun (r1 : Bool) =>
    cond (r1)
      (F72 (Prod.fst b) (Prod.snd b)
        (fun (r2 : Int × Int) =>
        ((0 : Nat) < (1 : Nat)) ∧
        Q ((Prod.fst r2, Prod.snd r2))))
      (F18 ((Prod.fst b, Prod.snd b))
        (fun (r3 : Bool) =>
        cond (r3)
          (((0 : Nat) < (1 : Nat)) ∧
          Q ((Prod.fst a, Prod.snd a)))
          (((0 : Nat) < (1 : Nat)) ∧
          Q ((if Prod.fst (Prod.snd (a, b)) < Prod.fst (Prod.fst (a, b)) then Prod.fst b else Prod.fst a, if Prod.snd (Prod.snd (a, b)) > Prod.snd (Prod.fst (a, b)) then Prod.snd b else Prod.snd a))))))

theorem F64_eq (x : Ars.T sig64.args) (Q : Shs.T sig64.res → Prop) : callBodyK T (callOf l64) (cwOf l64) fi64 (Ars.enc sig64.args x) [] (endK sig64 Q) = F64 x.1 x.2 Q := by
  kernel_rfl
theorem fi64_ok : fi64.ok Try.prog 64 := ⟨Try.func64, by decide, rfl, by rfl⟩
noncomputable def e64 : Entry Try.prog := mkE hT hm 64 fi64 fi64_ok l64 sig64 (fun x Q => F64 x.1 x.2 Q) F64_eq
end Go.Proofs.Ytankppgafdcknaa

/- billhook/span.In: what its walk makes hold. -/
set_option linter.unusedVariables false
set_option maxRecDepth 100000
open Go Go.AM
namespace Go.Proofs.Ytankppgafdcknaa
def sig67 : Sig := ⟨[.v (.st [.int .i64, .int .i64]), .v (.st [.int .i64, .int .i64])], [.c .bool]⟩
noncomputable def fi67 : Fi := mkFi T Try.f67 {  }
noncomputable def l67 : List (Entry Try.prog) := [e18]
abbrev N67 (Q : Shs.T sig67.res → Prop) : AV → Heap → Prop := endK sig67 Q
noncomputable abbrev X67 : Px := fi67.px T (callOf l67) 0
noncomputable abbrev W67 : CallW := cwOf l67
def F67 (a : Int × Int) (b : Int × Int) (Q : Bool → Prop) : Prop :=
  F18 ((Prod.fst a, Prod.snd a))
    (fun (r1 : Bool) =>
    cond (r1)
      (Q (Bool.true))
      (cond (Decidable.decide (Prod.fst (Prod.snd (a, b)) ≤ Prod.fst (Prod.fst (a, b))))
        (Q (Decidable.decide (Prod.snd (Prod.fst (a, b)) ≤ Prod.snd (Prod.snd (a, b)))))
        (Q (Bool.false))))

theorem F67_eq (x : Ars.T sig67.args) (Q : Shs.T sig67.res → Prop) : callBodyK T (callOf l67) (cwOf l67) fi67 (Ars.enc sig67.args x) [] (endK sig67 Q) = F67 x.1 x.2 Q := by
  kernel_rfl
theorem fi67_ok : fi67.ok Try.prog 67 := ⟨Try.func67, by decide, rfl, by rfl⟩
noncomputable def e67 : Entry Try.prog := mkE hT hm 67 fi67 fi67_ok l67 sig67 (fun x Q => F67 x.1 x.2 Q) F67_eq
end Go.Proofs.Ytankppgafdcknaa

/- slices.EqualFunc[[]billhook/span.Span,[]billhook/span.Span,billhook/span.Span,billhook/span.Span]: what its walk makes hold. -/
set_option linter.unusedVariables false
set_option maxRecDepth 100000
open Go Go.AM
namespace Go.Proofs.Ytankppgafdcknaa
def sig66 : Sig := ⟨[.v (.c (.sl 2)), .v (.c (.sl 2)), .v (.c (.fn 67))], [.c .bool]⟩
noncomputable def fi66 : Fi := mkFi T Try.f66 { live := fun d => if Nat.beq d 4 then slots 32 [1, 2, 15, 16, 17] else none }
noncomputable def l66 : List (Entry Try.prog) := [e67]
abbrev N66 (Q : Shs.T sig66.res → Prop) : AV → Heap → Prop := endK sig66 Q
noncomputable abbrev X66 : Px := fi66.px T (callOf l66) 0
noncomputable abbrev W66 : CallW := cwOf l66
def E66_1 (a : List Go.AM.D) (b : List Go.AM.D) (s : (Int)) : Env :=
  match s with
  | v1 =>
    [Go.AM.AV.bad, Go.AM.AV.im (Go.AM.D.sl Bool.false (2 : Nat) b), Go.AM.AV.im (Go.AM.D.fn (Go.Fn.func (67 : Nat)) [] []), Go.AM.AV.bad, Go.AM.AV.bad, Go.AM.AV.bad, Go.AM.AV.bad, Go.AM.AV.bad, Go.AM.AV.bad, Go.AM.AV.bad, Go.AM.AV.bad, Go.AM.AV.bad, Go.AM.AV.bad, Go.AM.AV.bad, Go.AM.AV.bad, Go.AM.AV.im (Go.AM.D.sl Bool.false (2 : Nat) a), Go.AM.AV.im (Go.AM.D.int Go.IntKind.i64 (↑(List.length a) : Int)), Go.AM.AV.im (Go.AM.D.int Go.IntKind.i64 v1), Go.AM.AV.bad, Go.AM.AV.bad, Go.AM.AV.bad, Go.AM.AV.bad, Go.AM.AV.bad, Go.AM.AV.bad, Go.AM.AV.bad, Go.AM.AV.bad, Go.AM.AV.bad, Go.AM.AV.bad, Go.AM.AV.bad, Go.AM.AV.bad, Go.AM.AV.bad, Go.AM.AV.bad]
def H66_1 (a : List Go.AM.D) (b : List Go.AM.D) (s : (Int)) : Heap :=
  match s with
  | v1 =>
    []
noncomputable def C66_1 (Q : Bool → Prop) : Go.Code × Go.AM.Kx := sub X66 W66 fi66.code [1, 1, 0, 1, 0] [] (finK T fi66 0 (N66 Q))
noncomputable def L66_1 (a : List Go.AM.D) (b : List Go.AM.D) (Q : Bool → Prop) (s : (Int)) : Prop := ∃ n, loopV X66 W66 (C66_1 Q) n (E66_1 a b s) (H66_1 a b s)
def B66_1 (a : List Go.AM.D) (b : List Go.AM.D) (c : Unit) (Q : Bool → Prop) (s : (Int)) (R2 : Env → Heap → Prop) : Prop :=
  match s with
  | v1 =>
    cond (Decidable.decide (v1 < (↑(List.length a) : Int)))
    (((0 : Int) ≤ v1) ∧
    optP (a[Int.toNat v1]?) fun (d3 : Go.AM.D) =>
      optP (Go.AM.D.asAgg d3) fun (d4 : List Go.AM.D) =>
        (match d4 with
          | [] => False
          | d5 :: l6 =>
          (match l6 with
            | [] => False
            | d7 :: l8 =>
            (match l8 with
              | [] => optP (Go.AM.D.asInt Go.IntKind.i64 d5) fun (d11 : Int) =>
                optP (Go.AM.D.asInt Go.IntKind.i64 d7) fun (d12 : Int) =>
                  ((0 : Nat) < (1 : Nat)) ∧
                  ((0 : Int) ≤ v1) ∧
                  optP (b[Int.toNat v1]?) fun (d13 : Go.AM.D) =>
                    optP (Go.AM.D.asAgg d13) fun (d14 : List Go.AM.D) =>
                      (match d14 with
                        | [] => False
                        | d15 :: l16 =>
                        (match l16 with
                          | [] => False
                          | d17 :: l18 =>
                          (match l18 with
                            | [] => optP (Go.AM.D.asInt Go.IntKind.i64 d15) fun (d21 : Int) =>
                              optP (Go.AM.D.asInt Go.IntKind.i64 d17) fun (d22 : Int) =>
                                ((0 : Nat) < (1 : Nat)) ∧
                                F67 ((d11, d12)) ((d21, d22))
                                  (fun (r23 : Bool) =>
                                  cond (!r23)
                                    (Q (Bool.false))
                                    (R2 (E66_1 a b (Go.IntKind.wrap Go.IntKind.i64 (v1 + (1 : Int)))) (H66_1 a b (Go.IntKind.wrap Go.IntKind.i64 (v1 + (1 : Int))))))
                            | d19 :: l20 =>
                            False)))
              | d9 :: l10 =>
              False))))
    (Q (Bool.true))
theorem B66_1_eq (a : List Go.AM.D) (b : List Go.AM.D) (c : Unit) (Q : Bool → Prop) (s : (Int)) (n : Nat) : loopV X66 W66 (C66_1 Q) (n + 1) (E66_1 a b s) (H66_1 a b s) = B66_1 a b c Q s (fun env H => loopV X66 W66 (C66_1 Q) n env H) := by
  kernel_rfl
def F66u (a : List Go.AM.D) (b : List Go.AM.D) (c : Unit) (Q : Bool → Prop) : Prop :=
  cond ((↑(List.length a) : Int) != (↑(List.length b) : Int))
    (Q (Bool.false))
    (L66_1 a b Q ((0 : Int)))

theorem F66u_eq (x : Ars.T sig66.args) (Q : Shs.T sig66.res → Prop) : callBodyK T (callOf l66) (cwOf l66) fi66 (Ars.enc sig66.args x) [] (endK sig66 Q) = F66u x.1 x.2.1 x.2.2 Q := by
  kernel_rfl
noncomputable def F66 := lock @F66u
theorem F66_un : F66 = F66u := lock_eq _
theorem F66_eq (x : Ars.T sig66.args) (Q : Shs.T sig66.res → Prop) : callBodyK T (callOf l66) (cwOf l66) fi66 (Ars.enc sig66.args x) [] (endK sig66 Q) = F66 x.1 x.2.1 x.2.2 Q := by
  rw [F66_un]
  exact F66u_eq x Q
theorem fi66_ok : fi66.ok Try.prog 66 := ⟨Try.func66, by decide, rfl, by rfl⟩
noncomputable def e66 : Entry Try.prog := mkE hT hm 66 fi66 fi66_ok l66 sig66 (fun x Q => F66 x.1 x.2.1 x.2.2 Q) F66_eq
end Go.Proofs.Ytankppgafdcknaa

/- billhook/state.In: what its walk makes hold. -/
set_option linter.unusedVariables false
set_option maxRecDepth 100000
open Go Go.AM
namespace Go.Proofs.Ytankppgafdcknaa
def sig46 : Sig := ⟨[.v (.st [.bool, .sl 2]), .v (.st [.bool, .sl 2])], [.c .bool]⟩
noncomputable def fi46 : Fi := mkFi T Try.f46 {  }
noncomputable def l46 : List (Entry Try.prog) := [e66, e67]
abbrev N46 (Q : Shs.T sig46.res → Prop) : AV → Heap → Prop := endK sig46 Q
noncomputable abbrev X46 : Px := fi46.px T (callOf l46) 0
noncomputable abbrev W46 : CallW := cwOf l46
def F46u (a : Bool × List Go.AM.D) (b : Bool × List Go.AM.D) (Q : Bool → Prop) : Prop :=
  cond (!Prod.fst a)
    (Q (Bool.true))
    (cond (Prod.fst b)
      (F66 (Prod.snd a) (Prod.snd b) (())
        (fun (r1 : Bool) =>
        Q (r1)))
      (Q (Bool.false)))

theorem F46u_eq (x : Ars.T sig46.args) (Q : Shs.T sig46.res → Prop) : callBodyK T (callOf l46) (cwOf l46) fi46 (Ars.enc sig46.args x) [] (endK sig46 Q) = F46u x.1 x.2 Q := by
  kernel_rfl
noncomputable def F46 := lock @F46u
theorem F46_un : F46 = F46u := lock_eq _
theorem F46_eq (x : Ars.T sig46.args) (Q : Shs.T sig46.res → Prop) : callBodyK T (callOf l46) (cwOf l46) fi46 (Ars.enc sig46.args x) [] (endK sig46 Q) = F46 x.1 x.2 Q := by
  rw [F46_un]
  exact F46u_eq x Q
theorem fi46_ok : fi46.ok Try.prog 46 := ⟨Try.func46, by decide, rfl, by rfl⟩
noncomputable def e46 : Entry Try.prog := mkE hT hm 46 fi46 fi46_ok l46 sig46 (fun x Q => F46 x.1 x.2 Q) F46_eq
end Go.Proofs.Ytankppgafdcknaa

/- (billhook/state.State).Set: what its walk makes hold. -/
set_option linter.unusedVariables false
set_option maxRecDepth 100000
open Go Go.AM
namespace Go.Proofs.Ytankppgafdcknaa
def sig17 : Sig := ⟨[.v (.st [.bool, .sl 2]), .v (.c (.int .i64)), .v (.st [.int .i64, .int .i64])], [.st [.bool, .sl 2]]⟩
noncomputable def fi17 : Fi := mkFi T Try.f17 { keep := isIn [17] }
noncomputable def l17 : List (Entry Try.prog) := [e18, e43, e48, e49]
abbrev N17 (Q : Shs.T sig17.res → Prop) : AV → Heap → Prop := endK sig17 Q
noncomputable abbrev X17 : Px := fi17.px T (callOf l17) 0
noncomputable abbrev W17 : CallW := cwOf l17
def F17 (a : Bool × List Go.AM.D) (b : Int) (c : Int × Int) (Q : Bool × List Go.AM.D → Prop) : Prop :=
  cond (!Prod.fst a)
    (F43
      (fun (r1 : Bool × List Go.AM.D) =>
      ((0 : Nat) < (1 : Nat)) ∧
      Q ((Prod.fst r1, Prod.snd r1))))
    (F18 ((Prod.fst c, Prod.snd c))
      (fun (r2 : Bool) =>
      cond (r2)
        (F43
          (fun (r3 : Bool × List Go.AM.D) =>
          ((0 : Nat) < (1 : Nat)) ∧
          Q ((Prod.fst r3, Prod.snd r3))))
        ((Go.AM.cloneCond (16 : Nat) (Prod.snd a)) ∧
        ((2 : Nat) ≤ List.length [Go.AM.AV.im (Go.AM.D.bool (Prod.fst a)), Go.AM.AV.im (Go.AM.D.sl Bool.false (2 : Nat) (Prod.snd a))]) ∧
        F49 ((Prod.fst a, List.take (List.length (Prod.snd a)) (List.drop (0 : Nat) (Prod.snd a)))) (b)
          (fun (r4 : Bool) =>
          cond (r4)
            (((0 : Int) ≤ b) ∧
            (Int.toNat b < List.length (Prod.snd a)) ∧
            ((0 : Nat) + Int.toNat b < List.length (Prod.snd a)) ∧
            ((0 : Nat) < (1 : Nat)) ∧
            Q ((Prod.fst a, List.take (List.length (Prod.snd a)) (List.drop (0 : Nat) (List.set (Prod.snd a) ((0 : Nat) + Int.toNat b) (Go.AM.D.agg [Go.AM.D.int Go.IntKind.i64 (Prod.fst c), Go.AM.D.int Go.IntKind.i64 (Prod.snd c)]))))))
            (((0 : Nat) < (1 : Nat)) ∧
            Q ((Prod.fst a, List.take (List.length (Prod.snd a)) (List.drop (0 : Nat) (Prod.snd a)))))))))

theorem F17_eq (x : Ars.T sig17.args) (Q : Shs.T sig17.res → Prop) : callBodyK T (callOf l17) (cwOf l17) fi17 (Ars.enc sig17.args x) [] (endK sig17 Q) = F17 x.1 x.2.1 x.2.2 Q := by
  kernel_rfl
theorem fi17_ok : fi17.ok Try.prog 17 := ⟨Try.func17, by decide, rfl, by rfl⟩
noncomputable def e17 : Entry Try.prog := mkE hT hm 17 fi17 fi17_ok l17 sig17 (fun x Q => F17 x.1 x.2.1 x.2.2 Q) F17_eq
end Go.Proofs.Ytankppgafdcknaa

/- (billhook/state.State).Set: what its walk makes hold. -/
set_option linter.unusedVariables false
set_option maxRecDepth 100000
open Go Go.AM
namespace Go.Proofs.Ytankppgafdcknaa
def sig17_o : Sig := ⟨[.v (.st [.bool, .sl 2]), .v (.c (.int .i64)), .v (.st [.int .i64, .int .i64])], [.st [.bool, .sl 2]]⟩
noncomputable def fi17_o : Fi := mkFi T Try.f17 { keep := isIn [17] }
noncomputable def l17_o : List (Entry Try.prog) := [e18, e43, e48, e49]
abbrev N17_o (Q : OT → Prop) : AV → Heap → Prop := endO 2 Q
noncomputable abbrev X17_o : Px := fi17_o.px T (callOf l17_o) 0
noncomputable abbrev W17_o : CallW := cwOf l17_o
def F17_o (a : Bool × List Go.AM.D) (b : Int) (c : Int × Int) (Q : Bool × List Go.AM.D ⊕ Bool × List Go.AM.D → Prop) : Prop :=
  cond (!Prod.fst a)
    (F43
      (fun (r1 : Bool × List Go.AM.D) =>
      ((0 : Nat) < (1 : Nat)) ∧
      Q (Sum.inl (Prod.fst r1, Prod.snd r1))))
    (F18 ((Prod.fst c, Prod.snd c))
      (fun (r2 : Bool) =>
      cond (r2)
        (F43
          (fun (r3 : Bool × List Go.AM.D) =>
          ((0 : Nat) < (1 : Nat)) ∧
          Q (Sum.inl (Prod.fst r3, Prod.snd r3))))
        ((Go.AM.cloneCond (16 : Nat) (Prod.snd a)) ∧
        ((2 : Nat) ≤ List.length [Go.AM.AV.im (Go.AM.D.bool (Prod.fst a)), Go.AM.AV.im (Go.AM.D.sl Bool.false (2 : Nat) (Prod.snd a))]) ∧
        F49 ((Prod.fst a, List.take (List.length (Prod.snd a)) (List.drop (0 : Nat) (Prod.snd a)))) (b)
          (fun (r4 : Bool) =>
          cond (r4)
            (((0 : Int) ≤ b) ∧
            (Int.toNat b < List.length (Prod.snd a)) ∧
            ((0 : Nat) + Int.toNat b < List.length (Prod.snd a)) ∧
            ((0 : Nat) < (1 : Nat)) ∧
            (List.length (Prod.snd a) = List.length (List.set (Prod.snd a) ((0 : Nat) + Int.toNat b) (Go.AM.D.agg [Go.AM.D.int Go.IntKind.i64 (Prod.fst c), Go.AM.D.int Go.IntKind.i64 (Prod.snd c)]))) ∧
            Q (Sum.inr (Prod.fst a, List.set (Prod.snd a) ((0 : Nat) + Int.toNat b) (Go.AM.D.agg [Go.AM.D.int Go.IntKind.i64 (Prod.fst c), Go.AM.D.int Go.IntKind.i64 (Prod.snd c)]))))
            (((0 : Nat) < (1 : Nat)) ∧
            (List.length (Prod.snd a) = List.length (Prod.snd a)) ∧
            Q (Sum.inr (Prod.fst a, Prod.snd a)))))))

theorem F17_o_eq (x : Ars.T sig17_o.args) (Q : OT → Prop) : callBodyK T (callOf l17_o) (cwOf l17_o) fi17_o (Ars.enc sig17_o.args x) [] (endO 2 Q) = F17_o x.1 x.2.1 x.2.2 Q := by
  kernel_rfl
theorem fi17_o_ok : fi17_o.ok Try.prog 17 := ⟨Try.func17, by decide, rfl, by rfl⟩
noncomputable def e17_o : Entry Try.prog := mkEO hT hm 17 fi17_o fi17_o_ok l17_o 2 sig17_o.args (fun x Q => F17_o x.1 x.2.1 x.2.2 Q) F17_o_eq
end Go.Proofs.Ytankppgafdcknaa

/- (billhook/billhooklaw12.Range).span: what its walk makes hold. -/
set_option linter.unusedVariables false
set_option maxRecDepth 100000
open Go Go.AM
namespace Go.Proofs.Ytankppgafdcknaa
def sig16 : Sig := ⟨[.v (.st [.int .i64, .int .i64, .bool, .int .u8, .int .u8])], [.st [.int .i64, .int .i64]]⟩
noncomputable def fi16 : Fi := mkFi T Try.f16 {  }
noncomputable def l16 : List (Entry Try.prog) := []
abbrev N16 (Q : Shs.T sig16.res → Prop) : AV → Heap → Prop := endK sig16 Q
noncomputable abbrev X16 : Px := fi16.px T (callOf l16) 0
noncomputable abbrev W16 : CallW := cwOf l16
def F16 (a : Int × Int × Bool × Int × Int) (Q : Int × Int → Prop) : Prop :=
  cond (!Prod.fst (Prod.snd (Prod.snd a)))
    (((0 : Nat) < (1 : Nat)) ∧
    Q ((Prod.fst a, Prod.fst (Prod.snd a))))
    (((9 : Int) ≠ (0 : Int)) ∧
    cond (Int.tmod (Prod.fst (Prod.snd (Prod.snd (Prod.snd a)))) (9 : Int) == (0 : Int))
      (((40 : Int) ≠ (0 : Int)) ∧
      ((0 : Nat) < (1 : Nat)) ∧
      Q (((-9223372036854775808 : Int), Go.IntKind.wrap Go.IntKind.i64 ((-9223372036854775808 : Int) + Go.IntKind.wrap Go.IntKind.i64 (Int.tmod (Prod.snd (Prod.snd (Prod.snd (Prod.snd a)))) (40 : Int))))))
      (cond (Int.tmod (Prod.fst (Prod.snd (Prod.snd (Prod.snd a)))) (9 : Int) == (1 : Int))
        (((4 : Int) ≠ (0 : Int)) ∧
        ((0 : Nat) < (1 : Nat)) ∧
        Q ((Go.IntKind.wrap Go.IntKind.i64 ((9223372036854775807 : Int) - Go.IntKind.wrap Go.IntKind.i64 (Int.tmod (Prod.snd (Prod.snd (Prod.snd (Prod.snd a)))) (4 : Int))), (9223372036854775807 : Int))))
        (cond (Int.tmod (Prod.fst (Prod.snd (Prod.snd (Prod.snd a)))) (9 : Int) == (2 : Int))
          (((40 : Int) ≠ (0 : Int)) ∧
          ((0 : Nat) < (1 : Nat)) ∧
          Q (((0 : Int), Go.IntKind.wrap Go.IntKind.i64 ((0 : Int) + Go.IntKind.wrap Go.IntKind.i64 (Int.tmod (Prod.snd (Prod.snd (Prod.snd (Prod.snd a)))) (40 : Int))))))
          (((40 : Int) ≠ (0 : Int)) ∧
          ((0 : Nat) < (1 : Nat)) ∧
          Q ((Go.IntKind.wrap Go.IntKind.i64 (Go.IntKind.wrap Go.IntKind.i64 (Prod.fst (Prod.snd (Prod.snd (Prod.snd a)))) - (128 : Int)), Go.IntKind.wrap Go.IntKind.i64 (Go.IntKind.wrap Go.IntKind.i64 (Go.IntKind.wrap Go.IntKind.i64 (Prod.fst (Prod.snd (Prod.snd (Prod.snd a)))) - (128 : Int)) + Go.IntKind.wrap Go.IntKind.i64 (Int.tmod (Prod.snd (Prod.snd (Prod.snd (Prod.snd a)))) (40 : Int)))))))))

theorem F16_eq (x : Ars.T sig16.args) (Q : Shs.T sig16.res → Prop) : callBodyK T (callOf l16) (cwOf l16) fi16 (Ars.enc sig16.args x) [] (endK sig16 Q) = F16 x Q := by
  kernel_rfl
theorem fi16_ok : fi16.ok Try.prog 16 := ⟨Try.func16, by decide, rfl, by rfl⟩
noncomputable def e16 : Entry Try.prog := mkE hT hm 16 fi16 fi16_ok l16 sig16 (fun x Q => F16 x Q) F16_eq
end Go.Proofs.Ytankppgafdcknaa

/- billhook/billhooklaw12.tidy: what its walk makes hold. -/
set_option linter.unusedVariables false
set_option maxRecDepth 100000
open Go Go.AM
namespace Go.Proofs.Ytankppgafdcknaa
def sig15 : Sig := ⟨[.v (.st [.bool, .sl 5]), .v (.c (.int .i64))], [.st [.bool, .sl 2]]⟩
noncomputable def fi15 : Fi := mkFi T Try.f15 { live := fun d => if Nat.beq d 3 then slots 44 [1, 2, 4, 5, 6] else none, clm := fun d => if Nat.beq d 8 then [(1, 2)] else [] }
noncomputable def l15 : List (Entry Try.prog) := [e22, e16, e18]
abbrev N15 (Q : Shs.T sig15.res → Prop) : AV → Heap → Prop := endK sig15 Q
noncomputable abbrev X15 : Px := fi15.px T (callOf l15) 0
noncomputable abbrev W15 : CallW := cwOf l15
def E15_1 (a : Bool × List Go.AM.D) (b : Int) (s : (Int) × (List Go.AM.D)) : Env :=
  match s with
  | (v1, v2) =>
    [Go.AM.AV.bad, Go.AM.AV.im (Go.AM.D.int Go.IntKind.i64 b), Go.AM.AV.ptr (0 : Nat) (0 : Nat) (0 : Nat), Go.AM.AV.bad, Go.AM.AV.ptr (1 : Nat) (0 : Nat) (0 : Nat), Go.AM.AV.ptr (2 : Nat) (0 : Nat) (0 : Nat), Go.AM.AV.im (Go.AM.D.int Go.IntKind.i64 v1), Go.AM.AV.bad, Go.AM.AV.bad, Go.AM.AV.bad, Go.AM.AV.bad, Go.AM.AV.bad, Go.AM.AV.bad, Go.AM.AV.bad, Go.AM.AV.bad, Go.AM.AV.bad, Go.AM.AV.bad, Go.AM.AV.bad, Go.AM.AV.bad, Go.AM.AV.bad, Go.AM.AV.bad, Go.AM.AV.bad, Go.AM.AV.bad, Go.AM.AV.bad, Go.AM.AV.bad, Go.AM.AV.bad, Go.AM.AV.bad, Go.AM.AV.bad, Go.AM.AV.bad, Go.AM.AV.bad, Go.AM.AV.bad, Go.AM.AV.bad, Go.AM.AV.bad, Go.AM.AV.bad, Go.AM.AV.bad, Go.AM.AV.bad, Go.AM.AV.bad, Go.AM.AV.bad, Go.AM.AV.bad, Go.AM.AV.bad, Go.AM.AV.bad, Go.AM.AV.bad, Go.AM.AV.bad, Go.AM.AV.bad]
def H15_1 (a : Bool × List Go.AM.D) (b : Int) (s : (Int) × (List Go.AM.D)) : Heap :=
  match s with
  | (v1, v2) =>
    [Option.some (Go.AM.Blk.c (2 : Nat) [Go.AM.D.agg [Go.AM.D.bool (Prod.fst a), Go.AM.D.sl Bool.false (5 : Nat) (Prod.snd a)]]), Option.some (Go.AM.Blk.c (2 : Nat) [Go.AM.D.agg [Go.AM.D.bool Bool.false, Go.AM.D.sl Bool.true (0 : Nat) []]]), Option.some (Go.AM.Blk.m (2 : Nat) [Go.AM.AV.agg [Go.AM.AV.im (Go.AM.D.bool Bool.true), Go.AM.AV.ref (3 : Nat) (0 : Nat) (List.length v2)]]), Option.some (Go.AM.Blk.c (2 : Nat) v2)]
noncomputable def C15_1 (Q : Bool × List Go.AM.D → Prop) : Go.Code × Go.AM.Kx := sub X15 W15 fi15.code [1, 1, 0, 1, 0] [] (finK T fi15 0 (N15 Q))
noncomputable def L15_1 (a : Bool × List Go.AM.D) (b : Int) (Q : Bool × List Go.AM.D → Prop) (s : (Int) × (List Go.AM.D)) : Prop := ∃ n, loopV X15 W15 (C15_1 Q) n (E15_1 a b s) (H15_1 a b s)
def B15_1 (a : Bool × List Go.AM.D) (b : Int) (Q : Bool × List Go.AM.D → Prop) (s : (Int) × (List Go.AM.D)) (R3 : Env → Heap → Prop) : Prop :=
  match s with
  | (v1, v2) =>
    cond (Decidable.decide (v1 < b))
    (F22 (v1)
      (fun (r4 : Int × Int) =>
      ((0 : Nat) < (1 : Nat)) ∧
      cond (Decidable.decide (v1 < (↑(List.length (Prod.snd a)) : Int)))
        (((0 : Int) ≤ v1) ∧
        optP ((Prod.snd a)[Int.toNat v1]?) fun (d5 : Go.AM.D) =>
          optP (Go.AM.D.asAgg d5) fun (d6 : List Go.AM.D) =>
            (match d6 with
              | [] => False
              | d7 :: l8 =>
              (match l8 with
                | [] => False
                | d9 :: l10 =>
                (match l10 with
                  | [] => False
                  | d11 :: l12 =>
                  (match l12 with
                    | [] => False
                    | d13 :: l14 =>
                    (match l14 with
                      | [] => False
                      | d15 :: l16 =>
                      (match l16 with
                        | [] => optP (Go.AM.D.asInt Go.IntKind.i64 d7) fun (d19 : Int) =>
                          optP (Go.AM.D.asInt Go.IntKind.i64 d9) fun (d20 : Int) =>
                            optP (Go.AM.D.asBool d11) fun (d21 : Bool) =>
                              optP (Go.AM.D.asInt Go.IntKind.u8 d13) fun (d22 : Int) =>
                                optP (Go.AM.D.asInt Go.IntKind.u8 d15) fun (d23 : Int) =>
                                  F16 ((d19, d20, d21, d22, d23))
                                    (fun (r24 : Int × Int) =>
                                    F18 ((Prod.fst r24, Prod.snd r24))
                                      (fun (r25 : Bool) =>
                                      cond (!r25)
                                        (((0 : Int) ≤ v1) ∧
                                        optP ((Prod.snd a)[Int.toNat v1]?) fun (d26 : Go.AM.D) =>
                                          optP (Go.AM.D.asAgg d26) fun (d27 : List Go.AM.D) =>
                                            (match d27 with
                                              | [] => False
                                              | d28 :: l29 =>
                                              (match l29 with
                                                | [] => False
                                                | d30 :: l31 =>
                                                (match l31 with
                                                  | [] => False
                                                  | d32 :: l33 =>
                                                  (match l33 with
                                                    | [] => False
                                                    | d34 :: l35 =>
                                                    (match l35 with
                                                      | [] => False
                                                      | d36 :: l37 =>
                                                      (match l37 with
                                                        | [] => optP (Go.AM.D.asInt Go.IntKind.i64 d28) fun (d40 : Int) =>
                                                          optP (Go.AM.D.asInt Go.IntKind.i64 d30) fun (d41 : Int) =>
                                                            optP (Go.AM.D.asBool d32) fun (d42 : Bool) =>
                                                              optP (Go.AM.D.asInt Go.IntKind.u8 d34) fun (d43 : Int) =>
                                                                optP (Go.AM.D.asInt Go.IntKind.u8 d36) fun (d44 : Int) =>
                                                                  F16 ((d40, d41, d42, d43, d44))
                                                                    (fun (r45 : Int × Int) =>
                                                                    ((0 : Nat) < List.length [Go.AM.D.agg [Go.AM.D.int Go.IntKind.i64 (Prod.fst r4), Go.AM.D.int Go.IntKind.i64 (Prod.snd r4)]]) ∧
                                                                    (List.length (List.take (List.length v2) (List.drop (0 : Nat) v2) ++ [Go.AM.D.agg [Go.AM.D.int Go.IntKind.i64 (Prod.fst r45), Go.AM.D.int Go.IntKind.i64 (Prod.snd r45)]]) * (16 : Nat) ≤ (140737488355328 : Nat)) ∧
                                                                    (List.length (List.take (List.length v2) (List.drop (0 : Nat) v2) ++ [Go.AM.D.agg [Go.AM.D.int Go.IntKind.i64 (Prod.fst r45), Go.AM.D.int Go.IntKind.i64 (Prod.snd r45)]]) ≤ (140737488355328 : Nat)) ∧
                                                                    ((2 : Nat) ≤ List.length [Go.AM.AV.im (Go.AM.D.bool Bool.true), Go.AM.AV.bad]) ∧
                                                                    R3 (E15_1 a b ((Go.IntKind.wrap Go.IntKind.i64 (v1 + (1 : Int)), List.take (List.length v2) (List.drop (0 : Nat) v2) ++ [Go.AM.D.agg [Go.AM.D.int Go.IntKind.i64 (Prod.fst r45), Go.AM.D.int Go.IntKind.i64 (Prod.snd r45)]]))) (H15_1 a b ((Go.IntKind.wrap Go.IntKind.i64 (v1 + (1 : Int)), List.take (List.length v2) (List.drop (0 : Nat) v2) ++ [Go.AM.D.agg [Go.AM.D.int Go.IntKind.i64 (Prod.fst r45), Go.AM.D.int Go.IntKind.i64 (Prod.snd r45)]]))))
                                                        | d38 :: l39 =>
                                                        False)))))))
                                        ((List.length (List.take (List.length v2) (List.drop (0 : Nat) v2) ++ [Go.AM.D.agg [Go.AM.D.int Go.IntKind.i64 (Prod.fst r4), Go.AM.D.int Go.IntKind.i64 (Prod.snd r4)]]) * (16 : Nat) ≤ (140737488355328 : Nat)) ∧
                                        (List.length (List.take (List.length v2) (List.drop (0 : Nat) v2) ++ [Go.AM.D.agg [Go.AM.D.int Go.IntKind.i64 (Prod.fst r4), Go.AM.D.int Go.IntKind.i64 (Prod.snd r4)]]) ≤ (140737488355328 : Nat)) ∧
                                        ((2 : Nat) ≤ List.length [Go.AM.AV.im (Go.AM.D.bool Bool.true), Go.AM.AV.bad]) ∧
                                        R3 (E15_1 a b ((Go.IntKind.wrap Go.IntKind.i64 (v1 + (1 : Int)), List.take (List.length v2) (List.drop (0 : Nat) v2) ++ [Go.AM.D.agg [Go.AM.D.int Go.IntKind.i64 (Prod.fst r4), Go.AM.D.int Go.IntKind.i64 (Prod.snd r4)]]))) (H15_1 a b ((Go.IntKind.wrap Go.IntKind.i64 (v1 + (1 : Int)), List.take (List.length v2) (List.drop (0 : Nat) v2) ++ [Go.AM.D.agg [Go.AM.D.int Go.IntKind.i64 (Prod.fst r4), Go.AM.D.int Go.IntKind.i64 (Prod.snd r4)]]))))))
                        | d17 :: l18 =>
                        False)))))))
        ((List.length (List.take (List.length v2) (List.drop (0 : Nat) v2) ++ [Go.AM.D.agg [Go.AM.D.int Go.IntKind.i64 (Prod.fst r4), Go.AM.D.int Go.IntKind.i64 (Prod.snd r4)]]) * (16 : Nat) ≤ (140737488355328 : Nat)) ∧
        (List.length (List.take (List.length v2) (List.drop (0 : Nat) v2) ++ [Go.AM.D.agg [Go.AM.D.int Go.IntKind.i64 (Prod.fst r4), Go.AM.D.int Go.IntKind.i64 (Prod.snd r4)]]) ≤ (140737488355328 : Nat)) ∧
        ((2 : Nat) ≤ List.length [Go.AM.AV.im (Go.AM.D.bool Bool.true), Go.AM.AV.bad]) ∧
        R3 (E15_1 a b ((Go.IntKind.wrap Go.IntKind.i64 (v1 + (1 : Int)), List.take (List.length v2) (List.drop (0 : Nat) v2) ++ [Go.AM.D.agg [Go.AM.D.int Go.IntKind.i64 (Prod.fst r4), Go.AM.D.int Go.IntKind.i64 (Prod.snd r4)]]))) (H15_1 a b ((Go.IntKind.wrap Go.IntKind.i64 (v1 + (1 : Int)), List.take (List.length v2) (List.drop (0 : Nat) v2) ++ [Go.AM.D.agg [Go.AM.D.int Go.IntKind.i64 (Prod.fst r4), Go.AM.D.int Go.IntKind.i64 (Prod.snd r4)]]))))))
    (((0 : Nat) < (1 : Nat)) ∧
    Q ((Bool.true, List.take (List.length v2) (List.drop (0 : Nat) v2))))
theorem B15_1_eq (a : Bool × List Go.AM.D) (b : Int) (Q : Bool × List Go.AM.D → Prop) (s : (Int) × (List Go.AM.D)) (n : Nat) : loopV X15 W15 (C15_1 Q) (n + 1) (E15_1 a b s) (H15_1 a b s) = B15_1 a b Q s (fun env H => loopV X15 W15 (C15_1 Q) n env H) := by
  kernel_rfl
def F15u (a : Bool × List Go.AM.D) (b : Int) (Q : Bool × List Go.AM.D → Prop) : Prop :=
  ((0 : Nat) < (1 : Nat)) ∧
  L15_1 a b Q (((0 : Int), []))

theorem F15u_eq (x : Ars.T sig15.args) (Q : Shs.T sig15.res → Prop) : callBodyK T (callOf l15) (cwOf l15) fi15 (Ars.enc sig15.args x) [] (endK sig15 Q) = F15u x.1 x.2 Q := by
  kernel_rfl
noncomputable def F15 := lock @F15u
theorem F15_un : F15 = F15u := lock_eq _
theorem F15_eq (x : Ars.T sig15.args) (Q : Shs.T sig15.res → Prop) : callBodyK T (callOf l15) (cwOf l15) fi15 (Ars.enc sig15.args x) [] (endK sig15 Q) = F15 x.1 x.2 Q := by
  rw [F15_un]
  exact F15u_eq x Q
theorem fi15_ok : fi15.ok Try.prog 15 := ⟨Try.func15, by decide, rfl, by rfl⟩
noncomputable def e15 : Entry Try.prog := mkE hT hm 15 fi15 fi15_ok l15 sig15 (fun x Q => F15 x.1 x.2 Q) F15_eq
end Go.Proofs.Ytankppgafdcknaa

/- billhook/state.both: what its walk makes hold. -/
set_option linter.unusedVariables false
set_option maxRecDepth 100000
open Go Go.AM
namespace Go.Proofs.Ytankppgafdcknaa
def sig63_64 : Sig := ⟨[.v (.st [.bool, .sl 2]), .v (.st [.bool, .sl 2]), .v (.c (.fn 64))], [.st [.bool, .sl 2]]⟩
noncomputable def fi63_64 : Fi := mkFi T Try.f63 { live := fun d => if Nat.beq d 7 then slots 51 [2, 3, 4, 6, 7, 29, 30] else none, keep := isIn [21] }
noncomputable def l63_64 : List (Entry Try.prog) := [e48, e64]
abbrev N63_64 (Q : Shs.T sig63_64.res → Prop) : AV → Heap → Prop := endK sig63_64 Q
noncomputable abbrev X63_64 : Px := fi63_64.px T (callOf l63_64) 0
noncomputable abbrev W63_64 : CallW := cwOf l63_64
def E63_64_1 (a : Bool × List Go.AM.D) (b : Bool × List Go.AM.D) (c : Unit) (s : (Int) × (List Go.AM.D)) : Env :=
  match s with
  | (v1, v2) =>
    [Go.AM.AV.bad, Go.AM.AV.bad, Go.AM.AV.im (Go.AM.D.fn (Go.Fn.func (64 : Nat)) [] []), Go.AM.AV.ptr (0 : Nat) (0 : Nat) (0 : Nat), Go.AM.AV.ptr (1 : Nat) (0 : Nat) (0 : Nat), Go.AM.AV.bad, Go.AM.AV.ptr (2 : Nat) (0 : Nat) (0 : Nat), Go.AM.AV.ptr (3 : Nat) (0 : Nat) (0 : Nat), Go.AM.AV.bad, Go.AM.AV.bad, Go.AM.AV.bad, Go.AM.AV.bad, Go.AM.AV.bad, Go.AM.AV.bad, Go.AM.AV.bad, Go.AM.AV.bad, Go.AM.AV.bad, Go.AM.AV.bad, Go.AM.AV.bad, Go.AM.AV.bad, Go.AM.AV.bad, Go.AM.AV.bad, Go.AM.AV.bad, Go.AM.AV.bad, Go.AM.AV.bad, Go.AM.AV.bad, Go.AM.AV.bad, Go.AM.AV.bad, Go.AM.AV.bad, Go.AM.AV.im (Go.AM.D.int Go.IntKind.i64 (if (↑(List.length (Prod.snd (Prod.fst (Prod.snd (a, b, c))))) : Int) < (↑(List.length (Prod.snd (Prod.fst (a, b, c)))) : Int) then (↑(List.length (Prod.snd b)) : Int) else (↑(List.length (Prod.snd a)) : Int))), Go.AM.AV.im (Go.AM.D.int Go.IntKind.i64 v1), Go.AM.AV.bad, Go.AM.AV.bad, Go.AM.AV.bad, Go.AM.AV.bad, Go.AM.AV.bad, Go.AM.AV.bad, Go.AM.AV.bad, Go.AM.AV.bad, Go.AM.AV.bad, Go.AM.AV.bad, Go.AM.AV.bad, Go.AM.AV.bad, Go.AM.AV.bad, Go.AM.AV.bad, Go.AM.AV.bad, Go.AM.AV.bad, Go.AM.AV.bad, Go.AM.AV.bad, Go.AM.AV.bad, Go.AM.AV.bad]
def H63_64_1 (a : Bool × List Go.AM.D) (b : Bool × List Go.AM.D) (c : Unit) (s : (Int) × (List Go.AM.D)) : Heap :=
  match s with
  | (v1, v2) =>
    [Option.some (Go.AM.Blk.c (2 : Nat) [Go.AM.D.agg [Go.AM.D.bool (Prod.fst a), Go.AM.D.sl Bool.false (2 : Nat) (Prod.snd a)]]), Option.some (Go.AM.Blk.c (2 : Nat) [Go.AM.D.agg [Go.AM.D.bool (Prod.fst b), Go.AM.D.sl Bool.false (2 : Nat) (Prod.snd b)]]), Option.some (Go.AM.Blk.c (2 : Nat) [Go.AM.D.agg [Go.AM.D.bool Bool.false, Go.AM.D.sl Bool.true (0 : Nat) []]]), Option.some (Go.AM.Blk.m (2 : Nat) [Go.AM.AV.agg [Go.AM.AV.im (Go.AM.D.bool Bool.true), Go.AM.AV.ref (4 : Nat) (0 : Nat) (List.length (Prod.snd a))]]), Option.some (Go.AM.Blk.c (2 : Nat) v2)]
noncomputable def C63_64_1 (Q : Bool × List Go.AM.D → Prop) : Go.Code × Go.AM.Kx := sub X63_64 W63_64 fi63_64.code [1, 1, 1, 0, 1, 0] [] (finK T fi63_64 0 (N63_64 Q))
noncomputable def L63_64_1 (a : Bool × List Go.AM.D) (b : Bool × List Go.AM.D) (c : Unit) (Q : Bool × List Go.AM.D → Prop) (s : (Int) × (List Go.AM.D)) : Prop := ∃ n, loopV X63_64 W63_64 (C63_64_1 Q) n (E63_64_1 a b c s) (H63_64_1 a b c s)
def B63_64_1 (a : Bool × List Go.AM.D) (b : Bool × List Go.AM.D) (c : Unit) (Q : Bool × List Go.AM.D → Prop) (s : (Int) × (List Go.AM.D)) (R3 : Env → Heap → Prop) : Prop :=
  match s with
  | (v1, v2) =>
    cond (Decidable.decide (v1 < if (↑(List.length (Prod.snd (Prod.fst (Prod.snd (a, b, c))))) : Int) < (↑(List.length (Prod.snd (Prod.fst (a, b, c)))) : Int) then (↑(List.length (Prod.snd b)) : Int) else (↑(List.length (Prod.snd a)) : Int)))
    (((0 : Int) ≤ v1) ∧
    optP ((Prod.snd a)[Int.toNat v1]?) fun (d4 : Go.AM.D) =>
      optP (Go.AM.D.asAgg d4) fun (d5 : List Go.AM.D) =>
        (match d5 with
          | [] => False
          | d6 :: l7 =>
          (match l7 with
            | [] => False
            | d8 :: l9 =>
            (match l9 with
              | [] => optP (Go.AM.D.asInt Go.IntKind.i64 d6) fun (d12 : Int) =>
                optP (Go.AM.D.asInt Go.IntKind.i64 d8) fun (d13 : Int) =>
                  ((0 : Int) ≤ v1) ∧
                  optP ((Prod.snd b)[Int.toNat v1]?) fun (d14 : Go.AM.D) =>
                    optP (Go.AM.D.asAgg d14) fun (d15 : List Go.AM.D) =>
                      (match d15 with
                        | [] => False
                        | d16 :: l17 =>
                        (match l17 with
                          | [] => False
                          | d18 :: l19 =>
                          (match l19 with
                            | [] => optP (Go.AM.D.asInt Go.IntKind.i64 d16) fun (d22 : Int) =>
                              optP (Go.AM.D.asInt Go.IntKind.i64 d18) fun (d23 : Int) =>
                                F64 ((d12, d13)) ((d22, d23))
                                  (fun (r24 : Int × Int) =>
                                  ((0 : Int) ≤ v1) ∧
                                  (Int.toNat v1 < List.length (Prod.snd a)) ∧
                                  ((0 : Nat) + Int.toNat v1 < List.length v2) ∧
                                  R3 (E63_64_1 a b c ((Go.IntKind.wrap Go.IntKind.i64 (v1 + (1 : Int)), List.set v2 ((0 : Nat) + Int.toNat v1) (Go.AM.D.agg [Go.AM.D.int Go.IntKind.i64 (Prod.fst r24), Go.AM.D.int Go.IntKind.i64 (Prod.snd r24)])))) (H63_64_1 a b c ((Go.IntKind.wrap Go.IntKind.i64 (v1 + (1 : Int)), List.set v2 ((0 : Nat) + Int.toNat v1) (Go.AM.D.agg [Go.AM.D.int Go.IntKind.i64 (Prod.fst r24), Go.AM.D.int Go.IntKind.i64 (Prod.snd r24)])))))
                            | d20 :: l21 =>
                            False)))
              | d10 :: l11 =>
              False))))
    (((0 : Nat) < (1 : Nat)) ∧
    Q ((Bool.true, List.take (List.length (Prod.snd a)) (List.drop (0 : Nat) v2))))
theorem B63_64_1_eq (a : Bool × List Go.AM.D) (b : Bool × List Go.AM.D) (c : Unit) (Q : Bool × List Go.AM.D → Prop) (s : (Int) × (List Go.AM.D)) (n : Nat) : loopV X63_64 W63_64 (C63_64_1 Q) (n + 1) (E63_64_1 a b c s) (H63_64_1 a b c s) = B63_64_1 a b c Q s (fun env H => loopV X63_64 W63_64 (C63_64_1 Q) n env H) := by
  kernel_rfl
def F63_64u (a : Bool × List Go.AM.D) (b : Bool × List Go.AM.D) (c : Unit) (Q : Bool × List Go.AM.D → Prop) : Prop :=
  cond (!Prod.fst a)
    (((0 : Nat) < (1 : Nat)) ∧
    Q ((Prod.fst b, Prod.snd b)))
    (cond (!Prod.fst b)
      (((0 : Nat) < (1 : Nat)) ∧
      Q ((Prod.fst a, Prod.snd a)))
      ((Go.AM.cloneCond (16 : Nat) (Prod.snd a)) ∧
      ((0 : Nat) < (1 : Nat)) ∧
      L63_64_1 a b c Q (((0 : Int), Prod.snd a))))

theorem F63_64u_eq (x : Ars.T sig63_64.args) (Q : Shs.T sig63_64.res → Prop) : callBodyK T (callOf l63_64) (cwOf l63_64) fi63_64 (Ars.enc sig63_64.args x) [] (endK sig63_64 Q) = F63_64u x.1 x.2.1 x.2.2 Q := by
  kernel_rfl
noncomputable def F63_64 := lock @F63_64u
theorem F63_64_un : F63_64 = F63_64u := lock_eq _
theorem F63_64_eq (x : Ars.T sig63_64.args) (Q : Shs.T sig63_64.res → Prop) : callBodyK T (callOf l63_64) (cwOf l63_64) fi63_64 (Ars.enc sig63_64.args x) [] (endK sig63_64 Q) = F63_64 x.1 x.2.1 x.2.2 Q := by
  rw [F63_64_un]
  exact F63_64u_eq x Q
theorem fi63_64_ok : fi63_64.ok Try.prog 63 := ⟨Try.func63, by decide, rfl, by rfl⟩
noncomputable def e63_64 : Entry Try.prog := mkE hT hm 63 fi63_64 fi63_64_ok l63_64 sig63_64 (fun x Q => F63_64 x.1 x.2.1 x.2.2 Q) F63_64_eq
end Go.Proofs.Ytankppgafdcknaa

/- billhook/state.Join: what its walk makes hold. -/
set_option linter.unusedVariables false
set_option maxRecDepth 100000
open Go Go.AM
namespace Go.Proofs.Ytankppgafdcknaa
def sig41 : Sig := ⟨[.v (.st [.bool, .sl 2]), .v (.st [.bool, .sl 2])], [.st [.bool, .sl 2]]⟩
noncomputable def fi41 : Fi := mkFi T Try.f41 {  }
noncomputable def l41 : List (Entry Try.prog) := [e63_64, e64]
abbrev N41 (Q : Shs.T sig41.res → Prop) : AV → Heap → Prop := endK sig41 Q
noncomputable abbrev X41 : Px := fi41.px T (callOf l41) 0
noncomputable abbrev W41 : CallW := cwOf l41
def F41u (a : Bool × List Go.AM.D) (b : Bool × List Go.AM.D) (Q : Bool × List Go.AM.D → Prop) : Prop :=
  F63_64 ((Prod.fst a, Prod.snd a)) ((Prod.fst b, Prod.snd b)) (())
    (fun (r1 : Bool × List Go.AM.D) =>
    ((0 : Nat) < (1 : Nat)) ∧
    Q ((Prod.fst r1, Prod.snd r1)))

theorem F41u_eq (x : Ars.T sig41.args) (Q : Shs.T sig41.res → Prop) : callBodyK T (callOf l41) (cwOf l41) fi41 (Ars.enc sig41.args x) [] (endK sig41 Q) = F41u x.1 x.2 Q := by
  kernel_rfl
noncomputable def F41 := lock @F41u
theorem F41_un : F41 = F41u := lock_eq _
theorem F41_eq (x : Ars.T sig41.args) (Q : Shs.T sig41.res → Prop) : callBodyK T (callOf l41) (cwOf l41) fi41 (Ars.enc sig41.args x) [] (endK sig41 Q) = F41 x.1 x.2 Q := by
  rw [F41_un]
  exact F41u_eq x Q
theorem fi41_ok : fi41.ok Try.prog 41 := ⟨Try.func41, by decide, rfl, by rfl⟩
noncomputable def e41 : Entry Try.prog := mkE hT hm 41 fi41 fi41_ok l41 sig41 (fun x Q => F41 x.1 x.2 Q) F41_eq
end Go.Proofs.Ytankppgafdcknaa

/- (billhook/state.State).Add: what its walk makes hold. -/
set_option linter.unusedVariables false
set_option maxRecDepth 100000
open Go Go.AM
namespace Go.Proofs.Ytankppgafdcknaa
def sig44 : Sig := ⟨[.v (.st [.bool, .sl 2]), .v (.c (.int .i64)), .v (.st [.int .i64, .int .i64])], [.st [.bool, .sl 2]]⟩
noncomputable def fi44 : Fi := mkFi T Try.f44 {  }
noncomputable def l44 : List (Entry Try.prog) := [e21, e64, e17]
abbrev N44 (Q : Shs.T sig44.res → Prop) : AV → Heap → Prop := endK sig44 Q
noncomputable abbrev X44 : Px := fi44.px T (callOf l44) 0
noncomputable abbrev W44 : CallW := cwOf l44
def F44 (a : Bool × List Go.AM.D) (b : Int) (c : Int × Int) (Q : Bool × List Go.AM.D → Prop) : Prop :=
  F21 ((Prod.fst a, Prod.snd a)) (b)
    (fun (r1 : Int × Int) =>
    F64 ((Prod.fst r1, Prod.snd r1)) ((Prod.fst c, Prod.snd c))
      (fun (r2 : Int × Int) =>
      F17 ((Prod.fst a, Prod.snd a)) (b) ((Prod.fst r2, Prod.snd r2))
        (fun (r3 : Bool × List Go.AM.D) =>
        ((0 : Nat) < (1 : Nat)) ∧
        Q ((Prod.fst r3, Prod.snd r3)))))

theorem F44_eq (x : Ars.T sig44.args) (Q : Shs.T sig44.res → Prop) : callBodyK T (callOf l44) (cwOf l44) fi44 (Ars.enc sig44.args x) [] (endK sig44 Q) = F44 x.1 x.2.1 x.2.2 Q := by
  kernel_rfl
theorem fi44_ok : fi44.ok Try.prog 44 := ⟨Try.func44, by decide, rfl, by rfl⟩
noncomputable def e44 : Entry Try.prog := mkE hT hm 44 fi44 fi44_ok l44 sig44 (fun x Q => F44 x.1 x.2.1 x.2.2 Q) F44_eq
end Go.Proofs.Ytankppgafdcknaa

/- billhook/state.Holds$1$1: what its walk makes hold. -/
set_option linter.unusedVariables false
set_option maxRecDepth 100000
open Go Go.AM
namespace Go.Proofs.Ytankppgafdcknaa
def sig62 : Sig := ⟨[.v (.c (.int .i64)), .p (.st [.int .i64, .int .i64])], [.c .bool]⟩
noncomputable def fi62 : Fi := mkFi T Try.f62 {  }
noncomputable def l62 : List (Entry Try.prog) := [e45]
abbrev N62 (Q : Shs.T sig62.res → Prop) : AV → Heap → Prop := endK sig62 Q
noncomputable abbrev X62 : Px := fi62.px T (callOf l62) 0
noncomputable abbrev W62 : CallW := cwOf l62
def F62 (a : Int) (b : Int × Int) (Q : Bool → Prop) : Prop :=
  F45 ((Prod.fst b, Prod.snd b)) (a)
    (fun (r1 : Bool) =>
    Q (!r1))

theorem F62_eq (x : Ars.T sig62.args) (Q : Shs.T sig62.res → Prop) : callBodyK T (callOf l62) (cwOf l62) fi62 (Ars.enc sig62.args x) [] (endK sig62 Q) = F62 x.1 x.2 Q := by
  kernel_rfl
theorem fi62_ok : fi62.ok Try.prog 62 := ⟨Try.func62, by decide, rfl, by rfl⟩
noncomputable def e62 : Entry Try.prog := mkE hT hm 62 fi62 fi62_ok l62 sig62 (fun x Q => F62 x.1 x.2 Q) F62_eq
end Go.Proofs.Ytankppgafdcknaa

/- slices.IndexFunc[[]int64,int64]: what its walk makes hold. -/
set_option linter.unusedVariables false
set_option maxRecDepth 100000
open Go Go.AM
namespace Go.Proofs.Ytankppgafdcknaa
def sig71_62 : Sig := ⟨[.v (.c (.sl 1)), .clo 62 [.st [.int .i64, .int .i64]]], [.c (.int .i64)]⟩
noncomputable def fi71_62 : Fi := mkFi T Try.f71 { live := fun d => if Nat.beq d 2 then slots 19 [0, 1, 7, 8] else none }
noncomputable def l71_62 : List (Entry Try.prog) := [e62]
abbrev N71_62 (Q : Shs.T sig71_62.res → Prop) : AV → Heap → Prop := endK sig71_62 Q
noncomputable abbrev X71_62 : Px := fi71_62.px T (callOf l71_62) 0
noncomputable abbrev W71_62 : CallW := cwOf l71_62
def E71_62_1 (a : List Go.AM.D) (b : Int × Int) (s : (Int)) : Env :=
  match s with
  | v1 =>
    [Go.AM.AV.im (Go.AM.D.sl Bool.false (1 : Nat) a), Go.AM.AV.fn (Go.Fn.func (62 : Nat)) [] [Go.AM.AV.pe (Go.AM.D.agg [Go.AM.D.int Go.IntKind.i64 (Prod.fst b), Go.AM.D.int Go.IntKind.i64 (Prod.snd b)]) (0 : Nat)], Go.AM.AV.bad, Go.AM.AV.bad, Go.AM.AV.bad, Go.AM.AV.bad, Go.AM.AV.bad, Go.AM.AV.im (Go.AM.D.int Go.IntKind.i64 (↑(List.length a) : Int)), Go.AM.AV.im (Go.AM.D.int Go.IntKind.i64 v1), Go.AM.AV.bad, Go.AM.AV.bad, Go.AM.AV.bad, Go.AM.AV.bad, Go.AM.AV.bad, Go.AM.AV.bad, Go.AM.AV.bad, Go.AM.AV.bad, Go.AM.AV.bad, Go.AM.AV.bad]
def H71_62_1 (a : List Go.AM.D) (b : Int × Int) (s : (Int)) : Heap :=
  match s with
  | v1 =>
    []
noncomputable def C71_62_1 (Q : Int → Prop) : Go.Code × Go.AM.Kx := sub X71_62 W71_62 fi71_62.code [1, 0, 1, 0] [] (finK T fi71_62 0 (N71_62 Q))
noncomputable def L71_62_1 (a : List Go.AM.D) (b : Int × Int) (Q : Int → Prop) (s : (Int)) : Prop := ∃ n, loopV X71_62 W71_62 (C71_62_1 Q) n (E71_62_1 a b s) (H71_62_1 a b s)
def B71_62_1 (a : List Go.AM.D) (b : Int × Int) (Q : Int → Prop) (s : (Int)) (R2 : Env → Heap → Prop) : Prop :=
  match s with
  | v1 =>
    cond (Decidable.decide (v1 < (↑(List.length a) : Int)))
    (((0 : Int) ≤ v1) ∧
    optP (a[Int.toNat v1]?) fun (d3 : Go.AM.D) =>
      optP (Go.AM.D.asInt Go.IntKind.i64 d3) fun (d4 : Int) =>
        F62 (d4) ((Prod.fst b, Prod.snd b))
          (fun (r5 : Bool) =>
          cond (r5)
            (Q (v1))
            (R2 (E71_62_1 a b (Go.IntKind.wrap Go.IntKind.i64 (v1 + (1 : Int)))) (H71_62_1 a b (Go.IntKind.wrap Go.IntKind.i64 (v1 + (1 : Int)))))))
    (Q ((-1 : Int)))
theorem B71_62_1_eq (a : List Go.AM.D) (b : Int × Int) (Q : Int → Prop) (s : (Int)) (n : Nat) : loopV X71_62 W71_62 (C71_62_1 Q) (n + 1) (E71_62_1 a b s) (H71_62_1 a b s) = B71_62_1 a b Q s (fun env H => loopV X71_62 W71_62 (C71_62_1 Q) n env H) := by
  kernel_rfl
def F71_62u (a : List Go.AM.D) (b : Int × Int) (Q : Int → Prop) : Prop :=
  L71_62_1 a b Q ((0 : Int))

theorem F71_62u_eq (x : Ars.T sig71_62.args) (Q : Shs.T sig71_62.res → Prop) : callBodyK T (callOf l71_62) (cwOf l71_62) fi71_62 (Ars.enc sig71_62.args x) [] (endK sig71_62 Q) = F71_62u x.1 x.2 Q := by
  kernel_rfl
noncomputable def F71_62 := lock @F71_62u
theorem F71_62_un : F71_62 = F71_62u := lock_eq _
theorem F71_62_eq (x : Ars.T sig71_62.args) (Q : Shs.T sig71_62.res → Prop) : callBodyK T (callOf l71_62) (cwOf l71_62) fi71_62 (Ars.enc sig71_62.args x) [] (endK sig71_62 Q) = F71_62 x.1 x.2 Q := by
  rw [F71_62_un]
  exact F71_62u_eq x Q
theorem fi71_62_ok : fi71_62.ok Try.prog 71 := ⟨Try.func71, by decide, rfl, by rfl⟩
noncomputable def e71_62 : Entry Try.prog := mkE hT hm 71 fi71_62 fi71_62_ok l71_62 sig71_62 (fun x Q => F71_62 x.1 x.2 Q) F71_62_eq
end Go.Proofs.Ytankppgafdcknaa

/- slices.ContainsFunc[[]int64,int64]: what its walk makes hold. -/
set_option linter.unusedVariables false
set_option maxRecDepth 100000
open Go Go.AM
namespace Go.Proofs.Ytankppgafdcknaa
def sig61_62 : Sig := ⟨[.v (.c (.sl 1)), .clo 62 [.st [.int .i64, .int .i64]]], [.c .bool]⟩
noncomputable def fi61_62 : Fi := mkFi T Try.f61 {  }
noncomputable def l61_62 : List (Entry Try.prog) := [e71_62]
abbrev N61_62 (Q : Shs.T sig61_62.res → Prop) : AV → Heap → Prop := endK sig61_62 Q
noncomputable abbrev X61_62 : Px := fi61_62.px T (callOf l61_62) 0
noncomputable abbrev W61_62 : CallW := cwOf l61_62
def F61_62u (a : List Go.AM.D) (b : Int × Int) (Q : Bool → Prop) : Prop :=
  F71_62 (a) ((Prod.fst b, Prod.snd b))
    (fun (r1 : Int) =>
    Q (Decidable.decide (r1 ≥ (0 : Int))))

theorem F61_62u_eq (x : Ars.T sig61_62.args) (Q : Shs.T sig61_62.res → Prop) : callBodyK T (callOf l61_62) (cwOf l61_62) fi61_62 (Ars.enc sig61_62.args x) [] (endK sig61_62 Q) = F61_62u x.1 x.2 Q := by
  kernel_rfl
noncomputable def F61_62 := lock @F61_62u
theorem F61_62_un : F61_62 = F61_62u := lock_eq _
theorem F61_62_eq (x : Ars.T sig61_62.args) (Q : Shs.T sig61_62.res → Prop) : callBodyK T (callOf l61_62) (cwOf l61_62) fi61_62 (Ars.enc sig61_62.args x) [] (endK sig61_62 Q) = F61_62 x.1 x.2 Q := by
  rw [F61_62_un]
  exact F61_62u_eq x Q
theorem fi61_62_ok : fi61_62.ok Try.prog 61 := ⟨Try.func61, by decide, rfl, by rfl⟩
noncomputable def e61_62 : Entry Try.prog := mkE hT hm 61 fi61_62 fi61_62_ok l61_62 sig61_62 (fun x Q => F61_62 x.1 x.2 Q) F61_62_eq
end Go.Proofs.Ytankppgafdcknaa

/- billhook/state.Holds$1: what its walk makes hold. -/
set_option linter.unusedVariables false
set_option maxRecDepth 100000
open Go Go.AM
namespace Go.Proofs.Ytankppgafdcknaa
def sig60 : Sig := ⟨[.v (.st [.int .i64, .int .i64]), .v (.st [.str, .bool, .sl 1])], [.c .bool]⟩
noncomputable def fi60 : Fi := mkFi T Try.f60 {  }
noncomputable def l60 : List (Entry Try.prog) := [e61_62]
abbrev N60 (Q : Shs.T sig60.res → Prop) : AV → Heap → Prop := endK sig60 Q
noncomputable abbrev X60 : Px := fi60.px T (callOf l60) 0
noncomputable abbrev W60 : CallW := cwOf l60
def F60u (a : Int × Int) (b : List UInt8 × Bool × List Go.AM.D) (Q : Bool → Prop) : Prop :=
  F61_62 (Prod.snd (Prod.snd b)) ((Prod.fst a, Prod.snd a))
    (fun (r1 : Bool) =>
    Q (!r1))

theorem F60u_eq (x : Ars.T sig60.args) (Q : Shs.T sig60.res → Prop) : callBodyK T (callOf l60) (cwOf l60) fi60 (Ars.enc sig60.args x) [] (endK sig60 Q) = F60u x.1 x.2 Q := by
  kernel_rfl
noncomputable def F60 := lock @F60u
theorem F60_un : F60 = F60u := lock_eq _
theorem F60_eq (x : Ars.T sig60.args) (Q : Shs.T sig60.res → Prop) : callBodyK T (callOf l60) (cwOf l60) fi60 (Ars.enc sig60.args x) [] (endK sig60 Q) = F60 x.1 x.2 Q := by
  rw [F60_un]
  exact F60u_eq x Q
theorem fi60_ok : fi60.ok Try.prog 60 := ⟨Try.func60, by decide, rfl, by rfl⟩
noncomputable def e60 : Entry Try.prog := mkE hT hm 60 fi60 fi60_ok l60 sig60 (fun x Q => F60 x.1 x.2 Q) F60_eq
end Go.Proofs.Ytankppgafdcknaa

/- slices.EqualFunc[[]billhook/span.Span,[]billhook/eval.Cell,billhook/span.Span,billhook/eval.Cell]: what its walk makes hold. -/
set_option linter.unusedVariables false
set_option maxRecDepth 100000
open Go Go.AM
namespace Go.Proofs.Ytankppgafdcknaa
def sig59_60 : Sig := ⟨[.v (.c (.sl 2)), .v (.c (.sl 3)), .v (.c (.fn 60))], [.c .bool]⟩
noncomputable def fi59_60 : Fi := mkFi T Try.f59 { live := fun d => if Nat.beq d 4 then slots 32 [1, 2, 15, 16, 17] else none }
noncomputable def l59_60 : List (Entry Try.prog) := [e60]
abbrev N59_60 (Q : Shs.T sig59_60.res → Prop) : AV → Heap → Prop := endK sig59_60 Q
noncomputable abbrev X59_60 : Px := fi59_60.px T (callOf l59_60) 0
noncomputable abbrev W59_60 : CallW := cwOf l59_60
def E59_60_1 (a : List Go.AM.D) (b : List Go.AM.D) (s : (Int)) : Env :=
  match s with
  | v1 =>
    [Go.AM.AV.bad, Go.AM.AV.im (Go.AM.D.sl Bool.false (3 : Nat) b), Go.AM.AV.im (Go.AM.D.fn (Go.Fn.func (60 : Nat)) [] []), Go.AM.AV.bad, Go.AM.AV.bad, Go.AM.AV.bad, Go.AM.AV.bad, Go.AM.AV.bad, Go.AM.AV.bad, Go.AM.AV.bad, Go.AM.AV.bad, Go.AM.AV.bad, Go.AM.AV.bad, Go.AM.AV.bad, Go.AM.AV.bad, Go.AM.AV.im (Go.AM.D.sl Bool.false (2 : Nat) a), Go.AM.AV.im (Go.AM.D.int Go.IntKind.i64 (↑(List.length a) : Int)), Go.AM.AV.im (Go.AM.D.int Go.IntKind.i64 v1), Go.AM.AV.bad, Go.AM.AV.bad, Go.AM.AV.bad, Go.AM.AV.bad, Go.AM.AV.bad, Go.AM.AV.bad, Go.AM.AV.bad, Go.AM.AV.bad, Go.AM.AV.bad, Go.AM.AV.bad, Go.AM.AV.bad, Go.AM.AV.bad, Go.AM.AV.bad, Go.AM.AV.bad]
def H59_60_1 (a : List Go.AM.D) (b : List Go.AM.D) (s : (Int)) : Heap :=
  match s with
  | v1 =>
    []
noncomputable def C59_60_1 (Q : Bool → Prop) : Go.Code × Go.AM.Kx := sub X59_60 W59_60 fi59_60.code [1, 1, 0, 1, 0] [] (finK T fi59_60 0 (N59_60 Q))
noncomputable def L59_60_1 (a : List Go.AM.D) (b : List Go.AM.D) (Q : Bool → Prop) (s : (Int)) : Prop := ∃ n, loopV X59_60 W59_60 (C59_60_1 Q) n (E59_60_1 a b s) (H59_60_1 a b s)
def B59_60_1 (a : List Go.AM.D) (b : List Go.AM.D) (c : Unit) (Q : Bool → Prop) (s : (Int)) (R2 : Env → Heap → Prop) : Prop :=
  match s with
  | v1 =>
    cond (Decidable.decide (v1 < (↑(List.length a) : Int)))
    (((0 : Int) ≤ v1) ∧
    optP (a[Int.toNat v1]?) fun (d3 : Go.AM.D) =>
      optP (Go.AM.D.asAgg d3) fun (d4 : List Go.AM.D) =>
        (match d4 with
          | [] => False
          | d5 :: l6 =>
          (match l6 with
            | [] => False
            | d7 :: l8 =>
            (match l8 with
              | [] => optP (Go.AM.D.asInt Go.IntKind.i64 d5) fun (d11 : Int) =>
                optP (Go.AM.D.asInt Go.IntKind.i64 d7) fun (d12 : Int) =>
                  ((0 : Nat) < (1 : Nat)) ∧
                  ((0 : Int) ≤ v1) ∧
                  optP (b[Int.toNat v1]?) fun (d13 : Go.AM.D) =>
                    optP (Go.AM.D.asAgg d13) fun (d14 : List Go.AM.D) =>
                      (match d14 with
                        | [] => False
                        | d15 :: l16 =>
                        (match l16 with
                          | [] => False
                          | d17 :: l18 =>
                          (match l18 with
                            | [] => False
                            | d19 :: l20 =>
                            (match l20 with
                              | [] => optP (Go.AM.D.asStr d15) fun (d23 : List UInt8) =>
                                optP (Go.AM.D.asBool d17) fun (d24 : Bool) =>
                                  optP (Go.AM.D.asSl (1 : Nat) d19) fun (d25 : List Go.AM.D) =>
                                    ((0 : Nat) < (1 : Nat)) ∧
                                    F60 ((d11, d12)) ((d23, d24, d25))
                                      (fun (r26 : Bool) =>
                                      cond (!r26)
                                        (Q (Bool.false))
                                        (R2 (E59_60_1 a b (Go.IntKind.wrap Go.IntKind.i64 (v1 + (1 : Int)))) (H59_60_1 a b (Go.IntKind.wrap Go.IntKind.i64 (v1 + (1 : Int))))))
                              | d21 :: l22 =>
                              False))))
              | d9 :: l10 =>
              False))))
    (Q (Bool.true))
theorem B59_60_1_eq (a : List Go.AM.D) (b : List Go.AM.D) (c : Unit) (Q : Bool → Prop) (s : (Int)) (n : Nat) : loopV X59_60 W59_60 (C59_60_1 Q) (n + 1) (E59_60_1 a b s) (H59_60_1 a b s) = B59_60_1 a b c Q s (fun env H => loopV X59_60 W59_60 (C59_60_1 Q) n env H) := by
  kernel_rfl
def F59_60u (a : List Go.AM.D) (b : List Go.AM.D) (c : Unit) (Q : Bool → Prop) : Prop :=
  cond ((↑(List.length a) : Int) != (↑(List.length b) : Int))
    (Q (Bool.false))
    (L59_60_1 a b Q ((0 : Int)))

theorem F59_60u_eq (x : Ars.T sig59_60.args) (Q : Shs.T sig59_60.res → Prop) : callBodyK T (callOf l59_60) (cwOf l59_60) fi59_60 (Ars.enc sig59_60.args x) [] (endK sig59_60 Q) = F59_60u x.1 x.2.1 x.2.2 Q := by
  kernel_rfl
noncomputable def F59_60 := lock @F59_60u
theorem F59_60_un : F59_60 = F59_60u := lock_eq _
theorem F59_60_eq (x : Ars.T sig59_60.args) (Q : Shs.T sig59_60.res → Prop) : callBodyK T (callOf l59_60) (cwOf l59_60) fi59_60 (Ars.enc sig59_60.args x) [] (endK sig59_60 Q) = F59_60 x.1 x.2.1 x.2.2 Q := by
  rw [F59_60_un]
  exact F59_60u_eq x Q
theorem fi59_60_ok : fi59_60.ok Try.prog 59 := ⟨Try.func59, by decide, rfl, by rfl⟩
noncomputable def e59_60 : Entry Try.prog := mkE hT hm 59 fi59_60 fi59_60_ok l59_60 sig59_60 (fun x Q => F59_60 x.1 x.2.1 x.2.2 Q) F59_60_eq
end Go.Proofs.Ytankppgafdcknaa

/- billhook/state.Holds: what its walk makes hold. -/
set_option linter.unusedVariables false
set_option maxRecDepth 100000
open Go Go.AM
namespace Go.Proofs.Ytankppgafdcknaa
def sig40 : Sig := ⟨[.v (.st [.bool, .sl 2]), .v (.c (.sl 3))], [.c .bool]⟩
noncomputable def fi40 : Fi := mkFi T Try.f40 {  }
noncomputable def l40 : List (Entry Try.prog) := [e59_60]
abbrev N40 (Q : Shs.T sig40.res → Prop) : AV → Heap → Prop := endK sig40 Q
noncomputable abbrev X40 : Px := fi40.px T (callOf l40) 0
noncomputable abbrev W40 : CallW := cwOf l40
def F40u (a : Bool × List Go.AM.D) (b : List Go.AM.D) (Q : Bool → Prop) : Prop :=
  cond (Prod.fst a)
    (F59_60 (Prod.snd a) (b) (())
      (fun (r1 : Bool) =>
      Q (r1)))
    (Q (Bool.false))

theorem F40u_eq (x : Ars.T sig40.args) (Q : Shs.T sig40.res → Prop) : callBodyK T (callOf l40) (cwOf l40) fi40 (Ars.enc sig40.args x) [] (endK sig40 Q) = F40u x.1 x.2 Q := by
  kernel_rfl
noncomputable def F40 := lock @F40u
theorem F40_un : F40 = F40u := lock_eq _
theorem F40_eq (x : Ars.T sig40.args) (Q : Shs.T sig40.res → Prop) : callBodyK T (callOf l40) (cwOf l40) fi40 (Ars.enc sig40.args x) [] (endK sig40 Q) = F40 x.1 x.2 Q := by
  rw [F40_un]
  exact F40u_eq x Q
theorem fi40_ok : fi40.ok Try.prog 40 := ⟨Try.func40, by decide, rfl, by rfl⟩
noncomputable def e40 : Entry Try.prog := mkE hT hm 40 fi40 fi40_ok l40 sig40 (fun x Q => F40 x.1 x.2 Q) F40_eq
end Go.Proofs.Ytankppgafdcknaa

/- billhook/state.names: what its walk makes hold. -/
set_option linter.unusedVariables false
set_option maxRecDepth 100000
open Go Go.AM
namespace Go.Proofs.Ytankppgafdcknaa
def sig51 : Sig := ⟨[.v (.st [.str, .sl 1, .sl 2, .sl 7])], [.c (.sl 1)]⟩
noncomputable def fi51 : Fi := mkFi T Try.f51 { live := fun d => if Nat.beq d 3 then slots 23 [3, 10, 11, 12] else none, keep := isIn [8] }
noncomputable def l51 : List (Entry Try.prog) := [e68]
abbrev N51 (Q : Shs.T sig51.res → Prop) : AV → Heap → Prop := endK sig51 Q
noncomputable abbrev X51 : Px := fi51.px T (callOf l51) 0
noncomputable abbrev W51 : CallW := cwOf l51
def E51_1 (a : List UInt8 × List Go.AM.D × List Go.AM.D × List Go.AM.D) (s : (Int) × (List Go.AM.D)) : Env :=
  match s with
  | (v1, v2) =>
    [Go.AM.AV.bad, Go.AM.AV.bad, Go.AM.AV.bad, Go.AM.AV.ref (0 : Nat) (0 : Nat) (List.length v2), Go.AM.AV.bad, Go.AM.AV.bad, Go.AM.AV.bad, Go.AM.AV.bad, Go.AM.AV.bad, Go.AM.AV.bad, Go.AM.AV.im (Go.AM.D.sl Bool.false (2 : Nat) (Prod.fst (Prod.snd (Prod.snd a)))), Go.AM.AV.im (Go.AM.D.int Go.IntKind.i64 (↑(List.length (Prod.fst (Prod.snd (Prod.snd a)))) : Int)), Go.AM.AV.im (Go.AM.D.int Go.IntKind.i64 v1), Go.AM.AV.bad, Go.AM.AV.bad, Go.AM.AV.bad, Go.AM.AV.bad, Go.AM.AV.bad, Go.AM.AV.bad, Go.AM.AV.bad, Go.AM.AV.bad, Go.AM.AV.bad, Go.AM.AV.bad]
def H51_1 (a : List UInt8 × List Go.AM.D × List Go.AM.D × List Go.AM.D) (s : (Int) × (List Go.AM.D)) : Heap :=
  match s with
  | (v1, v2) =>
    [Option.some (Go.AM.Blk.c (1 : Nat) v2)]
noncomputable def C51_1 (Q : List Go.AM.D → Prop) : Go.Code × Go.AM.Kx := sub X51 W51 fi51.code [1, 1, 0, 1, 0] [] (finK T fi51 0 (N51 Q))
noncomputable def L51_1 (a : List UInt8 × List Go.AM.D × List Go.AM.D × List Go.AM.D) (Q : List Go.AM.D → Prop) (s : (Int) × (List Go.AM.D)) : Prop := ∃ n, loopV X51 W51 (C51_1 Q) n (E51_1 a s) (H51_1 a s)
def B51_1 (a : List UInt8 × List Go.AM.D × List Go.AM.D × List Go.AM.D) (Q : List Go.AM.D → Prop) (s : (Int) × (List Go.AM.D)) (R3 : Env → Heap → Prop) : Prop :=
  match s with
  | (v1, v2) =>
    cond (Decidable.decide (v1 < (↑(List.length (Prod.fst (Prod.snd (Prod.snd a)))) : Int)))
    (((0 : Int) ≤ v1) ∧
    optP ((Prod.fst (Prod.snd (Prod.snd a)))[Int.toNat v1]?) fun (d4 : Go.AM.D) =>
      optP (Go.AM.D.asAgg d4) fun (d5 : List Go.AM.D) =>
        (match d5 with
          | [] => False
          | d6 :: l7 =>
          (match l7 with
            | [] => False
            | d8 :: l9 =>
            (match l9 with
              | [] => optP (Go.AM.D.asStr d6) fun (d12 : List UInt8) =>
                optP (Go.AM.D.asInt Go.IntKind.i64 d8) fun (d13 : Int) =>
                  ((0 : Nat) < (1 : Nat)) ∧
                  (List.length (List.take (List.length v2) (List.drop (0 : Nat) v2) ++ [Go.AM.D.str d12]) * (16 : Nat) ≤ (140737488355328 : Nat)) ∧
                  (List.length (List.take (List.length v2) (List.drop (0 : Nat) v2) ++ [Go.AM.D.str d12]) ≤ (140737488355328 : Nat)) ∧
                  R3 (E51_1 a ((Go.IntKind.wrap Go.IntKind.i64 (v1 + (1 : Int)), List.take (List.length v2) (List.drop (0 : Nat) v2) ++ [Go.AM.D.str d12]))) (H51_1 a ((Go.IntKind.wrap Go.IntKind.i64 (v1 + (1 : Int)), List.take (List.length v2) (List.drop (0 : Nat) v2) ++ [Go.AM.D.str d12])))
              | d10 :: l11 =>
              False))))
    (Q (List.take (List.length v2) (List.drop (0 : Nat) v2)))
theorem B51_1_eq (a : List UInt8 × List Go.AM.D × List Go.AM.D × List Go.AM.D) (Q : List Go.AM.D → Prop) (s : (Int) × (List Go.AM.D)) (n : Nat) : loopV X51 W51 (C51_1 Q) (n + 1) (E51_1 a s) (H51_1 a s) = B51_1 a Q s (fun env H => loopV X51 W51 (C51_1 Q) n env H) := by
  kernel_rfl
def F51u (a : List UInt8 × List Go.AM.D × List Go.AM.D × List Go.AM.D) (Q : List Go.AM.D → Prop) : Prop :=
  (Go.AM.cloneCond (16 : Nat) (Prod.fst (Prod.snd a))) ∧
  L51_1 a Q (((0 : Int), Prod.fst (Prod.snd a)))

theorem F51u_eq (x : Ars.T sig51.args) (Q : Shs.T sig51.res → Prop) : callBodyK T (callOf l51) (cwOf l51) fi51 (Ars.enc sig51.args x) [] (endK sig51 Q) = F51u x Q := by
  kernel_rfl
noncomputable def F51 := lock @F51u
theorem F51_un : F51 = F51u := lock_eq _
theorem F51_eq (x : Ars.T sig51.args) (Q : Shs.T sig51.res → Prop) : callBodyK T (callOf l51) (cwOf l51) fi51 (Ars.enc sig51.args x) [] (endK sig51 Q) = F51 x Q := by
  rw [F51_un]
  exact F51u_eq x Q
theorem fi51_ok : fi51.ok Try.prog 51 := ⟨Try.func51, by decide, rfl, by rfl⟩
noncomputable def e51 : Entry Try.prog := mkE hT hm 51 fi51 fi51_ok l51 sig51 (fun x Q => F51 x Q) F51_eq
end Go.Proofs.Ytankppgafdcknaa

/- slices.Index[[]string,string]: what its walk makes hold. -/
set_option linter.unusedVariables false
set_option maxRecDepth 100000
open Go Go.AM
namespace Go.Proofs.Ytankppgafdcknaa
def sig52 : Sig := ⟨[.v (.c (.sl 1)), .v (.c .str)], [.c (.int .i64)]⟩
noncomputable def fi52 : Fi := mkFi T Try.f52 { live := fun d => if Nat.beq d 2 then slots 19 [0, 1, 7, 8] else none }
noncomputable def l52 : List (Entry Try.prog) := []
abbrev N52 (Q : Shs.T sig52.res → Prop) : AV → Heap → Prop := endK sig52 Q
noncomputable abbrev X52 : Px := fi52.px T (callOf l52) 0
noncomputable abbrev W52 : CallW := cwOf l52
def E52_1 (a : List Go.AM.D) (b : List UInt8) (s : (Int)) : Env :=
  match s with
  | v1 =>
    [Go.AM.AV.im (Go.AM.D.sl Bool.false (1 : Nat) a), Go.AM.AV.im (Go.AM.D.str b), Go.AM.AV.bad, Go.AM.AV.bad, Go.AM.AV.bad, Go.AM.AV.bad, Go.AM.AV.bad, Go.AM.AV.im (Go.AM.D.int Go.IntKind.i64 (↑(List.length a) : Int)), Go.AM.AV.im (Go.AM.D.int Go.IntKind.i64 v1), Go.AM.AV.bad, Go.AM.AV.bad, Go.AM.AV.bad, Go.AM.AV.bad, Go.AM.AV.bad, Go.AM.AV.bad, Go.AM.AV.bad, Go.AM.AV.bad, Go.AM.AV.bad, Go.AM.AV.bad]
def H52_1 (a : List Go.AM.D) (b : List UInt8) (s : (Int)) : Heap :=
  match s with
  | v1 =>
    []
noncomputable def C52_1 (Q : Int → Prop) : Go.Code × Go.AM.Kx := sub X52 W52 fi52.code [1, 0, 1, 0] [] (finK T fi52 0 (N52 Q))
noncomputable def L52_1 (a : List Go.AM.D) (b : List UInt8) (Q : Int → Prop) (s : (Int)) : Prop := ∃ n, loopV X52 W52 (C52_1 Q) n (E52_1 a b s) (H52_1 a b s)
def B52_1 (a : List Go.AM.D) (b : List UInt8) (Q : Int → Prop) (s : (Int)) (R2 : Env → Heap → Prop) : Prop :=
  match s with
  | v1 =>
    cond (Decidable.decide (v1 < (↑(List.length a) : Int)))
    (((0 : Int) ≤ v1) ∧
    optP (a[Int.toNat v1]?) fun (d3 : Go.AM.D) =>
      optP (Go.AM.D.asStr d3) fun (d4 : List UInt8) =>
        cond (b == d4)
          (Q (v1))
          (R2 (E52_1 a b (Go.IntKind.wrap Go.IntKind.i64 (v1 + (1 : Int)))) (H52_1 a b (Go.IntKind.wrap Go.IntKind.i64 (v1 + (1 : Int))))))
    (Q ((-1 : Int)))
theorem B52_1_eq (a : List Go.AM.D) (b : List UInt8) (Q : Int → Prop) (s : (Int)) (n : Nat) : loopV X52 W52 (C52_1 Q) (n + 1) (E52_1 a b s) (H52_1 a b s) = B52_1 a b Q s (fun env H => loopV X52 W52 (C52_1 Q) n env H) := by
  kernel_rfl
def F52u (a : List Go.AM.D) (b : List UInt8) (Q : Int → Prop) : Prop :=
  L52_1 a b Q ((0 : Int))

theorem F52u_eq (x : Ars.T sig52.args) (Q : Shs.T sig52.res → Prop) : callBodyK T (callOf l52) (cwOf l52) fi52 (Ars.enc sig52.args x) [] (endK sig52 Q) = F52u x.1 x.2 Q := by
  kernel_rfl
noncomputable def F52 := lock @F52u
theorem F52_un : F52 = F52u := lock_eq _
theorem F52_eq (x : Ars.T sig52.args) (Q : Shs.T sig52.res → Prop) : callBodyK T (callOf l52) (cwOf l52) fi52 (Ars.enc sig52.args x) [] (endK sig52 Q) = F52 x.1 x.2 Q := by
  rw [F52_un]
  exact F52u_eq x Q
theorem fi52_ok : fi52.ok Try.prog 52 := ⟨Try.func52, by decide, rfl, by rfl⟩
noncomputable def e52 : Entry Try.prog := mkE hT hm 52 fi52 fi52_ok l52 sig52 (fun x Q => F52 x.1 x.2 Q) F52_eq
end Go.Proofs.Ytankppgafdcknaa

/- billhook/state.Start: what its walk makes hold. -/
set_option linter.unusedVariables false
set_option maxRecDepth 100000
open Go Go.AM
namespace Go.Proofs.Ytankppgafdcknaa
def sig23 : Sig := ⟨[.v (.st [.str, .sl 1, .sl 2, .sl 7])], [.st [.bool, .sl 2]]⟩
noncomputable def fi23 : Fi := mkFi T Try.f23 {  }
noncomputable def l23 : List (Entry Try.prog) := [e51]
abbrev N23 (Q : Shs.T sig23.res → Prop) : AV → Heap → Prop := endK sig23 Q
noncomputable abbrev X23 : Px := fi23.px T (callOf l23) 0
noncomputable abbrev W23 : CallW := cwOf l23
def F23u (a : List UInt8 × List Go.AM.D × List Go.AM.D × List Go.AM.D) (Q : Bool × List Go.AM.D → Prop) : Prop :=
  F51 ((Prod.fst a, Prod.fst (Prod.snd a), Prod.fst (Prod.snd (Prod.snd a)), Prod.snd (Prod.snd (Prod.snd a))))
    (fun (r1 : List Go.AM.D) =>
    ((↑(List.length r1) : Int) = (↑(List.length r1) : Int)) ∧
    ((0 : Int) ≤ (↑(List.length r1) : Int)) ∧
    ((↑(List.length r1) : Int) * (16 : Int) ≤ (140737488355328 : Int)) ∧
    ((↑(List.length r1) : Int) ≤ (140737488355328 : Int)) ∧
    ((0 : Nat) < (1 : Nat)) ∧
    Q ((Bool.true, List.take (List.length (Go.AM.rep (Int.toNat (↑(List.length r1) : Int)) (Go.AM.D.agg [Go.AM.D.int Go.IntKind.i64 (0 : Int), Go.AM.D.int Go.IntKind.i64 (0 : Int)]))) (List.drop (0 : Nat) (Go.AM.rep (Int.toNat (↑(List.length r1) : Int)) (Go.AM.D.agg [Go.AM.D.int Go.IntKind.i64 (0 : Int), Go.AM.D.int Go.IntKind.i64 (0 : Int)]))))))

theorem F23u_eq (x : Ars.T sig23.args) (Q : Shs.T sig23.res → Prop) : callBodyK T (callOf l23) (cwOf l23) fi23 (Ars.enc sig23.args x) [] (endK sig23 Q) = F23u x Q := by
  kernel_rfl
noncomputable def F23 := lock @F23u
theorem F23_un : F23 = F23u := lock_eq _
theorem F23_eq (x : Ars.T sig23.args) (Q : Shs.T sig23.res → Prop) : callBodyK T (callOf l23) (cwOf l23) fi23 (Ars.enc sig23.args x) [] (endK sig23 Q) = F23 x Q := by
  rw [F23_un]
  exact F23u_eq x Q
theorem fi23_ok : fi23.ok Try.prog 23 := ⟨Try.func23, by decide, rfl, by rfl⟩
noncomputable def e23 : Entry Try.prog := mkE hT hm 23 fi23 fi23_ok l23 sig23 (fun x Q => F23 x Q) F23_eq
end Go.Proofs.Ytankppgafdcknaa

/- billhook/state.Index: what its walk makes hold. -/
set_option linter.unusedVariables false
set_option maxRecDepth 100000
open Go Go.AM
namespace Go.Proofs.Ytankppgafdcknaa
def sig24 : Sig := ⟨[.v (.st [.str, .sl 1, .sl 2, .sl 7]), .v (.c .str)], [.c (.int .i64)]⟩
noncomputable def fi24 : Fi := mkFi T Try.f24 {  }
noncomputable def l24 : List (Entry Try.prog) := [e51, e52]
abbrev N24 (Q : Shs.T sig24.res → Prop) : AV → Heap → Prop := endK sig24 Q
noncomputable abbrev X24 : Px := fi24.px T (callOf l24) 0
noncomputable abbrev W24 : CallW := cwOf l24
def F24u (a : List UInt8 × List Go.AM.D × List Go.AM.D × List Go.AM.D) (b : List UInt8) (Q : Int → Prop) : Prop :=
  F51 ((Prod.fst a, Prod.fst (Prod.snd a), Prod.fst (Prod.snd (Prod.snd a)), Prod.snd (Prod.snd (Prod.snd a))))
    (fun (r1 : List Go.AM.D) =>
    F52 (r1) (b)
      (fun (r2 : Int) =>
      Q (r2)))

theorem F24u_eq (x : Ars.T sig24.args) (Q : Shs.T sig24.res → Prop) : callBodyK T (callOf l24) (cwOf l24) fi24 (Ars.enc sig24.args x) [] (endK sig24 Q) = F24u x.1 x.2 Q := by
  kernel_rfl
noncomputable def F24 := lock @F24u
theorem F24_un : F24 = F24u := lock_eq _
theorem F24_eq (x : Ars.T sig24.args) (Q : Shs.T sig24.res → Prop) : callBodyK T (callOf l24) (cwOf l24) fi24 (Ars.enc sig24.args x) [] (endK sig24 Q) = F24 x.1 x.2 Q := by
  rw [F24_un]
  exact F24u_eq x Q
theorem fi24_ok : fi24.ok Try.prog 24 := ⟨Try.func24, by decide, rfl, by rfl⟩
noncomputable def e24 : Entry Try.prog := mkE hT hm 24 fi24 fi24_ok l24 sig24 (fun x Q => F24 x.1 x.2 Q) F24_eq
end Go.Proofs.Ytankppgafdcknaa

/- billhook/state.Size: what its walk makes hold. -/
set_option linter.unusedVariables false
set_option maxRecDepth 100000
open Go Go.AM
namespace Go.Proofs.Ytankppgafdcknaa
def sig25 : Sig := ⟨[.v (.st [.str, .sl 1, .sl 2, .sl 7]), .v (.c (.int .i64))], [.c (.int .i64)]⟩
noncomputable def fi25 : Fi := mkFi T Try.f25 {  }
noncomputable def l25 : List (Entry Try.prog) := []
abbrev N25 (Q : Shs.T sig25.res → Prop) : AV → Heap → Prop := endK sig25 Q
noncomputable abbrev X25 : Px := fi25.px T (callOf l25) 0
noncomputable abbrev W25 : CallW := cwOf l25
def F25 (a : List UInt8 × List Go.AM.D × List Go.AM.D × List Go.AM.D) (b : Int) (Q : Int → Prop) : Prop :=
  cond (Decidable.decide (Go.IntKind.wrap Go.IntKind.i64 (Prod.snd (a, b) - (↑(List.length (Prod.fst (Prod.snd (Prod.fst (a, b))))) : Int)) < (0 : Int)))
    (Q ((0 : Int)))
    (cond (Decidable.decide (Go.IntKind.wrap Go.IntKind.i64 (Prod.snd (a, b) - (↑(List.length (Prod.fst (Prod.snd (Prod.fst (a, b))))) : Int)) ≥ (↑(List.length (Prod.fst (Prod.snd (Prod.snd (Prod.fst (a, b)))))) : Int)))
      (Q ((0 : Int)))
      (((0 : Int) ≤ Go.IntKind.wrap Go.IntKind.i64 (b - (↑(List.length (Prod.fst (Prod.snd a))) : Int))) ∧
      optP ((Prod.fst (Prod.snd (Prod.snd a)))[Int.toNat (Go.IntKind.wrap Go.IntKind.i64 (b - (↑(List.length (Prod.fst (Prod.snd a))) : Int)))]?) fun (d1 : Go.AM.D) =>
        optP (Go.AM.D.asAgg d1) fun (d2 : List Go.AM.D) =>
          (match d2 with
            | [] => False
            | d3 :: l4 =>
            (match l4 with
              | [] => False
              | d5 :: l6 =>
              (match l6 with
                | [] => optP (Go.AM.D.asStr d3) fun (d9 : List UInt8) =>
                  optP (Go.AM.D.asInt Go.IntKind.i64 d5) fun (d10 : Int) =>
                    Q (if (64 : Int) < if (0 : Int) > d10 then (0 : Int) else d10 then (64 : Int) else if (0 : Int) > d10 then (0 : Int) else d10)
                | d7 :: l8 =>
                False)))))

theorem F25_eq (x : Ars.T sig25.args) (Q : Shs.T sig25.res → Prop) : callBodyK T (callOf l25) (cwOf l25) fi25 (Ars.enc sig25.args x) [] (endK sig25 Q) = F25 x.1 x.2 Q := by
  kernel_rfl
theorem fi25_ok : fi25.ok Try.prog 25 := ⟨Try.func25, by decide, rfl, by rfl⟩
noncomputable def e25 : Entry Try.prog := mkE hT hm 25 fi25 fi25_ok l25 sig25 (fun x Q => F25 x.1 x.2 Q) F25_eq
end Go.Proofs.Ytankppgafdcknaa

/- billhook/span.Widen$1: what its walk makes hold. -/
set_option linter.unusedVariables false
set_option maxRecDepth 100000
open Go Go.AM
namespace Go.Proofs.Ytankppgafdcknaa
def sig73 : Sig := ⟨[.v (.c (.int .i64)), .p (.st [.int .i64, .int .i64])], [.c .bool]⟩
noncomputable def fi73 : Fi := mkFi T Try.f73 {  }
noncomputable def l73 : List (Entry Try.prog) := []
abbrev N73 (Q : Shs.T sig73.res → Prop) : AV → Heap → Prop := endK sig73 Q
noncomputable abbrev X73 : Px := fi73.px T (callOf l73) 0
noncomputable abbrev W73 : CallW := cwOf l73
def F73 (a : Int) (b : Int × Int) (Q : Bool → Prop) : Prop :=
  Q (Decidable.decide (Prod.fst (a, b) ≤ Prod.fst (Prod.snd (a, b))))

theorem F73_eq (x : Ars.T sig73.args) (Q : Shs.T sig73.res → Prop) : callBodyK T (callOf l73) (cwOf l73) fi73 (Ars.enc sig73.args x) [] (endK sig73 Q) = F73 x.1 x.2 Q := by
  kernel_rfl
theorem fi73_ok : fi73.ok Try.prog 73 := ⟨Try.func73, by decide, rfl, by rfl⟩
noncomputable def e73 : Entry Try.prog := mkE hT hm 73 fi73 fi73_ok l73 sig73 (fun x Q => F73 x.1 x.2 Q) F73_eq
end Go.Proofs.Ytankppgafdcknaa

/- billhook/span.Widen$2: what its walk makes hold. -/
set_option linter.unusedVariables false
set_option maxRecDepth 100000
open Go Go.AM
namespace Go.Proofs.Ytankppgafdcknaa
def sig74 : Sig := ⟨[.v (.c (.int .i64)), .p (.st [.int .i64, .int .i64])], [.c .bool]⟩
noncomputable def fi74 : Fi := mkFi T Try.f74 {  }
noncomputable def l74 : List (Entry Try.prog) := []
abbrev N74 (Q : Shs.T sig74.res → Prop) : AV → Heap → Prop := endK sig74 Q
noncomputable abbrev X74 : Px := fi74.px T (callOf l74) 0
noncomputable abbrev W74 : CallW := cwOf l74
def F74 (a : Int) (b : Int × Int) (Q : Bool → Prop) : Prop :=
  Q (Decidable.decide (Prod.fst (a, b) ≥ Prod.snd (Prod.snd (a, b))))

theorem F74_eq (x : Ars.T sig74.args) (Q : Shs.T sig74.res → Prop) : callBodyK T (callOf l74) (cwOf l74) fi74 (Ars.enc sig74.args x) [] (endK sig74 Q) = F74 x.1 x.2 Q := by
  kernel_rfl
theorem fi74_ok : fi74.ok Try.prog 74 := ⟨Try.func74, by decide, rfl, by rfl⟩
noncomputable def e74 : Entry Try.prog := mkE hT hm 74 fi74 fi74_ok l74 sig74 (fun x Q => F74 x.1 x.2 Q) F74_eq
end Go.Proofs.Ytankppgafdcknaa

/- slices.IndexFunc[[]int64,int64]: what its walk makes hold. -/
set_option linter.unusedVariables false
set_option maxRecDepth 100000
open Go Go.AM
namespace Go.Proofs.Ytankppgafdcknaa
def sig71_73 : Sig := ⟨[.v (.c (.sl 1)), .clo 73 [.st [.int .i64, .int .i64]]], [.c (.int .i64)]⟩
noncomputable def fi71_73 : Fi := mkFi T Try.f71 { live := fun d => if Nat.beq d 2 then slots 19 [0, 1, 7, 8] else none }
noncomputable def l71_73 : List (Entry Try.prog) := [e73]
abbrev N71_73 (Q : Shs.T sig71_73.res → Prop) : AV → Heap → Prop := endK sig71_73 Q
noncomputable abbrev X71_73 : Px := fi71_73.px T (callOf l71_73) 0
noncomputable abbrev W71_73 : CallW := cwOf l71_73
def E71_73_1 (a : List Go.AM.D) (b : Int × Int) (s : (Int)) : Env :=
  match s with
  | v1 =>
    [Go.AM.AV.im (Go.AM.D.sl Bool.false (1 : Nat) a), Go.AM.AV.fn (Go.Fn.func (73 : Nat)) [] [Go.AM.AV.pe (Go.AM.D.agg [Go.AM.D.int Go.IntKind.i64 (Prod.fst b), Go.AM.D.int Go.IntKind.i64 (Prod.snd b)]) (0 : Nat)], Go.AM.AV.bad, Go.AM.AV.bad, Go.AM.AV.bad, Go.AM.AV.bad, Go.AM.AV.bad, Go.AM.AV.im (Go.AM.D.int Go.IntKind.i64 (↑(List.length a) : Int)), Go.AM.AV.im (Go.AM.D.int Go.IntKind.i64 v1), Go.AM.AV.bad, Go.AM.AV.bad, Go.AM.AV.bad, Go.AM.AV.bad, Go.AM.AV.bad, Go.AM.AV.bad, Go.AM.AV.bad, Go.AM.AV.bad, Go.AM.AV.bad, Go.AM.AV.bad]
def H71_73_1 (a : List Go.AM.D) (b : Int × Int) (s : (Int)) : Heap :=
  match s with
  | v1 =>
    []
noncomputable def C71_73_1 (Q : Int → Prop) : Go.Code × Go.AM.Kx := sub X71_73 W71_73 fi71_73.code [1, 0, 1, 0] [] (finK T fi71_73 0 (N71_73 Q))
noncomputable def L71_73_1 (a : List Go.AM.D) (b : Int × Int) (Q : Int → Prop) (s : (Int)) : Prop := ∃ n, loopV X71_73 W71_73 (C71_73_1 Q) n (E71_73_1 a b s) (H71_73_1 a b s)
def B71_73_1 (a : List Go.AM.D) (b : Int × Int) (Q : Int → Prop) (s : (Int)) (R2 : Env → Heap → Prop) : Prop :=
  match s with
  | v1 =>
    cond (Decidable.decide (v1 < (↑(List.length a) : Int)))
    (((0 : Int) ≤ v1) ∧
    optP (a[Int.toNat v1]?) fun (d3 : Go.AM.D) =>
      optP (Go.AM.D.asInt Go.IntKind.i64 d3) fun (d4 : Int) =>
        F73 (d4) ((Prod.fst b, Prod.snd b))
          (fun (r5 : Bool) =>
          cond (r5)
            (Q (v1))
            (R2 (E71_73_1 a b (Go.IntKind.wrap Go.IntKind.i64 (v1 + (1 : Int)))) (H71_73_1 a b (Go.IntKind.wrap Go.IntKind.i64 (v1 + (1 : Int)))))))
    (Q ((-1 : Int)))
theorem B71_73_1_eq (a : List Go.AM.D) (b : Int × Int) (Q : Int → Prop) (s : (Int)) (n : Nat) : loopV X71_73 W71_73 (C71_73_1 Q) (n + 1) (E71_73_1 a b s) (H71_73_1 a b s) = B71_73_1 a b Q s (fun env H => loopV X71_73 W71_73 (C71_73_1 Q) n env H) := by
  kernel_rfl
def F71_73u (a : List Go.AM.D) (b : Int × Int) (Q : Int → Prop) : Prop :=
  L71_73_1 a b Q ((0 : Int))

theorem F71_73u_eq (x : Ars.T sig71_73.args) (Q : Shs.T sig71_73.res → Prop) : callBodyK T (callOf l71_73) (cwOf l71_73) fi71_73 (Ars.enc sig71_73.args x) [] (endK sig71_73 Q) = F71_73u x.1 x.2 Q := by
  kernel_rfl
noncomputable def F71_73 := lock @F71_73u
theorem F71_73_un : F71_73 = F71_73u := lock_eq _
theorem F71_73_eq (x : Ars.T sig71_73.args) (Q : Shs.T sig71_73.res → Prop) : callBodyK T (callOf l71_73) (cwOf l71_73) fi71_73 (Ars.enc sig71_73.args x) [] (endK sig71_73 Q) = F71_73 x.1 x.2 Q := by
  rw [F71_73_un]
  exact F71_73u_eq x Q
theorem fi71_73_ok : fi71_73.ok Try.prog 71 := ⟨Try.func71, by decide, rfl, by rfl⟩
noncomputable def e71_73 : Entry Try.prog := mkE hT hm 71 fi71_73 fi71_73_ok l71_73 sig71_73 (fun x Q => F71_73 x.1 x.2 Q) F71_73_eq
end Go.Proofs.Ytankppgafdcknaa

/- slices.IndexFunc[[]int64,int64]: what its walk makes hold. -/
set_option linter.unusedVariables false
set_option maxRecDepth 100000
open Go Go.AM
namespace Go.Proofs.Ytankppgafdcknaa
def sig71_74 : Sig := ⟨[.v (.c (.sl 1)), .clo 74 [.st [.int .i64, .int .i64]]], [.c (.int .i64)]⟩
noncomputable def fi71_74 : Fi := mkFi T Try.f71 { live := fun d => if Nat.beq d 2 then slots 19 [0, 1, 7, 8] else none }
noncomputable def l71_74 : List (Entry Try.prog) := [e74]
abbrev N71_74 (Q : Shs.T sig71_74.res → Prop) : AV → Heap → Prop := endK sig71_74 Q
noncomputable abbrev X71_74 : Px := fi71_74.px T (callOf l71_74) 0
noncomputable abbrev W71_74 : CallW := cwOf l71_74
def E71_74_1 (a : List Go.AM.D) (b : Int × Int) (s : (Int)) : Env :=
  match s with
  | v1 =>
    [Go.AM.AV.im (Go.AM.D.sl Bool.false (1 : Nat) a), Go.AM.AV.fn (Go.Fn.func (74 : Nat)) [] [Go.AM.AV.pe (Go.AM.D.agg [Go.AM.D.int Go.IntKind.i64 (Prod.fst b), Go.AM.D.int Go.IntKind.i64 (Prod.snd b)]) (0 : Nat)], Go.AM.AV.bad, Go.AM.AV.bad, Go.AM.AV.bad, Go.AM.AV.bad, Go.AM.AV.bad, Go.AM.AV.im (Go.AM.D.int Go.IntKind.i64 (↑(List.length a) : Int)), Go.AM.AV.im (Go.AM.D.int Go.IntKind.i64 v1), Go.AM.AV.bad, Go.AM.AV.bad, Go.AM.AV.bad, Go.AM.AV.bad, Go.AM.AV.bad, Go.AM.AV.bad, Go.AM.AV.bad, Go.AM.AV.bad, Go.AM.AV.bad, Go.AM.AV.bad]
def H71_74_1 (a : List Go.AM.D) (b : Int × Int) (s : (Int)) : Heap :=
  match s with
  | v1 =>
    []
noncomputable def C71_74_1 (Q : Int → Prop) : Go.Code × Go.AM.Kx := sub X71_74 W71_74 fi71_74.code [1, 0, 1, 0] [] (finK T fi71_74 0 (N71_74 Q))
noncomputable def L71_74_1 (a : List Go.AM.D) (b : Int × Int) (Q : Int → Prop) (s : (Int)) : Prop := ∃ n, loopV X71_74 W71_74 (C71_74_1 Q) n (E71_74_1 a b s) (H71_74_1 a b s)
def B71_74_1 (a : List Go.AM.D) (b : Int × Int) (Q : Int → Prop) (s : (Int)) (R2 : Env → Heap → Prop) : Prop :=
  match s with
  | v1 =>
    cond (Decidable.decide (v1 < (↑(List.length a) : Int)))
    (((0 : Int) ≤ v1) ∧
    optP (a[Int.toNat v1]?) fun (d3 : Go.AM.D) =>
      optP (Go.AM.D.asInt Go.IntKind.i64 d3) fun (d4 : Int) =>
        F74 (d4) ((Prod.fst b, Prod.snd b))
          (fun (r5 : Bool) =>
          cond (r5)
            (Q (v1))
            (R2 (E71_74_1 a b (Go.IntKind.wrap Go.IntKind.i64 (v1 + (1 : Int)))) (H71_74_1 a b (Go.IntKind.wrap Go.IntKind.i64 (v1 + (1 : Int)))))))
    (Q ((-1 : Int)))
theorem B71_74_1_eq (a : List Go.AM.D) (b : Int × Int) (Q : Int → Prop) (s : (Int)) (n : Nat) : loopV X71_74 W71_74 (C71_74_1 Q) (n + 1) (E71_74_1 a b s) (H71_74_1 a b s) = B71_74_1 a b Q s (fun env H => loopV X71_74 W71_74 (C71_74_1 Q) n env H) := by
  kernel_rfl
def F71_74u (a : List Go.AM.D) (b : Int × Int) (Q : Int → Prop) : Prop :=
  L71_74_1 a b Q ((0 : Int))

theorem F71_74u_eq (x : Ars.T sig71_74.args) (Q : Shs.T sig71_74.res → Prop) : callBodyK T (callOf l71_74) (cwOf l71_74) fi71_74 (Ars.enc sig71_74.args x) [] (endK sig71_74 Q) = F71_74u x.1 x.2 Q := by
  kernel_rfl
noncomputable def F71_74 := lock @F71_74u
theorem F71_74_un : F71_74 = F71_74u := lock_eq _
theorem F71_74_eq (x : Ars.T sig71_74.args) (Q : Shs.T sig71_74.res → Prop) : callBodyK T (callOf l71_74) (cwOf l71_74) fi71_74 (Ars.enc sig71_74.args x) [] (endK sig71_74 Q) = F71_74 x.1 x.2 Q := by
  rw [F71_74_un]
  exact F71_74u_eq x Q
theorem fi71_74_ok : fi71_74.ok Try.prog 71 := ⟨Try.func71, by decide, rfl, by rfl⟩
noncomputable def e71_74 : Entry Try.prog := mkE hT hm 71 fi71_74 fi71_74_ok l71_74 sig71_74 (fun x Q => F71_74 x.1 x.2 Q) F71_74_eq
end Go.Proofs.Ytankppgafdcknaa

/- slices.IndexFunc[[]int64,int64]: its contracts, by the arguments. -/
open Go Go.AM
namespace Go.Proofs.Ytankppgafdcknaa
noncomputable def e71 : Entry Try.prog := (chooseE (argIs 1 73) e71_73 e71_74 ((show (e71_74).id = 71 from rfl).trans (show e71_73.id = 71 from rfl).symm))
end Go.Proofs.Ytankppgafdcknaa

/- billhook/span.Widen: what its walk makes hold. -/
set_option linter.unusedVariables false
set_option maxRecDepth 100000
open Go Go.AM
namespace Go.Proofs.Ytankppgafdcknaa
def sig65 : Sig := ⟨[.v (.st [.int .i64, .int .i64]), .v (.st [.int .i64, .int .i64])], [.st [.int .i64, .int .i64]]⟩
noncomputable def fi65 : Fi := mkFi T Try.f65 {  }
noncomputable def l65 : List (Entry Try.prog) := [e18, e67, e64, e71]
abbrev N65 (Q : Shs.T sig65.res → Prop) : AV → Heap → Prop := endK sig65 Q
noncomputable abbrev X65 : Px := fi65.px T (callOf l65) 0
noncomputable abbrev W65 : CallW := cwOf l65
def F65u (a : Int × Int) (b : Int × Int) (Q : Int × Int → Prop) : Prop :=
  F18 ((Prod.fst a, Prod.snd a))
    (fun (r1 : Bool) =>
    cond (r1)
      (F64 ((Prod.fst a, Prod.snd a)) ((Prod.fst b, Prod.snd b))
        (fun (r2 : Int × Int) =>
        ((0 : Nat) < (1 : Nat)) ∧
        Q ((Prod.fst r2, Prod.snd r2))))
      (F67 ((Prod.fst b, Prod.snd b)) ((Prod.fst a, Prod.snd a))
        (fun (r3 : Bool) =>
        cond (r3)
          (F64 ((Prod.fst a, Prod.snd a)) ((Prod.fst b, Prod.snd b))
            (fun (r4 : Int × Int) =>
            ((0 : Nat) < (1 : Nat)) ∧
            Q ((Prod.fst r4, Prod.snd r4))))
          (cond (Decidable.decide (Prod.fst (Prod.snd (a, b)) < Prod.fst (Prod.fst (a, b))))
            (F71_73 ([Go.AM.D.int Go.IntKind.i64 (1 : Int), Go.AM.D.int Go.IntKind.i64 (0 : Int), Go.AM.D.int Go.IntKind.i64 (-1 : Int), Go.AM.D.int Go.IntKind.i64 (-64 : Int), Go.AM.D.int Go.IntKind.i64 (-1024 : Int), Go.AM.D.int Go.IntKind.i64 (-65536 : Int), Go.AM.D.int Go.IntKind.i64 (-9223372036854775808 : Int)]) ((Prod.fst b, Prod.snd b))
              (fun (r5 : Int) =>
              ((0 : Int) ≤ r5) ∧
              optP ([Go.AM.D.int Go.IntKind.i64 (1 : Int), Go.AM.D.int Go.IntKind.i64 (0 : Int), Go.AM.D.int Go.IntKind.i64 (-1 : Int), Go.AM.D.int Go.IntKind.i64 (-64 : Int), Go.AM.D.int Go.IntKind.i64 (-1024 : Int), Go.AM.D.int Go.IntKind.i64 (-65536 : Int), Go.AM.D.int Go.IntKind.i64 (-9223372036854775808 : Int)][Int.toNat r5]?) fun (d6 : Go.AM.D) =>
                optP (Go.AM.D.asInt Go.IntKind.i64 d6) fun (d7 : Int) =>
                  (List.length [Go.AM.D.int Go.IntKind.i64 (Prod.fst a), Go.AM.D.int Go.IntKind.i64 (Prod.snd a)] ≠ (1 : Nat)) ∧
                  ((0 : Nat) < List.length [Go.AM.D.int Go.IntKind.i64 (Prod.fst a), Go.AM.D.int Go.IntKind.i64 (Prod.snd a)]) ∧
                  cond (Decidable.decide (Prod.snd (Prod.snd (a, b)) > Prod.snd (Prod.fst (a, b))))
                    (F71_74 ([Go.AM.D.int Go.IntKind.i64 (-1 : Int), Go.AM.D.int Go.IntKind.i64 (0 : Int), Go.AM.D.int Go.IntKind.i64 (1 : Int), Go.AM.D.int Go.IntKind.i64 (64 : Int), Go.AM.D.int Go.IntKind.i64 (1024 : Int), Go.AM.D.int Go.IntKind.i64 (65536 : Int), Go.AM.D.int Go.IntKind.i64 (9223372036854775807 : Int)]) ((Prod.fst b, Prod.snd b))
                      (fun (r8 : Int) =>
                      ((0 : Int) ≤ r8) ∧
                      optP ([Go.AM.D.int Go.IntKind.i64 (-1 : Int), Go.AM.D.int Go.IntKind.i64 (0 : Int), Go.AM.D.int Go.IntKind.i64 (1 : Int), Go.AM.D.int Go.IntKind.i64 (64 : Int), Go.AM.D.int Go.IntKind.i64 (1024 : Int), Go.AM.D.int Go.IntKind.i64 (65536 : Int), Go.AM.D.int Go.IntKind.i64 (9223372036854775807 : Int)][Int.toNat r8]?) fun (d9 : Go.AM.D) =>
                        optP (Go.AM.D.asInt Go.IntKind.i64 d9) fun (d10 : Int) =>
                          (List.length [Go.AM.D.int Go.IntKind.i64 d7, Go.AM.D.int Go.IntKind.i64 (Prod.snd a)] ≠ (1 : Nat)) ∧
                          ((1 : Nat) < List.length [Go.AM.D.int Go.IntKind.i64 d7, Go.AM.D.int Go.IntKind.i64 (Prod.snd a)]) ∧
                          ((0 : Nat) < (1 : Nat)) ∧
                          Q ((d7, d10))))
                    (((0 : Nat) < (1 : Nat)) ∧
                    Q ((d7, Prod.snd a)))))
            (cond (Decidable.decide (Prod.snd (Prod.snd (a, b)) > Prod.snd (Prod.fst (a, b))))
              (F71_74 ([Go.AM.D.int Go.IntKind.i64 (-1 : Int), Go.AM.D.int Go.IntKind.i64 (0 : Int), Go.AM.D.int Go.IntKind.i64 (1 : Int), Go.AM.D.int Go.IntKind.i64 (64 : Int), Go.AM.D.int Go.IntKind.i64 (1024 : Int), Go.AM.D.int Go.IntKind.i64 (65536 : Int), Go.AM.D.int Go.IntKind.i64 (9223372036854775807 : Int)]) ((Prod.fst b, Prod.snd b))
                (fun (r11 : Int) =>
                ((0 : Int) ≤ r11) ∧
                optP ([Go.AM.D.int Go.IntKind.i64 (-1 : Int), Go.AM.D.int Go.IntKind.i64 (0 : Int), Go.AM.D.int Go.IntKind.i64 (1 : Int), Go.AM.D.int Go.IntKind.i64 (64 : Int), Go.AM.D.int Go.IntKind.i64 (1024 : Int), Go.AM.D.int Go.IntKind.i64 (65536 : Int), Go.AM.D.int Go.IntKind.i64 (9223372036854775807 : Int)][Int.toNat r11]?) fun (d12 : Go.AM.D) =>
                  optP (Go.AM.D.asInt Go.IntKind.i64 d12) fun (d13 : Int) =>
                    (List.length [Go.AM.D.int Go.IntKind.i64 (Prod.fst a), Go.AM.D.int Go.IntKind.i64 (Prod.snd a)] ≠ (1 : Nat)) ∧
                    ((1 : Nat) < List.length [Go.AM.D.int Go.IntKind.i64 (Prod.fst a), Go.AM.D.int Go.IntKind.i64 (Prod.snd a)]) ∧
                    ((0 : Nat) < (1 : Nat)) ∧
                    Q ((Prod.fst a, d13))))
              (((0 : Nat) < (1 : Nat)) ∧
              Q ((Prod.fst a, Prod.snd a))))))))

theorem F65u_eq (x : Ars.T sig65.args) (Q : Shs.T sig65.res → Prop) : callBodyK T (callOf l65) (cwOf l65) fi65 (Ars.enc sig65.args x) [] (endK sig65 Q) = F65u x.1 x.2 Q := by
  kernel_rfl
noncomputable def F65 := lock @F65u
theorem F65_un : F65 = F65u := lock_eq _
theorem F65_eq (x : Ars.T sig65.args) (Q : Shs.T sig65.res → Prop) : callBodyK T (callOf l65) (cwOf l65) fi65 (Ars.enc sig65.args x) [] (endK sig65 Q) = F65 x.1 x.2 Q := by
  rw [F65_un]
  exact F65u_eq x Q
theorem fi65_ok : fi65.ok Try.prog 65 := ⟨Try.func65, by decide, rfl, by rfl⟩
noncomputable def e65 : Entry Try.prog := mkE hT hm 65 fi65 fi65_ok l65 sig65 (fun x Q => F65 x.1 x.2 Q) F65_eq
end Go.Proofs.Ytankppgafdcknaa

/- billhook/state.both: what its walk makes hold. -/
set_option linter.unusedVariables false
set_option maxRecDepth 100000
open Go Go.AM
namespace Go.Proofs.Ytankppgafdcknaa
def sig63_65 : Sig := ⟨[.v (.st [.bool, .sl 2]), .v (.st [.bool, .sl 2]), .v (.c (.fn 65))], [.st [.bool, .sl 2]]⟩
noncomputable def fi63_65 : Fi := mkFi T Try.f63 { live := fun d => if Nat.beq d 7 then slots 51 [2, 3, 4, 6, 7, 29, 30] else none, keep := isIn [21] }
noncomputable def l63_65 : List (Entry Try.prog) := [e48, e65]
abbrev N63_65 (Q : Shs.T sig63_65.res → Prop) : AV → Heap → Prop := endK sig63_65 Q
noncomputable abbrev X63_65 : Px := fi63_65.px T (callOf l63_65) 0
noncomputable abbrev W63_65 : CallW := cwOf l63_65
def E63_65_1 (a : Bool × List Go.AM.D) (b : Bool × List Go.AM.D) (c : Unit) (s : (Int) × (List Go.AM.D)) : Env :=
  match s with
  | (v1, v2) =>
    [Go.AM.AV.bad, Go.AM.AV.bad, Go.AM.AV.im (Go.AM.D.fn (Go.Fn.func (65 : Nat)) [] []), Go.AM.AV.ptr (0 : Nat) (0 : Nat) (0 : Nat), Go.AM.AV.ptr (1 : Nat) (0 : Nat) (0 : Nat), Go.AM.AV.bad, Go.AM.AV.ptr (2 : Nat) (0 : Nat) (0 : Nat), Go.AM.AV.ptr (3 : Nat) (0 : Nat) (0 : Nat), Go.AM.AV.bad, Go.AM.AV.bad, Go.AM.AV.bad, Go.AM.AV.bad, Go.AM.AV.bad, Go.AM.AV.bad, Go.AM.AV.bad, Go.AM.AV.bad, Go.AM.AV.bad, Go.AM.AV.bad, Go.AM.AV.bad, Go.AM.AV.bad, Go.AM.AV.bad, Go.AM.AV.bad, Go.AM.AV.bad, Go.AM.AV.bad, Go.AM.AV.bad, Go.AM.AV.bad, Go.AM.AV.bad, Go.AM.AV.bad, Go.AM.AV.bad, Go.AM.AV.im (Go.AM.D.int Go.IntKind.i64 (if (↑(List.length (Prod.snd (Prod.fst (Prod.snd (a, b, c))))) : Int) < (↑(List.length (Prod.snd (Prod.fst (a, b, c)))) : Int) then (↑(List.length (Prod.snd b)) : Int) else (↑(List.length (Prod.snd a)) : Int))), Go.AM.AV.im (Go.AM.D.int Go.IntKind.i64 v1), Go.AM.AV.bad, Go.AM.AV.bad, Go.AM.AV.bad, Go.AM.AV.bad, Go.AM.AV.bad, Go.AM.AV.bad, Go.AM.AV.bad, Go.AM.AV.bad, Go.AM.AV.bad, Go.AM.AV.bad, Go.AM.AV.bad, Go.AM.AV.bad, Go.AM.AV.bad, Go.AM.AV.bad, Go.AM.AV.bad, Go.AM.AV.bad, Go.AM.AV.bad, Go.AM.AV.bad, Go.AM.AV.bad, Go.AM.AV.bad]
def H63_65_1 (a : Bool × List Go.AM.D) (b : Bool × List Go.AM.D) (c : Unit) (s : (Int) × (List Go.AM.D)) : Heap :=
  match s with
  | (v1, v2) =>
    [Option.some (Go.AM.Blk.c (2 : Nat) [Go.AM.D.agg [Go.AM.D.bool (Prod.fst a), Go.AM.D.sl Bool.false (2 : Nat) (Prod.snd a)]]), Option.some (Go.AM.Blk.c (2 : Nat) [Go.AM.D.agg [Go.AM.D.bool (Prod.fst b), Go.AM.D.sl Bool.false (2 : Nat) (Prod.snd b)]]), Option.some (Go.AM.Blk.c (2 : Nat) [Go.AM.D.agg [Go.AM.D.bool Bool.false, Go.AM.D.sl Bool.true (0 : Nat) []]]), Option.some (Go.AM.Blk.m (2 : Nat) [Go.AM.AV.agg [Go.AM.AV.im (Go.AM.D.bool Bool.true), Go.AM.AV.ref (4 : Nat) (0 : Nat) (List.length (Prod.snd a))]]), Option.some (Go.AM.Blk.c (2 : Nat) v2)]
noncomputable def C63_65_1 (Q : Bool × List Go.AM.D → Prop) : Go.Code × Go.AM.Kx := sub X63_65 W63_65 fi63_65.code [1, 1, 1, 0, 1, 0] [] (finK T fi63_65 0 (N63_65 Q))
noncomputable def L63_65_1 (a : Bool × List Go.AM.D) (b : Bool × List Go.AM.D) (c : Unit) (Q : Bool × List Go.AM.D → Prop) (s : (Int) × (List Go.AM.D)) : Prop := ∃ n, loopV X63_65 W63_65 (C63_65_1 Q) n (E63_65_1 a b c s) (H63_65_1 a b c s)
def B63_65_1 (a : Bool × List Go.AM.D) (b : Bool × List Go.AM.D) (c : Unit) (Q : Bool × List Go.AM.D → Prop) (s : (Int) × (List Go.AM.D)) (R3 : Env → Heap → Prop) : Prop :=
  match s with
  | (v1, v2) =>
    cond (Decidable.decide (v1 < if (↑(List.length (Prod.snd (Prod.fst (Prod.snd (a, b, c))))) : Int) < (↑(List.length (Prod.snd (Prod.fst (a, b, c)))) : Int) then (↑(List.length (Prod.snd b)) : Int) else (↑(List.length (Prod.snd a)) : Int)))
    (((0 : Int) ≤ v1) ∧
    optP ((Prod.snd a)[Int.toNat v1]?) fun (d4 : Go.AM.D) =>
      optP (Go.AM.D.asAgg d4) fun (d5 : List Go.AM.D) =>
        (match d5 with
          | [] => False
          | d6 :: l7 =>
          (match l7 with
            | [] => False
            | d8 :: l9 =>
            (match l9 with
              | [] => optP (Go.AM.D.asInt Go.IntKind.i64 d6) fun (d12 : Int) =>
                optP (Go.AM.D.asInt Go.IntKind.i64 d8) fun (d13 : Int) =>
                  ((0 : Int) ≤ v1) ∧
                  optP ((Prod.snd b)[Int.toNat v1]?) fun (d14 : Go.AM.D) =>
                    optP (Go.AM.D.asAgg d14) fun (d15 : List Go.AM.D) =>
                      (match d15 with
                        | [] => False
                        | d16 :: l17 =>
                        (match l17 with
                          | [] => False
                          | d18 :: l19 =>
                          (match l19 with
                            | [] => optP (Go.AM.D.asInt Go.IntKind.i64 d16) fun (d22 : Int) =>
                              optP (Go.AM.D.asInt Go.IntKind.i64 d18) fun (d23 : Int) =>
                                F65 ((d12, d13)) ((d22, d23))
                                  (fun (r24 : Int × Int) =>
                                  ((0 : Int) ≤ v1) ∧
                                  (Int.toNat v1 < List.length (Prod.snd a)) ∧
                                  ((0 : Nat) + Int.toNat v1 < List.length v2) ∧
                                  R3 (E63_65_1 a b c ((Go.IntKind.wrap Go.IntKind.i64 (v1 + (1 : Int)), List.set v2 ((0 : Nat) + Int.toNat v1) (Go.AM.D.agg [Go.AM.D.int Go.IntKind.i64 (Prod.fst r24), Go.AM.D.int Go.IntKind.i64 (Prod.snd r24)])))) (H63_65_1 a b c ((Go.IntKind.wrap Go.IntKind.i64 (v1 + (1 : Int)), List.set v2 ((0 : Nat) + Int.toNat v1) (Go.AM.D.agg [Go.AM.D.int Go.IntKind.i64 (Prod.fst r24), Go.AM.D.int Go.IntKind.i64 (Prod.snd r24)])))))
                            | d20 :: l21 =>
                            False)))
              | d10 :: l11 =>
              False))))
    (((0 : Nat) < (1 : Nat)) ∧
    Q ((Bool.true, List.take (List.length (Prod.snd a)) (List.drop (0 : Nat) v2))))
theorem B63_65_1_eq (a : Bool × List Go.AM.D) (b : Bool × List Go.AM.D) (c : Unit) (Q : Bool × List Go.AM.D → Prop) (s : (Int) × (List Go.AM.D)) (n : Nat) : loopV X63_65 W63_65 (C63_65_1 Q) (n + 1) (E63_65_1 a b c s) (H63_65_1 a b c s) = B63_65_1 a b c Q s (fun env H => loopV X63_65 W63_65 (C63_65_1 Q) n env H) := by
  kernel_rfl
def F63_65u (a : Bool × List Go.AM.D) (b : Bool × List Go.AM.D) (c : Unit) (Q : Bool × List Go.AM.D → Prop) : Prop :=
  cond (!Prod.fst a)
    (((0 : Nat) < (1 : Nat)) ∧
    Q ((Prod.fst b, Prod.snd b)))
    (cond (!Prod.fst b)
      (((0 : Nat) < (1 : Nat)) ∧
      Q ((Prod.fst a, Prod.snd a)))
      ((Go.AM.cloneCond (16 : Nat) (Prod.snd a)) ∧
      ((0 : Nat) < (1 : Nat)) ∧
      L63_65_1 a b c Q (((0 : Int), Prod.snd a))))

theorem F63_65u_eq (x : Ars.T sig63_65.args) (Q : Shs.T sig63_65.res → Prop) : callBodyK T (callOf l63_65) (cwOf l63_65) fi63_65 (Ars.enc sig63_65.args x) [] (endK sig63_65 Q) = F63_65u x.1 x.2.1 x.2.2 Q := by
  kernel_rfl
noncomputable def F63_65 := lock @F63_65u
theorem F63_65_un : F63_65 = F63_65u := lock_eq _
theorem F63_65_eq (x : Ars.T sig63_65.args) (Q : Shs.T sig63_65.res → Prop) : callBodyK T (callOf l63_65) (cwOf l63_65) fi63_65 (Ars.enc sig63_65.args x) [] (endK sig63_65 Q) = F63_65 x.1 x.2.1 x.2.2 Q := by
  rw [F63_65_un]
  exact F63_65u_eq x Q
theorem fi63_65_ok : fi63_65.ok Try.prog 63 := ⟨Try.func63, by decide, rfl, by rfl⟩
noncomputable def e63_65 : Entry Try.prog := mkE hT hm 63 fi63_65 fi63_65_ok l63_65 sig63_65 (fun x Q => F63_65 x.1 x.2.1 x.2.2 Q) F63_65_eq
end Go.Proofs.Ytankppgafdcknaa

/- billhook/state.Widen: what its walk makes hold. -/
set_option linter.unusedVariables false
set_option maxRecDepth 100000
open Go Go.AM
namespace Go.Proofs.Ytankppgafdcknaa
def sig42 : Sig := ⟨[.v (.st [.bool, .sl 2]), .v (.st [.bool, .sl 2])], [.st [.bool, .sl 2]]⟩
noncomputable def fi42 : Fi := mkFi T Try.f42 {  }
noncomputable def l42 : List (Entry Try.prog) := [e63_65, e65]
abbrev N42 (Q : Shs.T sig42.res → Prop) : AV → Heap → Prop := endK sig42 Q
noncomputable abbrev X42 : Px := fi42.px T (callOf l42) 0
noncomputable abbrev W42 : CallW := cwOf l42
def F42u (a : Bool × List Go.AM.D) (b : Bool × List Go.AM.D) (Q : Bool × List Go.AM.D → Prop) : Prop :=
  F63_65 ((Prod.fst a, Prod.snd a)) ((Prod.fst b, Prod.snd b)) (())
    (fun (r1 : Bool × List Go.AM.D) =>
    ((0 : Nat) < (1 : Nat)) ∧
    Q ((Prod.fst r1, Prod.snd r1)))

theorem F42u_eq (x : Ars.T sig42.args) (Q : Shs.T sig42.res → Prop) : callBodyK T (callOf l42) (cwOf l42) fi42 (Ars.enc sig42.args x) [] (endK sig42 Q) = F42u x.1 x.2 Q := by
  kernel_rfl
noncomputable def F42 := lock @F42u
theorem F42_un : F42 = F42u := lock_eq _
theorem F42_eq (x : Ars.T sig42.args) (Q : Shs.T sig42.res → Prop) : callBodyK T (callOf l42) (cwOf l42) fi42 (Ars.enc sig42.args x) [] (endK sig42 Q) = F42 x.1 x.2 Q := by
  rw [F42_un]
  exact F42u_eq x Q
theorem fi42_ok : fi42.ok Try.prog 42 := ⟨Try.func42, by decide, rfl, by rfl⟩
noncomputable def e42 : Entry Try.prog := mkE hT hm 42 fi42 fi42_ok l42 sig42 (fun x Q => F42 x.1 x.2 Q) F42_eq
end Go.Proofs.Ytankppgafdcknaa

/- billhook/billhooklaw12.pick: what its walk makes hold. -/
set_option linter.unusedVariables false
set_option maxRecDepth 100000
open Go Go.AM
namespace Go.Proofs.Ytankppgafdcknaa
def sig39 : Sig := ⟨[.v (.st [.int .i64, .int .i64]), .v (.c (.int .u64))], [.c (.int .i64)]⟩
noncomputable def fi39 : Fi := mkFi T Try.f39 {  }
noncomputable def l39 : List (Entry Try.prog) := []
abbrev N39 (Q : Shs.T sig39.res → Prop) : AV → Heap → Prop := endK sig39 Q
noncomputable abbrev X39 : Px := fi39.px T (callOf l39) 0
noncomputable abbrev W39 : CallW := cwOf l39
def F39 (a : Int × Int) (b : Int) (Q : Int → Prop) : Prop :=
  cond (Go.IntKind.wrap Go.IntKind.u64 (Go.IntKind.wrap Go.IntKind.u64 (Go.IntKind.wrap Go.IntKind.u64 (Prod.snd a) - Go.IntKind.wrap Go.IntKind.u64 (Prod.fst a)) + (1 : Int)) == (0 : Int))
    (Q (Go.IntKind.wrap Go.IntKind.i64 b))
    ((Go.IntKind.wrap Go.IntKind.u64 (Go.IntKind.wrap Go.IntKind.u64 (Go.IntKind.wrap Go.IntKind.u64 (Prod.snd a) - Go.IntKind.wrap Go.IntKind.u64 (Prod.fst a)) + (1 : Int)) ≠ (0 : Int)) ∧
    Q (Go.IntKind.wrap Go.IntKind.i64 (Go.IntKind.wrap Go.IntKind.u64 (Go.IntKind.wrap Go.IntKind.u64 (Prod.fst a) + Int.tmod b (Go.IntKind.wrap Go.IntKind.u64 (Go.IntKind.wrap Go.IntKind.u64 (Go.IntKind.wrap Go.IntKind.u64 (Prod.snd a) - Go.IntKind.wrap Go.IntKind.u64 (Prod.fst a)) + (1 : Int)))))))

theorem F39_eq (x : Ars.T sig39.args) (Q : Shs.T sig39.res → Prop) : callBodyK T (callOf l39) (cwOf l39) fi39 (Ars.enc sig39.args x) [] (endK sig39 Q) = F39 x.1 x.2 Q := by
  kernel_rfl
theorem fi39_ok : fi39.ok Try.prog 39 := ⟨Try.func39, by decide, rfl, by rfl⟩
noncomputable def e39 : Entry Try.prog := mkE hT hm 39 fi39 fi39_ok l39 sig39 (fun x Q => F39 x.1 x.2 Q) F39_eq
end Go.Proofs.Ytankppgafdcknaa
