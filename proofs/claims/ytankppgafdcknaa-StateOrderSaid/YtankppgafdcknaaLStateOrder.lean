/- Texts joined into one: the first of them is told below. -/
import Derived.Test.YtankppgafdcknaaLa
import Derived.Test.YtankppgafdcknaaLb
import Derived.Test.YtankppgafdcknaaWd
import Derived.Test.YtankppgafdcknaaRows
import Derived.WalkKit
import Derived.ProofKit
import Derived.OpenShut
import Derived.ShutString
import Derived.ChangeOld
import Derived.Below
import Derived.SizedLaws
import Derived.Carry
/- A state is in itself, and in what it is joined with; it is in another one just if joined with that it is that: of the walk of StateOrder. -/
set_option linter.unusedVariables false
set_option linter.unusedSimpArgs false
set_option maxRecDepth 100000
open Go Go.AM
namespace Go.Proofs.Ytankppgafdcknaa

theorem getD_mix (f : Sp2 → Sp2 → Sp2) (xs ys : List Sp2) {j : Nat} (hj : j < xs.length) : (mixG f xs ys xs.length).getD j (0, 0) = f (xs.getD j (0, 0)) (ys.getD j (0, 0)) := by
  simp [mixG, List.getD_eq_getElem?_getD, hj]
theorem allIn_of {xs ys : List Sp2} (hl : xs.length = ys.length) (h : ∀ j, j < xs.length → in2 (xs.getD j (0, 0)) (ys.getD j (0, 0)) = true) : allIn xs ys = true := by
  simp only [allIn, Bool.and_eq_true, List.all_eq_true, beq_iff_eq]
  exact ⟨hl, fun j hj => h j (by simpa using hj)⟩
theorem eq_of_getD {xs ys : List Sp2} (hl : xs.length = ys.length) (h : ∀ j, j < xs.length → xs.getD j (0, 0) = ys.getD j (0, 0)) : xs = ys := by
  apply List.ext_getElem hl
  intro j h1 h2
  have := h j h1
  simpa [List.getD_eq_getElem?_getD, h1, h2] using this
theorem empty_false {p : Sp2} : empty2 p = false ↔ p.1 ≤ p.2 := by
  simp [empty2]
theorem join_ne {a b : Sp2} (ha : empty2 a = false) (hb : empty2 b = false) : join2 a b = (if b.1 < a.1 then b.1 else a.1, if b.2 > a.2 then b.2 else a.2) := by
  simp [join2, ha, hb]
theorem in_iff {a b : Sp2} (ha : empty2 a = false) : in2 a b = true ↔ b.1 ≤ a.1 ∧ a.2 ≤ b.2 := by
  simp [in2, ha]
theorem in_refl (a : Sp2) : in2 a a = true := by simp [in2]
theorem in_join {a b : Sp2} (ha : empty2 a = false) (hb : empty2 b = false) : in2 a (join2 a b) = true := by
  rw [in_iff ha, join_ne ha hb]
  simp only
  constructor <;> split <;> omega
theorem in_join' {a b : Sp2} (ha : empty2 a = false) (hb : empty2 b = false) : in2 b (join2 a b) = true := by
  rw [in_iff hb, join_ne ha hb]
  simp only
  constructor <;> split <;> omega
theorem join_comm {a b : Sp2} (ha : empty2 a = false) (hb : empty2 b = false) : join2 a b = join2 b a := by
  rw [join_ne ha hb, join_ne hb ha]
  apply Prod.ext
  · simp only; split <;> split <;> omega
  · simp only; split <;> split <;> omega
theorem in_eq {a b : Sp2} (ha : empty2 a = false) (hb : empty2 b = false) : in2 a b = true ↔ join2 a b = b := by
  rw [in_iff ha, join_ne ha hb]
  constructor
  · intro ⟨h1, h2⟩
    apply Prod.ext
    · simp only; split <;> omega
    · simp only; split <;> omega
  · intro h
    have h1 := congrArg Prod.fst h
    have h2 := congrArg Prod.snd h
    simp only at h1 h2
    constructor
    · split at h1 <;> omega
    · split at h2 <;> omega
theorem lowOf_le {n : Int} (h : -9223372036854775808 ≤ n) : lowOf n ≤ n := by
  unfold lowOf
  repeat (first | omega | split)
theorem highOf_ge {n : Int} (h : n ≤ 9223372036854775807) : n ≤ highOf n := by
  unfold highOf
  repeat (first | omega | split)
theorem join_wid {a b : Sp2} (ha : empty2 a = false) (hb : empty2 b = false) (h1 : -9223372036854775808 ≤ b.1) (h2 : b.2 ≤ 9223372036854775807) : in2 (join2 a b) (wid2 a b) = true := by
  unfold wid2
  rw [ha]
  cases hi : in2 b a with
  | true => simpa using in_refl (join2 a b)
  | false =>
    have hj : empty2 (join2 a b) = false := by
      rw [join_ne ha hb, empty_false]
      rw [empty_false] at ha hb
      simp only
      split <;> split <;> omega
    have := lowOf_le h1
    have := highOf_ge h2
    simp only [Bool.or_self, Bool.false_eq_true, if_false]
    rw [in_iff hj, join_ne ha hb]
    simp only
    constructor
    · split <;> omega
    · split <;> omega
theorem wrap_rng (n : Int) : -9223372036854775808 ≤ IntKind.i64.wrap n ∧ IntKind.i64.wrap n ≤ 9223372036854775807 := by
  simp [IntKind.wrap, IntKind.bits, IntKind.signed]
  omega
theorem spanR_rng {r : R5} (h : rngR r) : -9223372036854775808 ≤ (spanR r).1 ∧ (spanR r).2 ≤ 9223372036854775807 := by
  unfold spanR
  split
  · split
    · exact ⟨by simp, (wrap_rng _).2⟩
    · split
      · exact ⟨(wrap_rng _).1, by simp⟩
      · split
        · exact ⟨by simp, (wrap_rng _).2⟩
        · exact ⟨(wrap_rng _).1, (wrap_rng _).2⟩
  · exact h
theorem tidyAt_ne (L : List R5) (i : Nat) : empty2 (tidyAt L i) = false := by
  unfold tidyAt
  split
  · split
    · simp [empty2]
    · rename_i h; simpa using h
  · simp [empty2]
theorem tidyAt_rng {L : List R5} (hL : ∀ r ∈ L, rngR r) {i : Nat} (hi : i ≤ 1000) : -9223372036854775808 ≤ (tidyAt L i).1 ∧ (tidyAt L i).2 ≤ 9223372036854775807 := by
  unfold tidyAt
  split
  · rename_i r hr
    split
    · constructor <;> simp only <;> omega
    · exact spanR_rng (hL r (List.mem_of_getElem? hr))
  · constructor <;> simp only <;> omega
theorem law13 (d1 d2 : Bool) (L1 L2 : List R5) (hL2 : ∀ r ∈ L2, rngR r) (Q : Bool → Prop) (hQ : Q true) : F13 (d1, L1.map enc5) (d2, L2.map enc5) Q := by
  unfold F13
  have hx : (tidyS L1 4).length = 4 := tidyS_len L1 4
  have hy : (tidyS L2 4).length = 4 := tidyS_len L2 4
  have nx : ∀ j, j < 4 → empty2 ((tidyS L1 4).getD j (0, 0)) = false := fun j hj => by
    rw [List.getD_eq_getElem?_getD, tidyS_get L1 4 j hj]
    exact tidyAt_ne L1 j
  have ny : ∀ j, j < 4 → empty2 ((tidyS L2 4).getD j (0, 0)) = false := fun j hj => by
    rw [List.getD_eq_getElem?_getD, tidyS_get L2 4 j hj]
    exact tidyAt_ne L2 j
  have ry : ∀ j, j < 4 → -9223372036854775808 ≤ ((tidyS L2 4).getD j (0, 0)).1 ∧ ((tidyS L2 4).getD j (0, 0)).2 ≤ 9223372036854775807 := fun j hj => by
    rw [List.getD_eq_getElem?_getD, tidyS_get L2 4 j hj]
    exact tidyAt_rng hL2 (by omega)
  have my : ∀ y ∈ tidyS L2 4, -9223372036854775808 ≤ y.1 ∧ y.2 ≤ 9223372036854775807 := fun y hy' => by
    unfold tidyS at hy'
    obtain ⟨j, hj, rfl⟩ := List.mem_map.1 hy'
    exact tidyAt_rng hL2 (by have := List.mem_range.1 hj; omega)
  refine t15 d1 L1 4 (by decide) (by decide) _ ⟨by decide, t15 d2 L2 4 (by decide) (by decide) _ ?_⟩
  have ea : tidyS L1 (4 : Int).toNat = tidyS L1 4 := rfl
  have eb : tidyS L2 (4 : Int).toNat = tidyS L2 4 := rfl
  rw [ea, eb]
  generalize tidyS L1 4 = xs at hx nx
  generalize tidyS L2 4 = ys at hy ny ry my
  have hxy : xs.length = ys.length := by omega
  have hJ : (mixG join2 xs ys xs.length).length = xs.length := mixG_len _ _ _ _
  have hW : (mixG wid2 xs ys xs.length).length = xs.length := mixG_len _ _ _ _
  refine ⟨by decide, t41 true true xs ys (fun _ _ => hxy) (by omega) _ ⟨by decide, t42 true true xs ys (fun _ _ => hxy) (by omega) my _ ⟨by decide, ?_⟩⟩⟩
  simp only [both2, if_true]
  refine t46 true true xs xs (by omega) _ ?_
  have p1 : allIn xs xs = true := allIn_of rfl fun j hj => in_refl _
  rw [p1]
  refine t46 true true xs (mixG join2 xs ys xs.length) (by omega) _ ?_
  have p2 : allIn xs (mixG join2 xs ys xs.length) = true := allIn_of hJ.symm fun j hj => by
    rw [getD_mix _ _ _ hj]
    exact in_join (nx j (by omega)) (ny j (by omega))
  rw [p2]
  refine t46 true true ys (mixG join2 xs ys xs.length) (by omega) _ ?_
  have p3 : allIn ys (mixG join2 xs ys xs.length) = true := allIn_of (by omega) fun j hj => by
    rw [getD_mix _ _ _ (by omega)]
    exact in_join' (nx j (by omega)) (ny j (by omega))
  rw [p3]
  refine t46 true true (mixG join2 xs ys xs.length) (mixG wid2 xs ys xs.length) (by omega) _ ?_
  have p4 : allIn (mixG join2 xs ys xs.length) (mixG wid2 xs ys xs.length) = true := allIn_of (by omega) fun j hj => by
    rw [getD_mix _ _ _ (by omega), getD_mix _ _ _ (by omega)]
    exact join_wid (nx j (by omega)) (ny j (by omega)) (ry j (by omega)).1 (ry j (by omega)).2
  rw [p4]
  refine t46 true true xs ys (by omega) _ ?_
  refine t19 true true (mixG join2 xs ys xs.length) ys (by omega) _ ?_
  have p5 : allIn xs ys = (mixG join2 xs ys xs.length == ys) := by
    apply Bool.eq_iff_iff.2
    rw [beq_iff_eq]
    constructor
    · intro h
      simp only [allIn, Bool.and_eq_true, List.all_eq_true] at h
      refine eq_of_getD (by omega) fun j hj => ?_
      rw [getD_mix _ _ _ (by omega)]
      exact (in_eq (nx j (by omega)) (ny j (by omega))).1 (h.2 j (by simp; omega))
    · intro h
      refine allIn_of hxy fun j hj => ?_
      rw [in_eq (nx j (by omega)) (ny j (by omega)), ← getD_mix join2 xs ys hj, h]
  have e5 : ((!true || (true && allIn xs ys)) == (true == true && (!true || mixG join2 xs ys xs.length == ys))) = true := by
    rw [p5]
    simp
  rw [e5]
  simp only [cond_true, t43]
  refine t46 false true [] xs (by simp) _ ?_
  simp only [Bool.not_false, Bool.true_or, cond_true]
  refine t46 true false xs [] (by omega) _ ?_
  simp only [Bool.not_true, Bool.false_and, Bool.or_self, Bool.not_false, cond_true]
  refine t41 false true [] xs (fun h => by cases h) (by simp) _ ?_
  simp only [both2, Bool.false_eq_true, if_false, if_true]
  refine t19 true true xs xs (by omega) _ ?_
  have p6 : (true == true && (!true || xs == xs)) = true := by simp
  rw [p6]
  refine t41 true false xs [] (fun _ h => by cases h) (by omega) _ ?_
  simp only [both2, Bool.false_eq_true, if_false, if_true]
  refine t19 true true xs xs (by omega) _ ?_
  rw [p6]
  refine t41 true true ys xs (fun _ _ => hxy.symm) (by omega) _ ?_
  simp only [both2, if_true]
  refine t19 true true (mixG join2 xs ys xs.length) (mixG join2 ys xs ys.length) (by omega) _ ?_
  have p7 : mixG join2 xs ys xs.length = mixG join2 ys xs ys.length := eq_of_getD (by rw [mixG_len, mixG_len]; exact hxy) fun j hj => by
    rw [hJ] at hj
    rw [getD_mix _ _ _ hj, getD_mix _ _ _ (by omega)]
    exact join_comm (nx j (by omega)) (ny j (by omega))
  rw [p7]
  simpa using hQ
end Go.Proofs.Ytankppgafdcknaa

/- StateOrder, of the data that its arguments are. -/
set_option linter.unusedVariables false
set_option maxRecDepth 100000
open Go Go.AM
namespace Go.Proofs.Ytankppgafdcknaa
theorem body13 (x0 : List D) (t0 : wt Try.prog 12 24 x0) (x1 : List D) (t1 : wt Try.prog 12 24 x1) :
    e13.w [.im (.agg x0), .im (.agg x1)] [] fun res _ => res = .im (.bool true) := by
  obtain ⟨d1, L1, rfl⟩ := wt24 t0
  obtain ⟨d2, L2, rfl, h2⟩ := wt24r t1
  have e : e13.w [.im (.agg [.bool d1, .sl false 5 (L1.map enc5)]), .im (.agg [.bool d2, .sl false 5 (L2.map enc5)])] [] (fun res _ => res = .im (.bool true)) =
      F13 (d1, L1.map enc5) (d2, L2.map enc5) (fun y => AV.im (.bool y) = .im (.bool true)) := by kernel_rfl
  rw [e]
  exact law13 d1 d2 L1 L2 h2 _ rfl
end Go.Proofs.Ytankppgafdcknaa

/- The statement StateOrder: of every input, out of the law and the walk. -/
set_option linter.unusedVariables false
set_option maxRecDepth 100000
namespace Go.Proofs.Ytankppgafdcknaa.stateOrder
open Go.AM Go.ChangeShapes Go.WideShapes Go.ChangeAt Go.RowKit
theorem own : ownKnob Try.prog.godebug = none := by kernel_rfl
theorem laidOut : laidOutB Try.prog = true := by kernel_rfl
theorem lifted (os : Os) (started : os.Started) (H : Type) (enc : TypeId × Value → H) :
    ReturnsInHanded {} Try.checked os 13 .any (Rows.stateOrderSpec.pre6 enc Try.prog Try.f13 Rows.stateOrderRow.domain false) (Rows.stateOrderSpec.post enc Try.prog Try.f13 false true false false) := by
  refine returnsInHanded_of_change_sized (C := Try.checked) own started (by kernel_rfl) Try.func13
    (ChangeSpec.witness6 (enc := enc) (C := Try.checked) false ⟨#[], #[.agg #[.bool false, .slice none 0 0], .agg #[.bool false, .slice none 0 0]], []⟩ 8 (by kernel_rfl) (by kernel_rfl) (by kernel_rfl) (by kernel_rfl)) ?_
  intro W base args ds gs before hval0 hW hcnd hsz0 _
  have hval : ∀ (j : Nat) t v, Try.f13.params[j]? = some t → args[j]? = some v → Value.okWide Try.prog W .any base t v := hval0
  have hW' := hW
  obtain ⟨p, q, hA0, hV, rfl, hfz, hnd⟩ := hW
  have hA : DataW.TrodAll enc Try.prog W 0 (fun _ => true) true Try.f13.params.toList args.toList ds p := hA0
  rw [Try.params13] at hA hval
  obtain ⟨v0, vs0, d0, ds0, p0, q0, hargs, rfl, rfl, h0, r0⟩ := trodAll_cons hA
  obtain ⟨v1, vs1, d1, ds1, p1, q1, rfl, rfl, rfl, h1, r1⟩ := trodAll_cons r0
  obtain ⟨rfl, rfl, rfl⟩ := trodAll_nil r1
  obtain rfl : args = #[v0, v1] := by cases args; simp_all
  obtain ⟨rfl, rfl⟩ := trodVars_none hV
  have lt0 : ∀ x ∈ p0, x.block < W.heap.size := by obtain ⟨m, hm⟩ := h0; exact DataW.trod_lt m _ _ _ hm
  have o0 := hval 0 24 v0 rfl rfl
  obtain ⟨c0, rfl⟩ : ∃ c, v0 = .agg c := by
    unfold Value.okWide at o0
    rw [Try.underlying24] at o0
    obtain ⟨c, hc, _⟩ := o0
    exact ⟨c, hc⟩
  obtain ⟨x0, w0, t0⟩ := arg_struct 12 (by kernel_rfl) h0
  have lt1 : ∀ x ∈ p1, x.block < W.heap.size := by obtain ⟨m, hm⟩ := h1; exact DataW.trod_lt m _ _ _ hm
  have o1 := hval 1 24 v1 rfl rfl
  obtain ⟨c1, rfl⟩ : ∃ c, v1 = .agg c := by
    unfold Value.okWide at o1
    rw [Try.underlying24] at o1
    obtain ⟨c, hc, _⟩ := o1
    exact ⟨c, hc⟩
  obtain ⟨x1, w1, t1⟩ := arg_struct 12 (by kernel_rfl) h1
  refine (top e13 (w := W) (vals := [.agg c0, .agg c1]) (b := true) Try.func13 (by decide) rfl (.cons _ _ _ _ w0 (.cons _ _ _ _ w1 .nil)) (body13 x0 t0 x1 t1)).mono fun e W' ⟨he, bel⟩ => ?_
  subst he
  exact ⟨_, rfl, _, _, _, [], _, [], hW', trodAll_mk1 (shut_bool Try.underlying4 _), (trodAll_cons_mk (Below.trod laidOut (by kernel_rfl) (of_decide_eq_true (by kernel_rfl)) h0 bel lt0) (trodAll_cons_mk (Below.trod laidOut (by kernel_rfl) (of_decide_eq_true (by kernel_rfl)) h1 bel lt1) trodAll_mk0)), rfl, bel.frame _, fun h => by cases h⟩
theorem over : Rows.stateOrderRow.holds Try.pinned (OpenSpec.ofChange Rows.stateOrderSpec) :=
  OpenClaim.holds_of_wide 13 Try.f13 rfl rfl rfl rfl rfl rfl rfl ⟨rfl, rfl, rfl, rfl, rfl⟩ rfl rfl rfl rfl rfl (by kernel_rfl) Try.func13 (by kernel_rfl)
    (of_decide_eq_true (by kernel_rfl)) (by unfold Func.isWrapper; first | (rw [if_pos (by decide +kernel)]; kernel_rfl) | (rw [if_neg (by decide +kernel)]; exact ⟨rfl, rfl⟩))
    (fun os started H enc _ => lifted os started H enc)
theorem proved : Rows.StateOrderSaid := over
end Go.Proofs.Ytankppgafdcknaa.stateOrder
namespace Go.Proofs.Ytankppgafdcknaa
/-- The row, under a short name, for the claim. -/
theorem stateOrder_holds : Rows.StateOrderSaid := stateOrder.proved
end Go.Proofs.Ytankppgafdcknaa
