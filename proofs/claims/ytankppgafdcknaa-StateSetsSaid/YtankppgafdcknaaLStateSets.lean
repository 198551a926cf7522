/- Texts joined into one: the first of them is told below. -/
import Derived.Test.YtankppgafdcknaaLa
import Derived.Test.YtankppgafdcknaaWc
import Derived.Test.YtankppgafdcknaaRows
import Derived.WalkKit
import Derived.ProofKit
import Derived.OpenShut
import Derived.ShutString
import Derived.ChangeOld
import Derived.Below
import Derived.SizedLaws
import Derived.Carry
/- What is set at a place is got there, and nothing else turns, nor does the state that it was set in: of the walk of StateSets. -/
set_option linter.unusedVariables false
set_option linter.unusedSimpArgs false
set_option maxRecDepth 100000
open Go Go.AM
namespace Go.Proofs.Ytankppgafdcknaa

theorem has2_iff (a : Bool) (n : Nat) (k : Int) : has2 a n k = true ↔ a = true ∧ 0 ≤ k ∧ k < (n : Int) := by
  simp [has2, and_assoc]
theorem set2_len (a : Bool) (l : List Sp2) (k : Int) (p : Sp2) : (set2 a l k p).length = l.length := by
  unfold set2
  split <;> simp
theorem get_set_same {l : List Sp2} {k : Int} {p : Sp2} (h0 : 0 ≤ k) (h1 : k < (l.length : Int)) : get2 true (set2 true l k p) k = p := by
  have hh : has2 true l.length k = true := (has2_iff _ _ _).2 ⟨rfl, h0, h1⟩
  have hh' : has2 true (set2 true l k p).length k = true := by rw [set2_len]; exact hh
  unfold get2
  rw [hh']
  unfold set2
  rw [hh]
  simp only [if_true, List.getD_eq_getElem?_getD]
  rw [List.getElem?_set_self (by omega)]
  rfl
theorem get_set_other {l : List Sp2} {k i : Int} {p : Sp2} (h0 : 0 ≤ k) (hi : 0 ≤ i) (h : i ≠ k) : get2 true (set2 true l k p) i = get2 true l i := by
  unfold get2
  rw [set2_len]
  split
  · unfold set2
    split
    · simp only [List.getD_eq_getElem?_getD]
      rw [List.getElem?_set_ne (by omega)]
    · rfl
  · rfl
theorem get_out {l : List Sp2} {k : Int} (h : (l.length : Int) ≤ k) : get2 true l k = (1, 0) := by
  have : has2 true l.length k = false := by
    apply Bool.eq_false_iff.2
    intro hh
    have := (has2_iff _ _ _).1 hh
    omega
  unfold get2
  rw [this]
  rfl
theorem tail3 (ls : List Sp2) (k : Int) (p : Sp2) (hp : empty2 p = false) (hl : ls.length = 5) (h0 : 0 ≤ k) (f : Bool × List D → Prop) (Q : Bool → Prop) (hQ : Q true) :
    F17_o (true, ls.map enc2) k p fun r => Sum.elim f (fun r83 => F21 (r83.1, List.take r83.2.length (List.drop 0 r83.2)) k fun r84 => (0 < 1) ∧
      F19 (true, ls.map enc2) (true, ls.map enc2) fun r85 => cond r85 (cond (decide (k > 4)) (F18 (r84.1, r84.2) fun r86 => cond r86 (Q true) (cond (decide (k < 5)) (F20 (r84.1, r84.2) (p.1, p.2) fun r87 => Q r87) (Q false)))
        (cond (decide (k < 5)) (F20 (r84.1, r84.2) (p.1, p.2) fun r88 => Q r88) (Q false))) (Q false)) r := by
  refine t17o true ls k p (by omega) _ (fun h => by simp [hp] at h) fun _ => ?_
  simp only [Sum.elim_inr, List.drop_zero, List.take_length]
  rw [t21]
  refine ⟨by decide, t19 true true ls ls (by omega) _ ?_⟩
  have e : (true == true && (!true || ls == ls)) = true := by simp
  rw [e]
  simp only [cond_true, t18, t20]
  by_cases hk : k < 5
  · have h4 : ¬ k > 4 := by omega
    rw [get_set_same h0 (by omega)]
    simp only [h4, hk, decide_false, decide_true, cond_true, cond_false]
    simpa using hQ
  · have h4 : k > 4 := by omega
    rw [get_out (by rw [set2_len]; omega)]
    simp only [h4, decide_true, cond_true]
    exact hQ
set_option maxHeartbeats 8000000 in
theorem law3 (dead : Bool) (L : List R5) (b : Int) (hb0 : 0 ≤ b) (hb1 : b ≤ 255) (r : R5) (Q : Bool → Prop) (hQ : Q true) : F3 (dead, L.map enc5) b r Q := by
  unfold F3
  have hls : (tidyS L 5).length = 5 := tidyS_len L 5
  generalize hlsd : tidyS L 5 = ls at hls
  have e5 : tidyS L (5 : Int).toNat = ls := hlsd
  refine t15 dead L 5 (by decide) (by decide) _ ?_
  refine ⟨by decide, t15 dead L 5 (by decide) (by decide) _ ?_⟩
  rw [e5]
  refine ⟨by decide, by decide, t16 r _ ?_⟩
  generalize spanR r = p
  have hk0 : 0 ≤ b.tmod 7 := Int.tmod_nonneg _ hb0
  have hk1 : b.tmod 7 < 7 := Int.tmod_lt_of_pos _ (by decide)
  have hw : IntKind.i64.wrap (b.tmod 7) = b.tmod 7 := wrap_i64 (by omega) (by omega)
  refine ⟨by decide, ?_⟩
  simp only [hw]
  have selfSame : ∀ Q : Bool → Prop, Q true → F19 (true, ls.map enc2) (true, ls.map enc2) fun r7 => Q r7 := fun Q hQ => t19 true true ls ls (by omega) _ (by simpa using hQ)
  refine t17o true ls (b.tmod 7) p (by omega) _ (fun h => ?_) fun h => ?_
  · have hp : empty2 p = true := by simpa using h
    simp only [Sum.elim_inl]
    refine ⟨by decide, ?_⟩
    rw [t18]
    have hp' : empty2 (p.1, p.2) = true := hp
    rw [hp']
    exact selfSame Q hQ
  · have hp : empty2 p = false := by simpa using h
    have hp' : empty2 (p.1, p.2) = false := hp
    simp only [Sum.elim_inr]
    refine ⟨by decide, ?_⟩
    rw [t18, hp']
    simp only [cond_false]
    unfold L3_2
    refine loop_rule (E3_2 b (true, ls.map enc2) (true, ls.map enc2) p (true, (set2 true ls (b.tmod 7) p).map enc2)) (H3_2 b (true, ls.map enc2) (true, ls.map enc2) p (true, (set2 true ls (b.tmod 7) p).map enc2)) _
      (fun i => 0 ≤ i ∧ i ≤ 5) (fun i => 5 - i.toNat) ?_ 0 ⟨by decide, by decide⟩
    intro n i ⟨hi0, hi1⟩ ih
    rw [B3_2_eq (dead, L.map enc5) b r (true, ls.map enc2) (true, ls.map enc2) p (.inl (true, [])) (true, (set2 true ls (b.tmod 7) p).map enc2) true]
    unfold B3_2
    simp only [hw]
    by_cases hi : i < 5
    · simp only [hi, decide_true, cond_true]
      have next := ih (i + 1) ⟨by omega, by omega⟩ (by omega)
      rw [wrap_i64 (by omega) (by omega)]
      by_cases hik : i = b.tmod 7
      · have : (i != b.tmod 7) = false := by simp [hik]
        rw [this]
        exact next
      · have : (i != b.tmod 7) = true := by simpa using hik
        rw [this]
        simp only [cond_true, List.drop_zero, List.take_length]
        rw [t21, t21, t20, get_set_other hk0 hi0 hik]
        simp only [beq_self_eq_true, Bool.not_true, cond_false]
        exact next
    · simp only [hi, decide_false, cond_false]
      by_cases hk : b.tmod 7 < 5
      · simp only [hk, decide_true, cond_true]
        rw [t21, t20]
        cases heq : (((get2 true ls (b.tmod 7)).1, (get2 true ls (b.tmod 7)).2) == (p.1, p.2)) with
        | true =>
          simp only [Bool.not_true, cond_false]
          have := tail3 ls (b.tmod 7) p hp hls hk0
          simp only [hk, decide_true, cond_true] at this
          exact this _ Q hQ
        | false =>
          have hlen : (set2 true ls (b.tmod 7) p).length = 5 := by rw [set2_len]; exact hls
          have hpos : ((↑(List.length ((set2 true ls (b.tmod 7) p).map enc2)) : Int) > 0) := by simp [hlen]
          simp only [Bool.not_false, cond_true, hpos, decide_true, t22]
          refine ⟨by decide, by simp [hlen], by simp [hlen], ?_⟩
          have := tail3 ls (b.tmod 7) p hp hls hk0
          simp only [hk, decide_true, cond_true] at this
          exact this _ Q hQ
      · simp only [hk, decide_false, cond_false]
        have := tail3 ls (b.tmod 7) p hp hls hk0
        simp only [hk, decide_false, cond_false] at this
        exact this _ Q hQ
end Go.Proofs.Ytankppgafdcknaa

/- StateSets, of the data that its arguments are. -/
set_option linter.unusedVariables false
set_option maxRecDepth 100000
open Go Go.AM
namespace Go.Proofs.Ytankppgafdcknaa
theorem body3 (x0 : List D) (t0 : wt Try.prog 12 24 x0) (x1 : D) (t1 : wt Try.prog 12 5 [x1]) (x2 : List D) (t2 : wt Try.prog 12 28 x2) :
    e3.w [.im (.agg x0), .im x1, .im (.agg x2)] [] fun res _ => res = .im (.bool true) := by
  obtain ⟨dead, L, rfl⟩ := wt24 t0
  obtain ⟨b, hb, hb0, hb1⟩ := wt_int Try.underlying5 t1
  simp at hb
  subst hb
  obtain ⟨r, rfl⟩ := wt28 t2
  have e : e3.w [.im (.agg [.bool dead, .sl false 5 (L.map enc5)]), .im (.int .u8 b), .im (.agg [.int .i64 r.1, .int .i64 r.2.1, .bool r.2.2.1, .int .u8 r.2.2.2.1, .int .u8 r.2.2.2.2])] [] (fun res _ => res = .im (.bool true)) =
      F3 (dead, L.map enc5) b r (fun y => AV.im (.bool y) = .im (.bool true)) := by kernel_rfl
  rw [e]
  exact law3 dead L b (show (0 : Int) ≤ b from hb0) (show b ≤ (255 : Int) from hb1) r _ rfl
end Go.Proofs.Ytankppgafdcknaa

/- The statement StateSets: of every input, out of the law and the walk. -/
set_option linter.unusedVariables false
set_option maxRecDepth 100000
namespace Go.Proofs.Ytankppgafdcknaa.stateSets
open Go.AM Go.ChangeShapes Go.WideShapes Go.ChangeAt Go.RowKit
theorem own : ownKnob Try.prog.godebug = none := by kernel_rfl
theorem laidOut : laidOutB Try.prog = true := by kernel_rfl
theorem lifted (os : Os) (started : os.Started) (H : Type) (enc : TypeId × Value → H) :
    ReturnsInHanded {} Try.checked os 3 .any (Rows.stateSetsSpec.pre6 enc Try.prog Try.f3 Rows.stateSetsRow.domain false) (Rows.stateSetsSpec.post enc Try.prog Try.f3 false true false false) := by
  refine returnsInHanded_of_change_sized (C := Try.checked) own started (by kernel_rfl) Try.func3
    (ChangeSpec.witness6 (enc := enc) (C := Try.checked) false ⟨#[], #[.agg #[.bool false, .slice none 0 0], .int .u8 0, .agg #[.int .i64 0, .int .i64 0, .bool false, .int .u8 0, .int .u8 0]], []⟩ 8 (by kernel_rfl) (by kernel_rfl) (by kernel_rfl) (by kernel_rfl)) ?_
  intro W base args ds gs before hval0 hW hcnd hsz0 _
  have hval : ∀ (j : Nat) t v, Try.f3.params[j]? = some t → args[j]? = some v → Value.okWide Try.prog W .any base t v := hval0
  have hW' := hW
  obtain ⟨p, q, hA0, hV, rfl, hfz, hnd⟩ := hW
  have hA : DataW.TrodAll enc Try.prog W 0 (fun _ => true) true Try.f3.params.toList args.toList ds p := hA0
  rw [Try.params3] at hA hval
  obtain ⟨v0, vs0, d0, ds0, p0, q0, hargs, rfl, rfl, h0, r0⟩ := trodAll_cons hA
  obtain ⟨v1, vs1, d1, ds1, p1, q1, rfl, rfl, rfl, h1, r1⟩ := trodAll_cons r0
  obtain ⟨v2, vs2, d2, ds2, p2, q2, rfl, rfl, rfl, h2, r2⟩ := trodAll_cons r1
  obtain ⟨rfl, rfl, rfl⟩ := trodAll_nil r2
  obtain rfl : args = #[v0, v1, v2] := by cases args; simp_all
  obtain ⟨rfl, rfl⟩ := trodVars_none hV
  have lt0 : ∀ x ∈ p0, x.block < W.heap.size := by obtain ⟨m, hm⟩ := h0; exact DataW.trod_lt m _ _ _ hm
  have o0 := hval 0 24 v0 rfl rfl
  obtain ⟨c0, rfl⟩ : ∃ c, v0 = .agg c := by
    unfold Value.okWide at o0
    rw [Try.underlying24] at o0
    obtain ⟨c, hc, _⟩ := o0
    exact ⟨c, hc⟩
  obtain ⟨x0, w0, t0⟩ := arg_struct 12 (by kernel_rfl) h0
  have lt1 : ∀ x ∈ p1, x.block < W.heap.size := by obtain ⟨m, hm⟩ := h1; exact DataW.trod_lt m _ _ _ hm
  have o1 := hval 1 5 v1 rfl rfl
  have e1 : v1.cells.toList = [v1] := by
    unfold Value.okWide Cell.okWide Cell.ok at o1
    rw [Try.underlying5] at o1
    cases v1 <;> first | rfl | exact o1.elim
  obtain ⟨x1, w1, t1⟩ := arg_cell 12 (by kernel_rfl) e1 h1
  have lt2 : ∀ x ∈ p2, x.block < W.heap.size := by obtain ⟨m, hm⟩ := h2; exact DataW.trod_lt m _ _ _ hm
  have o2 := hval 2 28 v2 rfl rfl
  obtain ⟨c2, rfl⟩ : ∃ c, v2 = .agg c := by
    unfold Value.okWide at o2
    rw [Try.underlying28] at o2
    obtain ⟨c, hc, _⟩ := o2
    exact ⟨c, hc⟩
  obtain ⟨x2, w2, t2⟩ := arg_struct 12 (by kernel_rfl) h2
  refine (top e3 (w := W) (vals := [.agg c0, v1, .agg c2]) (b := true) Try.func3 (by decide) rfl (.cons _ _ _ _ w0 (.cons _ _ _ _ w1 (.cons _ _ _ _ w2 .nil))) (body3 x0 t0 x1 t1 x2 t2)).mono fun e W' ⟨he, bel⟩ => ?_
  subst he
  exact ⟨_, rfl, _, _, _, [], _, [], hW', trodAll_mk1 (shut_bool Try.underlying4 _), (trodAll_cons_mk (Below.trod laidOut (by kernel_rfl) (of_decide_eq_true (by kernel_rfl)) h0 bel lt0) (trodAll_cons_mk (Below.trod laidOut (by kernel_rfl) (of_decide_eq_true (by kernel_rfl)) h1 bel lt1) (trodAll_cons_mk (Below.trod laidOut (by kernel_rfl) (of_decide_eq_true (by kernel_rfl)) h2 bel lt2) trodAll_mk0))), rfl, bel.frame _, fun h => by cases h⟩
theorem over : Rows.stateSetsRow.holds Try.pinned (OpenSpec.ofChange Rows.stateSetsSpec) :=
  OpenClaim.holds_of_wide 3 Try.f3 rfl rfl rfl rfl rfl rfl rfl ⟨rfl, rfl, rfl, rfl, rfl⟩ rfl rfl rfl rfl rfl (by kernel_rfl) Try.func3 (by kernel_rfl)
    (of_decide_eq_true (by kernel_rfl)) (by unfold Func.isWrapper; first | (rw [if_pos (by decide +kernel)]; kernel_rfl) | (rw [if_neg (by decide +kernel)]; exact ⟨rfl, rfl⟩))
    (fun os started H enc _ => lifted os started H enc)
theorem proved : Rows.StateSetsSaid := over
end Go.Proofs.Ytankppgafdcknaa.stateSets
namespace Go.Proofs.Ytankppgafdcknaa
/-- The row, under a short name, for the claim. -/
theorem stateSets_holds : Rows.StateSetsSaid := stateSets.proved
end Go.Proofs.Ytankppgafdcknaa
