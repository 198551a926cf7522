/- Texts joined into one: the first of them is told below. -/
import Derived.Test.YtankppgafdcknaaWa
import Derived.Test.YtankppgafdcknaaKc
/- What the functions of chapters 11 and 12 come to, in plain terms. -/
set_option linter.unusedVariables false
set_option linter.unusedSimpArgs false
set_option maxRecDepth 100000
open Go Go.AM
namespace Go.Proofs.Ytankppgafdcknaa

abbrev Sp2 := Int × Int
def enc2 (p : Sp2) : D := .agg [.int .i64 p.1, .int .i64 p.2]
@[simp] theorem asAgg_enc2 (p : Sp2) : (enc2 p).asAgg = some [.int .i64 p.1, .int .i64 p.2] := rfl
@[simp] theorem asInt_int (k : IntKind) (n : Int) : (D.int k n).asInt k = some n := by simp [D.asInt]
@[simp] theorem asBool_bool (b : Bool) : (D.bool b).asBool = some b := rfl
def empty2 (p : Sp2) : Bool := decide (p.1 > p.2)
theorem t18 (p : Sp2) (Q : Bool → Prop) : F18 p Q = Q (empty2 p) := by simp [F18, empty2]
theorem t22 (n : Int) (Q : Sp2 → Prop) : F22 n Q = Q (n, n) := by simp [F22]
theorem t47 (Q : Sp2 → Prop) : F47 Q = Q (1, 0) := by simp [F47]
theorem t43 (Q : Bool × List D → Prop) : F43 Q = Q (false, []) := by simp [F43]
def has2 (a : Bool) (n : Nat) (at_ : Int) : Bool := a && decide (0 ≤ at_) && decide (at_ < (n : Int))
theorem t49 (a : Bool) (l : List D) (at_ : Int) (Q : Bool → Prop) : F49 (a, l) at_ Q = Q (has2 a l.length at_) := by
  unfold F49 has2
  cases a <;> simp
  by_cases h : 0 ≤ at_ <;> simp [h]
def get2 (a : Bool) (l : List Sp2) (at_ : Int) : Sp2 := if has2 a l.length at_ then l.getD at_.toNat (1, 0) else (1, 0)
theorem t21 (a : Bool) (l : List Sp2) (at_ : Int) (Q : Sp2 → Prop) : F21 (a, l.map enc2) at_ Q = Q (get2 a l at_) := by
  unfold F21
  rw [t49, t47]
  unfold get2
  simp only [List.length_map]
  cases h : has2 a l.length at_ with
  | false => simp
  | true =>
    simp [has2] at h
    obtain ⟨⟨rfl, h0⟩, h1⟩ := h
    have hlt : at_.toNat < l.length := by omega
    simp [h0, hlt]
theorem t20 (p q : Sp2) (Q : Bool → Prop) : F20 p q Q = Q (p == q) := by
  obtain ⟨a, b⟩ := p
  obtain ⟨c, d⟩ := q
  unfold F20
  by_cases h : a = c
  · subst h
    have : ((a, b) == (a, d)) = (b == d) := by
      apply Bool.eq_iff_iff.2
      simp
    rw [this]
    simp
  · have : ((a, b) == (c, d)) = false := by simp [h]
    rw [this]
    simp [h]
theorem wrap_i64 {n : Int} (h0 : -9223372036854775808 ≤ n) (h1 : n ≤ 9223372036854775807) : IntKind.i64.wrap n = n := by
  simp [IntKind.wrap, IntKind.bits, IntKind.signed]
  omega
/-- Are two lists of spans the same? -/
theorem t50 (xs ys : List Sp2) (hx : xs.length ≤ 9223372036854775806) (Q : Bool → Prop) (h : Q (xs == ys)) : F50 (xs.map enc2) (ys.map enc2) Q := by
  rw [F50_un]
  unfold F50u
  by_cases hl : xs.length = ys.length
  · have : ((↑(List.length (xs.map enc2)) : Int) != (↑(List.length (ys.map enc2)) : Int)) = false := by simp [hl]
    rw [this]
    show L50_1 (xs.map enc2) (ys.map enc2) Q 0
    unfold L50_1
    refine loop_rule (E50_1 (xs.map enc2) (ys.map enc2)) (H50_1 (xs.map enc2) (ys.map enc2)) _ (fun i => 0 ≤ i ∧ i ≤ xs.length ∧ (xs.take i.toNat = ys.take i.toNat)) (fun i => xs.length - i.toNat) ?_ 0 ⟨by omega, by omega, by simp⟩
    intro n i ⟨h0, h1, h2⟩ ih
    rw [B50_1_eq]
    unfold B50_1
    simp only [List.length_map]
    by_cases hi : i < xs.length
    · have hx' : i.toNat < xs.length := by omega
      have hy' : i.toNat < ys.length := by omega
      rw [wrap_i64 (by omega) (by omega)]
      simp only [hi, decide_true, cond_true, List.getElem?_map, List.getElem?_eq_getElem hx', List.getElem?_eq_getElem hy', Option.map_some, optP_some, asAgg_enc2, asInt_int, h0, true_and]
      by_cases he : xs[i.toNat] = ys[i.toNat]
      · simp only [he, beq_self_eq_true, Bool.and_true, Bool.not_true, cond_false]
        refine ih (i + 1) ⟨by omega, by omega, ?_⟩ (by omega)
        rw [show (i + 1).toNat = i.toNat + 1 by omega, List.take_add_one, List.take_add_one, h2, List.getElem?_eq_getElem hx', List.getElem?_eq_getElem hy', he]
      · have hne : (xs[i.toNat].1 == ys[i.toNat].1 && (xs[i.toNat].2 == ys[i.toNat].2 && true)) = false := by
          apply Bool.eq_false_iff.2
          intro hc
          simp at hc
          exact he (Prod.ext hc.1 hc.2)
        rw [hne]
        have hxy : (xs == ys) = false := by
          apply Bool.eq_false_iff.2
          intro hc
          have := eq_of_beq hc
          subst this
          exact he rfl
        rw [hxy] at h
        simpa using h
    · have hin : i.toNat = xs.length := by omega
      simp only [hi, decide_false, cond_false]
      have hxy : xs = ys := by
        rw [hin, List.take_length, hl, List.take_length] at h2
        exact h2
      rw [hxy] at h
      simpa using h
  · have : ((↑(List.length (xs.map enc2)) : Int) != (↑(List.length (ys.map enc2)) : Int)) = true := by simp; omega
    rw [this]
    have hxy : (xs == ys) = false := by
      apply Bool.eq_false_iff.2
      intro hc
      exact hl (by rw [eq_of_beq hc])
    rw [hxy] at h
    exact h
theorem t19 (a b : Bool) (xs ys : List Sp2) (hx : xs.length ≤ 9223372036854775806) (Q : Bool → Prop) (h : Q (a == b && (!a || xs == ys))) : F19 (a, xs.map enc2) (b, ys.map enc2) Q := by
  rw [F19_un]
  unfold F19u
  cases a <;> cases b <;> simp at h ⊢
  · exact h
  · exact h
  · exact h
  · exact t50 xs ys hx _ (by simpa using h)
theorem cloneCond_enc (l : List Sp2) (h : l.length ≤ 8796093022208) : cloneCond 16 (l.map enc2) := by
  refine ⟨?_, by simp; omega, by simp; omega⟩
  simp [List.all_map, enc2, D.cells, okCell]
/-- A state with something set, as a row of its own, or none. -/
def set2 (a : Bool) (l : List Sp2) (at_ : Int) (p : Sp2) : List Sp2 := if has2 a l.length at_ then l.set at_.toNat p else l
theorem t17o (a : Bool) (l : List Sp2) (at_ : Int) (p : Sp2) (hl : l.length ≤ 8796093022208) (Q : OT → Prop)
    (h0 : (!a || empty2 p) = true → Q (.inl (false, []))) (h1 : (!a || empty2 p) = false → Q (.inr (true, (set2 a l at_ p).map enc2))) : F17_o (a, l.map enc2) at_ p Q := by
  unfold F17_o
  rw [t43, t18]
  cases a with
  | false => simpa using h0 rfl
  | true =>
    cases hp : empty2 p with
    | true => rw [hp] at h0; simpa [hp] using h0 rfl
    | false =>
      rw [hp] at h1
      have h1 := h1 rfl
      simp only [Bool.not_true, cond_false, cond_true]
      simp only [cond_false, List.drop_zero, List.take_length, t49]
      refine ⟨cloneCond_enc l hl, by simp, ?_⟩
      unfold set2 at h1
      simp only [List.length_map]
      cases hh : has2 true l.length at_ with
      | false =>
        rw [hh] at h1
        simpa using h1
      | true =>
        rw [hh] at h1
        simp [has2] at hh
        have hlt : at_.toNat < l.length := by omega
        simp only [cond_true, hh.1, true_and, Nat.zero_add, hlt]
        refine ⟨by omega, by simp, ?_⟩
        simpa [List.map_set, enc2] using h1
end Go.Proofs.Ytankppgafdcknaa

/- What spans and states of the statements' own making come to. -/
set_option linter.unusedVariables false
set_option linter.unusedSimpArgs false
set_option maxRecDepth 100000
open Go Go.AM
namespace Go.Proofs.Ytankppgafdcknaa

abbrev R5 := Int × Int × Bool × Int × Int
def enc5 (r : R5) : D := .agg [.int .i64 r.1, .int .i64 r.2.1, .bool r.2.2.1, .int .u8 r.2.2.2.1, .int .u8 r.2.2.2.2]
@[simp] theorem asAgg_enc5 (r : R5) : (enc5 r).asAgg = some [.int .i64 r.1, .int .i64 r.2.1, .bool r.2.2.1, .int .u8 r.2.2.2.1, .int .u8 r.2.2.2.2] := rfl
def spanR (a : R5) : Sp2 :=
  if a.2.2.1 then
    if a.2.2.2.1.tmod 9 = 0 then (-9223372036854775808, IntKind.i64.wrap (-9223372036854775808 + IntKind.i64.wrap (a.2.2.2.2.tmod 40)))
    else if a.2.2.2.1.tmod 9 = 1 then (IntKind.i64.wrap (9223372036854775807 - IntKind.i64.wrap (a.2.2.2.2.tmod 4)), 9223372036854775807)
    else if a.2.2.2.1.tmod 9 = 2 then (0, IntKind.i64.wrap (0 + IntKind.i64.wrap (a.2.2.2.2.tmod 40)))
    else (IntKind.i64.wrap (IntKind.i64.wrap a.2.2.2.1 - 128), IntKind.i64.wrap (IntKind.i64.wrap (IntKind.i64.wrap a.2.2.2.1 - 128) + IntKind.i64.wrap (a.2.2.2.2.tmod 40)))
  else (a.1, a.2.1)
theorem t16 (a : R5) (Q : Sp2 → Prop) (h : Q (spanR a)) : F16 a Q := by
  obtain ⟨lo, hi, own, k, len⟩ := a
  unfold F16
  unfold spanR at h
  cases own with
  | false => simpa using h
  | true =>
    simp only [if_true] at h
    simp only [Bool.not_true, cond_false]
    refine ⟨by decide, ?_⟩
    by_cases h0 : k.tmod 9 = 0
    · rw [if_pos h0] at h
      have e0 : (k.tmod 9 == 0) = true := by simp [h0]
      simp only [e0, cond_true]
      exact ⟨by decide, by decide, h⟩
    · rw [if_neg h0] at h
      have e0 : (k.tmod 9 == 0) = false := by simp [h0]
      simp only [e0, cond_false]
      by_cases h1 : k.tmod 9 = 1
      · rw [if_pos h1] at h
        have e1 : (k.tmod 9 == 1) = true := by simp [h1]
        simp only [e1, cond_true]
        exact ⟨by decide, by decide, h⟩
      · rw [if_neg h1] at h
        have e1 : (k.tmod 9 == 1) = false := by simp [h1]
        simp only [e1, cond_false]
        by_cases h2 : k.tmod 9 = 2
        · rw [if_pos h2] at h
          have e2 : (k.tmod 9 == 2) = true := by simp [h2]
          simp only [e2, cond_true]
          exact ⟨by decide, by decide, h⟩
        · rw [if_neg h2] at h
          have e2 : (k.tmod 9 == 2) = false := by simp [h2]
          simp only [e2, cond_false]
          exact ⟨by decide, by decide, h⟩
def tidyAt (L : List R5) (i : Nat) : Sp2 := match L[i]? with
  | some r => if empty2 (spanR r) then ((i : Int), (i : Int)) else spanR r
  | none => ((i : Int), (i : Int))
def tidyS (L : List R5) (n : Nat) : List Sp2 := (List.range n).map (tidyAt L)
theorem tidyS_len (L : List R5) (n : Nat) : (tidyS L n).length = n := by simp [tidyS]
theorem tidyS_get (L : List R5) (n i : Nat) (h : i < n) : (tidyS L n)[i]? = some (tidyAt L i) := by simp [tidyS, h]
theorem tidyS_succ (L : List R5) (n : Nat) : tidyS L (n + 1) = tidyS L n ++ [tidyAt L n] := by simp [tidyS, List.range_succ]
theorem t15 (dead : Bool) (L : List R5) (n : Int) (h0 : 0 ≤ n) (hn : n ≤ 1000) (Q : Bool × List D → Prop) (h : Q (true, (tidyS L n.toNat).map enc2)) : F15 (dead, L.map enc5) n Q := by
  rw [F15_un]
  unfold F15u
  refine ⟨by decide, ?_⟩
  unfold L15_1
  refine loop_rule (E15_1 (dead, L.map enc5) n) (H15_1 (dead, L.map enc5) n) _ (fun s => 0 ≤ s.1 ∧ s.1 ≤ n ∧ s.2 = (tidyS L s.1.toNat).map enc2) (fun s => n.toNat - s.1.toNat) ?_ (0, []) ⟨by simp, h0, by simp [tidyS]⟩
  intro m s ⟨h1, h2, h3⟩ ih
  obtain ⟨i, ds⟩ := s
  simp only at h1 h2 h3
  subst h3
  rw [B15_1_eq]
  unfold B15_1
  by_cases hi : i < n
  · have step : ∀ x, tidyAt L i.toNat = x → ∀ d, d = enc2 x → ((List.length ((tidyS L i.toNat).map enc2 ++ [d]) * 16 ≤ 140737488355328) ∧ (List.length ((tidyS L i.toNat).map enc2 ++ [d]) ≤ 140737488355328) ∧
        (2 ≤ List.length [AV.im (D.bool true), AV.bad]) ∧ loopV X15 W15 (C15_1 Q) m (E15_1 (dead, L.map enc5) n (IntKind.i64.wrap (i + 1), (tidyS L i.toNat).map enc2 ++ [d])) (H15_1 (dead, L.map enc5) n (IntKind.i64.wrap (i + 1), (tidyS L i.toNat).map enc2 ++ [d]))) := by
      intro x hx d hd
      subst hd
      refine ⟨by simp [tidyS_len]; omega, by simp [tidyS_len]; omega, by simp, ?_⟩
      rw [wrap_i64 (by omega) (by omega)]
      refine ih (i + 1, _) ⟨by simp; omega, by simp; omega, ?_⟩ (by simp; omega)
      simp only
      rw [show (i + 1).toNat = i.toNat + 1 by omega, tidyS_succ, hx]
      simp
    have hic : ((i.toNat : Nat) : Int) = i := by omega
    simp only [hi, decide_true, cond_true, t22, List.drop_zero, List.take_length]
    refine ⟨by decide, ?_⟩
    cases hL : L[i.toNat]? with
    | none =>
      have hlt : ¬ (i < (L.length : Int)) := by
        have := List.getElem?_eq_none_iff.1 hL
        omega
      simp only [List.length_map, hlt, decide_false, cond_false]
      exact step (i, i) (by simp [tidyAt, hL, hic]) _ rfl
    | some r =>
      have hlt : i < (L.length : Int) := by
        have := (List.getElem?_eq_some_iff.1 hL).1
        omega
      simp only [List.length_map, hlt, decide_true, cond_true, List.getElem?_map, hL, Option.map_some, optP_some, asAgg_enc5, asInt_int, asBool_bool]
      refine ⟨h1, t16 _ _ ?_⟩
      simp only [t18]
      cases he : empty2 (spanR r) with
      | true =>
        have he' : empty2 ((spanR (r.1, r.2.1, r.2.2.1, r.2.2.2.1, r.2.2.2.2)).1, (spanR (r.1, r.2.1, r.2.2.1, r.2.2.2.1, r.2.2.2.2)).2) = true := he
        simp only [he', Bool.not_true, cond_false]
        exact step (i, i) (by simp [tidyAt, hL, he, hic]) _ rfl
      | false =>
        have he' : empty2 ((spanR (r.1, r.2.1, r.2.2.1, r.2.2.2.1, r.2.2.2.2)).1, (spanR (r.1, r.2.1, r.2.2.1, r.2.2.2.1, r.2.2.2.2)).2) = false := he
        simp only [he', Bool.not_false, cond_true]
        refine ⟨h1, t16 _ _ ⟨by simp, ?_⟩⟩
        exact step (spanR r) (by simp [tidyAt, hL, he]) _ rfl
  · have hin : i = n := by omega
    subst hin
    simp only [hi, decide_false, cond_false, List.drop_zero, List.take_length]
    exact ⟨by decide, h⟩
end Go.Proofs.Ytankppgafdcknaa

/- What the arguments of the statements about states are. -/
set_option linter.unusedVariables false
set_option linter.unusedSimpArgs false
set_option maxRecDepth 100000
open Go Go.AM
namespace Go.Proofs.Ytankppgafdcknaa

theorem exists_map {α β : Type} {f : α → β} : ∀ {l : List β}, (∀ d ∈ l, ∃ x, d = f x) → ∃ L : List α, l = L.map f
  | [], _ => ⟨[], rfl⟩
  | d :: l, h => by
    obtain ⟨x, hx⟩ := h d (by simp)
    obtain ⟨L, hL⟩ := exists_map fun e he => h e (List.mem_cons_of_mem _ he)
    exact ⟨x :: L, by simp [hx, hL]⟩
theorem wt_int {n : Nat} {t : TypeId} {k : IntKind} {cs : List D} (ht : Try.prog.underlying t = some (.int k)) (h : wt Try.prog n t cs) : ∃ m, cs = [.int k m] ∧ k.min ≤ m ∧ m ≤ k.max := by
  cases n with
  | zero => exact h.elim
  | succ n => unfold wt at h; rw [ht] at h; exact h
theorem wt_bool {n : Nat} {t : TypeId} {cs : List D} (ht : Try.prog.underlying t = some .bool) (h : wt Try.prog n t cs) : ∃ b, cs = [.bool b] := by
  cases n with
  | zero => exact h.elim
  | succ n => unfold wt at h; rw [ht] at h; exact h
theorem wt_struct {n : Nat} {t : TypeId} {fs : Array Field} {cs : List D} (ht : Try.prog.underlying t = some (.struct fs)) (h : wt Try.prog (n + 1) t cs) : wtFs Try.prog (wt Try.prog n) fs.toList cs := by
  unfold wt at h; rw [ht] at h; exact h
theorem wt_slice {n : Nat} {t e : TypeId} {cs : List D} (ht : Try.prog.underlying t = some (.slice e)) (h : wt Try.prog (n + 1) t cs) : ∃ es, cs = [.sl false (Try.prog.cellsOf e) es] ∧ es.length ≤ 9223372036854775807 ∧ ∀ d ∈ es, wt Try.prog n e d.cells ∧ elD Try.prog e d := by
  unfold wt at h; rw [ht] at h; exact h
theorem wt26 {n : Nat} {cs : List D} (h : wt Try.prog (n + 2) 26 cs) : ∃ p : Sp2, cs = [.int .i64 p.1, .int .i64 p.2] ∧ (-9223372036854775808 ≤ p.1 ∧ p.1 ≤ 9223372036854775807) ∧ -9223372036854775808 ≤ p.2 ∧ p.2 ≤ 9223372036854775807 := by
  obtain ⟨a, b, rfl, _, ha, b1, b2, rfl, _, hb, rfl⟩ := wt_struct Try.underlying26 h
  obtain ⟨x, rfl, hx⟩ := wt_int Try.underlying2 ha
  obtain ⟨y, rfl, hy⟩ := wt_int Try.underlying2 hb
  exact ⟨(x, y), rfl, ⟨hx.1, hx.2⟩, hy.1, hy.2⟩
theorem wt28 {n : Nat} {cs : List D} (h : wt Try.prog (n + 3) 28 cs) : ∃ r : R5, cs = [.int .i64 r.1, .int .i64 r.2.1, .bool r.2.2.1, .int .u8 r.2.2.2.1, .int .u8 r.2.2.2.2] := by
  obtain ⟨a, b, rfl, _, ha, b1, b2, rfl, _, hb, c1, c2, rfl, _, hc, d1, d2, rfl, _, hd, rfl⟩ := wt_struct Try.underlying28 h
  obtain ⟨p, rfl, _⟩ := wt26 ha
  obtain ⟨y, rfl⟩ := wt_bool Try.underlying4 hb
  obtain ⟨z, rfl, hz⟩ := wt_int Try.underlying5 hc
  obtain ⟨u, rfl, hu⟩ := wt_int Try.underlying5 hd
  exact ⟨(p.1, p.2, y, z, u), rfl⟩
/-- What is told of a span's ends. -/
def rngR (r : R5) : Prop := -9223372036854775808 ≤ r.1 ∧ r.2.1 ≤ 9223372036854775807
theorem wt28r {n : Nat} {cs : List D} (h : wt Try.prog (n + 3) 28 cs) : ∃ r : R5, cs = [.int .i64 r.1, .int .i64 r.2.1, .bool r.2.2.1, .int .u8 r.2.2.2.1, .int .u8 r.2.2.2.2] ∧ rngR r := by
  obtain ⟨a, b, rfl, _, ha, b1, b2, rfl, _, hb, c1, c2, rfl, _, hc, d1, d2, rfl, _, hd, rfl⟩ := wt_struct Try.underlying28 h
  obtain ⟨p, rfl, h1, h2⟩ := wt26 ha
  obtain ⟨y, rfl⟩ := wt_bool Try.underlying4 hb
  obtain ⟨z, rfl, hz⟩ := wt_int Try.underlying5 hc
  obtain ⟨u, rfl, hu⟩ := wt_int Try.underlying5 hd
  exact ⟨(p.1, p.2, y, z, u), rfl, h1.1, h2.2⟩
theorem exists_map_p {α β : Type} {f : α → β} {p : α → Prop} : ∀ {l : List β}, (∀ d ∈ l, ∃ x, d = f x ∧ p x) → ∃ L : List α, l = L.map f ∧ ∀ x ∈ L, p x
  | [], _ => ⟨[], rfl, by simp⟩
  | d :: l, h => by
    obtain ⟨x, hx, hp⟩ := h d (by simp)
    obtain ⟨L, hL, hq⟩ := exists_map_p fun e he => h e (List.mem_cons_of_mem _ he)
    refine ⟨x :: L, by simp [hx, hL], fun y hy => ?_⟩
    rcases List.mem_cons.1 hy with rfl | hy
    · exact hp
    · exact hq y hy
theorem agg_cells {d : D} {cs : List D} (h : ∃ l, d = .agg l) (hc : d.cells = cs) : d = .agg cs := by
  obtain ⟨l, rfl⟩ := h
  simp [D.cells] at hc
  rw [hc]
theorem wt24 {n : Nat} {cs : List D} (h : wt Try.prog (n + 5) 24 cs) : ∃ (dead : Bool) (L : List R5), cs = [.bool dead, .sl false 5 (L.map enc5)] := by
  obtain ⟨a, b, rfl, _, ha, b1, b2, rfl, _, hb, rfl⟩ := wt_struct Try.underlying24 h
  obtain ⟨x, rfl⟩ := wt_bool Try.underlying4 ha
  obtain ⟨es, rfl, _, hes⟩ := wt_slice Try.underlying22 hb
  obtain ⟨L, rfl⟩ := exists_map (f := enc5) (l := es) fun d hd => by
    obtain ⟨h1, h2⟩ := hes d hd
    obtain ⟨r, hr⟩ := wt28 h1
    have h3 : ∃ l, d = .agg l := by
      unfold elD at h2
      rw [Try.underlying28] at h2
      exact h2
    exact ⟨r, agg_cells h3 hr⟩
  exact ⟨x, L, rfl⟩
theorem wt24r {n : Nat} {cs : List D} (h : wt Try.prog (n + 5) 24 cs) : ∃ (dead : Bool) (L : List R5), cs = [.bool dead, .sl false 5 (L.map enc5)] ∧ ∀ r ∈ L, rngR r := by
  obtain ⟨a, b, rfl, _, ha, b1, b2, rfl, _, hb, rfl⟩ := wt_struct Try.underlying24 h
  obtain ⟨x, rfl⟩ := wt_bool Try.underlying4 ha
  obtain ⟨es, rfl, _, hes⟩ := wt_slice Try.underlying22 hb
  obtain ⟨L, rfl, hL⟩ := exists_map_p (f := enc5) (p := rngR) (l := es) fun d hd => by
    obtain ⟨h1, h2⟩ := hes d hd
    obtain ⟨r, hr, hg⟩ := wt28r h1
    have h3 : ∃ l, d = .agg l := by
      unfold elD at h2
      rw [Try.underlying28] at h2
      exact h2
    exact ⟨r, agg_cells h3 hr, hg⟩
  exact ⟨x, L, rfl, hL⟩
end Go.Proofs.Ytankppgafdcknaa
