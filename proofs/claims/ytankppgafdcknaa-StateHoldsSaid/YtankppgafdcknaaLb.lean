/- Texts joined into one: the first of them is told below. -/
import Derived.Test.YtankppgafdcknaaLa
import Derived.Test.YtankppgafdcknaaWa
/- What joining, widening and comparing of spans and states comes to. -/
set_option linter.unusedVariables false
set_option linter.unusedSimpArgs false
set_option maxRecDepth 100000
open Go Go.AM
namespace Go.Proofs.Ytankppgafdcknaa

def join2 (a b : Sp2) : Sp2 := if empty2 a then (if empty2 b then (1, 0) else b) else if empty2 b then a else (if b.1 < a.1 then b.1 else a.1, if b.2 > a.2 then b.2 else a.2)
theorem t72 (lo hi : Int) (Q : Sp2 → Prop) : F72 lo hi Q = Q (if empty2 (lo, hi) then (1, 0) else (lo, hi)) := by
  unfold F72 empty2
  by_cases h : lo > hi <;> simp [h, t47]
theorem t64 (a b : Sp2) (Q : Sp2 → Prop) : F64 a b Q = Q (join2 a b) := by
  obtain ⟨a1, a2⟩ := a
  obtain ⟨b1, b2⟩ := b
  unfold F64 join2
  simp only [t18, t72]
  cases h1 : empty2 (a1, a2) <;> cases h2 : empty2 (b1, b2) <;> simp
def in2 (a b : Sp2) : Bool := empty2 a || (decide (b.1 ≤ a.1) && decide (a.2 ≤ b.2))
theorem t67 (a b : Sp2) (Q : Bool → Prop) : F67 a b Q = Q (in2 a b) := by
  obtain ⟨a1, a2⟩ := a
  obtain ⟨b1, b2⟩ := b
  unfold F67 in2
  simp only [t18]
  cases h1 : empty2 (a1, a2) with
  | true => simp
  | false => by_cases h : b1 ≤ a1 <;> simp [h]
def allIn (xs ys : List Sp2) : Bool := xs.length == ys.length && (List.range xs.length).all fun j => in2 (xs.getD j (0, 0)) (ys.getD j (0, 0))
theorem t66 (xs ys : List Sp2) (hx : xs.length ≤ 9223372036854775806) (Q : Bool → Prop) (h : Q (allIn xs ys)) : F66 (xs.map enc2) (ys.map enc2) () Q := by
  rw [F66_un]
  unfold F66u
  by_cases hl : xs.length = ys.length
  · have : ((↑(List.length (xs.map enc2)) : Int) != (↑(List.length (ys.map enc2)) : Int)) = false := by simp [hl]
    rw [this]
    show L66_1 (xs.map enc2) (ys.map enc2) Q 0
    unfold L66_1
    refine loop_rule (E66_1 (xs.map enc2) (ys.map enc2)) (H66_1 (xs.map enc2) (ys.map enc2)) _ (fun i => 0 ≤ i ∧ i ≤ xs.length ∧ (∀ j, j < i.toNat → in2 (xs.getD j (0, 0)) (ys.getD j (0, 0)) = true)) (fun i => xs.length - i.toNat) ?_ 0 ⟨by omega, by omega, by simp⟩
    intro n i ⟨h0, h1, h2⟩ ih
    rw [B66_1_eq _ _ ()]
    unfold B66_1
    simp only [List.length_map]
    by_cases hi : i < xs.length
    · have hx' : i.toNat < xs.length := by omega
      have hy' : i.toNat < ys.length := by omega
      rw [wrap_i64 (by omega) (by omega)]
      simp only [hi, decide_true, cond_true, List.getElem?_map, List.getElem?_eq_getElem hx', List.getElem?_eq_getElem hy', Option.map_some, optP_some, asAgg_enc2, asInt_int, h0, true_and, t67]
      have hgx : xs.getD i.toNat (0, 0) = xs[i.toNat] := by simp [List.getD_eq_getElem?_getD, hx']
      have hgy : ys.getD i.toNat (0, 0) = ys[i.toNat] := by simp [List.getD_eq_getElem?_getD, hy']
      cases he : in2 xs[i.toNat] ys[i.toNat] with
      | true =>
        have he' : in2 (xs[i.toNat].1, xs[i.toNat].2) (ys[i.toNat].1, ys[i.toNat].2) = true := he
        simp only [he', Bool.not_true, cond_false]
        refine ⟨by decide, by decide, ih (i + 1) ⟨by omega, by omega, fun j hj => ?_⟩ (by omega)⟩
        by_cases hji : j < i.toNat
        · exact h2 j hji
        · have : j = i.toNat := by omega
          subst this
          rw [hgx, hgy]
          exact he
      | false =>
        have he' : in2 (xs[i.toNat].1, xs[i.toNat].2) (ys[i.toNat].1, ys[i.toNat].2) = false := he
        simp only [he', Bool.not_false, cond_true]
        have hf : allIn xs ys = false := by
          apply Bool.eq_false_iff.2
          intro hc
          simp only [allIn, Bool.and_eq_true, List.all_eq_true] at hc
          have := hc.2 i.toNat (by simpa using hx')
          rw [hgx, hgy, he] at this
          cases this
        rw [hf] at h
        exact ⟨by decide, by decide, h⟩
    · have hin : i.toNat = xs.length := by omega
      simp only [hi, decide_false, cond_false]
      have ht : allIn xs ys = true := by
        simp only [allIn, Bool.and_eq_true, List.all_eq_true, beq_iff_eq]
        exact ⟨hl, fun j hj => h2 j (by rw [hin]; simpa using hj)⟩
      rw [ht] at h
      exact h
  · have : ((↑(List.length (xs.map enc2)) : Int) != (↑(List.length (ys.map enc2)) : Int)) = true := by simp; omega
    rw [this]
    have hf : allIn xs ys = false := by simp [allIn, hl]
    rw [hf] at h
    exact h
theorem t46 (a b : Bool) (xs ys : List Sp2) (hx : xs.length ≤ 9223372036854775806) (Q : Bool → Prop) (h : Q (!a || (b && allIn xs ys))) : F46 (a, xs.map enc2) (b, ys.map enc2) Q := by
  rw [F46_un]
  unfold F46u
  cases a with
  | false => exact h
  | true =>
    cases b with
    | false => exact h
    | true => exact t66 xs ys hx _ h
def mixG (f : Sp2 → Sp2 → Sp2) (xs ys : List Sp2) (i : Nat) : List Sp2 := (List.range xs.length).map fun j => if j < i then f (xs.getD j (0, 0)) (ys.getD j (0, 0)) else xs.getD j (0, 0)
theorem mixG_len (f : Sp2 → Sp2 → Sp2) (xs ys : List Sp2) (i : Nat) : (mixG f xs ys i).length = xs.length := by simp [mixG]
theorem mixG_zero (f : Sp2 → Sp2 → Sp2) (xs ys : List Sp2) : mixG f xs ys 0 = xs := by
  apply List.ext_getElem?
  intro j
  rcases Nat.lt_or_ge j xs.length with h | h
  · simp [mixG, h, List.getD_eq_getElem?_getD]
  · rw [List.getElem?_eq_none (by simpa [mixG_len] using h), List.getElem?_eq_none h]
theorem mixG_set (f : Sp2 → Sp2 → Sp2) (xs ys : List Sp2) {i : Nat} (h : i < xs.length) : (mixG f xs ys i).set i (f (xs.getD i (0, 0)) (ys.getD i (0, 0))) = mixG f xs ys (i + 1) := by
  apply List.ext_getElem?
  intro j
  rcases Nat.lt_or_ge j xs.length with hj | hj
  · by_cases hij : i = j
    · subst hij
      rw [List.getElem?_set_self (by simpa [mixG_len] using h)]
      simp [mixG, h]
    · rw [List.getElem?_set_ne hij]
      have : (j < i) ↔ (j < i + 1) := by omega
      simp [mixG, hj, this]
  · rw [List.getElem?_eq_none (by simpa [mixG_len] using hj), List.getElem?_eq_none (by simpa [mixG_len] using hj)]
def both2 (f : Sp2 → Sp2 → Sp2) (a b : Bool) (xs ys : List Sp2) : Bool × List D := if a then (if b then (true, (mixG f xs ys xs.length).map enc2) else (true, xs.map enc2)) else (b, ys.map enc2)

theorem t63_64 (a b : Bool) (xs ys : List Sp2) (hl : xs.length = ys.length) (hn : xs.length ≤ 8796093022208)  (Q : Bool × List D → Prop)
    (h : Q (both2 join2 a b xs ys)) : F63_64 (a, xs.map enc2) (b, ys.map enc2) () Q := by
  rw [F63_64_un]
  unfold F63_64u
  unfold both2 at h
  cases a with
  | false => exact ⟨by decide, h⟩
  | true =>
    cases b with
    | false => exact ⟨by decide, h⟩
    | true =>
      refine ⟨cloneCond_enc xs hn, by decide, ?_⟩
      unfold L63_64_1
      refine loop_rule (E63_64_1 (true, xs.map enc2) (true, ys.map enc2) ()) (H63_64_1 (true, xs.map enc2) (true, ys.map enc2) ()) _
        (fun s => 0 ≤ s.1 ∧ s.1 ≤ xs.length ∧ s.2 = (mixG join2 xs ys s.1.toNat).map enc2) (fun s => xs.length - s.1.toNat) ?_ (0, xs.map enc2) ⟨by simp, by simp, by simp [mixG_zero]⟩
      intro n s ⟨h0, h1, h2⟩ ih
      obtain ⟨i, v⟩ := s
      simp only at h0 h1 h2
      subst h2
      rw [B63_64_1_eq]
      unfold B63_64_1
      have hmin : (if ((↑(List.length (ys.map enc2)) : Int) < (↑(List.length (xs.map enc2)) : Int)) then (↑(List.length (ys.map enc2)) : Int) else (↑(List.length (xs.map enc2)) : Int)) = xs.length := by
        simp [hl]
      simp only [hmin]
      by_cases hi : i < xs.length
      · have hx : i.toNat < xs.length := by omega
        have hy : i.toNat < ys.length := by omega
        simp only [hi, decide_true, cond_true, List.getElem?_map, List.getElem?_eq_getElem hx, List.getElem?_eq_getElem hy, Option.map_some, optP_some, asAgg_enc2, asInt_int, h0, true_and, Nat.zero_add]
        refine (t64 xs[i.toNat] ys[i.toNat] _).mpr ?_
        rw [wrap_i64 (by omega) (by omega)]
        refine ⟨by simpa using hx, by simpa [mixG_len] using hx, ih (i + 1, _) ⟨by simp; omega, by simp; omega, ?_⟩ (by simp; omega)⟩
        simp only
        rw [show (i + 1).toNat = i.toNat + 1 by omega, ← mixG_set join2 xs ys hx, List.map_set]
        simp [List.getD_eq_getElem?_getD, hx, hy, enc2]
      · have hin : i.toNat = xs.length := by omega
        simp only [hi, decide_false, cond_false, List.drop_zero]
        refine ⟨by decide, ?_⟩
        rw [hin]
        have : List.take (List.length (xs.map enc2)) ((mixG join2 xs ys xs.length).map enc2) = (mixG join2 xs ys xs.length).map enc2 := by
          apply List.take_of_length_le
          simp [mixG_len]
        rw [this]
        exact h

theorem t41 (a b : Bool) (xs ys : List Sp2) (hl : a = true → b = true → xs.length = ys.length) (hn : xs.length ≤ 8796093022208) (Q : Bool × List D → Prop)
    (h : Q (both2 join2 a b xs ys)) : F41 (a, xs.map enc2) (b, ys.map enc2) Q := by
  rw [F41_un]
  unfold F41u
  by_cases hc : a = true ∧ b = true
  · exact t63_64 a b xs ys (hl hc.1 hc.2) hn _ ⟨by decide, h⟩
  · rw [F63_64_un]
    unfold F63_64u
    unfold both2 at h
    cases a with
    | false => exact ⟨by decide, by decide, h⟩
    | true =>
      cases b with
      | false => exact ⟨by decide, by decide, h⟩
      | true => exact absurd ⟨rfl, rfl⟩ hc
end Go.Proofs.Ytankppgafdcknaa

/- What widening of spans comes to. -/
set_option linter.unusedVariables false
set_option linter.unusedSimpArgs false
set_option maxRecDepth 100000
open Go Go.AM
namespace Go.Proofs.Ytankppgafdcknaa

def idxFrom (f : Int → Bool) : List Int → Int → Int
  | [], _ => -1
  | z :: zs, i => if f z then i else idxFrom f zs (i + 1)
theorem idx_cons (f : Int → Bool) (z : Int) (zs : List Int) (i : Int) : idxFrom f (z :: zs) i = if f z then i else idxFrom f zs (i + 1) := rfl
theorem idx_nil (f : Int → Bool) (i : Int) : idxFrom f [] i = -1 := rfl
theorem t71_73 (zs : List Int) (b : Sp2) (hl : zs.length ≤ 1000) (Q : Int → Prop) (h : Q (idxFrom (fun z => decide (z ≤ b.1)) zs 0)) : F71_73 (zs.map (D.int .i64)) b Q := by
  rw [F71_73_un]
  unfold F71_73u
  unfold L71_73_1
  refine loop_rule (E71_73_1 (zs.map (D.int .i64)) b) (H71_73_1 (zs.map (D.int .i64)) b) _ (fun i => 0 ≤ i ∧ i ≤ zs.length ∧ idxFrom (fun z => decide (z ≤ b.1)) (zs.drop i.toNat) i = idxFrom (fun z => decide (z ≤ b.1)) zs 0) (fun i => zs.length - i.toNat) ?_ 0 ⟨by omega, by omega, by simp⟩
  intro n i ⟨h0, h1, h2⟩ ih
  rw [B71_73_1_eq]
  unfold B71_73_1
  simp only [List.length_map]
  by_cases hi : i < zs.length
  · have hx : i.toNat < zs.length := by omega
    rw [wrap_i64 (by omega) (by omega)]
    simp only [hi, decide_true, cond_true, List.getElem?_map, List.getElem?_eq_getElem hx, Option.map_some, optP_some, asInt_int, h0, true_and, F73]
    rw [List.drop_eq_getElem_cons hx, idx_cons] at h2
    cases hz : decide (zs[i.toNat] ≤ b.1) with
    | true =>
      simp only [hz, if_true] at h2
      simp only [cond_true]
      rw [h2]
      exact h
    | false =>
      simp only [hz, Bool.false_eq_true, if_false] at h2
      simp only [cond_false]
      refine ih (i + 1) ⟨by omega, by omega, ?_⟩ (by omega)
      rw [show (i + 1).toNat = i.toNat + 1 by omega]
      exact h2
  · have hin : i.toNat = zs.length := by omega
    simp only [hi, decide_false, cond_false]
    rw [hin, List.drop_length, idx_nil] at h2
    rw [h2]
    exact h
theorem t71_74 (zs : List Int) (b : Sp2) (hl : zs.length ≤ 1000) (Q : Int → Prop) (h : Q (idxFrom (fun z => decide (z ≥ b.2)) zs 0)) : F71_74 (zs.map (D.int .i64)) b Q := by
  rw [F71_74_un]
  unfold F71_74u
  unfold L71_74_1
  refine loop_rule (E71_74_1 (zs.map (D.int .i64)) b) (H71_74_1 (zs.map (D.int .i64)) b) _ (fun i => 0 ≤ i ∧ i ≤ zs.length ∧ idxFrom (fun z => decide (z ≥ b.2)) (zs.drop i.toNat) i = idxFrom (fun z => decide (z ≥ b.2)) zs 0) (fun i => zs.length - i.toNat) ?_ 0 ⟨by omega, by omega, by simp⟩
  intro n i ⟨h0, h1, h2⟩ ih
  rw [B71_74_1_eq]
  unfold B71_74_1
  simp only [List.length_map]
  by_cases hi : i < zs.length
  · have hx : i.toNat < zs.length := by omega
    rw [wrap_i64 (by omega) (by omega)]
    simp only [hi, decide_true, cond_true, List.getElem?_map, List.getElem?_eq_getElem hx, Option.map_some, optP_some, asInt_int, h0, true_and, F74]
    rw [List.drop_eq_getElem_cons hx, idx_cons] at h2
    cases hz : decide (zs[i.toNat] ≥ b.2) with
    | true =>
      simp only [hz, if_true] at h2
      simp only [cond_true]
      rw [h2]
      exact h
    | false =>
      simp only [hz, Bool.false_eq_true, if_false] at h2
      simp only [cond_false]
      refine ih (i + 1) ⟨by omega, by omega, ?_⟩ (by omega)
      rw [show (i + 1).toNat = i.toNat + 1 by omega]
      exact h2
  · have hin : i.toNat = zs.length := by omega
    simp only [hi, decide_false, cond_false]
    rw [hin, List.drop_length, idx_nil] at h2
    rw [h2]
    exact h
def lows : List Int := [1, 0, -1, -64, -1024, -65536, -9223372036854775808]
def highs : List Int := [-1, 0, 1, 64, 1024, 65536, 9223372036854775807]
def lowOf (n : Int) : Int := if 1 ≤ n then 1 else if 0 ≤ n then 0 else if -1 ≤ n then -1 else if -64 ≤ n then -64 else if -1024 ≤ n then -1024 else if -65536 ≤ n then -65536 else -9223372036854775808
def highOf (n : Int) : Int := if -1 ≥ n then -1 else if 0 ≥ n then 0 else if 1 ≥ n then 1 else if 64 ≥ n then 64 else if 1024 ≥ n then 1024 else if 65536 ≥ n then 65536 else 9223372036854775807
theorem low_idx (n : Int) (h : -9223372036854775808 ≤ n) : ∃ i : Nat, idxFrom (fun z => decide (z ≤ n)) lows 0 = (i : Int) ∧ lows[i]? = some (lowOf n) := by
  unfold lows lowOf
  simp only [idxFrom, decide_eq_true_eq]
  by_cases h1 : 1 ≤ n
  · exact ⟨0, by simp [h1], by simp [h1]⟩
  by_cases h2 : 0 ≤ n
  · exact ⟨1, by simp [h1, h2], by simp [h1, h2]⟩
  by_cases h3 : -1 ≤ n
  · exact ⟨2, by simp [h1, h2, h3], by simp [h1, h2, h3]⟩
  by_cases h4 : -64 ≤ n
  · exact ⟨3, by simp [h1, h2, h3, h4], by simp [h1, h2, h3, h4]⟩
  by_cases h5 : -1024 ≤ n
  · exact ⟨4, by simp [h1, h2, h3, h4, h5], by simp [h1, h2, h3, h4, h5]⟩
  by_cases h6 : -65536 ≤ n
  · exact ⟨5, by simp [h1, h2, h3, h4, h5, h6], by simp [h1, h2, h3, h4, h5, h6]⟩
  · exact ⟨6, by simp [h1, h2, h3, h4, h5, h6, h], by simp [h1, h2, h3, h4, h5, h6]⟩
theorem high_idx (n : Int) (h : n ≤ 9223372036854775807) : ∃ i : Nat, idxFrom (fun z => decide (z ≥ n)) highs 0 = (i : Int) ∧ highs[i]? = some (highOf n) := by
  unfold highs highOf
  simp only [idxFrom, decide_eq_true_eq]
  by_cases h1 : -1 ≥ n
  · exact ⟨0, by simp [h1], by simp [h1]⟩
  by_cases h2 : 0 ≥ n
  · exact ⟨1, by simp [h1, h2], by simp [h1, h2]⟩
  by_cases h3 : 1 ≥ n
  · exact ⟨2, by simp [h1, h2, h3], by simp [h1, h2, h3]⟩
  by_cases h4 : 64 ≥ n
  · exact ⟨3, by simp [h1, h2, h3, h4], by simp [h1, h2, h3, h4]⟩
  by_cases h5 : 1024 ≥ n
  · exact ⟨4, by simp [h1, h2, h3, h4, h5], by simp [h1, h2, h3, h4, h5]⟩
  by_cases h6 : 65536 ≥ n
  · exact ⟨5, by simp [h1, h2, h3, h4, h5, h6], by simp [h1, h2, h3, h4, h5, h6]⟩
  · exact ⟨6, by simp [h1, h2, h3, h4, h5, h6, h], by simp [h1, h2, h3, h4, h5, h6]⟩
def wid2 (a b : Sp2) : Sp2 := if empty2 a || in2 b a then join2 a b else (if b.1 < a.1 then lowOf b.1 else a.1, if b.2 > a.2 then highOf b.2 else a.2)
theorem t65 (a b : Sp2) (h1 : -9223372036854775808 ≤ b.1) (h2 : b.2 ≤ 9223372036854775807) (Q : Sp2 → Prop) (h : Q (wid2 a b)) : F65 a b Q := by
  obtain ⟨a1, a2⟩ := a
  obtain ⟨b1, b2⟩ := b
  simp only at h1 h2
  rw [F65_un]
  unfold F65u
  unfold wid2 at h
  simp only [t18, t64, t67]
  cases he : empty2 (a1, a2) with
  | true =>
    rw [he] at h
    simp only [cond_true]
    exact ⟨by decide, by simpa using h⟩
  | false =>
    rw [he] at h
    simp only [cond_false]
    cases hi : in2 (b1, b2) (a1, a2) with
    | true =>
      rw [hi] at h
      simp only [cond_true]
      exact ⟨by decide, by simpa using h⟩
    | false =>
      rw [hi] at h
      simp only [Bool.or_self, Bool.false_eq_true, if_false] at h
      simp only [cond_false]
      obtain ⟨i, hi1, hi2⟩ := low_idx b1 h1
      obtain ⟨j, hj1, hj2⟩ := high_idx b2 h2
      have hi3 : (lows.map (D.int .i64))[i]? = some (.int .i64 (lowOf b1)) := by rw [List.getElem?_map, hi2]; rfl
      have hj3 : (highs.map (D.int .i64))[j]? = some (.int .i64 (highOf b2)) := by rw [List.getElem?_map, hj2]; rfl
      by_cases hlo : b1 < a1
      · simp only [hlo, decide_true, cond_true, if_true] at h ⊢
        refine t71_73 lows (b1, b2) (by decide) _ ?_
        rw [hi1]
        refine ⟨by omega, ?_⟩
        have hi4 : (lows.map (D.int .i64))[((i : Nat) : Int).toNat]? = some (.int .i64 (lowOf b1)) := hi3
        show optP ((lows.map (D.int .i64))[((i : Nat) : Int).toNat]?) _
        rw [hi4]
        simp only [optP_some, asInt_int]
        refine ⟨by simp, by simp, ?_⟩
        by_cases hhi : b2 > a2
        · simp only [hhi, decide_true, cond_true, if_true] at h ⊢
          refine t71_74 highs (b1, b2) (by decide) _ ?_
          rw [hj1]
          refine ⟨by omega, ?_⟩
          have hj4 : (highs.map (D.int .i64))[((j : Nat) : Int).toNat]? = some (.int .i64 (highOf b2)) := hj3
          show optP ((highs.map (D.int .i64))[((j : Nat) : Int).toNat]?) _
          rw [hj4]
          simp only [optP_some, asInt_int]
          exact ⟨by simp, by simp, by decide, h⟩
        · simp only [hhi, decide_false, cond_false, if_false] at h ⊢
          exact ⟨by decide, h⟩
      · simp only [hlo, decide_false, cond_false, if_false] at h ⊢
        by_cases hhi : b2 > a2
        · simp only [hhi, decide_true, cond_true, if_true] at h ⊢
          refine t71_74 highs (b1, b2) (by decide) _ ?_
          rw [hj1]
          refine ⟨by omega, ?_⟩
          have hj4 : (highs.map (D.int .i64))[((j : Nat) : Int).toNat]? = some (.int .i64 (highOf b2)) := hj3
          show optP ((highs.map (D.int .i64))[((j : Nat) : Int).toNat]?) _
          rw [hj4]
          simp only [optP_some, asInt_int]
          exact ⟨by simp, by simp, by decide, h⟩
        · simp only [hhi, decide_false, cond_false, if_false] at h ⊢
          exact ⟨by decide, h⟩
end Go.Proofs.Ytankppgafdcknaa

/- What widening of states comes to. -/
set_option linter.unusedVariables false
set_option linter.unusedSimpArgs false
set_option maxRecDepth 100000
open Go Go.AM
namespace Go.Proofs.Ytankppgafdcknaa

theorem t63_65 (a b : Bool) (xs ys : List Sp2) (hl : xs.length = ys.length) (hn : xs.length ≤ 8796093022208) (hr : ∀ y ∈ ys, -9223372036854775808 ≤ y.1 ∧ y.2 ≤ 9223372036854775807) (Q : Bool × List D → Prop)
    (h : Q (both2 wid2 a b xs ys)) : F63_65 (a, xs.map enc2) (b, ys.map enc2) () Q := by
  rw [F63_65_un]
  unfold F63_65u
  unfold both2 at h
  cases a with
  | false => exact ⟨by decide, h⟩
  | true =>
    cases b with
    | false => exact ⟨by decide, h⟩
    | true =>
      refine ⟨cloneCond_enc xs hn, by decide, ?_⟩
      unfold L63_65_1
      refine loop_rule (E63_65_1 (true, xs.map enc2) (true, ys.map enc2) ()) (H63_65_1 (true, xs.map enc2) (true, ys.map enc2) ()) _
        (fun s => 0 ≤ s.1 ∧ s.1 ≤ xs.length ∧ s.2 = (mixG wid2 xs ys s.1.toNat).map enc2) (fun s => xs.length - s.1.toNat) ?_ (0, xs.map enc2) ⟨by simp, by simp, by simp [mixG_zero]⟩
      intro n s ⟨h0, h1, h2⟩ ih
      obtain ⟨i, v⟩ := s
      simp only at h0 h1 h2
      subst h2
      rw [B63_65_1_eq]
      unfold B63_65_1
      have hmin : (if ((↑(List.length (ys.map enc2)) : Int) < (↑(List.length (xs.map enc2)) : Int)) then (↑(List.length (ys.map enc2)) : Int) else (↑(List.length (xs.map enc2)) : Int)) = xs.length := by
        simp [hl]
      simp only [hmin]
      by_cases hi : i < xs.length
      · have hx : i.toNat < xs.length := by omega
        have hy : i.toNat < ys.length := by omega
        simp only [hi, decide_true, cond_true, List.getElem?_map, List.getElem?_eq_getElem hx, List.getElem?_eq_getElem hy, Option.map_some, optP_some, asAgg_enc2, asInt_int, h0, true_and, Nat.zero_add]
        refine t65 xs[i.toNat] ys[i.toNat] (hr _ (List.getElem_mem hy)).1 (hr _ (List.getElem_mem hy)).2 _ ?_
        rw [wrap_i64 (by omega) (by omega)]
        refine ⟨by simpa using hx, by simpa [mixG_len] using hx, ih (i + 1, _) ⟨by simp; omega, by simp; omega, ?_⟩ (by simp; omega)⟩
        simp only
        rw [show (i + 1).toNat = i.toNat + 1 by omega, ← mixG_set wid2 xs ys hx, List.map_set]
        simp [List.getD_eq_getElem?_getD, hx, hy, enc2]
      · have hin : i.toNat = xs.length := by omega
        simp only [hi, decide_false, cond_false, List.drop_zero]
        refine ⟨by decide, ?_⟩
        rw [hin]
        have : List.take (List.length (xs.map enc2)) ((mixG wid2 xs ys xs.length).map enc2) = (mixG wid2 xs ys xs.length).map enc2 := by
          apply List.take_of_length_le
          simp [mixG_len]
        rw [this]
        exact h

theorem t42 (a b : Bool) (xs ys : List Sp2) (hl : a = true → b = true → xs.length = ys.length) (hn : xs.length ≤ 8796093022208) (hr : ∀ y ∈ ys, -9223372036854775808 ≤ y.1 ∧ y.2 ≤ 9223372036854775807) (Q : Bool × List D → Prop)
    (h : Q (both2 wid2 a b xs ys)) : F42 (a, xs.map enc2) (b, ys.map enc2) Q := by
  rw [F42_un]
  unfold F42u
  by_cases hc : a = true ∧ b = true
  · exact t63_65 a b xs ys (hl hc.1 hc.2) hn hr _ ⟨by decide, h⟩
  · rw [F63_65_un]
    unfold F63_65u
    unfold both2 at h
    cases a with
    | false => exact ⟨by decide, by decide, h⟩
    | true =>
      cases b with
      | false => exact ⟨by decide, by decide, h⟩
      | true => exact absurd ⟨rfl, rfl⟩ hc
end Go.Proofs.Ytankppgafdcknaa
