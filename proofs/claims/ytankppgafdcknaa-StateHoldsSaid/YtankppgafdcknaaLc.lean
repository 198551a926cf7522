/- Texts joined into one: the first of them is told below. -/
import Derived.Test.YtankppgafdcknaaLa
import Derived.Test.YtankppgafdcknaaLb
import Derived.Test.YtankppgafdcknaaWd
import Derived.Test.YtankppgafdcknaaWa
/- A state is in itself, and in what it is joined with; it is in another one just if joined with that it is that: of the walk of StateOrder. -/
set_option linter.unusedVariables false
set_option linter.unusedSimpArgs false
set_option maxRecDepth 100000
open Go Go.AM
namespace Go.Proofs.Ytankppgafdcknaa

theorem getD_mix (f : Sp2 → Sp2 → Sp2) (xs ys : List Sp2) {j : Nat} (hj : j < xs.length) : (mixG f xs ys xs.length).getD j (0, 0) = f (xs.getD j (0, 0)) (ys.getD j (0, 0)) := by
  simp [mixG, List.getD_eq_getElem?_getD, hj]
theorem allIn_of {xs ys : List Sp2} (hl : xs.length = ys.length) (h : ∀ j, j < xs.length → in2 (xs.getD j (0, 0)) (ys.getD j (0, 0)) = true) : allIn xs ys = true := by
  simp only [allIn, Bool.and_eq_true, List.all_eq_true, beq_iff_eq]
  exact ⟨hl, fun j hj => h j (by simpa using hj)⟩
theorem eq_of_getD {xs ys : List Sp2} (hl : xs.length = ys.length) (h : ∀ j, j < xs.length → xs.getD j (0, 0) = ys.getD j (0, 0)) : xs = ys := by
  apply List.ext_getElem hl
  intro j h1 h2
  have := h j h1
  simpa [List.getD_eq_getElem?_getD, h1, h2] using this
theorem empty_false {p : Sp2} : empty2 p = false ↔ p.1 ≤ p.2 := by
  simp [empty2]
theorem join_ne {a b : Sp2} (ha : empty2 a = false) (hb : empty2 b = false) : join2 a b = (if b.1 < a.1 then b.1 else a.1, if b.2 > a.2 then b.2 else a.2) := by
  simp [join2, ha, hb]
theorem in_iff {a b : Sp2} (ha : empty2 a = false) : in2 a b = true ↔ b.1 ≤ a.1 ∧ a.2 ≤ b.2 := by
  simp [in2, ha]
theorem in_refl (a : Sp2) : in2 a a = true := by simp [in2]
theorem in_join {a b : Sp2} (ha : empty2 a = false) (hb : empty2 b = false) : in2 a (join2 a b) = true := by
  rw [in_iff ha, join_ne ha hb]
  simp only
  constructor <;> split <;> omega
theorem in_join' {a b : Sp2} (ha : empty2 a = false) (hb : empty2 b = false) : in2 b (join2 a b) = true := by
  rw [in_iff hb, join_ne ha hb]
  simp only
  constructor <;> split <;> omega
theorem join_comm {a b : Sp2} (ha : empty2 a = false) (hb : empty2 b = false) : join2 a b = join2 b a := by
  rw [join_ne ha hb, join_ne hb ha]
  apply Prod.ext
  · simp only; split <;> split <;> omega
  · simp only; split <;> split <;> omega
theorem in_eq {a b : Sp2} (ha : empty2 a = false) (hb : empty2 b = false) : in2 a b = true ↔ join2 a b = b := by
  rw [in_iff ha, join_ne ha hb]
  constructor
  · intro ⟨h1, h2⟩
    apply Prod.ext
    · simp only; split <;> omega
    · simp only; split <;> omega
  · intro h
    have h1 := congrArg Prod.fst h
    have h2 := congrArg Prod.snd h
    simp only at h1 h2
    constructor
    · split at h1 <;> omega
    · split at h2 <;> omega
theorem lowOf_le {n : Int} (h : -9223372036854775808 ≤ n) : lowOf n ≤ n := by
  unfold lowOf
  repeat (first | omega | split)
theorem highOf_ge {n : Int} (h : n ≤ 9223372036854775807) : n ≤ highOf n := by
  unfold highOf
  repeat (first | omega | split)
theorem join_wid {a b : Sp2} (ha : empty2 a = false) (hb : empty2 b = false) (h1 : -9223372036854775808 ≤ b.1) (h2 : b.2 ≤ 9223372036854775807) : in2 (join2 a b) (wid2 a b) = true := by
  unfold wid2
  rw [ha]
  cases hi : in2 b a with
  | true => simpa using in_refl (join2 a b)
  | false =>
    have hj : empty2 (join2 a b) = false := by
      rw [join_ne ha hb, empty_false]
      rw [empty_false] at ha hb
      simp only
      split <;> split <;> omega
    have := lowOf_le h1
    have := highOf_ge h2
    simp only [Bool.or_self, Bool.false_eq_true, if_false]
    rw [in_iff hj, join_ne ha hb]
    simp only
    constructor
    · split <;> omega
    · split <;> omega
theorem wrap_rng (n : Int) : -9223372036854775808 ≤ IntKind.i64.wrap n ∧ IntKind.i64.wrap n ≤ 9223372036854775807 := by
  simp [IntKind.wrap, IntKind.bits, IntKind.signed]
  omega
theorem spanR_rng {r : R5} (h : rngR r) : -9223372036854775808 ≤ (spanR r).1 ∧ (spanR r).2 ≤ 9223372036854775807 := by
  unfold spanR
  split
  · split
    · exact ⟨by simp, (wrap_rng _).2⟩
    · split
      · exact ⟨(wrap_rng _).1, by simp⟩
      · split
        · exact ⟨by simp, (wrap_rng _).2⟩
        · exact ⟨(wrap_rng _).1, (wrap_rng _).2⟩
  · exact h
theorem tidyAt_ne (L : List R5) (i : Nat) : empty2 (tidyAt L i) = false := by
  unfold tidyAt
  split
  · split
    · simp [empty2]
    · rename_i h; simpa using h
  · simp [empty2]
theorem tidyAt_rng {L : List R5} (hL : ∀ r ∈ L, rngR r) {i : Nat} (hi : i ≤ 1000) : -9223372036854775808 ≤ (tidyAt L i).1 ∧ (tidyAt L i).2 ≤ 9223372036854775807 := by
  unfold tidyAt
  split
  · rename_i r hr
    split
    · constructor <;> simp only <;> omega
    · exact spanR_rng (hL r (List.mem_of_getElem? hr))
  · constructor <;> simp only <;> omega
theorem law13 (d1 d2 : Bool) (L1 L2 : List R5) (hL2 : ∀ r ∈ L2, rngR r) (Q : Bool → Prop) (hQ : Q true) : F13 (d1, L1.map enc5) (d2, L2.map enc5) Q := by
  unfold F13
  have hx : (tidyS L1 4).length = 4 := tidyS_len L1 4
  have hy : (tidyS L2 4).length = 4 := tidyS_len L2 4
  have nx : ∀ j, j < 4 → empty2 ((tidyS L1 4).getD j (0, 0)) = false := fun j hj => by
    rw [List.getD_eq_getElem?_getD, tidyS_get L1 4 j hj]
    exact tidyAt_ne L1 j
  have ny : ∀ j, j < 4 → empty2 ((tidyS L2 4).getD j (0, 0)) = false := fun j hj => by
    rw [List.getD_eq_getElem?_getD, tidyS_get L2 4 j hj]
    exact tidyAt_ne L2 j
  have ry : ∀ j, j < 4 → -9223372036854775808 ≤ ((tidyS L2 4).getD j (0, 0)).1 ∧ ((tidyS L2 4).getD j (0, 0)).2 ≤ 9223372036854775807 := fun j hj => by
    rw [List.getD_eq_getElem?_getD, tidyS_get L2 4 j hj]
    exact tidyAt_rng hL2 (by omega)
  have my : ∀ y ∈ tidyS L2 4, -9223372036854775808 ≤ y.1 ∧ y.2 ≤ 9223372036854775807 := fun y hy' => by
    unfold tidyS at hy'
    obtain ⟨j, hj, rfl⟩ := List.mem_map.1 hy'
    exact tidyAt_rng hL2 (by have := List.mem_range.1 hj; omega)
  refine t15 d1 L1 4 (by decide) (by decide) _ ⟨by decide, t15 d2 L2 4 (by decide) (by decide) _ ?_⟩
  have ea : tidyS L1 (4 : Int).toNat = tidyS L1 4 := rfl
  have eb : tidyS L2 (4 : Int).toNat = tidyS L2 4 := rfl
  rw [ea, eb]
  generalize tidyS L1 4 = xs at hx nx
  generalize tidyS L2 4 = ys at hy ny ry my
  have hxy : xs.length = ys.length := by omega
  have hJ : (mixG join2 xs ys xs.length).length = xs.length := mixG_len _ _ _ _
  have hW : (mixG wid2 xs ys xs.length).length = xs.length := mixG_len _ _ _ _
  refine ⟨by decide, t41 true true xs ys (fun _ _ => hxy) (by omega) _ ⟨by decide, t42 true true xs ys (fun _ _ => hxy) (by omega) my _ ⟨by decide, ?_⟩⟩⟩
  simp only [both2, if_true]
  refine t46 true true xs xs (by omega) _ ?_
  have p1 : allIn xs xs = true := allIn_of rfl fun j hj => in_refl _
  rw [p1]
  refine t46 true true xs (mixG join2 xs ys xs.length) (by omega) _ ?_
  have p2 : allIn xs (mixG join2 xs ys xs.length) = true := allIn_of hJ.symm fun j hj => by
    rw [getD_mix _ _ _ hj]
    exact in_join (nx j (by omega)) (ny j (by omega))
  rw [p2]
  refine t46 true true ys (mixG join2 xs ys xs.length) (by omega) _ ?_
  have p3 : allIn ys (mixG join2 xs ys xs.length) = true := allIn_of (by omega) fun j hj => by
    rw [getD_mix _ _ _ (by omega)]
    exact in_join' (nx j (by omega)) (ny j (by omega))
  rw [p3]
  refine t46 true true (mixG join2 xs ys xs.length) (mixG wid2 xs ys xs.length) (by omega) _ ?_
  have p4 : allIn (mixG join2 xs ys xs.length) (mixG wid2 xs ys xs.length) = true := allIn_of (by omega) fun j hj => by
    rw [getD_mix _ _ _ (by omega), getD_mix _ _ _ (by omega)]
    exact join_wid (nx j (by omega)) (ny j (by omega)) (ry j (by omega)).1 (ry j (by omega)).2
  rw [p4]
  refine t46 true true xs ys (by omega) _ ?_
  refine t19 true true (mixG join2 xs ys xs.length) ys (by omega) _ ?_
  have p5 : allIn xs ys = (mixG join2 xs ys xs.length == ys) := by
    apply Bool.eq_iff_iff.2
    rw [beq_iff_eq]
    constructor
    · intro h
      simp only [allIn, Bool.and_eq_true, List.all_eq_true] at h
      refine eq_of_getD (by omega) fun j hj => ?_
      rw [getD_mix _ _ _ (by omega)]
      exact (in_eq (nx j (by omega)) (ny j (by omega))).1 (h.2 j (by simp; omega))
    · intro h
      refine allIn_of hxy fun j hj => ?_
      rw [in_eq (nx j (by omega)) (ny j (by omega)), ← getD_mix join2 xs ys hj, h]
  have e5 : ((!true || (true && allIn xs ys)) == (true == true && (!true || mixG join2 xs ys xs.length == ys))) = true := by
    rw [p5]
    simp
  rw [e5]
  simp only [cond_true, t43]
  refine t46 false true [] xs (by simp) _ ?_
  simp only [Bool.not_false, Bool.true_or, cond_true]
  refine t46 true false xs [] (by omega) _ ?_
  simp only [Bool.not_true, Bool.false_and, Bool.or_self, Bool.not_false, cond_true]
  refine t41 false true [] xs (fun h => by cases h) (by simp) _ ?_
  simp only [both2, Bool.false_eq_true, if_false, if_true]
  refine t19 true true xs xs (by omega) _ ?_
  have p6 : (true == true && (!true || xs == xs)) = true := by simp
  rw [p6]
  refine t41 true false xs [] (fun _ h => by cases h) (by omega) _ ?_
  simp only [both2, Bool.false_eq_true, if_false, if_true]
  refine t19 true true xs xs (by omega) _ ?_
  rw [p6]
  refine t41 true true ys xs (fun _ _ => hxy.symm) (by omega) _ ?_
  simp only [both2, if_true]
  refine t19 true true (mixG join2 xs ys xs.length) (mixG join2 ys xs ys.length) (by omega) _ ?_
  have p7 : mixG join2 xs ys xs.length = mixG join2 ys xs ys.length := eq_of_getD (by rw [mixG_len, mixG_len]; exact hxy) fun j hj => by
    rw [hJ] at hj
    rw [getD_mix _ _ _ hj, getD_mix _ _ _ (by omega)]
    exact join_comm (nx j (by omega)) (ny j (by omega))
  rw [p7]
  simpa using hQ
end Go.Proofs.Ytankppgafdcknaa

/- What it comes to that a state holds of numbers; settings, and what may be set more. -/
set_option linter.unusedVariables false
set_option linter.unusedSimpArgs false
set_option maxRecDepth 100000
open Go Go.AM
namespace Go.Proofs.Ytankppgafdcknaa

def has1 (p : Sp2) (n : Int) : Bool := decide (p.1 ≤ n) && decide (n ≤ p.2)
theorem t45 (p : Sp2) (n : Int) (Q : Bool → Prop) : F45 p n Q = Q (has1 p n) := by
  obtain ⟨a, b⟩ := p
  unfold F45 has1
  by_cases h : a ≤ n <;> simp [h]
theorem t62 (n : Int) (p : Sp2) (Q : Bool → Prop) : F62 n p Q = Q (!has1 p n) := by
  unfold F62
  rw [t45]
theorem t17 (a : Bool) (l : List Sp2) (at_ : Int) (p : Sp2) (hl : l.length ≤ 8796093022208) (Q : Bool × List D → Prop)
    (h0 : (!a || empty2 p) = true → Q (false, [])) (h1 : (!a || empty2 p) = false → Q (true, (set2 a l at_ p).map enc2)) : F17 (a, l.map enc2) at_ p Q := by
  unfold F17
  rw [t43, t18]
  cases a with
  | false => simpa using h0 rfl
  | true =>
    cases hp : empty2 p with
    | true => rw [hp] at h0; simpa [hp] using h0 rfl
    | false =>
      rw [hp] at h1
      have h1 := h1 rfl
      simp only [Bool.not_true, cond_false, cond_true]
      simp only [cond_false, List.drop_zero, List.take_length, t49]
      refine ⟨cloneCond_enc l hl, by simp, ?_⟩
      unfold set2 at h1
      simp only [List.length_map]
      cases hh : has2 true l.length at_ with
      | false =>
        rw [hh] at h1
        simpa using h1
      | true =>
        rw [hh] at h1
        simp [has2] at hh
        have hlt : at_.toNat < l.length := by omega
        simp only [cond_true, hh.1, true_and, Nat.zero_add, hlt]
        have ht : List.take l.length ((l.map enc2).set at_.toNat (.agg [.int .i64 p.1, .int .i64 p.2])) = (l.set at_.toNat p).map enc2 := by
          rw [List.take_of_length_le (by simp), List.map_set]
          rfl
        rw [ht]
        exact ⟨by decide, h1⟩
theorem t44 (l : List Sp2) (at_ : Int) (s : Sp2) (hl : l.length ≤ 8796093022208) (Q : Bool × List D → Prop) (hne : empty2 (join2 (get2 true l at_) s) = false)
    (h : Q (true, (set2 true l at_ (join2 (get2 true l at_) s)).map enc2)) : F44 (true, l.map enc2) at_ s Q := by
  unfold F44
  rw [t21, t64]
  refine t17 true l at_ (join2 (get2 true l at_) s) hl _ (fun hc => by simp [hne] at hc) fun _ => ⟨by decide, h⟩
theorem t71_62 (zs : List Int) (b : Sp2) (hl : zs.length ≤ 1000) (Q : Int → Prop) (h : Q (idxFrom (fun z => !has1 b z) zs 0)) : F71_62 (zs.map (D.int .i64)) b Q := by
  rw [F71_62_un]
  unfold F71_62u
  unfold L71_62_1
  refine loop_rule (E71_62_1 (zs.map (D.int .i64)) b) (H71_62_1 (zs.map (D.int .i64)) b) _ (fun i => 0 ≤ i ∧ i ≤ zs.length ∧ idxFrom (fun z => !has1 b z) (zs.drop i.toNat) i = idxFrom (fun z => !has1 b z) zs 0) (fun i => zs.length - i.toNat) ?_ 0 ⟨by omega, by omega, by simp⟩
  intro n i ⟨h0, h1, h2⟩ ih
  rw [B71_62_1_eq]
  unfold B71_62_1
  simp only [List.length_map]
  by_cases hi : i < zs.length
  · have hx : i.toNat < zs.length := by omega
    rw [wrap_i64 (by omega) (by omega)]
    simp only [hi, decide_true, cond_true, List.getElem?_map, List.getElem?_eq_getElem hx, Option.map_some, optP_some, asInt_int, h0, true_and, t62]
    rw [List.drop_eq_getElem_cons hx, idx_cons] at h2
    cases hz : (!has1 b zs[i.toNat]) with
    | true =>
      simp only [hz, if_true] at h2
      have hz' : (!has1 (b.1, b.2) zs[i.toNat]) = true := hz
      simp only [hz', cond_true]
      rw [h2]
      exact h
    | false =>
      simp only [hz, Bool.false_eq_true, if_false] at h2
      have hz' : (!has1 (b.1, b.2) zs[i.toNat]) = false := hz
      simp only [hz', cond_false]
      refine ih (i + 1) ⟨by omega, by omega, ?_⟩ (by omega)
      rw [show (i + 1).toNat = i.toNat + 1 by omega]
      exact h2
  · have hin : i.toNat = zs.length := by omega
    simp only [hi, decide_false, cond_false]
    rw [hin, List.drop_length, idx_nil] at h2
    rw [h2]
    exact h
theorem idx_ge (f : Int → Bool) : ∀ (zs : List Int) (i : Int), 0 ≤ i → decide (idxFrom f zs i ≥ 0) = zs.any f
  | [], i, h => by simp [idx_nil]
  | z :: zs, i, h => by
    rw [idx_cons]
    cases hz : f z with
    | true => simp [hz, h]
    | false => simpa [hz] using idx_ge f zs (i + 1) (by omega)
/-- Does a state hold of numbers, list by list? -/
def holds2 (xs : List Sp2) (cs : List (List Int)) : Bool := xs.length == cs.length && (List.range xs.length).all fun j => (cs.getD j []).all (has1 (xs.getD j (0, 0)))
def enc3 (v : List Int) : D := .agg [.str [], .bool false, .sl true 1 (v.map (D.int .i64))]
theorem t60 (p : Sp2) (nm : List UInt8) (ar : Bool) (v : List Int) (hl : v.length ≤ 1000) (Q : Bool → Prop) (h : Q (v.all (has1 p))) : F60 p (nm, ar, v.map (D.int .i64)) Q := by
  rw [F60_un]
  unfold F60u
  rw [F61_62_un]
  unfold F61_62u
  refine t71_62 v p hl _ ?_
  rw [idx_ge _ _ _ (by omega)]
  have : (!v.any fun z => !has1 p z) = v.all (has1 p) := by
    rw [List.not_any_eq_all_not]
    simp
  show Q (!v.any fun z => !has1 p z)
  rw [this]
  exact h
theorem t40 (a : Bool) (xs : List Sp2) (cs : List (List Int)) (hx : xs.length ≤ 1000) (hc : ∀ v ∈ cs, v.length ≤ 1000) (Q : Bool → Prop) (h : Q (a && holds2 xs cs)) : F40 (a, xs.map enc2) (cs.map enc3) Q := by
  rw [F40_un]
  unfold F40u
  cases a with
  | false => exact h
  | true =>
    simp only [Bool.true_and] at h
    show F59_60 (xs.map enc2) (cs.map enc3) () fun r1 => Q r1
    rw [F59_60_un]
    unfold F59_60u
    by_cases hl : xs.length = cs.length
    · have : ((↑(List.length (xs.map enc2)) : Int) != (↑(List.length (cs.map enc3)) : Int)) = false := by simp [hl]
      rw [this]
      show L59_60_1 (xs.map enc2) (cs.map enc3) Q 0
      unfold L59_60_1
      refine loop_rule (E59_60_1 (xs.map enc2) (cs.map enc3)) (H59_60_1 (xs.map enc2) (cs.map enc3)) _ (fun i => 0 ≤ i ∧ i ≤ xs.length ∧ (∀ j, j < i.toNat → (cs.getD j []).all (has1 (xs.getD j (0, 0))) = true)) (fun i => xs.length - i.toNat) ?_ 0 ⟨by omega, by omega, by simp⟩
      intro n i ⟨h0, h1, h2⟩ ih
      rw [B59_60_1_eq _ _ ()]
      unfold B59_60_1
      simp only [List.length_map]
      by_cases hi : i < xs.length
      · have hx' : i.toNat < xs.length := by omega
        have hy' : i.toNat < cs.length := by omega
        rw [wrap_i64 (by omega) (by omega)]
        have hsl : (D.sl true 1 ((cs[i.toNat]).map (D.int .i64))).asSl 1 = some ((cs[i.toNat]).map (D.int .i64)) := rfl
        have hag : (enc3 cs[i.toNat]).asAgg = some [.str [], .bool false, .sl true 1 ((cs[i.toNat]).map (D.int .i64))] := rfl
        have hst : (D.str []).asStr = some [] := rfl
        simp only [hi, decide_true, cond_true, List.getElem?_map, List.getElem?_eq_getElem hx', List.getElem?_eq_getElem hy', Option.map_some, optP_some, asAgg_enc2, asInt_int, h0, true_and, hag, hst, asBool_bool, hsl]
        have hgx : xs.getD i.toNat (0, 0) = xs[i.toNat] := by simp [List.getD_eq_getElem?_getD, hx']
        have hgy : cs.getD i.toNat [] = cs[i.toNat] := by simp [List.getD_eq_getElem?_getD, hy']
        refine ⟨by decide, by decide, t60 xs[i.toNat] [] false cs[i.toNat] (hc _ (List.getElem_mem hy')) _ ?_⟩
        cases he : (cs[i.toNat]).all (has1 xs[i.toNat]) with
        | true =>
          simp only [Bool.not_true, cond_false]
          refine ih (i + 1) ⟨by omega, by omega, fun j hj => ?_⟩ (by omega)
          by_cases hji : j < i.toNat
          · exact h2 j hji
          · have : j = i.toNat := by omega
            subst this
            rw [hgx, hgy]
            exact he
        | false =>
          simp only [Bool.not_false, cond_true]
          have hf : holds2 xs cs = false := by
            apply Bool.eq_false_iff.2
            intro hcc
            simp only [holds2, Bool.and_eq_true, List.all_eq_true] at hcc
            have := hcc.2 i.toNat (by simpa using hx')
            rw [hgx, hgy] at this
            have h3 : (cs[i.toNat]).all (has1 xs[i.toNat]) = true := List.all_eq_true.2 this
            rw [he] at h3
            cases h3
          rw [hf] at h
          exact h
      · have hin : i.toNat = xs.length := by omega
        simp only [hi, decide_false, cond_false]
        have ht : holds2 xs cs = true := by
          unfold holds2
          rw [Bool.and_eq_true, beq_iff_eq, List.all_eq_true]
          exact ⟨hl, fun j hj => h2 j (by rw [hin]; simpa using hj)⟩
        rw [ht] at h
        exact h
    · have : ((↑(List.length (xs.map enc2)) : Int) != (↑(List.length (cs.map enc3)) : Int)) = true := by simp; omega
      rw [this]
      have hf : holds2 xs cs = false := by simp [holds2, hl]
      rw [hf] at h
      exact h
end Go.Proofs.Ytankppgafdcknaa
