/- Texts joined into one: the first of them is told below. -/
import Derived.Test.YtankppgafdcknaaLc
import Derived.Test.YtankppgafdcknaaWe
import Derived.Test.YtankppgafdcknaaRows
import Derived.WalkKit
import Derived.ProofKit
import Derived.OpenShut
import Derived.ShutString
import Derived.ChangeOld
import Derived.Below
import Derived.SizedLaws
import Derived.Carry
/- What a state holds of, what it is joined with, and widened by, holds of; what is set holds of what is so there: of the walk of StateHolds. -/
set_option linter.unusedVariables false
set_option linter.unusedSimpArgs false
set_option maxRecDepth 100000
open Go Go.AM
namespace Go.Proofs.Ytankppgafdcknaa

theorem wu_eq (n : Int) : IntKind.u64.wrap n = n % 18446744073709551616 := by
  simp [IntKind.wrap, IntKind.bits, IntKind.signed]
theorem wi_eq (n : Int) : IntKind.i64.wrap n = (n + 9223372036854775808) % 18446744073709551616 - 9223372036854775808 := by
  simp [IntKind.wrap, IntKind.bits, IntKind.signed]
  split <;> omega
def sizeS (p : Sp2) : Int := IntKind.u64.wrap (IntKind.u64.wrap (IntKind.u64.wrap p.2 - IntKind.u64.wrap p.1) + 1)
def pickS (p : Sp2) (n : Int) : Int := if sizeS p = 0 then IntKind.i64.wrap n else IntKind.i64.wrap (IntKind.u64.wrap (IntKind.u64.wrap p.1 + n.tmod (sizeS p)))
theorem t39 (p : Sp2) (n : Int) (Q : Int → Prop) (h : Q (pickS p n)) : F39 p n Q := by
  unfold F39
  show cond (sizeS p == 0) (Q (IntKind.i64.wrap n)) (sizeS p ≠ 0 ∧ Q (IntKind.i64.wrap (IntKind.u64.wrap (IntKind.u64.wrap p.1 + n.tmod (sizeS p)))))
  unfold pickS at h
  by_cases h0 : sizeS p = 0
  · rw [if_pos h0] at h
    have : (sizeS p == 0) = true := by simp [h0]
    rw [this]
    exact h
  · rw [if_neg h0] at h
    have : (sizeS p == 0) = false := by simp [h0]
    rw [this]
    exact ⟨h0, h⟩
theorem pick_has {p : Sp2} {n : Int} (he : empty2 p = false) (h1 : -9223372036854775808 ≤ p.1) (h2 : p.2 ≤ 9223372036854775807) (hn : 0 ≤ n) : has1 p (pickS p n) = true := by
  rw [empty_false] at he
  have hs : sizeS p = (p.2 - p.1 + 1) % 18446744073709551616 := by
    unfold sizeS
    rw [wu_eq, wu_eq, wu_eq, wu_eq]
    omega
  unfold has1
  rw [Bool.and_eq_true, decide_eq_true_eq, decide_eq_true_eq]
  unfold pickS
  split
  · rename_i h0
    rw [h0] at hs
    rw [wi_eq]
    omega
  · rename_i h0
    have hpos : 0 < sizeS p := by
      have : 0 ≤ sizeS p := by rw [hs]; omega
      omega
    have hm0 : 0 ≤ n.tmod (sizeS p) := Int.tmod_nonneg _ hn
    have hm1 : n.tmod (sizeS p) < sizeS p := Int.tmod_lt_of_pos _ hpos
    have hsz : sizeS p = p.2 - p.1 + 1 := by omega
    generalize n.tmod (sizeS p) = m at hm0 hm1
    rw [wi_eq, wu_eq, wu_eq]
    omega
theorem has_iff {p : Sp2} {n : Int} : has1 p n = true ↔ p.1 ≤ n ∧ n ≤ p.2 := by
  simp [has1]
theorem has_mono {a b : Sp2} {n : Int} (ha : empty2 a = false) (h : in2 a b = true) (hn : has1 a n = true) : has1 b n = true := by
  rw [in_iff ha] at h
  rw [has_iff] at hn ⊢
  omega
theorem has_ne {p : Sp2} {n : Int} (h : has1 p n = true) : empty2 p = false := by
  rw [has_iff] at h
  rw [empty_false]
  omega
theorem has_join_l {a b : Sp2} {n : Int} (h : has1 a n = true) : has1 (join2 a b) n = true := by
  have ha := has_ne h
  cases hb : empty2 b with
  | true => simp [join2, ha, hb, h]
  | false => exact has_mono ha (in_join ha hb) h
theorem has_join_r {a b : Sp2} {n : Int} (h : has1 b n = true) : has1 (join2 a b) n = true := by
  have hb := has_ne h
  cases ha : empty2 a with
  | true => simp [join2, ha, hb, h]
  | false => exact has_mono hb (in_join' ha hb) h
theorem has_wid_l {a b : Sp2} {n : Int} (hb : empty2 b = false) (h1 : -9223372036854775808 ≤ b.1) (h2 : b.2 ≤ 9223372036854775807) (h : has1 a n = true) : has1 (wid2 a b) n = true :=
  has_mono (has_ne (has_join_l (b := b) h)) (join_wid (has_ne h) hb h1 h2) (has_join_l h)
theorem has_wid_r {a b : Sp2} {n : Int} (ha : empty2 a = false) (h1 : -9223372036854775808 ≤ b.1) (h2 : b.2 ≤ 9223372036854775807) (h : has1 b n = true) : has1 (wid2 a b) n = true :=
  has_mono (has_ne (has_join_r (a := a) h)) (join_wid ha (has_ne h) h1 h2) (has_join_r h)
theorem holds_iff {xs : List Sp2} {cs : List (List Int)} (hl : xs.length = cs.length) : holds2 xs cs = true ↔ ∀ j, j < xs.length → (cs.getD j []).all (has1 (xs.getD j (0, 0))) = true := by
  unfold holds2
  rw [Bool.and_eq_true, beq_iff_eq, List.all_eq_true]
  constructor
  · intro h j hj
    exact h.2 j (by simpa using hj)
  · intro h
    exact ⟨hl, fun j hj => h j (by simpa using hj)⟩
theorem set2_getD {xs : List Sp2} {k : Int} {p : Sp2} (h0 : 0 ≤ k) (h1 : k < (xs.length : Int)) (j : Nat) (hj : j < xs.length) : (set2 true xs k p).getD j (0, 0) = if j = k.toNat then p else xs.getD j (0, 0) := by
  have hh : has2 true xs.length k = true := by simp [has2, h0, h1]
  unfold set2
  rw [hh]
  simp only [if_true, List.getD_eq_getElem?_getD, List.getElem?_set]
  by_cases h : k.toNat = j
  · subst h
    simp [hj]
  · simp [h, Ne.symm h]
theorem set_getD {cs : List (List Int)} {k : Nat} {v : List Int} (j : Nat) (hk : k < cs.length) : (cs.set k v).getD j [] = if j = k then v else cs.getD j [] := by
  simp only [List.getD_eq_getElem?_getD, List.getElem?_set]
  by_cases h : k = j
  · subst h
    simp [hk]
  · simp [h, Ne.symm h]
theorem set2_length (a : Bool) (l : List Sp2) (k : Int) (p : Sp2) : (set2 a l k p).length = l.length := by
  unfold set2
  split <;> simp
def kAt (l : List Int) (j : Nat) : Int := match l[j]? with
  | some v => v
  | none => (j : Int)
def cellAt (xs : List Sp2) (l : List Int) (j : Nat) : List Int := [pickS (xs.getD j (0, 0)) (kAt l j)]
def cellsS (xs : List Sp2) (l : List Int) (n : Nat) : List (List Int) := (List.range n).map (cellAt xs l)
theorem cellsS_succ (xs : List Sp2) (l : List Int) (n : Nat) : cellsS xs l (n + 1) = cellsS xs l n ++ [cellAt xs l n] := by simp [cellsS, List.range_succ]
theorem cellsS_len (xs : List Sp2) (l : List Int) (n : Nat) : (cellsS xs l n).length = n := by simp [cellsS]
theorem cellsS_getD (xs : List Sp2) (l : List Int) {n j : Nat} (h : j < n) : (cellsS xs l n).getD j [] = cellAt xs l j := by simp [cellsS, List.getD_eq_getElem?_getD, h]
set_option maxHeartbeats 8000000 in
/-- What is left behind the loop. -/
theorem rest12 (xs ys : List Sp2) (cs : List (List Int)) (d : Int) (e : R5) (f : Int) (Q : Bool → Prop) (hQ : Q true) (hx : xs.length = 5) (hy : ys.length = 5) (hcl : cs.length = 5) (hcn : ∀ v ∈ cs, v.length ≤ 1000)
    (nx : ∀ j, j < 5 → empty2 (xs.getD j (0, 0)) = false) (ny : ∀ j, j < 5 → empty2 (ys.getD j (0, 0)) = false)
    (rx : ∀ j, j < 5 → -9223372036854775808 ≤ (xs.getD j (0, 0)).1 ∧ (xs.getD j (0, 0)).2 ≤ 9223372036854775807) (ry : ∀ j, j < 5 → -9223372036854775808 ≤ (ys.getD j (0, 0)).1 ∧ (ys.getD j (0, 0)).2 ≤ 9223372036854775807)
    (mx : ∀ y ∈ xs, -9223372036854775808 ≤ y.1 ∧ y.2 ≤ 9223372036854775807) (my : ∀ y ∈ ys, -9223372036854775808 ≤ y.1 ∧ y.2 ≤ 9223372036854775807)
    (hd : 0 ≤ d) (hf : 0 ≤ f) (hr : rngR e) (hcs : ∀ j, j < 5 → ∃ n, cs.getD j [] = [n] ∧ has1 (xs.getD j (0, 0)) n = true) (a b : Bool × List D) (c : List D) (R5 : Env → Heap → Prop) :
    B12_1 a b c d e f (true, xs.map enc2) (true, ys.map enc2) Q (5, cs.map enc3) R5 := by
  unfold B12_1
  have hk0 : 0 ≤ d.tmod 5 := Int.tmod_nonneg _ hd
  have hk1 : d.tmod 5 < 5 := Int.tmod_lt_of_pos _ (by decide)
  have hw : IntKind.i64.wrap (d.tmod 5) = d.tmod 5 := wrap_i64 (by omega) (by omega)
  have h55 : decide ((5 : Int) < 5) = false := by decide
  simp only [h55, cond_false, List.drop_zero, List.take_length, hw]
  generalize d.tmod 5 = k at hk0 hk1
  have one : ∀ zs : List Sp2, zs.length = 5 → (∀ j, j < 5 → ∀ n, has1 (xs.getD j (0, 0)) n = true → has1 (zs.getD j (0, 0)) n = true) → holds2 zs cs = true := fun zs hz h => by
    rw [holds_iff (by omega)]
    intro j hj
    obtain ⟨n, hn, hh⟩ := hcs j (by omega)
    rw [hn]
    simpa using h j (by omega) n hh
  have hxy : xs.length = ys.length := by omega
  have s1 : holds2 xs cs = true := one xs hx fun j hj n h => h
  have s2 : holds2 (mixG join2 xs ys xs.length) cs = true := one _ (by rw [mixG_len]; exact hx) fun j hj n h => by
    rw [getD_mix _ _ _ (by omega)]
    exact has_join_l h
  have s3 : holds2 (mixG join2 ys xs ys.length) cs = true := one _ (by rw [mixG_len]; exact hy) fun j hj n h => by
    rw [getD_mix _ _ _ (by omega)]
    exact has_join_r h
  have s4 : holds2 (mixG wid2 xs ys xs.length) cs = true := one _ (by rw [mixG_len]; exact hx) fun j hj n h => by
    rw [getD_mix _ _ _ (by omega)]
    exact has_wid_l (ny j hj) (ry j hj).1 (ry j hj).2 h
  have s5 : holds2 (mixG wid2 ys xs ys.length) cs = true := one _ (by rw [mixG_len]; exact hy) fun j hj n h => by
    rw [getD_mix _ _ _ (by omega)]
    exact has_wid_r (ny j hj) (rx j hj).1 (rx j hj).2 h
  refine t40 true xs cs (by omega) hcn _ ?_
  simp only [s1, Bool.and_self, Bool.not_true, cond_false]
  refine t41 true true xs ys (fun _ _ => hxy) (by omega) _ ?_
  simp only [both2, if_true]
  refine t40 true _ cs (by rw [mixG_len]; omega) hcn _ ?_
  simp only [s2, Bool.and_self, Bool.not_true, cond_false]
  refine t41 true true ys xs (fun _ _ => hxy.symm) (by omega) _ ?_
  simp only [both2, if_true]
  refine t40 true _ cs (by rw [mixG_len]; omega) hcn _ ?_
  simp only [s3, Bool.and_self, Bool.not_true, cond_false]
  refine t42 true true xs ys (fun _ _ => hxy) (by omega) my _ ?_
  simp only [both2, if_true]
  refine t40 true _ cs (by rw [mixG_len]; omega) hcn _ ?_
  simp only [s4, Bool.and_self, Bool.not_true, cond_false]
  refine t42 true true ys xs (fun _ _ => hxy.symm) (by omega) mx _ ?_
  simp only [both2, if_true]
  refine t40 true _ cs (by rw [mixG_len]; omega) hcn _ ?_
  simp only [s5, Bool.and_self, Bool.not_true, cond_false]
  rw [t43]
  refine t40 false [] cs (by simp) hcn _ ?_
  simp only [Bool.false_and, cond_false]
  refine t16 e _ ⟨by decide, by decide, ?_⟩
  have hsr := spanR_rng hr
  generalize spanR e = s at hsr
  have hkl : k.toNat < 5 := by omega
  have hgk : get2 true xs k = xs.getD k.toNat (0, 0) := by
    have : has2 true xs.length k = true := by simp [has2, hk0, hx]; omega
    unfold get2
    rw [this]
    simp only [if_true, List.getD_eq_getElem?_getD]
    rw [List.getElem?_eq_getElem (by omega)]
    rfl
  have hjn : empty2 (join2 (get2 true xs k) s) = false := by
    rw [hgk]
    obtain ⟨n, _, hn⟩ := hcs k.toNat hkl
    exact has_ne (has_join_l (b := s) hn)
  refine t44 xs k s (by omega) _ hjn ⟨by decide, ?_⟩
  have hcl5 : ∀ q, (set2 true xs k q).length = 5 := fun q => by rw [set2_length]; exact hx
  have s6 : holds2 (set2 true xs k (join2 (get2 true xs k) s)) cs = true := one _ (hcl5 _) fun j hj n h => by
    rw [set2_getD hk0 (by omega) j (by omega)]
    split
    · rename_i e1
      rw [hgk, ← e1]
      exact has_join_l h
    · exact h
  rw [t18]
  cases hes : empty2 s with
  | true =>
    have hes' : empty2 (s.1, s.2) = true := hes
    simp only [hes', cond_true]
    refine t17 true xs k s (by omega) _ (fun _ => ?_) (fun h => by simp [hes] at h)
    simp only [Bool.not_false, cond_true]
    refine t40 true _ cs (by rw [hcl5]; omega) hcn _ ?_
    simp only [s6, Bool.and_self]
    exact hQ
  | false =>
    have hes' : empty2 (s.1, s.2) = false := hes
    simp only [hes', cond_false]
    refine t39 (s.1, s.2) f _ ?_
    have hp : has1 s (pickS s f) = true := pick_has hes hsr.1 hsr.2 hf
    have hpe : pickS (s.1, s.2) f = pickS s f := rfl
    rw [hpe]
    generalize pickS s f = p at hp
    refine t40 true _ cs (by rw [hcl5]; omega) hcn _ ?_
    simp only [s6, Bool.and_self, Bool.not_true, cond_false]
    have hset : List.take (cs.map enc3).length ((cs.map enc3).set (0 + k.toNat) (.agg [.str [], .bool false, .sl true 1 [.int .i64 p, .int .i64 p]])) = (cs.set k.toNat [p, p]).map enc3 := by
      rw [List.take_of_length_le (by simp), Nat.zero_add, List.map_set]
      rfl
    rw [hset]
    refine ⟨hk0, by simp; omega, by simp; omega, ?_⟩
    have hcn' : ∀ v ∈ cs.set k.toNat [p, p], v.length ≤ 1000 := fun v hv => by
      rcases List.mem_or_eq_of_mem_set hv with h | h
      · exact hcn v h
      · rw [h]; simp
    have two : ∀ zs : List Sp2, zs.length = 5 → (∀ j, j < 5 → j ≠ k.toNat → ∀ n, has1 (xs.getD j (0, 0)) n = true → has1 (zs.getD j (0, 0)) n = true) → (holds2 zs (cs.set k.toNat [p, p]) = true ↔ has1 (zs.getD k.toNat (0, 0)) p = true) := fun zs hz h => by
      rw [holds_iff (by simp; omega)]
      constructor
      · intro hh
        have := hh k.toNat (by omega)
        rw [set_getD _ (by omega), if_pos rfl] at this
        simpa using this
      · intro hh j hj
        rw [set_getD _ (by omega)]
        split
        · rename_i e1
          rw [e1]
          simpa using hh
        · rename_i e1
          obtain ⟨n, hn, hhn⟩ := hcs j (by omega)
          rw [hn]
          simpa using h j (by omega) e1 n hhn
    refine t17 true xs k s (by omega) _ (fun h => by simp [hes] at h) (fun _ => ?_)
    refine t40 true _ _ (by rw [hcl5]; omega) hcn' _ ?_
    have s7 : holds2 (set2 true xs k s) (cs.set k.toNat [p, p]) = true := (two _ (hcl5 _) fun j hj hne n h => by
      rw [set2_getD hk0 (by omega) j (by omega), if_neg hne]
      exact h).2 (by
      rw [set2_getD hk0 (by omega) _ (by omega), if_pos rfl]
      exact hp)
    simp only [s7, Bool.and_self, cond_true]
    refine t40 true _ _ (by rw [hcl5]; omega) hcn' _ ?_
    have s8 : holds2 (set2 true xs k (join2 (get2 true xs k) s)) (cs.set k.toNat [p, p]) = true := (two _ (hcl5 _) fun j hj hne n h => by
      rw [set2_getD hk0 (by omega) j (by omega), if_neg hne]
      exact h).2 (by
      rw [set2_getD hk0 (by omega) _ (by omega), if_pos rfl]
      exact has_join_r hp)
    simp only [s8, Bool.and_self, cond_true]
    refine t40 true _ _ (by omega) hcn' _ ⟨hk0, ?_⟩
    have s9 : holds2 xs (cs.set k.toNat [p, p]) = has1 (xs.getD k.toNat (0, 0)) p := Bool.eq_iff_iff.2 (two xs hx fun j hj hne n h => h)
    have hge : xs[k.toNat]? = some (xs.getD k.toNat (0, 0)) := by
      rw [List.getD_eq_getElem?_getD, List.getElem?_eq_getElem (by omega)]
      rfl
    simp only [List.getElem?_map, hge, Option.map_some, optP_some, asAgg_enc2, asInt_int, t45, s9]
    have hb : ((true && has1 (xs.getD k.toNat (0, 0)) p) == has1 ((xs.getD k.toNat (0, 0)).1, (xs.getD k.toNat (0, 0)).2) p) = true := by
      have : has1 ((xs.getD k.toNat (0, 0)).1, (xs.getD k.toNat (0, 0)).2) p = has1 (xs.getD k.toNat (0, 0)) p := rfl
      rw [this]
      simp
    rw [hb]
    exact hQ
theorem law12 (d1 d2 : Bool) (L1 L2 : List R5) (l : List Int) (d : Int) (e : R5) (f : Int) (hL1 : ∀ r ∈ L1, rngR r) (hL2 : ∀ r ∈ L2, rngR r) (hl : ∀ v ∈ l, 0 ≤ v) (hll : l.length ≤ 9223372036854775807) (hd : 0 ≤ d) (hf : 0 ≤ f) (he : rngR e) (Q : Bool → Prop) (hQ : Q true) :
    F12 (d1, L1.map enc5) (d2, L2.map enc5) (l.map (D.int .u64)) d e f Q := by
  unfold F12
  have tl : ∀ (L : List R5), (∀ r ∈ L, rngR r) → (tidyS L 5).length = 5 ∧ (∀ j, j < 5 → empty2 ((tidyS L 5).getD j (0, 0)) = false) ∧ (∀ j, j < 5 → -9223372036854775808 ≤ ((tidyS L 5).getD j (0, 0)).1 ∧ ((tidyS L 5).getD j (0, 0)).2 ≤ 9223372036854775807) ∧
      (∀ y ∈ tidyS L 5, -9223372036854775808 ≤ y.1 ∧ y.2 ≤ 9223372036854775807) := fun L hL => by
    refine ⟨tidyS_len L 5, fun j hj => ?_, fun j hj => ?_, fun y hy' => ?_⟩
    · rw [List.getD_eq_getElem?_getD, tidyS_get L 5 j hj]
      exact tidyAt_ne L j
    · rw [List.getD_eq_getElem?_getD, tidyS_get L 5 j hj]
      exact tidyAt_rng hL (by omega)
    · unfold tidyS at hy'
      obtain ⟨j, hj, rfl⟩ := List.mem_map.1 hy'
      exact tidyAt_rng hL (by have := List.mem_range.1 hj; omega)
  obtain ⟨hx, nx, rx, mx⟩ := tl L1 hL1
  obtain ⟨hy, ny, ry, my⟩ := tl L2 hL2
  refine t15 d1 L1 5 (by decide) (by decide) _ ⟨by decide, t15 d2 L2 5 (by decide) (by decide) _ ⟨by decide, ?_⟩⟩
  have ea : tidyS L1 (5 : Int).toNat = tidyS L1 5 := rfl
  have eb : tidyS L2 (5 : Int).toNat = tidyS L2 5 := rfl
  rw [ea, eb]
  generalize tidyS L1 5 = xs at hx nx rx mx
  generalize tidyS L2 5 = ys at hy ny ry my
  unfold L12_1
  refine loop_rule (E12_1 (l.map (D.int .u64)) d e f (true, xs.map enc2) (true, ys.map enc2)) (H12_1 (l.map (D.int .u64)) d e f (true, xs.map enc2) (true, ys.map enc2)) _
    (fun s => 0 ≤ s.1 ∧ s.1 ≤ 5 ∧ s.2 = (cellsS xs l s.1.toNat).map enc3) (fun s => 5 - s.1.toNat) ?_ (0, []) ⟨by simp, by simp, by simp [cellsS]⟩
  intro n s ⟨h0, h1, h2⟩ ih
  obtain ⟨i, v⟩ := s
  simp only at h0 h1 h2
  subst h2
  rw [B12_1_eq (d1, L1.map enc5) (d2, L2.map enc5)]
  by_cases hi : i < 5
  · unfold B12_1
    have hxi : i.toNat < xs.length := by omega
    have hgx : xs[i.toNat]? = some (xs.getD i.toNat (0, 0)) := by
      rw [List.getD_eq_getElem?_getD, List.getElem?_eq_getElem hxi]
      rfl
    have step : ∀ m, m = kAt l i.toNat → F39 ((xs.getD i.toNat (0, 0)).1, (xs.getD i.toNat (0, 0)).2) m fun r18 =>
        (List.length ((cellsS xs l i.toNat).map enc3 ++ [D.agg [.str [], .bool false, .sl true 1 [.int .i64 r18]]]) * 48 ≤ 140737488355328) ∧ (List.length ((cellsS xs l i.toNat).map enc3 ++ [D.agg [.str [], .bool false, .sl true 1 [.int .i64 r18]]]) ≤ 140737488355328) ∧
        loopV X12 W12 (C12_1 Q) n (E12_1 (l.map (D.int .u64)) d e f (true, xs.map enc2) (true, ys.map enc2) (IntKind.i64.wrap (i + 1), (cellsS xs l i.toNat).map enc3 ++ [D.agg [.str [], .bool false, .sl true 1 [.int .i64 r18]]]))
          (H12_1 (l.map (D.int .u64)) d e f (true, xs.map enc2) (true, ys.map enc2) (IntKind.i64.wrap (i + 1), (cellsS xs l i.toNat).map enc3 ++ [D.agg [.str [], .bool false, .sl true 1 [.int .i64 r18]]])) := fun m hm => by
      refine t39 _ m _ ⟨by simp [cellsS_len]; omega, by simp [cellsS_len]; omega, ?_⟩
      rw [wrap_i64 (by omega) (by omega)]
      refine ih (i + 1, _) ⟨by simp; omega, by simp; omega, ?_⟩ (by simp; omega)
      simp only
      rw [show (i + 1).toNat = i.toNat + 1 by omega, cellsS_succ, hm]
      simp [cellAt, enc3]
    simp only [hi, decide_true, cond_true, List.drop_zero, List.take_length]
    by_cases hlt : i < (l.length : Int)
    · have hli : i.toNat < l.length := by omega
      have hm : l[i.toNat]? = some l[i.toNat] := List.getElem?_eq_getElem hli
      simp only [List.length_map, hlt, decide_true, cond_true, List.getElem?_map, hm, Option.map_some, optP_some, asInt_int, hgx, asAgg_enc2]
      exact ⟨h0, h0, step _ (by simp [kAt, hm])⟩
    · have hm : l[i.toNat]? = none := List.getElem?_eq_none (by omega)
      simp only [List.length_map, hlt, decide_false, cond_false, List.getElem?_map, Option.map_some, optP_some, asInt_int, hgx, asAgg_enc2]
      refine ⟨h0, step _ ?_⟩
      rw [wu_eq]
      simp only [kAt, hm]
      omega
  · have h5 : i = 5 := by omega
    subst h5
    have hcl : (cellsS xs l 5).length = 5 := cellsS_len xs l 5
    refine rest12 xs ys (cellsS xs l 5) d e f Q hQ hx hy hcl (fun v hv => ?_) nx ny rx ry mx my hd hf he (fun j hj => ?_) _ _ _ _
    · unfold cellsS at hv
      obtain ⟨j, _, rfl⟩ := List.mem_map.1 hv
      simp [cellAt]
    · rw [cellsS_getD xs l hj]
      refine ⟨_, rfl, pick_has (nx j hj) (rx j hj).1 (rx j hj).2 ?_⟩
      unfold kAt
      split
      · rename_i v hv
        exact hl v (List.mem_of_getElem? hv)
      · omega
end Go.Proofs.Ytankppgafdcknaa

/- StateHolds, of the data that its arguments are. -/
set_option linter.unusedVariables false
set_option maxRecDepth 100000
open Go Go.AM
namespace Go.Proofs.Ytankppgafdcknaa
theorem wt70 {n : Nat} {cs : List D} (h : wt Try.prog (n + 2) 70 cs) : ∃ l : List Int, cs = [.sl false 1 (l.map (D.int .u64))] ∧ l.length ≤ 9223372036854775807 ∧ ∀ v ∈ l, 0 ≤ v := by
  obtain ⟨es, rfl, hl, hes⟩ := wt_slice Try.underlying70 h
  obtain ⟨L, rfl, hL⟩ := exists_map_p (f := D.int .u64) (p := fun v => 0 ≤ v) (l := es) fun d hd => by
    obtain ⟨h1, h2⟩ := hes d hd
    obtain ⟨m, hm, h3, _⟩ := wt_int Try.underlying71 h1
    have hn : d.noAgg = true := by
      unfold elD at h2
      rw [Try.underlying71] at h2
      exact h2
    rw [noAgg_cells hn] at hm
    simp at hm
    exact ⟨m, hm, h3⟩
  exact ⟨L, rfl, by simpa using hl, hL⟩
theorem body12 (x0 : List D) (t0 : wt Try.prog 12 24 x0) (x1 : List D) (t1 : wt Try.prog 12 24 x1) (x2 : D) (t2 : wt Try.prog 12 70 [x2]) (x3 : D) (t3 : wt Try.prog 12 5 [x3]) (x4 : List D) (t4 : wt Try.prog 12 28 x4) (x5 : D) (t5 : wt Try.prog 12 71 [x5]) :
    e12.w [.im (.agg x0), .im (.agg x1), .im x2, .im x3, .im (.agg x4), .im x5] [] fun res _ => res = .im (.bool true) := by
  obtain ⟨d1, L1, rfl, h1⟩ := wt24r t0
  obtain ⟨d2, L2, rfl, h2⟩ := wt24r t1
  obtain ⟨l, hl, hl1, hl2⟩ := wt70 t2
  simp at hl
  subst hl
  obtain ⟨d, hd, hd0, _⟩ := wt_int Try.underlying5 t3
  simp at hd
  subst hd
  obtain ⟨r, rfl, hr⟩ := wt28r t4
  obtain ⟨f, hf, hf0, _⟩ := wt_int Try.underlying71 t5
  simp at hf
  subst hf
  have e : e12.w [.im (.agg [.bool d1, .sl false 5 (L1.map enc5)]), .im (.agg [.bool d2, .sl false 5 (L2.map enc5)]), .im (.sl false 1 (l.map (D.int .u64))), .im (.int .u8 d), .im (.agg [.int .i64 r.1, .int .i64 r.2.1, .bool r.2.2.1, .int .u8 r.2.2.2.1, .int .u8 r.2.2.2.2]), .im (.int .u64 f)] [] (fun res _ => res = .im (.bool true)) =
      F12 (d1, L1.map enc5) (d2, L2.map enc5) (l.map (D.int .u64)) d r f (fun y => AV.im (.bool y) = .im (.bool true)) := by kernel_rfl
  rw [e]
  exact law12 d1 d2 L1 L2 l d r f h1 h2 hl2 hl1 (show (0 : Int) ≤ d from hd0) (show (0 : Int) ≤ f from hf0) hr _ rfl
end Go.Proofs.Ytankppgafdcknaa

/- The statement StateHolds: of every input, out of the law and the walk. -/
set_option linter.unusedVariables false
set_option maxRecDepth 100000
namespace Go.Proofs.Ytankppgafdcknaa.stateHolds
open Go.AM Go.ChangeShapes Go.WideShapes Go.ChangeAt Go.RowKit
theorem own : ownKnob Try.prog.godebug = none := by kernel_rfl
theorem laidOut : laidOutB Try.prog = true := by kernel_rfl
theorem lifted (os : Os) (started : os.Started) (H : Type) (enc : TypeId × Value → H) :
    ReturnsInHanded {} Try.checked os 12 .any (Rows.stateHoldsSpec.pre6 enc Try.prog Try.f12 Rows.stateHoldsRow.domain false) (Rows.stateHoldsSpec.post enc Try.prog Try.f12 false true false false) := by
  refine returnsInHanded_of_change_sized (C := Try.checked) own started (by kernel_rfl) Try.func12
    (ChangeSpec.witness6 (enc := enc) (C := Try.checked) false ⟨#[], #[.agg #[.bool false, .slice none 0 0], .agg #[.bool false, .slice none 0 0], .slice none 0 0, .int .u8 0, .agg #[.int .i64 0, .int .i64 0, .bool false, .int .u8 0, .int .u8 0], .int .u64 0], []⟩ 8 (by kernel_rfl) (by kernel_rfl) (by kernel_rfl) (by kernel_rfl)) ?_
  intro W base args ds gs before hval0 hW hcnd hsz0 _
  have hval : ∀ (j : Nat) t v, Try.f12.params[j]? = some t → args[j]? = some v → Value.okWide Try.prog W .any base t v := hval0
  have hW' := hW
  obtain ⟨p, q, hA0, hV, rfl, hfz, hnd⟩ := hW
  have hA : DataW.TrodAll enc Try.prog W 0 (fun _ => true) true Try.f12.params.toList args.toList ds p := hA0
  rw [Try.params12] at hA hval
  obtain ⟨v0, vs0, d0, ds0, p0, q0, hargs, rfl, rfl, h0, r0⟩ := trodAll_cons hA
  obtain ⟨v1, vs1, d1, ds1, p1, q1, rfl, rfl, rfl, h1, r1⟩ := trodAll_cons r0
  obtain ⟨v2, vs2, d2, ds2, p2, q2, rfl, rfl, rfl, h2, r2⟩ := trodAll_cons r1
  obtain ⟨v3, vs3, d3, ds3, p3, q3, rfl, rfl, rfl, h3, r3⟩ := trodAll_cons r2
  obtain ⟨v4, vs4, d4, ds4, p4, q4, rfl, rfl, rfl, h4, r4⟩ := trodAll_cons r3
  obtain ⟨v5, vs5, d5, ds5, p5, q5, rfl, rfl, rfl, h5, r5⟩ := trodAll_cons r4
  obtain ⟨rfl, rfl, rfl⟩ := trodAll_nil r5
  obtain rfl : args = #[v0, v1, v2, v3, v4, v5] := by cases args; simp_all
  obtain ⟨rfl, rfl⟩ := trodVars_none hV
  have lt0 : ∀ x ∈ p0, x.block < W.heap.size := by obtain ⟨m, hm⟩ := h0; exact DataW.trod_lt m _ _ _ hm
  have o0 := hval 0 24 v0 rfl rfl
  obtain ⟨c0, rfl⟩ : ∃ c, v0 = .agg c := by
    unfold Value.okWide at o0
    rw [Try.underlying24] at o0
    obtain ⟨c, hc, _⟩ := o0
    exact ⟨c, hc⟩
  obtain ⟨x0, w0, t0⟩ := arg_struct 12 (by kernel_rfl) h0
  have lt1 : ∀ x ∈ p1, x.block < W.heap.size := by obtain ⟨m, hm⟩ := h1; exact DataW.trod_lt m _ _ _ hm
  have o1 := hval 1 24 v1 rfl rfl
  obtain ⟨c1, rfl⟩ : ∃ c, v1 = .agg c := by
    unfold Value.okWide at o1
    rw [Try.underlying24] at o1
    obtain ⟨c, hc, _⟩ := o1
    exact ⟨c, hc⟩
  obtain ⟨x1, w1, t1⟩ := arg_struct 12 (by kernel_rfl) h1
  have lt2 : ∀ x ∈ p2, x.block < W.heap.size := by obtain ⟨m, hm⟩ := h2; exact DataW.trod_lt m _ _ _ hm
  have o2 := hval 2 70 v2 rfl rfl
  have e2 : v2.cells.toList = [v2] := by
    unfold Value.okWide Cell.okWide Cell.ok at o2
    rw [Try.underlying70] at o2
    cases v2 <;> first | rfl | exact o2.elim
  obtain ⟨x2, w2, t2⟩ := arg_cell 12 (by kernel_rfl) e2 h2
  have lt3 : ∀ x ∈ p3, x.block < W.heap.size := by obtain ⟨m, hm⟩ := h3; exact DataW.trod_lt m _ _ _ hm
  have o3 := hval 3 5 v3 rfl rfl
  have e3 : v3.cells.toList = [v3] := by
    unfold Value.okWide Cell.okWide Cell.ok at o3
    rw [Try.underlying5] at o3
    cases v3 <;> first | rfl | exact o3.elim
  obtain ⟨x3, w3, t3⟩ := arg_cell 12 (by kernel_rfl) e3 h3
  have lt4 : ∀ x ∈ p4, x.block < W.heap.size := by obtain ⟨m, hm⟩ := h4; exact DataW.trod_lt m _ _ _ hm
  have o4 := hval 4 28 v4 rfl rfl
  obtain ⟨c4, rfl⟩ : ∃ c, v4 = .agg c := by
    unfold Value.okWide at o4
    rw [Try.underlying28] at o4
    obtain ⟨c, hc, _⟩ := o4
    exact ⟨c, hc⟩
  obtain ⟨x4, w4, t4⟩ := arg_struct 12 (by kernel_rfl) h4
  have lt5 : ∀ x ∈ p5, x.block < W.heap.size := by obtain ⟨m, hm⟩ := h5; exact DataW.trod_lt m _ _ _ hm
  have o5 := hval 5 71 v5 rfl rfl
  have e5 : v5.cells.toList = [v5] := by
    unfold Value.okWide Cell.okWide Cell.ok at o5
    rw [Try.underlying71] at o5
    cases v5 <;> first | rfl | exact o5.elim
  obtain ⟨x5, w5, t5⟩ := arg_cell 12 (by kernel_rfl) e5 h5
  refine (top e12 (w := W) (vals := [.agg c0, .agg c1, v2, v3, .agg c4, v5]) (b := true) Try.func12 (by decide) rfl (.cons _ _ _ _ w0 (.cons _ _ _ _ w1 (.cons _ _ _ _ w2 (.cons _ _ _ _ w3 (.cons _ _ _ _ w4 (.cons _ _ _ _ w5 .nil)))))) (body12 x0 t0 x1 t1 x2 t2 x3 t3 x4 t4 x5 t5)).mono fun e W' ⟨he, bel⟩ => ?_
  subst he
  exact ⟨_, rfl, _, _, _, [], _, [], hW', trodAll_mk1 (shut_bool Try.underlying4 _), (trodAll_cons_mk (Below.trod laidOut (by kernel_rfl) (of_decide_eq_true (by kernel_rfl)) h0 bel lt0) (trodAll_cons_mk (Below.trod laidOut (by kernel_rfl) (of_decide_eq_true (by kernel_rfl)) h1 bel lt1) (trodAll_cons_mk (Below.trod laidOut (by kernel_rfl) (of_decide_eq_true (by kernel_rfl)) h2 bel lt2) (trodAll_cons_mk (Below.trod laidOut (by kernel_rfl) (of_decide_eq_true (by kernel_rfl)) h3 bel lt3) (trodAll_cons_mk (Below.trod laidOut (by kernel_rfl) (of_decide_eq_true (by kernel_rfl)) h4 bel lt4) (trodAll_cons_mk (Below.trod laidOut (by kernel_rfl) (of_decide_eq_true (by kernel_rfl)) h5 bel lt5) trodAll_mk0)))))), rfl, bel.frame _, fun h => by cases h⟩
theorem over : Rows.stateHoldsRow.holds Try.pinned (OpenSpec.ofChange Rows.stateHoldsSpec) :=
  OpenClaim.holds_of_wide 12 Try.f12 rfl rfl rfl rfl rfl rfl rfl ⟨rfl, rfl, rfl, rfl, rfl⟩ rfl rfl rfl rfl rfl (by kernel_rfl) Try.func12 (by kernel_rfl)
    (of_decide_eq_true (by kernel_rfl)) (by unfold Func.isWrapper; first | (rw [if_pos (by decide +kernel)]; kernel_rfl) | (rw [if_neg (by decide +kernel)]; exact ⟨rfl, rfl⟩))
    (fun os started H enc _ => lifted os started H enc)
theorem proved : Rows.StateHoldsSaid := over
end Go.Proofs.Ytankppgafdcknaa.stateHolds
namespace Go.Proofs.Ytankppgafdcknaa
/-- The row, under a short name, for the claim. -/
theorem stateHolds_holds : Rows.StateHoldsSaid := stateHolds.proved
end Go.Proofs.Ytankppgafdcknaa
