/- Texts joined into one: BkR V10 V10b Body10. -/
import Derived.Test.YtkinbnepkpoofaaGreatDoorFa
import Derived.Test.YtkinbnepkpoofaaGreatDoorRd
import Derived.Test.YtkinbnepkpoofaaGreatDoorKc
/- The book of RunBegins. -/
set_option linter.unusedVariables false
set_option maxRecDepth 100000
namespace Go.Proofs.YtkinbnepkpoofaaGreatDoor
open Go Go.AM
def yes : Sp := fun vs H => match vs with
 | [] => match H with
  | [] => some (.im (.bool true), [])
  | _ => none
 | _ => none
noncomputable def BK : S.BookM := ⟨T, lookL [(85, fi85), (84, fi84_0), (44, fi44), (42, fi42), (10, fi10)], lookL [(31, yes)]⟩
theorem lookL_of {α : Type} {p : Nat → α → Prop} : ∀ {l : List (Nat × α)}, (∀ x ∈ l, p x.1 x.2) → ∀ {f : Nat} {i : α}, lookL l f = some i → p f i
 | [], _, _, _, h => by simp [lookL] at h
 | x :: l, hl, f, i, h => by
  have := lookL_mem h
  exact hl _ this
theorem BK_ok (he : Ok1 Tryz.prog 31 yes) : BK.ok Tryz.prog := by
 refine ⟨hT, hm, fun f i h => ?_, fun f sp h => ?_⟩
 ·
  refine lookL_of (p := fun f i => i.ok Tryz.prog f) (l := [(85, fi85), (84, fi84_0), (44, fi44), (42, fi42), (10, fi10)]) ?_ h
  simp only [List.mem_cons, List.not_mem_nil, or_false, forall_eq_or_imp, forall_eq]
  exact ⟨fi85_ok, fi84_0_ok, fi44_ok, fi42_ok, fi10_ok⟩
 ·
  refine lookL_of (p := fun f i => Ok1 Tryz.prog f i) (l := [(31, yes)]) ?_ h
  simp only [List.mem_cons, List.not_mem_nil, or_false, forall_eq]
  exact he
end Go.Proofs.YtkinbnepkpoofaaGreatDoor
/- RunBegins comes to true. -/
set_option linter.unusedVariables false
set_option maxRecDepth 100000
namespace Go.Proofs.YtkinbnepkpoofaaGreatDoor
open Go Go.AM
abbrev rows (l : List (List Int)) : List D := l.map fun r => .sl false 1 (ints r)
theorem L85_at (r1 r2 : List Int) (hl : r1.length = r2.length) (hb : r1.length ≤ 9223372036854775807) (cs : Oracle) (lf : Nat) : ∀ (d n i : Nat), r1.length - i = d → d < n → i ≤ r1.length →
  L85_1 cs lf (ints r1) (ints r2) n (i : Int) = some (decide (r1.drop i = r2.drop i), ()) := by
 intro d
 induction d with
 | zero =>
  intro n i hd hn hi
  obtain ⟨n, rfl⟩ : ∃ m, n = m + 1 := ⟨n - 1, by omega⟩
  have : i = r1.length := by omega
  subst this
  have h2 : r2.drop r1.length = [] := by rw [hl]; simp
  simp [L85_1, B85_1, h2]
 | succ d ih =>
  intro n i hd hn hi
  obtain ⟨n, rfl⟩ : ∃ m, n = m + 1 := ⟨n - 1, by omega⟩
  have h1 : i < r1.length := by omega
  have h2 : i < r2.length := by omega
  have e1 : ((i : Int) < (r1.length : Int)) := by omega
  have e2 : (0 : Int) ≤ (i : Int) := by omega
  have w : IntKind.wrap .i64 ((i : Int) + 1) = ((i + 1 : Nat) : Int) := by rw [wrap_ok (by omega) (by omega)]; rfl
  simp only [L85_1, B85_1, List.length_map, decide_eq_true e1, decide_eq_true e2, cond_true, Int.toNat_natCast, List.getElem?_map, List.getElem?_eq_getElem h1, List.getElem?_eq_getElem h2, Option.map_some, S.optZ_some, asInt_int, w]
  rw [ih n (i + 1) (by omega) (by omega) (by omega)]
  rw [List.drop_eq_getElem_cons h1, List.drop_eq_getElem_cons h2]
  by_cases e : r1[i] = r2[i]
  ·
   simp only [e, bne_self_eq_false, cond_false, List.cons.injEq, true_and]
  ·
   have hne : (r1[i] != r2[i]) = true := by simpa using e
   simp only [hne, cond_true, List.cons.injEq, e, false_and, decide_false]
theorem eq85 (r1 r2 : List Int) (hb : r1.length ≤ 9223372036854775807) : S.pureS (S.sem BK) [.bool] 85 [.im (.sl false 1 (ints r1)), .im (.sl false 1 (ints r2))] = some (decide (r1 = r2), ()) := by
 refine S.pure_rule (i := fi85) rfl rfl (sg := SG) (lf := r1.length + 1) ((F85_eq _ _ _ _).trans ?_)
 unfold F85 G85
 by_cases hl : r1.length = r2.length
 ·
  have h := L85_at r1 r2 hl hb (S.sem BK) (r1.length + 1) r1.length (r1.length + 1) 0 (by omega) (by omega) (by omega)
  simp only [List.length_map, hl, bne_self_eq_false, cond_false]
  rw [hl] at h
  exact h
 ·
  have : ((r1.length : Int) != (r2.length : Int)) = true := by simp; omega
  have hne : r1 ≠ r2 := fun e => hl (by rw [e])
  simp [this, hne]
theorem L84_at (a b : List (List Int)) (hl : a.length = b.length) (hb : a.length ≤ 9223372036854775807) (hr : ∀ r ∈ a, r.length ≤ 9223372036854775807) (lf : Nat) : ∀ (d n i : Nat), a.length - i = d → d < n → i ≤ a.length →
  L84_0_1 (S.sem BK) lf (rows a) (rows b) 85 n (i : Int) = some (decide (a.drop i = b.drop i), ()) := by
 intro d
 induction d with
 | zero =>
  intro n i hd hn hi
  obtain ⟨n, rfl⟩ : ∃ m, n = m + 1 := ⟨n - 1, by omega⟩
  have : i = a.length := by omega
  subst this
  have h2 : b.drop a.length = [] := by rw [hl]; simp
  simp [L84_0_1, B84_0_1, h2]
 | succ d ih =>
  intro n i hd hn hi
  obtain ⟨n, rfl⟩ : ∃ m, n = m + 1 := ⟨n - 1, by omega⟩
  have h1 : i < a.length := by omega
  have h2 : i < b.length := by omega
  have e1 : ((i : Int) < (a.length : Int)) := by omega
  have e2 : (0 : Int) ≤ (i : Int) := by omega
  have w : IntKind.wrap .i64 ((i : Int) + 1) = ((i + 1 : Nat) : Int) := by rw [wrap_ok (by omega) (by omega)]; rfl
  simp only [L84_0_1, B84_0_1, List.length_map, decide_eq_true e1, decide_eq_true e2, cond_true, Int.toNat_natCast, List.getElem?_map, List.getElem?_eq_getElem h1, List.getElem?_eq_getElem h2, Option.map_some, S.optZ_some, asSl_sl, w]
  rw [eq85 _ _ (hr _ (List.getElem_mem h1))]
  simp only [S.optZ_some]
  rw [ih n (i + 1) (by omega) (by omega) (by omega)]
  rw [List.drop_eq_getElem_cons h1, List.drop_eq_getElem_cons h2]
  by_cases e : a[i] = b[i]
  ·
   simp only [e, decide_true, Bool.not_true, cond_false, List.cons.injEq, true_and]
  ·
   simp only [e, decide_false, Bool.not_false, cond_true, List.cons.injEq, false_and]
theorem eq84 (a b : List (List Int)) (hb : a.length ≤ 9223372036854775807) (hr : ∀ r ∈ a, r.length ≤ 9223372036854775807) : S.pureS (S.sem BK) [.bool] 84 [.im (.sl false 1 (rows a)), .im (.sl false 1 (rows b)), .im (.fn (.func 85) [] [])] = some (decide (a = b), ()) := by
 refine S.pure_rule (i := fi84_0) rfl rfl (sg := SG) (lf := a.length + 1) ((F84_0_eq _ _ _ _ _).trans ?_)
 unfold F84_0 G84_0
 by_cases hl : a.length = b.length
 ·
  have h := L84_at a b hl hb hr (a.length + 1) a.length (a.length + 1) 0 (by omega) (by omega) (by omega)
  simp only [List.length_map, hl, bne_self_eq_false, cond_false]
  rw [hl] at h
  exact h
 ·
  have : ((a.length : Int) != (b.length : Int)) = true := by simp; omega
  have hne : a ≠ b := fun e => hl (by rw [e])
  simp [this, hne]
theorem eq44 (a b : List (List Int)) (hb : a.length ≤ 9223372036854775807) (hr : ∀ r ∈ a, r.length ≤ 9223372036854775807) : S.pureS (S.sem BK) [.bool] 44 [.im (.sl false 1 (rows a)), .im (.sl false 1 (rows b))] = some (decide (a <+: b), ()) := by
 refine S.pure_rule (i := fi44) rfl rfl (sg := SG) (lf := 0) ((F44_eq _ _ _ _).trans ?_)
 unfold F44
 by_cases hl : a.length ≤ b.length
 ·
  have e1 : (a.length : Int) ≤ (b.length : Int) := by omega
  have e2 : List.drop 0 (List.take (Int.toNat (a.length : Int)) (rows b)) = rows (b.take a.length) := by
   simp [List.map_take]
  simp only [List.length_map, decide_eq_true e1, cond_true, e2]
  rw [eq84 a (b.take a.length) hb hr]
  simp only [S.optZ_some, Option.some.injEq, Prod.mk.injEq, and_true]
  rw [Bool.eq_iff_iff]
  simp only [decide_eq_true_eq]
  rw [List.prefix_iff_eq_take]
 ·
  have e1 : ¬ ((a.length : Int) ≤ (b.length : Int)) := by omega
  have hn : ¬ a <+: b := fun h => hl h.length_le
  simp only [List.length_map, decide_eq_false e1, cond_false, hn, decide_false]
theorem eq44n (b : List D) : S.pureS (S.sem BK) [.bool] 44 [.im (.sl true 0 []), .im (.sl false 1 b)] = some (true, ()) := by
 refine S.pure_rule (i := fi44_n0) rfl rfl (sg := SG) (lf := 0) ((F44_n0_eq _ _ _).trans ?_)
 have h : S.pureS (S.sem BK) [.bool] 84 [.im (.sl true 0 []), .im (.sl false 1 []), .im (.fn (.func 85) [] [])] = some (true, ()) := by
  refine S.pure_rule (i := fi84_0n0) rfl rfl (sg := SG) (lf := 1) ((F84_0n0_eq _ _ _ _).trans ?_)
  rfl
 unfold F44_n0
 rw [h]
 rfl
theorem eq42 (a b : List (List Int)) (hb : a.length ≤ 9223372036854775807) (hr : ∀ r ∈ a, r.length ≤ 9223372036854775807) : S.pureS (S.sem BK) [.bool] 42 [.im (.agg [.int .i64 0, .int .i64 0, .int .i64 0, .sl false 1 (rows a)]), .im (.agg [.int .i64 0, .int .i64 0, .int .i64 0, .sl false 1 (rows b)])] = some (decide (a = b), ()) := by
 refine S.pure_rule (i := fi42) rfl rfl (sg := SG) (lf := 0) ((F42_eq _ _ _ _ _ _ _ _ _ _).trans ?_)
 unfold F42
 rw [eq84 a b hb hr]
 rfl
end Go.Proofs.YtkinbnepkpoofaaGreatDoor
/- RunBegins comes to true: the law itself. -/
set_option linter.unusedVariables false
set_option linter.unusedSimpArgs false
set_option maxRecDepth 100000
namespace Go.Proofs.YtkinbnepkpoofaaGreatDoor
open Go Go.AM
abbrev RT := Bool × Int → Option (S.Hms.T [.bool])
theorem L65 (cs : Oracle) (lf : Nat) (a b : List D) (d1 : Bool × Unit) (v : Int) (R : RT) : ∀ (n : Nat), L10_6 cs lf a b d1 v R n = L10_5 cs lf a b d1 v R n
 | 0 => rfl
 | n + 1 => by
  funext s
  show B10_6 cs lf a b d1 v R s (L10_6 cs lf a b d1 v R n) = B10_5 cs lf a b d1 v R s (L10_5 cs lf a b d1 v R n)
  rw [L65 cs lf a b d1 v R n]
  rfl
theorem inner_false (cs : Oracle) (lf : Nat) (a b : List (List Int)) (d1 : Bool × Unit) (R : RT) (i n : Nat) (k : Int) (h1 : i < a.length) (w : IntKind.wrap .i64 ((i : Int) + 1) = ((i + 1 : Nat) : Int)) :
  L10_5 cs lf (rows a) (rows b) d1 (i : Int) R (n + 1) (false, k) = R (false, ((i + 1 : Nat) : Int)) := by
 have e2 : (0 : Int) ≤ (i : Int) := by omega
 simp only [L10_5, B10_5, decide_eq_true e2, cond_true, Int.toNat_natCast, List.getElem?_map, List.getElem?_eq_getElem h1, Option.map_some, S.optZ_some, asSl_sl, w, cond_false]
 cases decide (k < ((ints a[i]).length : Int)) <;> rfl
theorem inner_true (cs : Oracle) (lf : Nat) (a b : List (List Int)) (d1 : Bool × Unit) (R : RT) (i : Nat) (h1 : i < a.length) (h2 : i < b.length) (w : IntKind.wrap .i64 ((i : Int) + 1) = ((i + 1 : Nat) : Int))
  (hl : a[i].length = b[i].length) (hb : a[i].length ≤ 9223372036854775807) : ∀ (d n k : Nat), a[i].length - k = d → d + 1 < n → k ≤ a[i].length →
  L10_5 cs lf (rows a) (rows b) d1 (i : Int) R n (true, (k : Int)) = R (decide (a[i].drop k = b[i].drop k), ((i + 1 : Nat) : Int)) := by
 intro d
 have e2 : (0 : Int) ≤ (i : Int) := by omega
 induction d with
 | zero =>
  intro n k hd hn hk
  obtain ⟨n, rfl⟩ : ∃ m, n = m + 1 := ⟨n - 1, by omega⟩
  have : k = a[i].length := by omega
  subst this
  have hz : b[i].drop a[i].length = [] := by rw [hl]; simp
  simp [L10_5, B10_5, h1, w, hz]
 | succ d ih =>
  intro n k hd hn hk
  obtain ⟨n, rfl⟩ : ∃ m, n = m + 1 := ⟨n - 1, by omega⟩
  have hk1 : k < a[i].length := by omega
  have hk2 : k < b[i].length := by omega
  have e3 : (k : Int) < (a[i].length : Int) := by omega
  have e4 : (0 : Int) ≤ (k : Int) := by omega
  have w2 : IntKind.wrap .i64 ((k : Int) + 1) = ((k + 1 : Nat) : Int) := by rw [wrap_ok (by omega) (by omega)]; rfl
  simp only [L10_5, B10_5, decide_eq_true e2, decide_eq_true e3, decide_eq_true e4, cond_true, Int.toNat_natCast, List.getElem?_map, List.getElem?_eq_getElem h1, List.getElem?_eq_getElem h2, List.getElem?_eq_getElem hk1, List.getElem?_eq_getElem hk2, List.length_map, Option.map_some, S.optZ_some, asSl_sl, asInt_int, w, w2]
  rw [List.drop_eq_getElem_cons hk1, List.drop_eq_getElem_cons hk2]
  by_cases e : a[i][k] = b[i][k]
  ·
   simp only [e, beq_self_eq_true]
   rw [ih n (k + 1) (by omega) (by omega) (by omega)]
   simp only [List.cons.injEq, true_and]
  ·
   have hne : (a[i][k] == b[i][k]) = false := by simpa using e
   obtain ⟨n, rfl⟩ : ∃ m, n = m + 1 := ⟨n - 1, by omega⟩
   rw [hne, inner_false cs lf a b d1 R i n _ h1 w]
   simp only [List.cons.injEq, e, false_and, decide_false]
theorem take_succ' {a : List (List Int)} {i : Nat} (h : i < a.length) : a.take (i + 1) = a.take i ++ [a[i]] := by
 rw [List.take_add_one, List.getElem?_eq_getElem h]; rfl
theorem L104_at (a b : List (List Int)) (ha : a.length ≤ 9223372036854775807) (hra : ∀ r ∈ a, r.length ≤ 9223372036854775807) (lf : Nat) (hlf : ∀ r ∈ a, r.length + 2 < lf) (hlf2 : 0 < lf) : ∀ (d n i : Nat) (want : Bool), a.length - i = d → d + 1 < n → i ≤ a.length →
  (want = true → a.length ≤ b.length ∧ a.take i = b.take i) → (want = false → ¬ a <+: b) →
  L10_4 (S.sem BK) lf (rows a) (rows b) (true, ()) n (want, (i : Int)) = some (true, ()) := by
 have tail : ∀ (want : Bool), want = decide (a <+: b) → (S.optZ (S.pureS (S.sem BK) [.bool] 44 [.im (.sl false 1 (rows a)), .im (.sl false 1 (rows b))]) fun d35 =>
   cond (d35.1 == want) (S.optZ (S.pureS (S.sem BK) [.bool] 44 [.im (.sl false 1 (rows a)), .im (.sl false 1 (rows a))]) fun d36 =>
    cond d36.1 (S.optZ (S.pureS (S.sem BK) [.bool] 44 [.im (.sl true 0 []), .im (.sl false 1 (rows a))]) fun d37 =>
     cond d37.1 (S.optZ (S.pureS (S.sem BK) [.bool] 42 [.im (.agg [.int .i64 0, .int .i64 0, .int .i64 0, .sl false 1 (rows a)]), .im (.agg [.int .i64 0, .int .i64 0, .int .i64 0, .sl false 1 (rows b)])]) fun d38 =>
      cond want (some (d38.1 == (((rows a).length : Int) == ((rows b).length : Int)), PUnit.unit)) (some (d38.1 == false, PUnit.unit)))
      (some (false, PUnit.unit)))
     (some (false, PUnit.unit)))
    (some (false, PUnit.unit))) = (some (true, ()) : Option (S.Hms.T [.bool])) := by
  intro want hw
  have hp : a <+: a := List.prefix_refl a
  rw [eq44 a b ha hra, eq44 a a ha hra, eq44n, eq42 a b ha hra]
  simp only [S.optZ_some, hw, beq_self_eq_true, cond_true, hp, decide_true]
  by_cases h : a <+: b
  ·
   simp only [h, decide_true, cond_true, List.length_map]
   by_cases hl : a.length = b.length
   ·
    have : a = b := h.eq_of_length hl
    simp [this]
   ·
    have h1 : a ≠ b := fun e => hl (by rw [e])
    have h2 : ((a.length : Int) == (b.length : Int)) = false := by
     rw [beq_eq_false_iff_ne]; omega
    simp [h1, h2]
  ·
   have h1 : a ≠ b := fun e => h (by rw [e]; exact List.prefix_refl b)
   simp [h, h1]
 intro d
 induction d with
 | zero =>
  intro n i want hd hn hi ht hf
  obtain ⟨n, rfl⟩ : ∃ m, n = m + 1 := ⟨n - 1, by omega⟩
  have : i = a.length := by omega
  subst this
  have hw : want = decide (a <+: b) := by
   cases want with
   | true =>
    obtain ⟨h1, h2⟩ := ht rfl
    have : a <+: b := by rw [List.prefix_iff_eq_take, ← h2, List.take_length]
    simp [this]
   | false => simp [hf rfl]
  have e1 : ¬ ((a.length : Int) < ((rows a).length : Int)) := by simp
  simp only [L10_4, B10_4, decide_eq_false e1, cond_false, cond_true]
  exact tail want hw
 | succ d ih =>
  intro n i want hd hn hi ht hf
  obtain ⟨n, rfl⟩ : ∃ m, n = m + 1 := ⟨n - 1, by omega⟩
  have h1 : i < a.length := by omega
  have e1 : (i : Int) < ((rows a).length : Int) := by simp only [List.length_map]; omega
  have e1' : (i : Int) < (a.length : Int) := by omega
  have e2 : (0 : Int) ≤ (i : Int) := by omega
  cases want with
  | false =>
   simp only [L10_4, B10_4, decide_eq_true e1, cond_true, cond_false]
   exact tail false (by simp [hf rfl])
  | true =>
   obtain ⟨hle, htk⟩ := ht rfl
   have h2 : i < b.length := by omega
   have w : IntKind.wrap .i64 ((i : Int) + 1) = ((i + 1 : Nat) : Int) := by rw [wrap_ok (by omega) (by omega)]; rfl
   have hlen := hlf _ (List.getElem_mem h1)
   have hlr := hra _ (List.getElem_mem h1)
   have hnp : a[i] ≠ b[i] → ¬ a <+: b := by
    intro hne hp
    apply hne
    obtain ⟨t, rfl⟩ := hp
    rw [List.getElem_append_left h1]
   simp only [L10_4, B10_4, decide_eq_true e1, decide_eq_true e1', decide_eq_true e2, cond_true, Int.toNat_natCast, List.getElem?_map, List.getElem?_eq_getElem h1, List.getElem?_eq_getElem h2, Option.map_some, S.optZ_some, asSl_sl, List.length_map]
   obtain ⟨lf', hlf'⟩ : ∃ m, lf = m + 1 := ⟨lf - 1, by omega⟩
   by_cases hl : a[i].length = b[i].length
   ·
    have h3 : ((a[i].length : Int) != (b[i].length : Int)) = false := by rw [bne_eq_false_iff_eq]; omega
    rw [h3, cond_false, L65]
    have := inner_true (S.sem BK) lf a b (true, ()) (L10_4 (S.sem BK) lf (rows a) (rows b) (true, ()) n) i h1 h2 w hl hlr a[i].length lf 0 (by omega) (by omega) (by omega)
    refine Eq.trans this ?_
    simp only [List.drop_zero]
    refine ih n (i + 1) _ (by omega) (by omega) (by omega) (fun hw => ⟨hle, ?_⟩) (fun hw => ?_)
    ·
     rw [decide_eq_true_eq] at hw
     rw [take_succ' h1, take_succ' h2, htk, hw]
    ·
     rw [decide_eq_false_iff_not] at hw
     exact hnp hw
   ·
    have h3 : ((a[i].length : Int) != (b[i].length : Int)) = true := by rw [bne_iff_ne]; omega
    rw [h3, cond_true]
    have := inner_false (S.sem BK) lf a b (true, ()) (L10_4 (S.sem BK) lf (rows a) (rows b) (true, ()) n) i lf' 0 h1 w
    rw [← hlf'] at this
    refine Eq.trans this ?_
    exact ih n (i + 1) _ (by omega) (by omega) (by omega) (fun hw => by cases hw) (fun _ => hnp fun e => hl (by rw [e]))
theorem L1041 (cs : Oracle) (lf : Nat) (b : List D) (d : Int) (d1 : Bool × Unit) : ∀ n, L10_1 cs lf b d d1 n = L10_4 cs lf (List.drop 0 (List.take (Int.toNat (if (↑(List.length b) : Int) < IntKind.wrap .i64 (Int.tmod d 8) then (↑(List.length b) : Int) else IntKind.wrap .i64 (Int.tmod d 8))) b)) b d1 n
 | 0 => rfl
 | n + 1 => by
  have i2 : ∀ (v : Int) (R : RT) (m : Nat), L10_2 cs lf b d d1 v R m = L10_5 cs lf (List.drop 0 (List.take (Int.toNat (if (↑(List.length b) : Int) < IntKind.wrap .i64 (Int.tmod d 8) then (↑(List.length b) : Int) else IntKind.wrap .i64 (Int.tmod d 8))) b)) b d1 v R m := by
   intro v R m
   induction m with
   | zero => rfl
   | succ m ih =>
    funext s
    show B10_2 cs lf b d d1 v R s (L10_2 cs lf b d d1 v R m) = B10_5 cs lf _ b d1 v R s (L10_5 cs lf _ b d1 v R m)
    rw [ih]
    rfl
  have i3 : ∀ (v : Int) (R : RT) (m : Nat), L10_3 cs lf b d d1 v R m = L10_6 cs lf (List.drop 0 (List.take (Int.toNat (if (↑(List.length b) : Int) < IntKind.wrap .i64 (Int.tmod d 8) then (↑(List.length b) : Int) else IntKind.wrap .i64 (Int.tmod d 8))) b)) b d1 v R m := by
   intro v R m
   induction m with
   | zero => rfl
   | succ m ih =>
    funext s
    show B10_3 cs lf b d d1 v R s (L10_3 cs lf b d d1 v R m) = B10_6 cs lf _ b d1 v R s (L10_6 cs lf _ b d1 v R m)
    rw [ih]
    rfl
  funext s
  show B10_1 cs lf b d d1 (fun w0 s2 => L10_2 cs lf b d d1 w0 (L10_1 cs lf b d d1 n) lf s2) (fun w0 s2 => L10_3 cs lf b d d1 w0 (L10_1 cs lf b d d1 n) lf s2) s (L10_1 cs lf b d d1 n) = B10_4 cs lf _ b d1 (fun w0 s2 => L10_5 cs lf _ b d1 w0 (L10_4 cs lf _ b d1 n) lf s2) (fun w0 s2 => L10_6 cs lf _ b d1 w0 (L10_4 cs lf _ b d1 n) lf s2) s (L10_4 cs lf _ b d1 n)
  simp only [i2, i3]
  rw [L1041 cs lf b d d1 n]
  rfl
theorem yes31 : S.pureS (S.sem BK) [.bool] 31 [] = some (true, ()) := by
 have h : S.sem BK 31 [] [] = some (.im (.bool true), []) := S.sem_known (sp := yes) rfl rfl
 unfold S.pureS
 rw [h]
 rfl
theorem sum_le {l : List (List Int)} : ∃ m, ∀ r ∈ l, r.length + 2 < m := by
 induction l with
 | nil => exact ⟨1, fun r h => by cases h⟩
 | cons x l ih =>
  obtain ⟨m, hm⟩ := ih
  refine ⟨m + x.length + 3, fun r hr => ?_⟩
  rcases List.mem_cons.1 hr with rfl | hr
  ·
   omega
  ·
   have := hm r hr; omega
theorem law10 (a b : List (List Int)) (own : Bool) (cut : Int) (ha : a.length ≤ 9223372036854775807) (hra : ∀ r ∈ a, r.length ≤ 9223372036854775807) (hb : b.length ≤ 9223372036854775807) (hrb : ∀ r ∈ b, r.length ≤ 9223372036854775807) (hc0 : 0 ≤ cut) (hc1 : cut ≤ 255) :
  S.pureS (S.sem BK) [.bool] 10 [.im (.sl false 1 (rows a)), .im (.sl false 1 (rows b)), .im (.bool own), .im (.int .u8 cut)] = some (true, ()) := by
 obtain ⟨m1, hm1⟩ := sum_le (l := a)
 obtain ⟨m2, hm2⟩ := sum_le (l := b)
 refine S.pure_rule (i := fi10) rfl rfl (sg := SG) (lf := m1 + m2 + a.length + b.length + 3) ((F10_eq _ _ _ _ _ _).trans ?_)
 unfold F10 G10
 rw [yes31]
 simp only [S.optZ_some, Bool.not_true, cond_false]
 have fin : ∀ (x : List (List Int)), x.length ≤ 9223372036854775807 → (∀ r ∈ x, r.length ≤ 9223372036854775807) → (∀ r ∈ x, r.length + 2 < m1 + m2 + a.length + b.length + 3) → x.length ≤ a.length + b.length →
   L10_4 (S.sem BK) (m1 + m2 + a.length + b.length + 3) (rows x) (rows b) (true, ()) (m1 + m2 + a.length + b.length + 3) (decide (((rows x).length : Int) ≤ ((rows b).length : Int)), 0) = some (true, ()) := by
  intro x h1 h2 h3 h4
  refine L104_at x b h1 h2 _ h3 (by omega) x.length _ 0 _ (by omega) (by omega) (by omega) (fun hw => ?_) (fun hw => ?_)
  ·
   simp only [List.length_map, decide_eq_true_eq] at hw
   exact ⟨by omega, by simp⟩
  ·
   simp only [List.length_map, decide_eq_false_iff_not] at hw
   exact fun hp => hw (by have := hp.length_le; omega)
 cases own with
 | false =>
  simp only [cond_false]
  exact fin a ha hra (fun r hr => by have := hm1 r hr; omega) (by omega)
 | true =>
  have t0 : 0 ≤ Int.tmod cut 8 := Int.tmod_nonneg 8 hc0
  have t1 : Int.tmod cut 8 < 8 := Int.tmod_lt_of_pos cut (by decide)
  rw [L1041]
  simp only [cond_true]
  rw [wrap_ok (by omega) (by omega)]
  generalize hq : (if ((rows b).length : Int) < Int.tmod cut 8 then ((rows b).length : Int) else Int.tmod cut 8) = q
  have q0 : 0 ≤ q := by rw [← hq]; split <;> omega
  have q1 : q ≤ ((rows b).length : Int) := by rw [← hq]; split <;> omega
  have e : List.drop 0 (List.take q.toNat (rows b)) = rows (b.take q.toNat) := by simp [List.map_take]
  simp only [decide_eq_true q0, decide_eq_true q1, cond_true, e]
  refine fin (b.take q.toNat) (by rw [List.length_take]; omega) (fun r hr => hrb r (List.mem_of_mem_take hr)) (fun r hr => by have := hm2 r (List.mem_of_mem_take hr); omega) (by rw [List.length_take]; omega)
end Go.Proofs.YtkinbnepkpoofaaGreatDoor
/- RunBegins: its arguments, as data. -/
set_option linter.unusedVariables false
set_option maxRecDepth 100000
namespace Go.Proofs.YtkinbnepkpoofaaGreatDoor
open Go Go.AM
theorem ex_ok : Ok1 Tryz.prog 31 yes := by
 intro vs H res H' h
 refine E08ok.ret vs H res H' ?_
 unfold yes at h
 split at h
 ·
  split at h
  ·
   cases h; rfl
  ·
   cases h
 ·
  cases h
theorem bk : BK.ok Tryz.prog := BK_ok ex_ok
theorem wt_int {n : Nat} {k : IntKind} {t : TypeId} {cs : List D} (h : wt Tryz.prog (n + 1) t cs) (ht : Tryz.prog.underlying t = some (.int k)) : ∃ m, cs = [.int k m] ∧ k.min ≤ m ∧ m ≤ k.max := by
 unfold wt at h
 rw [ht] at h
 exact h
theorem wt_bool {n : Nat} {t : TypeId} {cs : List D} (h : wt Tryz.prog (n + 1) t cs) (ht : Tryz.prog.underlying t = some .bool) : ∃ b, cs = [.bool b] := by
 unfold wt at h
 rw [ht] at h
 exact h
theorem wt_sl {n : Nat} {t e : TypeId} {cs : List D} (h : wt Tryz.prog (n + 1) t cs) (ht : Tryz.prog.underlying t = some (.slice e)) : ∃ es, cs = [.sl false (Tryz.prog.cellsOf e) es] ∧ es.length ≤ 9223372036854775807 ∧ ∀ d ∈ es, wt Tryz.prog n e d.cells ∧ elD Tryz.prog e d := by
 unfold wt at h
 rw [ht] at h
 exact h
theorem cells_int : Tryz.prog.cellsOf 2 = 1 := by kernel_rfl
theorem cells_row : Tryz.prog.cellsOf 79 = 1 := by kernel_rfl
theorem noAgg_el {e : TypeId} {d : D} (h : elD Tryz.prog e d) (ht : ∀ fs, Tryz.prog.underlying e ≠ some (.struct fs)) : d.cells = [d] := by
 unfold elD at h
 split at h
 ·
  rename_i fs hs; exact absurd hs (ht fs)
 ·
  exact noAgg_cells h
theorem wt_ints {n : Nat} : ∀ {es : List D}, (∀ d ∈ es, wt Tryz.prog (n + 1) 2 d.cells ∧ elD Tryz.prog 2 d) → ∃ l : List Int, es = ints l
 | [], _ => ⟨[], rfl⟩
 | d :: es, h => by
  obtain ⟨l, hl⟩ := wt_ints (es := es) fun x hx => h x (List.mem_cons_of_mem _ hx)
  obtain ⟨h1, h2⟩ := h d (by simp)
  obtain ⟨m, hm, _⟩ := wt_int h1 Tryz.underlying2
  rw [noAgg_el h2 (fun fs hf => by rw [Tryz.underlying2] at hf; cases hf)] at hm
  cases hm
  exact ⟨m :: l, by rw [hl]; rfl⟩
theorem wt_rows {n : Nat} : ∀ {es : List D}, (∀ d ∈ es, wt Tryz.prog (n + 2) 79 d.cells ∧ elD Tryz.prog 79 d) → ∃ l : List (List Int), es = rows l ∧ ∀ r ∈ l, r.length ≤ 9223372036854775807
 | [], _ => ⟨[], rfl, fun r h => by cases h⟩
 | d :: es, h => by
  obtain ⟨l, hl, hb⟩ := wt_rows (es := es) fun x hx => h x (List.mem_cons_of_mem _ hx)
  obtain ⟨h1, h2⟩ := h d (by simp)
  obtain ⟨xs, hx, hlen, hxs⟩ := wt_sl h1 Tryz.underlying79
  rw [noAgg_el h2 (fun fs hf => by rw [Tryz.underlying79] at hf; cases hf), cells_int] at hx
  cases hx
  obtain ⟨r, rfl⟩ := wt_ints hxs
  exact ⟨r :: l, by rw [hl]; rfl, fun q hq => by
   rcases List.mem_cons.1 hq with rfl | hq
   ·
    simpa using hlen
   ·
    exact hb q hq⟩
theorem body10 (x0 : D) (t0 : wt Tryz.prog 12 74 [x0]) (x1 : D) (t1 : wt Tryz.prog 12 74 [x1]) (x2 : D) (t2 : wt Tryz.prog 12 4 [x2]) (x3 : D) (t3 : wt Tryz.prog 12 5 [x3]) :
  S.pureS (S.sem BK) [.bool] 10 [.im x0, .im x1, .im x2, .im x3] = some (true, ()) := by
 obtain ⟨a, h0, l0, r0⟩ := wt_sl t0 Tryz.underlying74
 obtain ⟨b, h1, l1, r1⟩ := wt_sl t1 Tryz.underlying74
 obtain ⟨o, h2⟩ := wt_bool t2 Tryz.underlying4
 obtain ⟨c, h3, c0, c1⟩ := wt_int t3 Tryz.underlying5
 rw [cells_row] at h0 h1
 cases h0; cases h1; cases h2; cases h3
 obtain ⟨a, rfl, ha⟩ := wt_rows r0
 obtain ⟨b, rfl, hb⟩ := wt_rows r1
 have e0 : IntKind.min .u8 = 0 := by decide
 have e1 : IntKind.max .u8 = 255 := by decide
 rw [e0] at c0
 rw [e1] at c1
 exact law10 a b o c (by simpa using l0) ha (by simpa using l1) hb c0 c1
end Go.Proofs.YtkinbnepkpoofaaGreatDoor