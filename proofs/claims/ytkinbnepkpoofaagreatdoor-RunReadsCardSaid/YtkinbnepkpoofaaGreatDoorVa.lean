/- Texts joined into one: V11 Wt Body11. -/
import Derived.Test.YtkinbnepkpoofaaGreatDoorFa
import Derived.Test.YtkinbnepkpoofaaGreatDoorQt
import Derived.Test.YtkinbnepkpoofaaGreatDoorRd
import Derived.Test.YtkinbnepkpoofaaGreatDoorKh
import Derived.Test.YtkinbnepkpoofaaGreatDoorKg
import Derived.Test.YtkinbnepkpoofaaGreatDoorKc
/- RunReads comes to true: its book; the law. -/
set_option linter.unusedVariables false
set_option linter.unusedSimpArgs false
set_option maxRecDepth 100000
namespace Go.Proofs.YtkinbnepkpoofaaGreatDoor
open Go Go.AM
theorem OkZ_sel {P : Program} {f : FuncId} {l : List Sz} (h : ∀ sp ∈ l, OkZ P f sp) (sel : List AV → Nat) : OkZ P f fun us H => match l[sel us]? with
  | some sp => sp us H
  | none => none := by
 constructor
 ·
  intro us H res H' hq
  dsimp only at hq
  cases hs : l[sel us]? with
  | none => rw [hs] at hq; cases hq
  | some sp =>
   rw [hs] at hq
   exact (h sp (List.mem_of_getElem? hs)).ret us H res H' hq
 ·
  intro us H x H' hq
  have hq : (match l[sel us]? with
   | some sp => sp us H
   | none => none) = some (true, x, H') := hq
  cases hs : l[sel us]? with
  | none => rw [hs] at hq; cases hq
  | some sp =>
   rw [hs] at hq
   exact (h sp (List.mem_of_getElem? hs)).pan us H x H' hq
def rrSel (xs : List AV) : Nat := match xs with
 | .im (.agg [.sl _ _ [.agg [_, _, _, .sl _ _ [.agg [_, _, _, _, _, .sl _ _ b, _], _]]]]) :: _ => b.length / 2
 | _ => 0
noncomputable def rrXs : List Sz := [rrX0, rrX1, rrX2, rrX3, rrX4, rrX5, rrX6, rrX7, rrX8, rrX9, rrX10, rrX11, rrX12, rrX13, rrX14]
noncomputable def rrYs : List Sz := [rrY0, rrY1, rrY2, rrY3, rrY4, rrY5, rrY6, rrY7, rrY8, rrY9, rrY10, rrY11, rrY12, rrY13, rrY14]
noncomputable def spX : Sz := fun xs H => match rrXs[rrSel xs]? with
 | some sp => sp xs H
 | none => none
noncomputable def spY : Sz := fun xs H => match rrYs[rrSel xs]? with
 | some sp => sp xs H
 | none => none
theorem spX_ok : OkZ Tryz.prog 33 spX := OkZ_sel (l := rrXs) (fA rrX0_ok <| fA rrX1_ok <| fA rrX2_ok <| fA rrX3_ok <| fA rrX4_ok <| fA rrX5_ok <| fA rrX6_ok <| fA rrX7_ok <| fA rrX8_ok <| fA rrX9_ok <| fA rrX10_ok <| fA rrX11_ok <| fA rrX12_ok <| fA rrX13_ok <| fA rrX14_ok <| nA) rrSel
theorem spY_ok : OkZ Tryz.prog 37 spY := OkZ_sel (l := rrYs) (fA rrY0_ok <| fA rrY1_ok <| fA rrY2_ok <| fA rrY3_ok <| fA rrY4_ok <| fA rrY5_ok <| fA rrY6_ok <| fA rrY7_ok <| fA rrY8_ok <| fA rrY9_ok <| fA rrY10_ok <| fA rrY11_ok <| fA rrY12_ok <| fA rrY13_ok <| fA rrY14_ok <| nA) rrSel
noncomputable def yesZ : Sz := constSz (false, .im (.bool true), [])
noncomputable def kl11 : List (Nat × Sz) := [(31, yesZ), (33, spX), (37, spY)]
noncomputable def BK11 : S.BookM := ⟨T, lookL [(11, fi11)], lookL kl11, fun _ xs => xs⟩
theorem lookL_of {α : Type} {p : Nat → α → Prop} : ∀ {l : List (Nat × α)}, (∀ x ∈ l, p x.1 x.2) → ∀ {f : Nat} {i : α}, lookL l f = some i → p f i
 | [], _, _, _, h => by simp [lookL] at h
 | x :: l, hl, f, i, h => by
  have := lookL_mem h
  exact hl _ this
theorem kl11_ok : ∀ x ∈ kl11, OkZ Tryz.prog x.1 x.2 := by
 simp only [kl11, List.mem_cons, List.not_mem_nil, or_false, forall_eq_or_imp, forall_eq]
 exact ⟨E08ok, spX_ok, spY_ok⟩
theorem BK11_ok : BK11.ok Tryz.prog := by
 refine ⟨hT, hm, fun f i h => lookL_of (p := fun f i => i.ok Tryz.prog f) (l := [(11, fi11)]) ?_ h, fun f sp h => lookL_of (p := fun f i => OkZ Tryz.prog f i) kl11_ok h, fun I κ f xs vs h => h⟩
 simp only [List.mem_cons, List.not_mem_nil, or_false, forall_eq]
 exact fi11_ok
noncomputable abbrev cs11 : Oracle := S.sem BK11
def rrSt (k : Int) : D := .agg [.int .i64 1, .int .i64 0, .str [120, 115], .str [], .sl true 5 [.agg [.int .i64 0, .str [], .int .i64 k, .str [], .sl true 0 []], rrV], .sl true 0 [], .sl true 0 []]
def rrBody (i : Nat) : List D := (List.range i).flatMap fun (k : Nat) => [rrRd, rrSt (k : Int)]
theorem rrBody_succ (i : Nat) : rrBody (i + 1) = rrBody i ++ [rrRd, rrSt (i : Int)] := by
 unfold rrBody
 rw [List.range_succ, List.flatMap_append]
 rfl
theorem rrBody_len (i : Nat) : (rrBody i).length = 2 * i := by
 induction i with
 | zero => rfl
 | succ i ih => rw [rrBody_succ, List.length_append, ih]; simp; omega
def rrProg (n : Nat) : D := .agg [.sl false 4 [.agg [.str [109, 97, 105, 110], .sl true 0 [], .sl true 2 [.agg [.str [97], .int .i64 0], .agg [.str [120, 115], .int .i64 15]], .sl true 7 [.agg [.int .i64 5, .int .i64 0, .str [], .str [], .sl true 5 [rrOne], .sl false 7 (rrBody n ++ [rrBk]), .sl true 0 []], rrRet]]]]
abbrev iargs (xs : List Int) : D := .sl false 1 (xs.map (D.int .i64))
theorem eq33 {n : Nat} (hn : n < 15) {xs : List Int} (hx : xs.length ≤ 10) : S.pureS cs11 [.any, .int .i64] 33 [.im (rrProg n), .im (iargs xs), .im (.int .i64 100), .im (.int .i64 0), .im (.sl true 0 [])] = some (.agg [.int .i64 0, .int .i64 ((2 * n + 3 : Nat) : Int), .int .i64 (-1), .sl true 0 []], 0, ()) := by
 have key : ∀ {sp : Sz} {p : D}, rrProg n = p → rrXs[rrSel [.im p, .im (iargs xs), .im (.int .i64 100), .im (.int .i64 0), .im (.sl true 0 [])]]? = some sp →
   sp [.im p, .im (iargs xs), .im (.int .i64 100), .im (.int .i64 0), .im (.sl true 0 [])] [] = some (false, .tup [.im (.agg [.int .i64 0, .int .i64 ((2 * n + 3 : Nat) : Int), .int .i64 (-1), .sl true 0 []]), .im (.int .i64 0)], []) →
   S.pureS cs11 [.any, .int .i64] 33 [.im (rrProg n), .im (iargs xs), .im (.int .i64 100), .im (.int .i64 0), .im (.sl true 0 [])] = some (.agg [.int .i64 0, .int .i64 ((2 * n + 3 : Nat) : Int), .int .i64 (-1), .sl true 0 []], 0, ()) := by
  intro sp p hp hs hr
  rw [hp]
  refine S.pure_known (B := BK11) (sp := spX) rfl (res := .tup [.im (.agg [.int .i64 0, .int .i64 ((2 * n + 3 : Nat) : Int), .int .i64 (-1), .sl true 0 []]), .im (.int .i64 0)]) (H' := []) ?_ rfl rfl
  show spX _ _ = _
  unfold spX
  rw [show BK11.norm 33 [.im p, .im (iargs xs), .im (.int .i64 100), .im (.int .i64 0), .im (.sl true 0 [])] = [.im p, .im (iargs xs), .im (.int .i64 100), .im (.int .i64 0), .im (.sl true 0 [])] from rfl, hs]
  exact hr
 match n, hn with
 | 0, _ => exact key (p := rrP0) rfl rfl (rrFa0 xs hx)
 | 1, _ => exact key (p := rrP1) rfl rfl (rrFa1 xs hx)
 | 2, _ => exact key (p := rrP2) rfl rfl (rrFa2 xs hx)
 | 3, _ => exact key (p := rrP3) rfl rfl (rrFa3 xs hx)
 | 4, _ => exact key (p := rrP4) rfl rfl (rrFa4 xs hx)
 | 5, _ => exact key (p := rrP5) rfl rfl (rrFa5 xs hx)
 | 6, _ => exact key (p := rrP6) rfl rfl (rrFa6 xs hx)
 | 7, _ => exact key (p := rrP7) rfl rfl (rrFa7 xs hx)
 | 8, _ => exact key (p := rrP8) rfl rfl (rrFa8 xs hx)
 | 9, _ => exact key (p := rrP9) rfl rfl (rrFa9 xs hx)
 | 10, _ => exact key (p := rrP10) rfl rfl (rrFa10 xs hx)
 | 11, _ => exact key (p := rrP11) rfl rfl (rrFa11 xs hx)
 | 12, _ => exact key (p := rrP12) rfl rfl (rrFa12 xs hx)
 | 13, _ => exact key (p := rrP13) rfl rfl (rrFa13 xs hx)
 | 14, _ => exact key (p := rrP14) rfl rfl (rrFa14 xs hx)
 | n + 15, h => exact absurd h (by omega)
theorem lastV_some {r : Option (Bool × AV × Heap)} {n : Nat} {e : Int} {d : D} (h : lastV r = some (n, e, d)) : ∃ ds, r = some (false, .tup [.ref 0 0 n, .im (.int .i64 e)], [some (.c 2 ds)]) ∧ ds.length = n ∧ ds.getLast? = some d := by
 unfold lastV at h
 split at h
 ·
  split at h
  ·
   rename_i hl
   split at h
   ·
    rename_i hd
    cases h
    rw [Nat.beq_eq] at hl
    exact ⟨_, rfl, hl, hd⟩
   ·
    cases h
  ·
   cases h
 ·
  cases h
theorem eq37 {n : Nat} (hn : n < 15) {xs : List Int} (hx : xs.length ≤ 10) : ∃ ds a, S.pureS cs11 [.any, .int .i64] 37 [.im (rrProg n), .im (iargs xs), .im (.int .i64 100)] = some (.sl false 2 ds, 0, ()) ∧ ds.length = 2 * n + 3 ∧ ds.getLast? = some (wantC n xs a) := by
 have key : ∀ {sp : Sz} {p : D}, rrProg n = p → rrYs[rrSel [.im p, .im (iargs xs), .im (.int .i64 100)]]? = some sp →
   (∃ a, lastV (sp [.im p, .im (iargs xs), .im (.int .i64 100)] []) = some (2 * n + 3, 0, wantC n xs a)) →
   ∃ ds a, S.pureS cs11 [.any, .int .i64] 37 [.im (rrProg n), .im (iargs xs), .im (.int .i64 100)] = some (.sl false 2 ds, 0, ()) ∧ ds.length = 2 * n + 3 ∧ ds.getLast? = some (wantC n xs a) := by
  intro sp p hp hs ⟨a, hr⟩
  rw [hp]
  obtain ⟨ds, h1, h2, h3⟩ := lastV_some hr
  refine ⟨ds, a, ?_, h2, h3⟩
  refine S.pure_known (B := BK11) (sp := spY) rfl (res := .tup [.ref 0 0 (2 * n + 3), .im (.int .i64 0)]) (H' := [some (.c 2 ds)]) (v := .tup [.im (.sl false 2 ds), .im (.int .i64 0)]) ?_ ?_ rfl
  ·
   show spY _ _ = _
   unfold spY
   rw [show BK11.norm 37 [.im p, .im (iargs xs), .im (.int .i64 100)] = [.im p, .im (iargs xs), .im (.int .i64 100)] from rfl, hs]
   exact h1
  ·
   have : view ds 0 (2 * n + 3) = ds := by unfold view; rw [List.drop_zero, ← h2, List.take_length]
   simp [snap, mapO, this]
 match n, hn with
 | 0, _ => exact key (p := rrP0) rfl rfl (rrGa0 xs hx)
 | 1, _ => exact key (p := rrP1) rfl rfl (rrGa1 xs hx)
 | 2, _ => exact key (p := rrP2) rfl rfl (rrGa2 xs hx)
 | 3, _ => exact key (p := rrP3) rfl rfl (rrGa3 xs hx)
 | 4, _ => exact key (p := rrP4) rfl rfl (rrGa4 xs hx)
 | 5, _ => exact key (p := rrP5) rfl rfl (rrGa5 xs hx)
 | 6, _ => exact key (p := rrP6) rfl rfl (rrGa6 xs hx)
 | 7, _ => exact key (p := rrP7) rfl rfl (rrGa7 xs hx)
 | 8, _ => exact key (p := rrP8) rfl rfl (rrGa8 xs hx)
 | 9, _ => exact key (p := rrP9) rfl rfl (rrGa9 xs hx)
 | 10, _ => exact key (p := rrP10) rfl rfl (rrGa10 xs hx)
 | 11, _ => exact key (p := rrP11) rfl rfl (rrGa11 xs hx)
 | 12, _ => exact key (p := rrP12) rfl rfl (rrGa12 xs hx)
 | 13, _ => exact key (p := rrP13) rfl rfl (rrGa13 xs hx)
 | 14, _ => exact key (p := rrP14) rfl rfl (rrGa14 xs hx)
 | n + 15, h => exact absurd h (by omega)
theorem wantA_at (n : Nat) (xs : List Int) {i : Nat} (hi : i < 15) : (wantA n xs)[i]? = some (.int .i64 (cond (Nat.blt i n) (match xs[i]? with
 | some x => x
 | none => 0) 0)) := by
 unfold wantA
 rw [List.getElem?_map, List.getElem?_range hi]
 rfl
theorem taken (l : List Int) : List.drop 0 (List.take (Int.toNat (if (10 : Int) < (↑(List.length (l.map (D.int .i64))) : Int) then (10 : Int) else (↑(List.length (l.map (D.int .i64))) : Int))) (l.map (D.int .i64))) = (l.take 10).map (D.int .i64) := by
 rw [List.drop_zero, ← List.map_take, List.length_map]
 congr 1
 split
 ·
  rfl
 ·
  rw [Int.toNat_natCast]
  rw [List.take_of_length_le (Nat.le_refl _), List.take_of_length_le (by omega)]
theorem L11_2_at {l : List Int} {b n : Nat} (hb : IntKind.wrap .i64 (Int.tmod (b : Int) (15 : Int)) = (n : Int)) {hd : Int} {c0 : D} (lf : Nat) (R4 : (Int) × (List D) → Option (S.Hms.T [.bool])) : ∀ (m q i : Nat), 15 - i = m → m < q → i ≤ 15 →
  L11_2 cs11 lf (l.map (D.int .i64)) (b : Int) (true, ()) (hd, [c0, .agg [.str [120, 115], .bool true, .sl false 1 (wantA n (l.take 10))]]) R4 q (i : Int) = some (true, ()) := by
 intro m
 induction m with
 | zero =>
  intro q i hm hq hi
  obtain ⟨q, rfl⟩ : ∃ p, q = p + 1 := ⟨q - 1, by omega⟩
  have : i = 15 := by omega
  subst this
  simp [L11_2, B11_2]
 | succ m ih =>
  intro q i hm hq hi
  obtain ⟨q, rfl⟩ : ∃ p, q = p + 1 := ⟨q - 1, by omega⟩
  have hlt : i < 15 := by omega
  have e1 : decide ((i : Int) < (15 : Int)) = true := by simp; omega
  have e2 : decide ((0 : Int) ≤ (i : Int)) = true := by simp
  have w : IntKind.wrap .i64 ((i : Int) + 1) = ((i + 1 : Nat) : Int) := wrap_succ (n := 15) (by omega) (by omega)
  have wa := wantA_at n (l.take 10) hlt
  have c1 : ([c0, D.agg [.str [120, 115], .bool true, .sl false 1 (wantA n (l.take 10))]] : List D)[1]? = some (.agg [.str [120, 115], .bool true, .sl false 1 (wantA n (l.take 10))]) := rfl
  have st : S.stDec [.str, .bool, .sl 1] (D.agg [.str [120, 115], .bool true, .sl false 1 (wantA n (l.take 10))]) = some ([120, 115], true, wantA n (l.take 10)) := rfl
  have next := ih q (i + 1) (by omega) (by omega) (by omega)
  simp only [L11_2, B11_2, hb, taken]
  simp only [e1, e2, cond_true, Int.toNat_natCast, c1, st, S.optZ_some, wa, asInt_int, w, List.length_map, List.getElem?_map]
  by_cases hn : i < n
  ·
   have e3 : decide ((i : Int) < (n : Int)) = true := by simp; omega
   have e4 : Nat.blt i n = true := by rw [Nat.blt_eq]; exact hn
   rw [e3, e4]
   by_cases hl : i < (l.take 10).length
   ·
    have e5 : decide ((i : Int) < (((l.take 10).length : Nat) : Int)) = true := by simp only [decide_eq_true_eq]; omega
    rw [e5, List.getElem?_eq_getElem hl]
    simp only [cond_true, Option.map_some, S.optZ_some, asInt_int, bne_self_eq_false, cond_false]
    exact next
   ·
    have e5 : decide ((i : Int) < (((l.take 10).length : Nat) : Int)) = false := by simp only [decide_eq_false_iff_not]; omega
    rw [e5, List.getElem?_eq_none (by omega)]
    simp only [cond_false, cond_true, bne_self_eq_false]
    exact next
  ·
   have e3 : decide ((i : Int) < (n : Int)) = false := by simp only [decide_eq_false_iff_not]; omega
   have e4 : Nat.blt i n = false := by
    cases h : Nat.blt i n with
    | false => rfl
    | true => rw [Nat.blt_eq] at h; exact absurd h hn
   rw [e3, e4]
   simp only [cond_false, bne_self_eq_false]
   exact next
theorem L11_1_at {l : List Int} {b n : Nat} (hb : IntKind.wrap .i64 (Int.tmod (b : Int) (15 : Int)) = (n : Int)) (hn : n < 15) (lf : Nat) (hlf : 20 ≤ lf) : ∀ (m q i : Nat), n - i = m → m < q → i ≤ n →
  L11_1 cs11 lf (l.map (D.int .i64)) (b : Int) (true, ()) q ((i : Int), rrBody i) = some (true, ()) := by
 intro m
 induction m with
 | zero =>
  intro q i hm hq hi
  obtain ⟨q, rfl⟩ : ∃ p, q = p + 1 := ⟨q - 1, by omega⟩
  have : i = n := by omega
  subst this
  have e1 : decide ((i : Int) < (i : Int)) = false := by simp
  have e2 : List.take (rrBody i).length (List.drop 0 (rrBody i)) = rrBody i := by rw [List.drop_zero, List.take_length]
  have e3 : List.take (List.length (rrBody i ++ [rrBk])) (List.drop 0 (rrBody i ++ [rrBk])) = rrBody i ++ [rrBk] := by rw [List.drop_zero, List.take_length]
  have e4 : decide (List.length (rrBody i ++ [rrBk]) * 120 ≤ 140737488355328) = true := by rw [List.length_append, rrBody_len]; simp; omega
  have e5 : decide (List.length (rrBody i ++ [rrBk]) ≤ 140737488355328) = true := by rw [List.length_append, rrBody_len]; simp; omega
  have hx : (l.take 10).length ≤ 10 := by rw [List.length_take]; omega
  have h33 := eq33 hn hx
  obtain ⟨ds, a, h37, hds, hlast⟩ := eq37 hn hx
  have w2 : IntKind.wrap .i64 (IntKind.wrap .i64 ((2 : Int) * (i : Int)) + (3 : Int)) = ((2 * i + 3 : Nat) : Int) := by
   rw [wrap_ok (n := (2 : Int) * (i : Int)) (by omega) (by omega), wrap_ok (by omega) (by omega)]
   omega
  have w3 : IntKind.wrap .i64 (((2 * i + 3 : Nat) : Int) - (1 : Int)) = ((2 * i + 2 : Nat) : Int) := by
   rw [wrap_ok (by omega) (by omega)]
   omega
  have g : ds[2 * i + 2]? = some (wantC i (l.take 10) a) := by
   rw [← hlast, List.getLast?_eq_getElem?, hds]
   rfl
  have e6 : decide ((0 : Int) ≤ ((2 * i + 2 : Nat) : Int)) = true := by simp only [decide_eq_true_eq]; omega
  have st1 : S.stDec [.int .i64, .int .i64, .int .i64, .sl 1] (D.agg [.int .i64 0, .int .i64 ((2 * i + 3 : Nat) : Int), .int .i64 (-1), .sl true 0 []]) = some (0, ((2 * i + 3 : Nat) : Int), -1, []) := rfl
  have st2 : S.stDec [.int .i64, .sl 3] (wantC i (l.take 10) a) = some (Int.ofNat (2 * i + 2), [.agg [.str [97], .bool false, .sl false 1 [a]], .agg [.str [120, 115], .bool true, .sl false 1 (wantA i (l.take 10))]]) := rfl
  have st3 : S.stDec [.str, .bool, .sl 1] (D.agg [.str [120, 115], .bool true, .sl false 1 (wantA i (l.take 10))]) = some ([120, 115], true, wantA i (l.take 10)) := rfl
  have l15 : (wantA i (l.take 10)).length = 15 := by simp [wantA]
  have c1 : ([.agg [.str [97], .bool false, .sl false 1 [a]], D.agg [.str [120, 115], .bool true, .sl false 1 (wantA i (l.take 10))]] : List D)[1]? = some (.agg [.str [120, 115], .bool true, .sl false 1 (wantA i (l.take 10))]) := rfl
  have lb : (rrBody i ++ [rrBk]).length = 2 * i + 1 := by rw [List.length_append, rrBody_len]; rfl
  delta rrBk at e3 lb
  simp only [L11_1, B11_1, hb, taken]
  rw [e2, e3]
  refine S.cneg e1 ?_
  refine S.cpos (by rw [decide_eq_true_eq, lb]; omega) ?_
  refine S.cpos (by rw [decide_eq_true_eq, lb]; omega) ?_
  refine S.optP h33 ?_
  refine S.optP st1 ?_
  refine S.optP h37 ?_
  refine S.optP (asSl_sl false 2 ds) ?_
  refine S.cneg rfl ?_
  refine S.cneg rfl ?_
  refine S.cneg (by rw [w2, hds]; exact bne_self_eq_false _) ?_
  refine S.cneg rfl ?_
  refine S.cneg (by rw [w2]; exact bne_self_eq_false _) ?_
  rw [hds, w3]
  refine S.cpos (by rw [decide_eq_true_eq]; omega) ?_
  refine S.optP g ?_
  refine S.optP st2 ?_
  refine S.cneg rfl ?_
  refine S.optP c1 ?_
  refine S.optP st3 ?_
  refine S.cneg (by dsimp only; rw [l15]; rfl) ?_
  exact L11_2_at (l := l) hb (hd := Int.ofNat (2 * i + 2)) (c0 := .agg [.str [97], .bool false, .sl false 1 [a]]) lf (L11_1 cs11 lf (l.map (D.int .i64)) (b : Int) (true, ()) q) 15 lf 0 (by omega) (by omega) (by omega)
 | succ m ih =>
  intro q i hm hq hi
  obtain ⟨q, rfl⟩ : ∃ p, q = p + 1 := ⟨q - 1, by omega⟩
  have e1 : decide ((i : Int) < (n : Int)) = true := by simp; omega
  have e2 : List.take (rrBody i).length (List.drop 0 (rrBody i)) = rrBody i := by rw [List.drop_zero, List.take_length]
  have w : IntKind.wrap .i64 ((i : Int) + 1) = ((i + 1 : Nat) : Int) := wrap_succ (n := 15) (by omega) (by omega)
  have e4 : decide (List.length (rrBody (i + 1)) * 120 ≤ 140737488355328) = true := by rw [rrBody_len]; simp; omega
  have e5 : decide (List.length (rrBody (i + 1)) ≤ 140737488355328) = true := by rw [rrBody_len]; simp; omega
  have sc := rrBody_succ i
  simp only [rrRd, rrSt, rrV] at sc
  simp only [L11_1, B11_1, hb, e1, cond_true, e2, ← sc, e4, e5, w]
  exact ih q (i + 1) (by omega) (by omega) (by omega)
theorem Sgs.ok_none {β : Type} {sg : S.Sgs β} (h : sg.inl = fun _ => none) (cs : Oracle) (r : β) : sg.Ok cs r := S.Sgs.ok_none h cs r
theorem eq31 : S.pureS cs11 [.bool] 31 [] = some (true, ()) := S.pure_known (B := BK11) (sp := yesZ) rfl rfl rfl rfl
theorem eq11 (l : List Int) (b : Nat) (hl : (l.length : Int) ≤ 9223372036854775807) : S.pureS cs11 [.bool] 11 [.im (.sl false 1 (l.map (D.int .i64))), .im (.int .u8 b)] = some (true, ()) := by
 refine S.pure_rule (i := fi11) rfl rfl (sg := SG) (lf := 20) rfl ((F11_eq _ _ _ _).trans ?_)
 unfold F11 G11
 rw [eq31]
 have hm := Nat.mod_lt b (show 0 < 15 by omega)
 have hb : IntKind.wrap .i64 (Int.tmod (b : Int) (15 : Int)) = ((b % 15 : Nat) : Int) := by
  rw [show Int.tmod (b : Int) (15 : Int) = ((b % 15 : Nat) : Int) from rfl]
  exact wrap_ok (by omega) (by omega)
 have g1 : decide ((0 : Int) ≤ if (10 : Int) < (↑(List.length (l.map (D.int .i64))) : Int) then (10 : Int) else (↑(List.length (l.map (D.int .i64))) : Int)) = true := by
  simp only [decide_eq_true_eq]
  split <;> omega
 have g2 : decide ((if (10 : Int) < (↑(List.length (l.map (D.int .i64))) : Int) then (10 : Int) else (↑(List.length (l.map (D.int .i64))) : Int)) ≤ (↑(List.length (l.map (D.int .i64))) : Int)) = true := by
  simp only [decide_eq_true_eq]
  split <;> omega
 simp only [S.optZ_some, Bool.not_true, cond_false, g1, g2, cond_true]
 exact L11_1_at hb (by omega) 20 (by omega) (b % 15) 20 0 (by omega) (by omega) (by omega)
end Go.Proofs.YtkinbnepkpoofaaGreatDoor
/- What the law's arguments are, as data. -/
set_option linter.unusedVariables false
set_option maxRecDepth 100000
namespace Go.Proofs.YtkinbnepkpoofaaGreatDoor
open Go Go.AM
theorem wt_int {n : Nat} {k : IntKind} {t : TypeId} {cs : List D} (h : wt Tryz.prog (n + 1) t cs) (ht : Tryz.prog.underlying t = some (.int k)) : ∃ m, cs = [.int k m] ∧ k.min ≤ m ∧ m ≤ k.max := by
 unfold wt at h
 rw [ht] at h
 exact h
theorem wt_u8 {n : Nat} {x : D} {t : TypeId} (h : wt Tryz.prog (n + 1) t [x]) (ht : Tryz.prog.underlying t = some (.int .u8)) : ∃ m : Nat, x = .int .u8 m ∧ m < 256 := by
 obtain ⟨c, hc, c0, c1⟩ := wt_int h ht
 have e0 : IntKind.min .u8 = 0 := by decide
 have e1 : IntKind.max .u8 = 255 := by decide
 rw [e0] at c0
 rw [e1] at c1
 refine ⟨c.toNat, ?_, by omega⟩
 rw [Int.toNat_of_nonneg c0]
 cases hc
 rfl
end Go.Proofs.YtkinbnepkpoofaaGreatDoor
/- RunReads: its arguments, as data. -/
set_option linter.unusedVariables false
set_option maxRecDepth 100000
namespace Go.Proofs.YtkinbnepkpoofaaGreatDoor
open Go Go.AM
theorem bk : BK11.ok Tryz.prog := BK11_ok
theorem wt_sl {n : Nat} {t e : TypeId} {cs : List D} (h : wt Tryz.prog (n + 1) t cs) (ht : Tryz.prog.underlying t = some (.slice e)) : ∃ es, cs = [.sl false (Tryz.prog.cellsOf e) es] ∧ es.length ≤ 9223372036854775807 ∧ ∀ d ∈ es, wt Tryz.prog n e d.cells ∧ elD Tryz.prog e d := by
 unfold wt at h
 rw [ht] at h
 exact h
theorem cells_int : Tryz.prog.cellsOf 2 = 1 := by kernel_rfl
theorem noAgg_el {e : TypeId} {d : D} (h : elD Tryz.prog e d) (ht : ∀ fs, Tryz.prog.underlying e ≠ some (.struct fs)) : d.cells = [d] := by
 unfold elD at h
 split at h
 ·
  rename_i fs hs; exact absurd hs (ht fs)
 ·
  exact noAgg_cells h
theorem wt_ints {n : Nat} : ∀ {es : List D}, (∀ d ∈ es, wt Tryz.prog (n + 1) 2 d.cells ∧ elD Tryz.prog 2 d) → ∃ l : List Int, es = l.map (D.int .i64)
 | [], _ => ⟨[], rfl⟩
 | d :: es, h => by
  obtain ⟨l, hl⟩ := wt_ints (es := es) fun x hx => h x (List.mem_cons_of_mem _ hx)
  obtain ⟨h1, h2⟩ := h d (by simp)
  obtain ⟨m, hm, _⟩ := wt_int h1 Tryz.underlying2
  rw [noAgg_el h2 (fun fs hf => by rw [Tryz.underlying2] at hf; cases hf)] at hm
  cases hm
  exact ⟨m :: l, by rw [hl]; rfl⟩
theorem body11 (x0 : D) (t0 : wt Tryz.prog 12 79 [x0]) (x1 : D) (t1 : wt Tryz.prog 12 5 [x1]) : S.pureS (S.sem BK11) [.bool] 11 [.im x0, .im x1] = some (true, ()) := by
 obtain ⟨es, h0, hl, hes⟩ := wt_sl t0 Tryz.underlying79
 obtain ⟨b, rfl, _⟩ := wt_u8 t1 Tryz.underlying5
 rw [cells_int] at h0
 cases h0
 obtain ⟨l, rfl⟩ := wt_ints hes
 exact eq11 l b (by rw [List.length_map] at hl; omega)
end Go.Proofs.YtkinbnepkpoofaaGreatDoor