/- Texts joined into one: BK6 V6 V6b V6c Wt Body6. -/
import Derived.Test.YtkinbnepkpoofaaGreatDoorFa
import Derived.Test.YtkinbnepkpoofaaGreatDoorVa
import Derived.Test.YtkinbnepkpoofaaGreatDoorKf
import Derived.Test.YtkinbnepkpoofaaGreatDoorKc
import Derived.Test.YtkinbnepkpoofaaGreatDoorKg
import Derived.Test.YtkinbnepkpoofaaGreatDoorYd
/- The book of CheckSizes. -/
set_option linter.unusedVariables false
set_option maxRecDepth 100000
namespace Go.Proofs.YtkinbnepkpoofaaGreatDoor
open Go Go.AM
theorem clone97_Wt (K : AV → Heap → Prop) : W ((cloneFi T Tryz.f97).px T (fun _ _ _ => none) 0) (fun _ _ _ _ => False) (cloneR2 32) ((env2 1 []).set 4 (.im (.bool true))) [some (.c 1 [])] (finK T (cloneFi T Tryz.f97) 0 K) = K (.ref 0 0 0) [some (.c 1 [])] := by
 kernel_rfl
theorem clone97_Wf (es : List D) (K : AV → Heap → Prop) : W ((cloneFi T Tryz.f97).px T (fun _ _ _ => none) 0) (fun _ _ _ _ => False) (cloneR3 32) ((env2 1 es).set 4 (.im (.bool false))) [some (.c 1 [])] (finK T (cloneFi T Tryz.f97) 0 K) =
  cond ((es.map AV.im).all fun e => e.cells.all okCell) (es.length * 16 ≤ 140737488355328 ∧ es.length ≤ 140737488355328 ∧ K (.ref 0 0 es.length) [some (.c 1 es)]) False := by
 kernel_rfl
theorem clone97 : Ok1 Tryz.prog 97 (cloneSp 1 16) := clone_ok (T := T) hT hm Tryz.func97 (by decide) (by kernel_rfl) (by kernel_rfl) (by kernel_rfl) Tryz.underlying32
 (fun es => by kernel_rfl) (fun es o h => by cases h; kernel_rfl) (fun K h => (clone97_Wt K).symm ▸ h) (fun es K hc h => by
  rw [clone97_Wf]
  obtain ⟨h1, h2, h3⟩ := hc
  have h1' : ((es.map AV.im).all fun e => e.cells.all okCell) = true := by
   rw [List.all_map]
   simpa [Function.comp_def, im_cells, List.all_map] using h1
  rw [h1']
  exact ⟨h2, h3, h⟩)
noncomputable def clone97S : Sz := fun xs H => match cloneSp 1 16 xs H with
 | some (r, H') => some (false, r, H')
 | none => none
noncomputable def yesZ : Sz := constSz (false, .im (.bool true), [])
noncomputable def fl6 : List (Nat × Fi) := [(6, fi6), (18, fi18), (50, fi50), (29, fi29), (71, fi71_0), (121, fi121_c1), (122, fi122), (72, fi72), (124, fi124_0), (162, fi162_c1), (209, fi209_c1), (163, fi163), (125, fi125_0), (164, fi164_c1), (165, fi165), (60, fi60_c1), (61, fi61), (126, fi126), (127, fi127), (166, fi166_0), (115, fi115_c1), (157, fi157_c1), (86, fi86), (59, fi59), (113, fi113), (55, fi55_e0), (53, fi53), (21, fi21), (26, fi26), (67, fi67_c1), (68, fi68)] ++ inlL
noncomputable def kl6 : List (Nat × Sz) := [(15, yesZ), (123, kn 123), (98, kn 98), (99, kn 99), (97, clone97S)]
noncomputable def nrm6 : FuncId → List AV → List AV := fun f xs => match Nat.beq f 18 with
 | true => normP f xs
 | false => xs
noncomputable def BK6 : S.BookM := ⟨T, lookL fl6, lookL kl6, nrm6⟩
theorem lookL_of {α : Type} {p : Nat → α → Prop} : ∀ {l : List (Nat × α)}, (∀ x ∈ l, p x.1 x.2) → ∀ {f : Nat} {i : α}, lookL l f = some i → p f i
 | [], _, _, _, h => by simp [lookL] at h
 | x :: l, hl, f, i, h => by
  have := lookL_mem h
  exact hl _ this
theorem fl6_ok : ∀ x ∈ fl6, x.2.ok Tryz.prog x.1 := by
 simp only [fl6, inlL, List.cons_append, List.nil_append, List.mem_cons, List.not_mem_nil, or_false, forall_eq_or_imp, forall_eq]
 exact ⟨fi6_ok, fi18_ok, fi50_ok, fi29_ok, fi71_0_ok, fi121_c1_ok, fi122_ok, fi72_ok, fi124_0_ok, fi162_c1_ok, fi209_c1_ok, fi163_ok, fi125_0_ok, fi164_c1_ok, fi165_ok, fi60_c1_ok, fi61_ok, fi126_ok, fi127_ok, fi166_0_ok, fi115_c1_ok, fi157_c1_ok, fi86_ok, fi59_ok, fi113_ok, fi55_e0_ok, fi53_ok, fi21_ok, fi26_ok, fi67_c1_ok, fi68_ok, ii51_ok, ii52_ok, ii54_ok, ii100_ok, ii101_ok, ii103_ok, ii105_ok, ii107_ok, ii109_ok, ii110_ok⟩
theorem kl6_ok (he : OkZ Tryz.prog 15 yesZ) : ∀ x ∈ kl6, OkZ Tryz.prog x.1 x.2 := by
 simp only [kl6, List.mem_cons, List.not_mem_nil, or_false, forall_eq_or_imp, forall_eq]
 exact ⟨he, kn_ok 123, kn_ok 98, kn_ok 99, OkZ.plain clone97⟩
theorem BK6_ok (he : OkZ Tryz.prog 15 yesZ) : BK6.ok Tryz.prog := by
 refine ⟨hT, hm, fun f i h => lookL_of (p := fun f i => i.ok Tryz.prog f) fl6_ok h, fun f sp h => lookL_of (p := fun f i => OkZ Tryz.prog f i) (kl6_ok he) h, fun I κ f xs vs h => ?_⟩
 show RVs I κ (nrm6 f xs) vs
 unfold nrm6
 split
 ·
  exact normP_rv I κ f xs vs h
 ·
  exact h
theorem inl6 : ∀ p ∈ inlL, BK6.fi p.1 = some p.2 ∧ BK6.known p.1 = none ∧ ∀ xs, BK6.norm p.1 xs = xs := by
 simp only [inlL, List.mem_cons, List.not_mem_nil, or_false, forall_eq_or_imp, forall_eq]
 exact ⟨⟨rfl, rfl, fun _ => rfl⟩, ⟨rfl, rfl, fun _ => rfl⟩, ⟨rfl, rfl, fun _ => rfl⟩, ⟨rfl, rfl, fun _ => rfl⟩, ⟨rfl, rfl, fun _ => rfl⟩, ⟨rfl, rfl, fun _ => rfl⟩, ⟨rfl, rfl, fun _ => rfl⟩, ⟨rfl, rfl, fun _ => rfl⟩, ⟨rfl, rfl, fun _ => rfl⟩, ⟨rfl, rfl, fun _ => rfl⟩⟩
end Go.Proofs.YtkinbnepkpoofaaGreatDoor
/- CheckSizes comes to true: what each function comes to. -/
set_option linter.unusedVariables false
set_option linter.unusedSimpArgs false
set_option maxRecDepth 100000
namespace Go.Proofs.YtkinbnepkpoofaaGreatDoor
open Go Go.AM
theorem Sgs.ok_none {β : Type} {sg : S.Sgs β} (h : sg.inl = fun _ => none) (cs : Oracle) (r : β) : sg.Ok cs r := S.Sgs.ok_none h cs r
noncomputable abbrev cs6 : Oracle := S.sem BK6
abbrev dcl (k : Int) (i : Nat) : D := .agg [.str (nm i), .int .i64 k]
abbrev dcls (k : Int) (n : Nat) : List D := (List.range n).map (dcl k)
theorem is_name {s : List UInt8} (h : kn 123 [.im (.str s)] [] = some (false, .im (.bool true), [])) : S.pureS cs6 [.bool] 123 [.im (.str s)] = some (true, ()) :=
 S.pure_known (B := BK6) (sp := kn 123) rfl h rfl rfl
theorem eq126 {s : List UInt8} {k : Int} (h : kn 123 [.im (.str s)] [] = some (false, .im (.bool true), [])) (hk : 0 ≤ k) : S.pureS cs6 [.bool] 126 [.im (.agg [.str s, .int .i64 k])] = some (true, ()) := by
 refine S.pure_rule (i := fi126) rfl rfl (sg := SG) (lf := 0) rfl ((F126_eq _ _ _ _).trans ?_)
 unfold F126
 rw [is_name h]
 simp [S.optZ_some, hk]
theorem eq165 {s : List UInt8} {k : Int} (h : kn 123 [.im (.str s)] [] = some (false, .im (.bool true), [])) (hk : 0 ≤ k) : S.pureS cs6 [.bool] 165 [.im (.agg [.str s, .int .i64 k]), .pe (.fn (.func 126) [] []) 0] = some (false, ()) := by
 refine S.pure_rule (i := fi165) rfl rfl (sg := SG) (lf := 0) rfl ((F165_eq _ _ _ _ _).trans ?_)
 unfold F165
 rw [eq126 h hk]
 rfl
theorem L60_none {ds : List D} {bg : Nat} {bc0 : D} (hd : ∀ d ∈ ds, ∃ s k, d = .agg [.str s, .int .i64 k] ∧ S.pureS cs6 [.bool] bg [.im (.agg [.str s, .int .i64 k]), .pe bc0 0] = some (false, ())) (hb : ds.length ≤ 1000) (lf : Nat) : ∀ (m n i : Nat), ds.length - i = m → m < n → i ≤ ds.length →
  L60_c1_1 cs6 lf ds bg bc0 n (i : Int) = some (-1, ()) := by
 intro m
 induction m with
 | zero =>
  intro n i hm hn hi
  obtain ⟨n, rfl⟩ : ∃ q, n = q + 1 := ⟨n - 1, by omega⟩
  have : i = ds.length := by omega
  subst this
  simp [L60_c1_1, B60_c1_1]
 | succ m ih =>
  intro n i hm hn hi
  obtain ⟨n, rfl⟩ : ∃ q, n = q + 1 := ⟨n - 1, by omega⟩
  have h1 : i < ds.length := by omega
  obtain ⟨s, k, e, hp⟩ := hd _ (List.getElem_mem h1)
  have e1 : ((i : Int) < (ds.length : Int)) := by omega
  have e2 : (0 : Int) ≤ (i : Int) := by omega
  have w : IntKind.wrap .i64 ((i : Int) + 1) = ((i + 1 : Nat) : Int) := wrap_succ h1 (by omega)
  have st : S.stDec [.str, .int .i64] (D.agg [.str s, .int .i64 k]) = some (s, k) := rfl
  simp only [L60_c1_1, B60_c1_1, decide_eq_true e1, decide_eq_true e2, cond_true, Int.toNat_natCast, List.getElem?_eq_getElem h1, S.optZ_some, e, w, st, hp, cond_false]
  exact ih n (i + 1) (by omega) (by omega) (by omega)
theorem eq60n {ds : List D} {bg : Nat} {bc0 : D} (hd : ∀ d ∈ ds, ∃ s k, d = .agg [.str s, .int .i64 k] ∧ S.pureS cs6 [.bool] bg [.im (.agg [.str s, .int .i64 k]), .pe bc0 0] = some (false, ())) (hb : ds.length ≤ 1000) :
  S.pureS cs6 [.int .i64] 60 [.im (.sl false 2 ds), .fn (.func bg) [] [.pe bc0 0]] = some (-1, ()) := by
 refine S.pure_rule (i := fi60_c1) rfl rfl (sg := SG) (lf := ds.length + 1) rfl ((F60_c1_eq _ _ _ _ _).trans ?_)
 exact L60_none hd hb _ ds.length (ds.length + 1) 0 (by omega) (by omega) (by omega)
theorem eq125 {ds : List D} (hd : ∀ d ∈ ds, ∃ s k, d = .agg [.str s, .int .i64 k] ∧ kn 123 [.im (.str s)] [] = some (false, .im (.bool true), []) ∧ 0 ≤ k) (hb : ds.length ≤ 1000) :
  S.pureS cs6 [.bool] 125 [.im (.sl false 2 ds), .im (.fn (.func 126) [] [])] = some (true, ()) := by
 have h164 : S.pureS cs6 [.bool] 164 [.im (.sl false 2 ds), .fn (.func 165) [] [.pe (.fn (.func 126) [] []) 0]] = some (false, ()) := by
  refine S.pure_rule (i := fi164_c1) rfl rfl (sg := SG) (lf := 0) rfl ((F164_c1_eq _ _ _ _ _).trans ?_)
  unfold F164_c1
  rw [eq60n (fun d h => by
   obtain ⟨s, k, e, h1, h2⟩ := hd d h
   exact ⟨s, k, e, eq165 h1 h2⟩) hb]
  rfl
 refine S.pure_rule (i := fi125_0) rfl rfl (sg := SG) (lf := 0) rfl ((F125_0_eq _ _ _ _).trans ?_)
 unfold F125_0
 rw [S.plain_bool h164]
 rfl
theorem eq124 {bg : Nat} : S.pureS cs6 [.bool] 124 [.im (.sl false 1 []), .im (.fn (.func bg) [] [])] = some (true, ()) := by
 have h209 : S.pureS cs6 [.int .i64] 209 [.im (.sl false 1 []), .fn (.func 163) [] [.pe (.fn (.func bg) [] []) 0]] = some (-1, ()) := by
  refine S.pure_rule (i := fi209_c1) rfl rfl (sg := SG) (lf := 1) rfl ((F209_c1_eq _ _ _ _ _).trans ?_)
  rfl
 have h162 : S.pureS cs6 [.bool] 162 [.im (.sl false 1 []), .fn (.func 163) [] [.pe (.fn (.func bg) [] []) 0]] = some (false, ()) := by
  refine S.pure_rule (i := fi162_c1) rfl rfl (sg := SG) (lf := 0) rfl ((F162_c1_eq _ _ _ _ _).trans ?_)
  unfold F162_c1
  rw [h209]
  rfl
 refine S.pure_rule (i := fi124_0) rfl rfl (sg := SG) (lf := 0) rfl ((F124_0_eq _ _ _ _).trans ?_)
 unfold F124_0
 rw [S.plain_bool h162]
 rfl
theorem eq127 : S.pureS cs6 [.bool] 127 [.im (.sl false 7 [])] = some (true, ()) := by
 have h157 : S.pureS cs6 [.int .i64] 157 [.im (.sl false 7 []), .fn (.func 210) [] [.pe (.fn (.func 167) [] []) 0]] = some (-1, ()) := by
  refine S.pure_rule (i := fi157_c1) rfl rfl (sg := SG) (lf := 1) rfl ((F157_c1_eq _ _ _ _ _).trans ?_)
  rfl
 have h115 : S.pureS cs6 [.bool] 115 [.im (.sl false 7 []), .fn (.func 210) [] [.pe (.fn (.func 167) [] []) 0]] = some (false, ()) := by
  refine S.pure_rule (i := fi115_c1) rfl rfl (sg := SG) (lf := 0) rfl ((F115_c1_eq _ _ _ _ _).trans ?_)
  unfold F115_c1
  rw [h157]
  rfl
 have h166 : S.pureS cs6 [.bool] 166 [.im (.sl false 7 []), .im (.fn (.func 167) [] [])] = some (true, ()) := by
  refine S.pure_rule (i := fi166_0) rfl rfl (sg := SG) (lf := 0) rfl ((F166_0_eq _ _ _ _).trans ?_)
  unfold F166_0
  rw [S.plain_bool h115]
  rfl
 refine S.pure_rule (i := fi127) rfl rfl (sg := SG) (lf := 0) rfl ((F127_eq _ _ _).trans ?_)
 unfold F127
 rw [h166]
 rfl
def Okd (ds : List D) : Prop := (∀ d ∈ ds, ∃ s k, d = .agg [.str s, .int .i64 k] ∧ kn 123 [.im (.str s)] [] = some (false, .im (.bool true), []) ∧ 0 ≤ k) ∧ ds.length ≤ 1000
abbrev fd (ds : List D) : D := .agg [.str mainN, .sl false 1 [], .sl false 2 ds, .sl false 7 []]
theorem eq72 {ds : List D} (hd : Okd ds) : S.pureS cs6 [.bool] 72 [.im (fd ds)] = some (true, ()) := by
 refine S.pure_rule (i := fi72) rfl rfl (sg := SG) (lf := 0) rfl ((F72_eq _ _ _ _ _ _).trans ?_)
 unfold F72
 rw [is_name k_main, eq124, eq125 hd.1 hd.2, eq127]
 rfl
theorem eq122 {ds : List D} (hd : Okd ds) : S.pureS cs6 [.bool] 122 [.im (fd ds), .pe (.fn (.func 72) [] []) 0] = some (false, ()) := by
 refine S.pure_rule (i := fi122) rfl rfl (sg := SG) (lf := 0) rfl ((F122_eq _ _ _ _ _ _ _).trans ?_)
 unfold F122
 rw [eq72 hd]
 rfl
theorem eq67 {ds : List D} {bg : Nat} {bc0 : D} {b : Bool} (h : S.pureS cs6 [.bool] bg [.im (fd ds), .pe bc0 0] = some (b, ())) :
  S.pureS cs6 [.int .i64] 67 [.im (.sl false 4 [fd ds]), .fn (.func bg) [] [.pe bc0 0]] = some (cond b 0 (-1), ()) := by
 refine S.pure_rule (i := fi67_c1) rfl rfl (sg := SG) (lf := 2) rfl ((F67_c1_eq _ _ _ _ _).trans ?_)
 have st : S.stDec [.str, .sl 1, .sl 2, .sl 7] (fd ds) = some (mainN, [], ds, []) := rfl
 show L67_c1_1 cs6 2 [fd ds] bg bc0 2 0 = _
 simp only [L67_c1_1, B67_c1_1, List.length_cons, List.length_nil, show (decide ((0 : Int) < ((0 + 1 : Nat) : Int))) = true from rfl, show (decide ((0 : Int) ≤ (0 : Int))) = true from rfl, cond_true, show [fd ds][Int.toNat 0]? = some (fd ds) from rfl, S.optZ_some, st, h]
 cases b <;> rfl
theorem eq29 {ds : List D} (hd : Okd ds) : S.pureS cs6 [.bool] 29 [.im (.agg [.sl false 4 [fd ds]])] = some (true, ()) := by
 have h121 : S.pureS cs6 [.bool] 121 [.im (.sl false 4 [fd ds]), .fn (.func 122) [] [.pe (.fn (.func 72) [] []) 0]] = some (false, ()) := by
  refine S.pure_rule (i := fi121_c1) rfl rfl (sg := SG) (lf := 0) rfl ((F121_c1_eq _ _ _ _ _).trans ?_)
  unfold F121_c1
  rw [eq67 (eq122 hd)]
  rfl
 have h71 : S.pureS cs6 [.bool] 71 [.im (.sl false 4 [fd ds]), .im (.fn (.func 72) [] [])] = some (true, ()) := by
  refine S.pure_rule (i := fi71_0) rfl rfl (sg := SG) (lf := 0) rfl ((F71_0_eq _ _ _ _).trans ?_)
  unfold F71_0
  rw [S.plain_bool h121]
  rfl
 refine S.pure_rule (i := fi29) rfl rfl (sg := SG) (lf := 0) rfl ((F29_eq _ _ _).trans ?_)
 unfold F29
 rw [h71]
 rfl
theorem eq86 : S.pureS cs6 [.int .i64] 86 [.im (.sl false 7 [])] = some (0, ()) := by
 refine S.pure_rule (i := fi86) rfl rfl (sg := SG) (lf := 1) rfl ((F86_eq _ _ _).trans ?_)
 rfl
theorem eq26 {ds : List D} : S.pureS cs6 [.int .i64] 26 [.im (.agg [.sl false 4 [fd ds]]), .im (.str mainN)] = some (0, ()) := by
 have h68 : S.pureS cs6 [.bool] 68 [.im (fd ds), .pe (.str mainN) 0] = some (true, ()) := by
  refine S.pure_rule (i := fi68) rfl rfl (sg := SG) (lf := 0) rfl ((F68_eq _ _ _ _ _ _ _).trans ?_)
  rfl
 refine S.pure_rule (i := fi26) rfl rfl (sg := SG) (lf := 0) rfl ((F26_eq _ _ _ _).trans ?_)
 unfold F26
 rw [S.plain_int (eq67 h68)]
 rfl
theorem eq50 {ds : List D} (hd : Okd ds) : S.pureS cs6 [.int .i64] 50 [.im (.agg [.sl false 4 [fd ds]])] = some (0, ()) := by
 refine S.pure_rule (i := fi50) rfl rfl (sg := SG) (lf := 2) rfl ((F50_eq _ _ _).trans ?_)
 unfold F50 G50
 rw [eq29 hd]
 have st : S.stDec [.str, .sl 1, .sl 2, .sl 7] (fd ds) = some (mainN, [], ds, []) := rfl
 have l1 : (decide ((0 : Int) < (([fd ds]).length : Int))) = true := rfl
 have l2 : (decide ((0 : Int) ≤ (0 : Int))) = true := rfl
 have l3 : [fd ds][Int.toNat 0]? = some (fd ds) := rfl
 have w1 : IntKind.wrap .i64 ((0 : Int) + 1) = 1 := rfl
 have w0 : IntKind.wrap .i64 ((0 : Int) + 0) = 0 := rfl
 have l4 : (decide ((1 : Int) < (([fd ds]).length : Int))) = false := rfl
 simp only [S.optZ_some, Bool.not_true, cond_false]
 simp only [L50_1, B50_1, l1, l2, l3, cond_true, S.optZ_some, st, eq86, w1, w0, l4, cond_false, show (([fd ds]).length : Int) = 1 from rfl, show ((1 : Int) == 0) = false from rfl, show decide ((1 : Int) > 16) = false from rfl, show decide ((0 : Int) > 400) = false from rfl]
 simp only [L50_2, B50_2, l1, l2, l3, cond_true, S.optZ_some, st, eq26, w1, l4, cond_false, show ((0 : Int) != 0) = false from rfl, show (([fd ds]).length : Int) = 1 from rfl]
 rfl
end Go.Proofs.YtkinbnepkpoofaaGreatDoor
/- CheckSizes comes to true: names, and the whole. -/
set_option linter.unusedVariables false
set_option linter.unusedSimpArgs false
set_option maxRecDepth 100000
namespace Go.Proofs.YtkinbnepkpoofaaGreatDoor
open Go Go.AM
theorem names_len (n : Nat) : (names n).length = n := by simp [names]
theorem dcls_len (k : Int) (n : Nat) : (dcls k n).length = n := by simp
theorem names_succ (n : Nat) : names (n + 1) = names n ++ [.str (nm n)] := by simp [names, List.range_succ]
theorem dcls_succ (k : Int) (n : Nat) : dcls k (n + 1) = dcls k n ++ [dcl k n] := by
 rw [show dcls k (n + 1) = (List.range (n + 1)).map (dcl k) from rfl, List.range_succ]
 simp only [List.map_append, List.map_cons, List.map_nil]
theorem okd {k : Int} {n : Nat} (hk : 0 ≤ k) (hn : n ≤ 40) : Okd (dcls k n) := by
 refine ⟨fun d hd => ?_, by simp; omega⟩
 obtain ⟨i, hi, rfl⟩ := List.mem_map.1 hd
 have := List.mem_range.1 hi
 exact ⟨nm i, k, rfl, k_name (by omega), hk⟩
theorem eq98 {n : Nat} (hn : n ≤ 24) : S.pureS cs6 [] 98 [.im (.sl false 1 (names n))] = some () :=
 S.pure_known (B := BK6) (sp := kn 98) (v := .tup []) rfl (k98 n hn) rfl rfl
theorem eq99 {n : Nat} (hn : n ≤ 24) : S.pureS cs6 [.any] 99 [.im (.sl false 1 (names n))] = some (.sl false 1 (names n), ()) :=
 S.pure_known (B := BK6) (sp := kn 99) (v := .im (.sl false 1 (names n))) rfl (k99 n hn) rfl rfl
theorem eq97 : S.lentS cs6 { rs := [.ref 0], hs := [.row 1] } 97 [.im (.sl false 1 [])] [] = some ((0, ()), [], ()) :=
 S.lent_known (B := BK6) (sp := clone97S) (H' := [some (.c 1 [])]) (res := .ref 0 0 0) rfl rfl rfl rfl
theorem L53_at {k : Int} {n : Nat} (hk : k ≤ 64) (hn : n ≤ 39) (lf : Nat) (a3 : List D) : ∀ (m q i : Nat), n - i = m → m < q → i ≤ n →
  L53_1 cs6 lf mainN [] (dcls k n) a3 q (i, (i : Int), names i) = some ((cond (decide (n > 24)) 5 0 : Int), ()) := by
 intro m
 induction m with
 | zero =>
  intro q i hm hq hi
  obtain ⟨q, rfl⟩ : ∃ p, q = p + 1 := ⟨q - 1, by omega⟩
  have : i = n := by omega
  subst this
  have e1 : decide ((i : Int) < ((dcls k i).length : Int)) = false := by rw [dcls_len]; simp
  have e2 : List.take i (List.drop 0 (names i)) = names i := by rw [List.drop_zero]; exact List.take_of_length_le (by rw [names_len]; omega)
  simp only [L53_1, B53_1, e1, cond_false, e2, names_len]
  by_cases h24 : i > 24
  ·
   have : ((i : Int) > 24) := by omega
   simp only [this, h24, decide_true, cond_true]
  ·
   have h : ¬ ((i : Int) > 24) := by omega
   simp only [h, h24, decide_false, cond_false]
   rw [eq98 (by omega), eq99 (by omega)]
   simp only [S.optZ_some, asSl_sl, names_len]
   have w : IntKind.wrap .i64 ((([] : List D).length : Int) + ((dcls k i).length : Int)) = (i : Int) := by
    rw [dcls_len, List.length_nil, wrap_ok (by omega) (by omega)]; omega
   rw [w]
   simp
 | succ m ih =>
  intro q i hm hq hi
  obtain ⟨q, rfl⟩ : ∃ p, q = p + 1 := ⟨q - 1, by omega⟩
  have h1 : i < (dcls k n).length := by rw [dcls_len]; omega
  have e1 : decide ((i : Int) < ((dcls k n).length : Int)) = true := by simpa using h1
  have e0 : decide ((0 : Int) ≤ (i : Int)) = true := by simp
  have e2 : List.take i (List.drop 0 (names i)) = names i := by rw [List.drop_zero]; exact List.take_of_length_le (by rw [names_len]; omega)
  have g : (dcls k n)[i]? = some (dcl k i) := by
   rw [List.getElem?_eq_getElem h1]
   simp
  have st : S.stDec [.str, .int .i64] (dcl k i) = some (nm i, k) := rfl
  have e3 : decide (k > 64) = false := by simp; omega
  have w : IntKind.wrap .i64 ((i : Int) + 1) = ((i + 1 : Nat) : Int) := wrap_succ h1 (by rw [dcls_len]; omega)
  have e4 : decide (List.length (names (i + 1)) * 16 ≤ 140737488355328) = true := by rw [names_len]; simp; omega
  have e5 : decide (List.length (names (i + 1)) ≤ 140737488355328) = true := by rw [names_len]; simp; omega
  simp only [L53_1, B53_1, e1, e0, cond_true, Int.toNat_natCast, g, S.optZ_some, st, e3, cond_false, e2, ← names_succ, e4, e5, w]
  rw [names_len]
  exact ih q (i + 1) (by omega) (by omega) (by omega)
theorem L53_none {k : Int} (hk : k > 64) (lf q : Nat) : L53_1 cs6 lf mainN [] (dcls k 0) [] (q + 1) (0, 0, []) = some ((0 : Int), ()) := by
 have e1 : decide ((0 : Int) < ((dcls k 0).length : Int)) = false := rfl
 have e2 : List.take 0 (List.drop 0 ([] : List D)) = names 0 := rfl
 simp only [L53_1, B53_1, e1, cond_false, e2, names_len]
 rw [eq98 (by omega), eq99 (by omega)]
 rfl
theorem L53_big {k : Int} (hk : k > 64) {n : Nat} (lf q : Nat) : L53_1 cs6 lf mainN [] (dcls k (n + 1)) [] (q + 1) (0, 0, []) = some ((5 : Int), ()) := by
 have h1 : 0 < (dcls k (n + 1)).length := by rw [dcls_len]; omega
 have e1 : decide ((0 : Int) < ((dcls k (n + 1)).length : Int)) = true := by simp
 have e0 : decide ((0 : Int) ≤ (0 : Int)) = true := rfl
 have g : (dcls k (n + 1))[Int.toNat 0]? = some (dcl k 0) := by
  rw [show Int.toNat 0 = 0 from rfl, List.getElem?_eq_getElem h1]
  simp
 have st : S.stDec [.str, .int .i64] (dcl k 0) = some (nm 0, k) := rfl
 have e3 : decide (k > 64) = true := by simp; omega
 simp only [L53_1, B53_1, e1, e0, cond_true, g, S.optZ_some, st, e3]
def r53 (k : Int) (n : Nat) : Int := if n = 0 then 0 else if k > 64 then 5 else if n > 24 then 5 else 0
theorem eq53 {k : Int} {n : Nat} (hn : n ≤ 39) : S.pureS cs6 [.int .i64] 53 [.im (fd (dcls k n))] = some (r53 k n, ()) := by
 refine S.pure_rule (i := fi53) rfl rfl (sg := SG) (lf := 50) rfl ((F53_eq _ _ _ _ _ _).trans ?_)
 unfold F53 G53
 rw [eq97]
 simp only [S.optZ_some]
 by_cases hk : k ≤ 64
 ·
  have := L53_at hk hn 50 [] n 50 0 (by omega) (by omega) (by omega)
  rw [show (0, ((0 : Nat) : Int), names 0) = ((0 : Nat), (0 : Int), ([] : List D)) from rfl] at this
  rw [this]
  unfold r53
  by_cases h0 : n = 0
  ·
   subst h0; rfl
  ·
   have : ¬ k > 64 := by omega
   by_cases h24 : n > 24 <;> simp [h0, this, h24]
 ·
  cases n with
  | zero =>
   rw [L53_none (by omega)]
   rfl
  | succ n =>
   rw [L53_big (by omega)]
   have : k > 64 := by omega
   simp [r53, this]
theorem eq55 {ds : List D} {c m : Bool} {p f1 f2 f3 t : List D} {f0 : List UInt8} : S.lentS cs6 { rs := [.int .i64], hs := [.m [.sl 4, .str, .sl 1, .sl 2, .sl 7, .bool, .mp 1], .o] } 55 [.ptr 0 0 0, .im (.sl false 7 []), .im (.bool c)] [some (.m 7 [.agg [.im (.sl false 4 p), .im (.str f0), .im (.sl false 1 f1), .im (.sl false 2 f2), .im (.sl false 7 f3), .im (.bool m), .mp 1]]), some (.o t)] = some ((0, ()), (p, f0, f1, f2, f3, m, (), ()), t, ()) := by
 refine S.lent_rule (i := fi55_e0) rfl rfl (sg := SGI cs6) (lf := 1) rfl ((F55_e0_eq _ _ _ _ _ _ _ _ _ _).trans ?_) (SGI_ok rfl inl6 _)
 rfl
theorem norm18 (ds : List D) : nrm6 18 [.im (.agg [.sl true 4 [.agg [.str mainN, .sl true 0 [], .sl false 2 ds, .sl true 0 []]]])] = [.im (.agg [.sl false 4 [.agg [.str mainN, .sl false 1 [], .sl false 2 (S.deepDs T 69 ds), .sl false 7 []]]])] := by
 cases ds with
 | nil => kernel_rfl
 | cons d ds => kernel_rfl
theorem ca_dcl (k : Int) (i : Nat) : Ca 69 (dcl k i) := by
 have : S.deepD T 69 (dcl k i) = dcl k i := by
  show S.deepD T 69 (.agg [.str (nm i), .int .i64 k]) = _
  generalize nm i = s
  kernel_rfl
 exact this
theorem ca_dcls (k : Int) (n : Nat) : S.deepDs T 69 (dcls k n) = dcls k n := deepDs_ca fun d hd => by
 obtain ⟨i, _, rfl⟩ := List.mem_map.1 hd
 exact ca_dcl k i
theorem eq18 {k : Int} {n : Nat} (hk : 0 ≤ k) (hn : n ≤ 39) : S.pureS cs6 [.int .i64, .int .i64] 18 [.im (.agg [.sl true 4 [.agg [.str mainN, .sl true 0 [], .sl false 2 (dcls k n), .sl true 0 []]]])] = some (r53 k n, cond (r53 k n != 0) 0 (-1), ()) := by
 refine S.pure_rule (i := fi18) rfl rfl (sg := SGI cs6) (lf := 2) (as' := [.im (.agg [.sl false 4 [fd (dcls k n)]])]) (by
  show nrm6 18 _ = _
  rw [norm18, ca_dcls]) ((F18_eq _ _ _).trans ?_) (SGI_ok rfl inl6 _)
 unfold F18 G18
 rw [eq50 (okd hk (by omega))]
 have st : S.stDec [.str, .sl 1, .sl 2, .sl 7] (fd (dcls k n)) = some (mainN, [], dcls k n, []) := rfl
 have l1 : (decide ((0 : Int) < (([fd (dcls k n)]).length : Int))) = true := rfl
 have l2 : (decide ((0 : Int) ≤ (0 : Int))) = true := rfl
 have l3 : [fd (dcls k n)][Int.toNat 0]? = some (fd (dcls k n)) := rfl
 have w1 : IntKind.wrap .i64 ((0 : Int) + 1) = 1 := rfl
 have l4 : (decide ((1 : Int) < (([fd (dcls k n)]).length : Int))) = false := rfl
 simp only [S.optZ_some, show ((0 : Int) != 0) = false from rfl, cond_false]
 simp only [L18_1, B18_1, l1, l2, l3, cond_true, S.optZ_some, st, eq53 hn, w1, l4, cond_false]
 cases hr : (r53 k n != 0) with
 | true => rfl
 | false =>
  simp only [cond_false]
  rw [eq55 (ds := [])]
  have : r53 k n = 0 := by simpa using hr
  rw [this]
  rfl
end Go.Proofs.YtkinbnepkpoofaaGreatDoor
/- CheckSizes comes to true: the law itself. -/
set_option linter.unusedVariables false
set_option linter.unusedSimpArgs false
set_option maxRecDepth 100000
namespace Go.Proofs.YtkinbnepkpoofaaGreatDoor
open Go Go.AM
abbrev naa : List UInt8 := [110, 97, 97]
theorem eq59 {b : List UInt8} : S.pureS cs6 [.bool] 59 [.im (.sl false 1 []), .im (.str b)] = some (false, ()) := by
 have h113 : S.pureS cs6 [.int .i64] 113 [.im (.sl false 1 []), .im (.str b)] = some (-1, ()) := by
  refine S.pure_rule (i := fi113) rfl rfl (sg := SG) (lf := 1) rfl ((F113_eq _ _ _ _).trans ?_)
  rfl
 refine S.pure_rule (i := fi59) rfl rfl (sg := SG) (lf := 0) rfl ((F59_eq _ _ _ _).trans ?_)
 unfold F59
 rw [h113]
 rfl
theorem L60_first {k : Int} {n : Nat} {bg : Nat} {bc0 : D} (h : S.pureS cs6 [.bool] bg [.im (dcl k 0), .pe bc0 0] = some (true, ())) (lf q : Nat) : L60_c1_1 cs6 lf (dcls k (n + 1)) bg bc0 (q + 1) 0 = some ((0 : Int), ()) := by
 have h1 : 0 < (dcls k (n + 1)).length := by rw [dcls_len]; omega
 have e1 : decide ((0 : Int) < ((dcls k (n + 1)).length : Int)) = true := by simp
 have e0 : decide ((0 : Int) ≤ (0 : Int)) = true := rfl
 have g : (dcls k (n + 1))[Int.toNat 0]? = some (dcl k 0) := by
  rw [show Int.toNat 0 = 0 from rfl, List.getElem?_eq_getElem h1]
  simp
 have st : S.stDec [.str, .int .i64] (dcl k 0) = some (nm 0, k) := rfl
 simp only [L60_c1_1, B60_c1_1, e1, e0, cond_true, g, S.optZ_some, st, h]
theorem eq21 {k : Int} {n : Nat} : S.pureS cs6 [.int .i64, .bool] 21 [.im (fd (dcls k n)), .im (.str naa)] = some (cond (decide (n > 0)) k 0, decide (n > 0), ()) := by
 refine S.pure_rule (i := fi21) rfl rfl (sg := SG) (lf := 0) rfl ((F21_eq _ _ _ _ _ _ _).trans ?_)
 unfold F21
 rw [eq59]
 simp only [S.optZ_some, cond_false]
 cases n with
 | zero =>
  have h60 : S.pureS cs6 [.int .i64] 60 [.im (.sl false 2 (dcls k 0)), .fn (.func 61) [] [.pe (.str naa) 0]] = some (-1, ()) := eq60n (fun d h => by cases h) (by simp)
  rw [S.plain_int h60]
  rfl
 | succ n =>
  have h61 : S.pureS cs6 [.bool] 61 [.im (dcl k 0), .pe (.str naa) 0] = some (true, ()) := by
   refine S.pure_rule (i := fi61) rfl rfl (sg := SG) (lf := 0) rfl ((F61_eq _ _ _ _ _).trans ?_)
   rfl
  have h60 : S.pureS cs6 [.int .i64] 60 [.im (.sl false 2 (dcls k (n + 1))), .fn (.func 61) [] [.pe (.str naa) 0]] = some (0, ()) := by
   refine S.pure_rule (i := fi60_c1) rfl rfl (sg := SG) (lf := 1) rfl ((F60_c1_eq _ _ _ _ _).trans ?_)
   exact L60_first h61 1 0
  rw [S.plain_int h60]
  have h1 : 0 < (dcls k (n + 1)).length := by rw [dcls_len]; omega
  have g : (dcls k (n + 1))[Int.toNat 0]? = some (dcl k 0) := by
   rw [show Int.toNat 0 = 0 from rfl, List.getElem?_eq_getElem h1]
   simp
  have st : S.stDec [.str, .int .i64] (dcl k 0) = some (nm 0, k) := rfl
  simp only [S.optZ_some, show decide ((0 : Int) < 0) = false from rfl, show decide ((0 : Int) ≤ 0) = true from rfl, cond_false, cond_true, g, st]
  simp
theorem nmE_all : (List.range 40).all (fun i => ([110, UInt8.ofNat (Int.toNat (IntKind.wrap .u8 ((97 : Int) + IntKind.wrap .u8 (IntKind.wrap .i64 (Int.tdiv (i : Int) (26 : Int)))))), UInt8.ofNat (Int.toNat (IntKind.wrap .u8 ((97 : Int) + IntKind.wrap .u8 (Int.tmod (i : Int) (26 : Int)))))] : List UInt8) == nm i) = true := by decide +kernel
theorem nmE {i : Nat} (h : i < 40) : ([110, UInt8.ofNat (Int.toNat (IntKind.wrap .u8 ((97 : Int) + IntKind.wrap .u8 (IntKind.wrap .i64 (Int.tdiv (i : Int) (26 : Int)))))), UInt8.ofNat (Int.toNat (IntKind.wrap .u8 ((97 : Int) + IntKind.wrap .u8 (Int.tmod (i : Int) (26 : Int)))))] : List UInt8) = nm i := by
 have := List.all_eq_true.1 nmE_all i (List.mem_range.2 h)
 exact eq_of_beq this
theorem modE (a b : Nat) (hb : 0 < b) (hb2 : b < 1000) : IntKind.wrap .i64 (Int.tmod (a : Int) (b : Int)) = ((a % b : Nat) : Int) := by
 have : Int.tmod (a : Int) (b : Int) = ((a % b : Nat) : Int) := rfl
 rw [this]
 have := Nat.mod_lt a hb
 exact wrap_ok (by omega) (by omega)
theorem L6_at {a b n k : Nat} (hn : IntKind.wrap .i64 (Int.tmod (a : Int) 40) = (n : Int)) (hk : IntKind.wrap .i64 (Int.tmod (b : Int) 100) = (k : Int)) (hn39 : n ≤ 39) (lf : Nat) : ∀ (m q i : Nat), n - i = m → m < q → i ≤ n →
  L6_1 cs6 lf (a : Int) (b : Int) (true, ()) q ((i : Int), dcls (k : Int) i) = some (true, ()) := by
 intro m
 induction m with
 | zero =>
  intro q i hm hq hi
  obtain ⟨q, rfl⟩ : ∃ p, q = p + 1 := ⟨q - 1, by omega⟩
  have : i = n := by omega
  subst this
  have e2 : List.take (dcls (k : Int) i).length (List.drop 0 (dcls (k : Int) i)) = dcls (k : Int) i := by rw [List.drop_zero, List.take_length]
  have e1 : decide ((i : Int) < (i : Int)) = false := by simp
  simp only [L6_1, B6_1, hn, hk, e1, cond_false, e2]
  have h18 := eq18 (k := (k : Int)) (n := i) (by omega) hn39
  have h21 := eq21 (k := (k : Int)) (n := i)
  simp only [fd, mainN] at h18 h21
  simp only [h18, h21, S.optZ_some, cond_true]
  unfold r53
  by_cases h0 : i = 0
  ·
   subst h0
   by_cases h2 : (k : Int) ≤ 64
   ·
    simp [h2]
   ·
    simp [h2]
  ·
   have h0' : ¬ ((i : Int) = 0) := by omega
   have hb : ((i : Int) == 0) = false := by simpa using h0'
   have h0'' : 0 < i := by omega
   by_cases h1 : (i : Int) ≤ 24
   ·
    have h1' : ¬ i > 24 := by omega
    by_cases h2 : (k : Int) ≤ 64
    ·
     have h2' : ¬ (64 : Int) < (k : Int) := by omega
     have h1'' : ¬ 24 < i := by omega
     simp [h0, h0', hb, h0'', h1, h2, h2', h1'']
    ·
     have h2' : (64 : Int) < (k : Int) := by omega
     simp [h0, h0', hb, h0'', h1, h2, h2']
   ·
    have h1' : 24 < i := by omega
    by_cases h2 : (64 : Int) < (k : Int)
    ·
     simp [h0, h0', hb, h0'', h1, h2, h1']
    ·
     simp [h0, h0', hb, h0'', h1, h2, h1']
 | succ m ih =>
  intro q i hm hq hi
  obtain ⟨q, rfl⟩ : ∃ p, q = p + 1 := ⟨q - 1, by omega⟩
  have e2 : List.take (dcls (k : Int) i).length (List.drop 0 (dcls (k : Int) i)) = dcls (k : Int) i := by rw [List.drop_zero, List.take_length]
  have e1 : decide ((i : Int) < (n : Int)) = true := by simp; omega
  have w : IntKind.wrap .i64 ((i : Int) + 1) = ((i + 1 : Nat) : Int) := wrap_succ (n := n) (by omega) (by omega)
  have e4 : decide (List.length (dcls (k : Int) (i + 1)) * 24 ≤ 140737488355328) = true := by rw [dcls_len]; simp; omega
  have e5 : decide (List.length (dcls (k : Int) (i + 1)) ≤ 140737488355328) = true := by rw [dcls_len]; simp; omega
  simp only [L6_1, B6_1, hn, hk, e1, cond_true, e2, nmE (show i < 40 by omega), ← dcls_succ, e4, e5, w]
  exact ih q (i + 1) (by omega) (by omega) (by omega)
theorem eq6 (he : S.pureS cs6 [.bool] 15 [] = some (true, ())) {a b : Nat} : S.pureS cs6 [.bool] 6 [.im (.int .u8 a), .im (.int .u8 b)] = some (true, ()) := by
 refine S.pure_rule (i := fi6) rfl rfl (sg := SG) (lf := 50) rfl ((F6_eq _ _ _ _).trans ?_)
 unfold F6 G6
 rw [he]
 simp only [S.optZ_some, Bool.not_true, cond_false]
 have := Nat.mod_lt a (show 0 < 40 by omega)
 exact L6_at (modE a 40 (by omega) (by omega)) (modE b 100 (by omega) (by omega)) (by omega) 50 (a % 40) 50 0 (by omega) (by omega) (by omega)
theorem eq15 : S.pureS cs6 [.bool] 15 [] = some (true, ()) := S.pure_known (B := BK6) (sp := yesZ) rfl rfl rfl rfl
end Go.Proofs.YtkinbnepkpoofaaGreatDoor
/- What the law's arguments are, as data. -/
set_option linter.unusedVariables false
set_option maxRecDepth 100000
namespace Go.Proofs.YtkinbnepkpoofaaGreatDoor
open Go Go.AM
theorem wt_int {n : Nat} {k : IntKind} {t : TypeId} {cs : List D} (h : wt Tryz.prog (n + 1) t cs) (ht : Tryz.prog.underlying t = some (.int k)) : ∃ m, cs = [.int k m] ∧ k.min ≤ m ∧ m ≤ k.max := by
 unfold wt at h
 rw [ht] at h
 exact h
theorem wt_u8 {n : Nat} {x : D} {t : TypeId} (h : wt Tryz.prog (n + 1) t [x]) (ht : Tryz.prog.underlying t = some (.int .u8)) : ∃ m : Nat, x = .int .u8 m ∧ m < 256 := by
 obtain ⟨c, hc, c0, c1⟩ := wt_int h ht
 have e0 : IntKind.min .u8 = 0 := by decide
 have e1 : IntKind.max .u8 = 255 := by decide
 rw [e0] at c0
 rw [e1] at c1
 refine ⟨c.toNat, ?_, by omega⟩
 rw [Int.toNat_of_nonneg c0]
 cases hc
 rfl
end Go.Proofs.YtkinbnepkpoofaaGreatDoor
/- CheckSizes: its arguments, as data. -/
set_option linter.unusedVariables false
set_option maxRecDepth 100000
namespace Go.Proofs.YtkinbnepkpoofaaGreatDoor
open Go Go.AM
theorem bk : BK6.ok Tryz.prog := BK6_ok E05ok
theorem body6 (x0 : D) (t0 : wt Tryz.prog 12 5 [x0]) (x1 : D) (t1 : wt Tryz.prog 12 5 [x1]) : S.pureS (S.sem BK6) [.bool] 6 [.im x0, .im x1] = some (true, ()) := by
 obtain ⟨a, rfl, _⟩ := wt_u8 t0 Tryz.underlying5
 obtain ⟨b, rfl, _⟩ := wt_u8 t1 Tryz.underlying5
 exact eq6 eq15
end Go.Proofs.YtkinbnepkpoofaaGreatDoor