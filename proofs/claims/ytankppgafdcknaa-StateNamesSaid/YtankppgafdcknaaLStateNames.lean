/- Texts joined into one: the first of them is told below. -/
import Derived.Test.YtankppgafdcknaaLa
import Derived.Test.YtankppgafdcknaaWa
import Derived.Test.YtankppgafdcknaaWf
import Derived.Test.YtankppgafdcknaaRows
import Derived.WalkKit
import Derived.ProofKit
import Derived.OpenShut
import Derived.ShutString
import Derived.ChangeOld
import Derived.Below
import Derived.SizedLaws
import Derived.Carry
/- What a function's names and sizes come to. -/
set_option linter.unusedVariables false
set_option linter.unusedSimpArgs false
set_option maxRecDepth 100000
open Go Go.AM
namespace Go.Proofs.Ytankppgafdcknaa

abbrev V2 := List UInt8 × Int
def encV (p : V2) : D := .agg [.str p.1, .int .i64 p.2]
@[simp] theorem asAgg_encV (p : V2) : (encV p).asAgg = some [.str p.1, .int .i64 p.2] := rfl
@[simp] theorem asStr_str (s : List UInt8) : (D.str s).asStr = some s := rfl
theorem cloneCond_str (l : List (List UInt8)) (h : l.length ≤ 8796093022208) : cloneCond 16 (l.map D.str) := by
  refine ⟨?_, by simp; omega, by simp; omega⟩
  simp [List.all_map, D.cells, okCell]
def names2 (ps : List (List UInt8)) (vs : List V2) : List (List UInt8) := ps ++ vs.map (·.1)
theorem t51 (nm : List UInt8) (ps : List (List UInt8)) (vs : List V2) (bd : List D) (h1 : ps.length ≤ 1000) (h2 : vs.length ≤ 1000) (Q : List D → Prop) (h : Q ((names2 ps vs).map D.str)) : F51 (nm, ps.map D.str, vs.map encV, bd) Q := by
  rw [F51_un]
  unfold F51u
  refine ⟨cloneCond_str ps (by omega), ?_⟩
  unfold L51_1
  refine loop_rule (E51_1 (nm, ps.map D.str, vs.map encV, bd)) (H51_1 (nm, ps.map D.str, vs.map encV, bd)) _ (fun s => 0 ≤ s.1 ∧ s.1 ≤ vs.length ∧ s.2 = (ps ++ (vs.take s.1.toNat).map (·.1)).map D.str) (fun s => vs.length - s.1.toNat) ?_ (0, ps.map D.str) ⟨by simp, by simp, by simp⟩
  intro n s ⟨g0, g1, g2⟩ ih
  obtain ⟨i, v⟩ := s
  simp only at g0 g1 g2
  subst g2
  rw [B51_1_eq]
  unfold B51_1
  simp only [List.length_map, List.drop_zero]
  by_cases hi : i < vs.length
  · have hx : i.toNat < vs.length := by omega
    rw [wrap_i64 (by omega) (by omega)]
    simp only [hi, decide_true, cond_true, List.getElem?_map, List.getElem?_eq_getElem hx, Option.map_some, optP_some, asAgg_encV, asStr_str, asInt_int, g0, true_and]
    rw [List.take_of_length_le (by simp)]
    refine ⟨by decide, by simp; omega, by simp; omega, ih (i + 1, _) ⟨by simp; omega, by simp; omega, ?_⟩ (by simp; omega)⟩
    simp only
    have hk : (vs.take (i.toNat + 1)).map (·.1) = (vs.take i.toNat).map (·.1) ++ [vs[i.toNat].1] := by
      rw [List.take_add_one, List.getElem?_eq_getElem hx, List.map_append]
      rfl
    rw [show (i + 1).toNat = i.toNat + 1 by omega, hk]
    simp only [List.map_append, List.append_assoc, List.map_cons, List.map_nil]
  · have hin : i.toNat = vs.length := by omega
    simp only [hi, decide_false, cond_false]
    rw [List.take_of_length_le (by simp)]
    rw [hin, List.take_length]
    exact h
def idxS (b : List UInt8) : List (List UInt8) → Int → Int
  | [], _ => -1
  | z :: zs, i => if b == z then i else idxS b zs (i + 1)
theorem idxS_cons (b z : List UInt8) (zs : List (List UInt8)) (i : Int) : idxS b (z :: zs) i = if b == z then i else idxS b zs (i + 1) := rfl
theorem t52 (zs : List (List UInt8)) (b : List UInt8) (hl : zs.length ≤ 10000) (Q : Int → Prop) (h : Q (idxS b zs 0)) : F52 (zs.map D.str) b Q := by
  rw [F52_un]
  unfold F52u
  unfold L52_1
  refine loop_rule (E52_1 (zs.map D.str) b) (H52_1 (zs.map D.str) b) _ (fun i => 0 ≤ i ∧ i ≤ zs.length ∧ idxS b (zs.drop i.toNat) i = idxS b zs 0) (fun i => zs.length - i.toNat) ?_ 0 ⟨by omega, by omega, by simp⟩
  intro n i ⟨h0, h1, h2⟩ ih
  rw [B52_1_eq]
  unfold B52_1
  simp only [List.length_map]
  by_cases hi : i < zs.length
  · have hx : i.toNat < zs.length := by omega
    rw [wrap_i64 (by omega) (by omega)]
    simp only [hi, decide_true, cond_true, List.getElem?_map, List.getElem?_eq_getElem hx, Option.map_some, optP_some, asStr_str, h0, true_and]
    rw [List.drop_eq_getElem_cons hx, idxS_cons] at h2
    cases hz : (b == zs[i.toNat]) with
    | true =>
      simp only [hz, if_true] at h2
      simp only [cond_true]
      rw [h2]
      exact h
    | false =>
      simp only [hz, Bool.false_eq_true, if_false] at h2
      simp only [cond_false]
      refine ih (i + 1) ⟨by omega, by omega, ?_⟩ (by omega)
      rw [show (i + 1).toNat = i.toNat + 1 by omega]
      exact h2
  · have hin : i.toNat = zs.length := by omega
    simp only [hi, decide_false, cond_false]
    rw [hin, List.drop_length] at h2
    have h2' : -1 = idxS b zs 0 := h2
    rw [h2']
    exact h
theorem names2_len (ps : List (List UInt8)) (vs : List V2) : (names2 ps vs).length = ps.length + vs.length := by simp [names2]
theorem t24 (nm : List UInt8) (ps : List (List UInt8)) (vs : List V2) (bd : List D) (h1 : ps.length ≤ 1000) (h2 : vs.length ≤ 1000) (b : List UInt8) (Q : Int → Prop) (h : Q (idxS b (names2 ps vs) 0)) : F24 (nm, ps.map D.str, vs.map encV, bd) b Q := by
  rw [F24_un]
  unfold F24u
  exact t51 nm ps vs bd h1 h2 _ (t52 _ b (by rw [names2_len]; omega) _ h)
theorem t23 (nm : List UInt8) (ps : List (List UInt8)) (vs : List V2) (bd : List D) (h1 : ps.length ≤ 1000) (h2 : vs.length ≤ 1000) (Q : Bool × List D → Prop) (h : Q (true, (List.replicate (ps.length + vs.length) ((0, 0) : Sp2)).map enc2)) : F23 (nm, ps.map D.str, vs.map encV, bd) Q := by
  rw [F23_un]
  unfold F23u
  refine t51 nm ps vs bd h1 h2 _ ?_
  simp only [List.length_map, names2_len, List.drop_zero, rep_eq, Int.toNat_natCast, List.length_replicate]
  refine ⟨trivial, by omega, by omega, by omega, by decide, ?_⟩
  rw [List.take_of_length_le (by simp)]
  simpa [enc2] using h
def sizeV (ps : List (List UInt8)) (vs : List V2) (at_ : Int) : Int :=
  if at_ - ps.length < 0 then 0 else if at_ - ps.length ≥ vs.length then 0 else
    (if (64 : Int) < (if (0 : Int) > (vs.getD (at_ - ps.length).toNat ([], 0)).2 then 0 else (vs.getD (at_ - ps.length).toNat ([], 0)).2) then 64 else (if (0 : Int) > (vs.getD (at_ - ps.length).toNat ([], 0)).2 then 0 else (vs.getD (at_ - ps.length).toNat ([], 0)).2))
theorem t25 (nm : List UInt8) (ps : List (List UInt8)) (vs : List V2) (bd : List D) (h1 : ps.length ≤ 1000) (h2 : vs.length ≤ 1000) (at_ : Int) (g1 : -1000 ≤ at_) (g2 : at_ ≤ 100000) (Q : Int → Prop) (h : Q (sizeV ps vs at_)) : F25 (nm, ps.map D.str, vs.map encV, bd) at_ Q := by
  unfold F25
  simp only [List.length_map]
  have hw : IntKind.i64.wrap (at_ - (ps.length : Int)) = at_ - ps.length := wrap_i64 (by omega) (by omega)
  rw [hw]
  unfold sizeV at h
  by_cases c1 : at_ - (ps.length : Int) < 0
  · simp only [c1, decide_true, cond_true, if_true] at h ⊢
    exact h
  · simp only [c1, decide_false, cond_false, if_false] at h ⊢
    by_cases c2 : at_ - (ps.length : Int) ≥ vs.length
    · simp only [c2, decide_true, cond_true, if_true] at h ⊢
      exact h
    · simp only [c2, decide_false, cond_false, if_false] at h ⊢
      have hx : (at_ - (ps.length : Int)).toNat < vs.length := by omega
      refine ⟨by omega, ?_⟩
      have hgd : ∀ (k : Nat) (hk : k < vs.length), vs.getD k ([], 0) = vs[k] := fun k hk => by simp [List.getD_eq_getElem?_getD, hk]
      have hg := hgd _ hx
      rw [hg] at h
      simp only [List.getElem?_map, List.getElem?_eq_getElem hx, Option.map_some, optP_some, asAgg_encV, asStr_str, asInt_int]
      exact h
end Go.Proofs.Ytankppgafdcknaa

/- Names are numbered, the parameters ahead of the others; each is found by its name, and begins with 0; sizes are those of arrays: of the walk of StateNames. -/
set_option linter.unusedVariables false
set_option linter.unusedSimpArgs false
set_option maxRecDepth 100000
open Go Go.AM
namespace Go.Proofs.Ytankppgafdcknaa

def pn (i : Nat) : List UInt8 := [112, UInt8.ofNat (97 + i)]
def vn (i : Nat) : List UInt8 := [118, UInt8.ofNat (97 + i)]
def psN (n : Nat) : List (List UInt8) := (List.range n).map pn
def vsN (m : Nat) : List V2 := (List.range m).map fun i => (vn i, 30 * (i : Int))
theorem psN_len (n : Nat) : (psN n).length = n := by simp [psN]
theorem vsN_len (n : Nat) : (vsN n).length = n := by simp [vsN]
theorem psN_succ (n : Nat) : psN (n + 1) = psN n ++ [pn n] := by simp [psN, List.range_succ]
theorem vsN_succ (n : Nat) : vsN (n + 1) = vsN n ++ [(vn n, 30 * (n : Int))] := by simp [vsN, List.range_succ]
theorem w8 (n : Int) : IntKind.u8.wrap n = n % 256 := by simp [IntKind.wrap, IntKind.bits, IntKind.signed]
theorem ch {i : Int} (h0 : 0 ≤ i) (h1 : i ≤ 100) : UInt8.ofNat (Int.toNat (IntKind.u8.wrap (97 + IntKind.u8.wrap i))) = UInt8.ofNat (97 + i.toNat) := by
  rw [w8, w8]
  congr 1
  omega
theorem d1 : ∀ N, N < 5 → ∀ M, M < 6 → ∀ i, i < N → idxS (pn i) (names2 (psN N) (vsN M)) 0 = (i : Int) := by decide +kernel
theorem d2 : ∀ N, N < 5 → ∀ M, M < 6 → ∀ i, i < M → idxS (vn i) (names2 (psN N) (vsN M)) 0 = (N : Int) + (i : Int) := by decide +kernel
theorem d3 : ∀ N, N < 5 → ∀ M, M < 6 → idxS [119] (names2 (psN N) (vsN M)) 0 = -1 := by decide +kernel
def zs2 (k : Nat) : List Sp2 := List.replicate k (0, 0)
theorem get_zs {k : Nat} {i : Int} (h0 : 0 ≤ i) (h1 : i < (k : Int)) : get2 true (zs2 k) i = (0, 0) := by
  have hh : has2 true (zs2 k).length i = true := by simp [has2, zs2, h0, h1]
  unfold get2
  rw [hh]
  have : i.toNat < k := by omega
  simp [zs2, List.getD_eq_getElem?_getD, this]
theorem get_zs_no {k : Nat} {i : Int} (h : i < 0 ∨ (k : Int) ≤ i) : get2 true (zs2 k) i = (1, 0) := by
  have hh : has2 true (zs2 k).length i = false := by
    apply Bool.eq_false_iff.2
    intro hc
    simp [has2, zs2] at hc
    omega
  unfold get2
  rw [hh]
  rfl
section
variable (a b c : Int) (N M : Nat) (hN : N < 5) (hM : M < 6) (ha : IntKind.i64.wrap (a.tmod 5) = (N : Int)) (hb : IntKind.i64.wrap (b.tmod 6) = (M : Int)) (hc0 : 0 ≤ c) (hc1 : c ≤ 255) (Q : Bool → Prop) (hQ : Q true)
include hN hM ha hb hc0 hc1 hQ
theorem th4 (R3 R6 R9 : List AV → Heap → Prop) : L4_4 a b c ((psN N).map D.str) ((vsN M).map encV) (true, (zs2 (N + M)).map enc2) Q R3 R6 R9 0 := by
  unfold L4_4
  refine loop_rule (E4_4 a b c ((psN N).map D.str) ((vsN M).map encV) (true, (zs2 (N + M)).map enc2)) (H4_4 a b c ((psN N).map D.str) ((vsN M).map encV) (true, (zs2 (N + M)).map enc2)) _ (fun i => 0 ≤ i ∧ i ≤ M) (fun i => M - i.toNat) ?_ 0 ⟨by omega, by omega⟩
  intro n i ⟨h0, h1⟩ ih
  rw [B4_4_eq a b c 0 _ 0 _ _ 0]
  unfold B4_4
  have hp : (psN N).length = N := psN_len N
  have hv : (vsN M).length = M := vsN_len M
  simp only [ha, hb, List.drop_zero, List.take_length]
  have w1 : ∀ x : Int, 0 ≤ x → x ≤ 1000 → IntKind.i64.wrap x = x := fun x h0 h1 => wrap_i64 (by omega) (by omega)
  by_cases hi : i < (M : Int)
  · have hx : i.toNat < M := by omega
    have hg : (vsN M)[i.toNat]? = some (vn i.toNat, 30 * (i.toNat : Int)) := by simp [vsN, hx]
    have hii : ((i.toNat : Nat) : Int) = i := by omega
    simp only [hi, decide_true, cond_true, List.getElem?_map, hg, Option.map_some, optP_some, asAgg_encV, asStr_str, asInt_int, h0, true_and]
    refine t24 [] (psN N) (vsN M) [] (by omega) (by omega) _ _ ?_
    rw [d2 N hN M hM i.toNat hx, hii, w1 ((N : Int) + i) (by omega) (by omega)]
    have e1 : (((N : Int) + i) != ((N : Int) + i)) = false := by simp
    rw [e1]
    simp only [cond_false]
    refine t25 [] (psN N) (vsN M) [] (by omega) (by omega) _ (by omega) (by omega) _ ?_
    have hs : sizeV (psN N) (vsN M) ((N : Int) + i) = if (64 : Int) < 30 * i then 64 else 30 * i := by
      unfold sizeV
      rw [hp, hv]
      have e2 : (N : Int) + i - (N : Int) = i := by omega
      rw [e2, if_neg (by omega), if_neg (by omega)]
      have hgd : (vsN M).getD i.toNat ([], 0) = (vn i.toNat, 30 * i) := by rw [List.getD_eq_getElem?_getD, hg, hii]; rfl
      rw [hgd]
      have e3 : ¬ ((0 : Int) > 30 * i) := by omega
      simp only [e3, if_false]
    rw [hs, w1 (30 * i) (by omega) (by omega)]
    have e4 : ((if (64 : Int) < 30 * i then (64 : Int) else 30 * i) != (if (64 : Int) < 30 * i then (64 : Int) else 30 * i)) = false := by simp
    rw [e4]
    simp only [cond_false]
    rw [t21, get_zs (by omega) (by omega), t22, t20]
    simp only [beq_self_eq_true, Bool.not_true, cond_false]
    rw [w1 (i + 1) (by omega) (by omega)]
    exact ih (i + 1) ⟨by omega, by omega⟩ (by omega)
  · simp only [hi, decide_false, cond_false]
    rw [w1 ((N : Int) + M) (by omega) (by omega), t21, get_zs_no (.inr (by omega)), t18]
    have e1 : empty2 ((1 : Int), (0 : Int)) = true := rfl
    simp only [e1, cond_true]
    rw [t21, get_zs_no (.inl (by omega)), t18]
    simp only [e1, cond_true]
    refine t24 [] (psN N) (vsN M) [] (by omega) (by omega) _ _ ?_
    have e2 : idxS [OfNat.ofNat 119] (names2 (psN N) (vsN M)) 0 = -1 := d3 N hN M hM
    rw [e2]
    have e3 : ((-1 : Int) == -1) = true := rfl
    simp only [e3, cond_true]
    rw [w1 c (by omega) (by omega), w1 ((N : Int) + M + c) (by omega) (by omega)]
    refine t25 [] (psN N) (vsN M) [] (by omega) (by omega) _ (by omega) (by omega) _ ?_
    have hs : sizeV (psN N) (vsN M) ((N : Int) + M + c) = 0 := by
      unfold sizeV
      rw [hp, hv, if_neg (by omega), if_pos (by omega)]
    rw [hs]
    exact hQ
theorem th3 (R3 R6 : List AV → Heap → Prop) : L4_3 a b c ((psN N).map D.str) ((vsN M).map encV) (true, (zs2 (N + M)).map enc2) Q R3 R6 0 := by
  unfold L4_3
  refine loop_rule (E4_3 a b c ((psN N).map D.str) ((vsN M).map encV) (true, (zs2 (N + M)).map enc2)) (H4_3 a b c ((psN N).map D.str) ((vsN M).map encV) (true, (zs2 (N + M)).map enc2)) _ (fun i => 0 ≤ i ∧ i ≤ N) (fun i => N - i.toNat) ?_ 0 ⟨by omega, by omega⟩
  intro n i ⟨h0, h1⟩ ih
  rw [B4_3_eq a b c 0 _ 0]
  unfold B4_3
  have hp : (psN N).length = N := psN_len N
  have hv : (vsN M).length = M := vsN_len M
  simp only [ha, hb, List.drop_zero, List.take_length]
  have w1 : ∀ x : Int, 0 ≤ x → x ≤ 1000 → IntKind.i64.wrap x = x := fun x h0 h1 => wrap_i64 (by omega) (by omega)
  by_cases hi : i < (N : Int)
  · have hx : i.toNat < N := by omega
    have hg : (psN N)[i.toNat]? = some (pn i.toNat) := by simp [psN, hx]
    have hii : ((i.toNat : Nat) : Int) = i := by omega
    simp only [hi, decide_true, cond_true, List.getElem?_map, hg, Option.map_some, optP_some, asStr_str, h0, true_and]
    refine t24 [] (psN N) (vsN M) [] (by omega) (by omega) _ _ ?_
    rw [d1 N hN M hM i.toNat hx, hii]
    have e1 : (i != i) = false := by simp
    rw [e1]
    simp only [cond_false]
    refine t25 [] (psN N) (vsN M) [] (by omega) (by omega) _ (by omega) (by omega) _ ?_
    have hs : sizeV (psN N) (vsN M) i = 0 := by
      unfold sizeV
      rw [hp, if_pos (by omega)]
    rw [hs]
    have e2 : ((0 : Int) != 0) = false := rfl
    simp only [e2, cond_false]
    rw [t21, get_zs (by omega) (by omega), t22, t20]
    simp only [beq_self_eq_true, Bool.not_true, cond_false]
    rw [w1 (i + 1) (by omega) (by omega)]
    exact ih (i + 1) ⟨by omega, by omega⟩ (by omega)
  · simp only [hi, decide_false, cond_false]
    exact th4 a b c N M hN hM ha hb hc0 hc1 Q hQ R3 R6 _
theorem th2 (R3 : List AV → Heap → Prop) : L4_2 a b c ((psN N).map D.str) Q R3 (0, []) := by
  unfold L4_2
  refine loop_rule (E4_2 a b c ((psN N).map D.str)) (H4_2 a b c ((psN N).map D.str)) _ (fun s => 0 ≤ s.1 ∧ s.1 ≤ M ∧ s.2 = (vsN s.1.toNat).map encV) (fun s => M - s.1.toNat) ?_ (0, []) ⟨by simp, by simp, by simp [vsN]⟩
  intro n s ⟨h0, h1, h2⟩ ih
  obtain ⟨i, v⟩ := s
  simp only at h0 h1 h2
  subst h2
  rw [B4_2_eq a b c 0]
  unfold B4_2
  have hp : (psN N).length = N := psN_len N
  have w1 : ∀ x : Int, 0 ≤ x → x ≤ 1000 → IntKind.i64.wrap x = x := fun x h0 h1 => wrap_i64 (by omega) (by omega)
  simp only [ha, hb, List.drop_zero, List.take_length]
  by_cases hi : i < (M : Int)
  · have hii : ((i.toNat : Nat) : Int) = i := by omega
    simp only [hi, decide_true, cond_true]
    rw [ch h0 (by omega), w1 (30 * i) (by omega) (by omega), w1 (i + 1) (by omega) (by omega)]
    refine ⟨by simp, by simp [vsN_len]; omega, by simp [vsN_len]; omega, by simp, ih (i + 1, _) ⟨by simp; omega, by simp; omega, ?_⟩ (by simp; omega)⟩
    simp only
    rw [show (i + 1).toNat = i.toNat + 1 by omega, vsN_succ, hii]
    simp [encV, vn]
  · have hin : i.toNat = M := by omega
    simp only [hi, decide_false, cond_false, hin]
    refine t23 [] (psN N) (vsN M) [] (by omega) (by rw [vsN_len]; omega) _ ?_
    rw [psN_len, vsN_len, w1 ((N : Int) + M) (by omega) (by omega)]
    refine ⟨by decide, ?_⟩
    have e1 : ((↑(List.length ((List.replicate (N + M) ((0, 0) : Sp2)).map enc2)) : Int) != ((N : Int) + M)) = false := by simp
    simp only [e1, cond_false, Bool.not_true]
    exact th3 a b c N M hN hM ha hb hc0 hc1 Q hQ R3 _
theorem th1 : L4_1 a b c Q (0, []) := by
  unfold L4_1
  refine loop_rule (E4_1 a b c) (H4_1 a b c) _ (fun s => 0 ≤ s.1 ∧ s.1 ≤ N ∧ s.2 = (psN s.1.toNat).map D.str) (fun s => N - s.1.toNat) ?_ (0, []) ⟨by simp, by simp, by simp [psN]⟩
  intro n s ⟨h0, h1, h2⟩ ih
  obtain ⟨i, v⟩ := s
  simp only at h0 h1 h2
  subst h2
  rw [B4_1_eq]
  unfold B4_1
  have w1 : ∀ x : Int, 0 ≤ x → x ≤ 1000 → IntKind.i64.wrap x = x := fun x h0 h1 => wrap_i64 (by omega) (by omega)
  simp only [ha, hb, List.drop_zero, List.take_length]
  by_cases hi : i < (N : Int)
  · simp only [hi, decide_true, cond_true]
    rw [ch h0 (by omega), w1 (i + 1) (by omega) (by omega)]
    refine ⟨by simp, by simp [psN_len]; omega, by simp [psN_len]; omega, by simp, ih (i + 1, _) ⟨by simp; omega, by simp; omega, ?_⟩ (by simp; omega)⟩
    simp only
    rw [show (i + 1).toNat = i.toNat + 1 by omega, psN_succ]
    simp [pn]
  · have hin : i.toNat = N := by omega
    simp only [hi, decide_false, cond_false, hin]
    exact th2 a b c N M hN hM ha hb hc0 hc1 Q hQ _
end
theorem law4 (a b c : Int) (ha0 : 0 ≤ a) (ha1 : a ≤ 255) (hb0 : 0 ≤ b) (hb1 : b ≤ 255) (hc0 : 0 ≤ c) (hc1 : c ≤ 255) (Q : Bool → Prop) (hQ : Q true) : F4 a b c Q := by
  unfold F4
  have hn0 : 0 ≤ a.tmod 5 := Int.tmod_nonneg _ ha0
  have hn1 : a.tmod 5 < 5 := Int.tmod_lt_of_pos _ (by decide)
  have hm0 : 0 ≤ b.tmod 6 := Int.tmod_nonneg _ hb0
  have hm1 : b.tmod 6 < 6 := Int.tmod_lt_of_pos _ (by decide)
  refine ⟨by decide, by decide, by decide, th1 a b c (a.tmod 5).toNat (b.tmod 6).toNat (by omega) (by omega) ?_ ?_ hc0 hc1 Q hQ⟩
  · rw [wrap_i64 (by omega) (by omega)]
    omega
  · rw [wrap_i64 (by omega) (by omega)]
    omega
end Go.Proofs.Ytankppgafdcknaa

/- StateNames, of the data that its arguments are. -/
set_option linter.unusedVariables false
set_option maxRecDepth 100000
open Go Go.AM
namespace Go.Proofs.Ytankppgafdcknaa
theorem body4 (x0 : D) (t0 : wt Try.prog 12 5 [x0]) (x1 : D) (t1 : wt Try.prog 12 5 [x1]) (x2 : D) (t2 : wt Try.prog 12 5 [x2]) :
    e4.w [.im x0, .im x1, .im x2] [] fun res _ => res = .im (.bool true) := by
  obtain ⟨a, ha, ha0, ha1⟩ := wt_int Try.underlying5 t0
  simp at ha
  subst ha
  obtain ⟨b, hb, hb0, hb1⟩ := wt_int Try.underlying5 t1
  simp at hb
  subst hb
  obtain ⟨c, hc, hc0, hc1⟩ := wt_int Try.underlying5 t2
  simp at hc
  subst hc
  have e : e4.w [.im (.int .u8 a), .im (.int .u8 b), .im (.int .u8 c)] [] (fun res _ => res = .im (.bool true)) =
      F4 a b c (fun y => AV.im (.bool y) = .im (.bool true)) := by kernel_rfl
  rw [e]
  exact law4 a b c (show (0 : Int) ≤ a from ha0) (show a ≤ (255 : Int) from ha1) (show (0 : Int) ≤ b from hb0) (show b ≤ (255 : Int) from hb1) (show (0 : Int) ≤ c from hc0) (show c ≤ (255 : Int) from hc1) _ rfl
end Go.Proofs.Ytankppgafdcknaa

/- The statement StateNames: of every input, out of the law and the walk. -/
set_option linter.unusedVariables false
set_option maxRecDepth 100000
namespace Go.Proofs.Ytankppgafdcknaa.stateNames
open Go.AM Go.ChangeShapes Go.WideShapes Go.ChangeAt Go.RowKit
theorem own : ownKnob Try.prog.godebug = none := by kernel_rfl
theorem laidOut : laidOutB Try.prog = true := by kernel_rfl
theorem lifted (os : Os) (started : os.Started) (H : Type) (enc : TypeId × Value → H) :
    ReturnsInHanded {} Try.checked os 4 .any (Rows.stateNamesSpec.pre6 enc Try.prog Try.f4 Rows.stateNamesRow.domain false) (Rows.stateNamesSpec.post enc Try.prog Try.f4 false true false false) := by
  refine returnsInHanded_of_change_sized (C := Try.checked) own started (by kernel_rfl) Try.func4
    (ChangeSpec.witness6 (enc := enc) (C := Try.checked) false ⟨#[], #[.int .u8 0, .int .u8 0, .int .u8 0], []⟩ 8 (by kernel_rfl) (by kernel_rfl) (by kernel_rfl) (by kernel_rfl)) ?_
  intro W base args ds gs before hval0 hW hcnd hsz0 _
  have hval : ∀ (j : Nat) t v, Try.f4.params[j]? = some t → args[j]? = some v → Value.okWide Try.prog W .any base t v := hval0
  have hW' := hW
  obtain ⟨p, q, hA0, hV, rfl, hfz, hnd⟩ := hW
  have hA : DataW.TrodAll enc Try.prog W 0 (fun _ => true) true Try.f4.params.toList args.toList ds p := hA0
  rw [Try.params4] at hA hval
  obtain ⟨v0, vs0, d0, ds0, p0, q0, hargs, rfl, rfl, h0, r0⟩ := trodAll_cons hA
  obtain ⟨v1, vs1, d1, ds1, p1, q1, rfl, rfl, rfl, h1, r1⟩ := trodAll_cons r0
  obtain ⟨v2, vs2, d2, ds2, p2, q2, rfl, rfl, rfl, h2, r2⟩ := trodAll_cons r1
  obtain ⟨rfl, rfl, rfl⟩ := trodAll_nil r2
  obtain rfl : args = #[v0, v1, v2] := by cases args; simp_all
  obtain ⟨rfl, rfl⟩ := trodVars_none hV
  have lt0 : ∀ x ∈ p0, x.block < W.heap.size := by obtain ⟨m, hm⟩ := h0; exact DataW.trod_lt m _ _ _ hm
  have o0 := hval 0 5 v0 rfl rfl
  have e0 : v0.cells.toList = [v0] := by
    unfold Value.okWide Cell.okWide Cell.ok at o0
    rw [Try.underlying5] at o0
    cases v0 <;> first | rfl | exact o0.elim
  obtain ⟨x0, w0, t0⟩ := arg_cell 12 (by kernel_rfl) e0 h0
  have lt1 : ∀ x ∈ p1, x.block < W.heap.size := by obtain ⟨m, hm⟩ := h1; exact DataW.trod_lt m _ _ _ hm
  have o1 := hval 1 5 v1 rfl rfl
  have e1 : v1.cells.toList = [v1] := by
    unfold Value.okWide Cell.okWide Cell.ok at o1
    rw [Try.underlying5] at o1
    cases v1 <;> first | rfl | exact o1.elim
  obtain ⟨x1, w1, t1⟩ := arg_cell 12 (by kernel_rfl) e1 h1
  have lt2 : ∀ x ∈ p2, x.block < W.heap.size := by obtain ⟨m, hm⟩ := h2; exact DataW.trod_lt m _ _ _ hm
  have o2 := hval 2 5 v2 rfl rfl
  have e2 : v2.cells.toList = [v2] := by
    unfold Value.okWide Cell.okWide Cell.ok at o2
    rw [Try.underlying5] at o2
    cases v2 <;> first | rfl | exact o2.elim
  obtain ⟨x2, w2, t2⟩ := arg_cell 12 (by kernel_rfl) e2 h2
  refine (top e4 (w := W) (vals := [v0, v1, v2]) (b := true) Try.func4 (by decide) rfl (.cons _ _ _ _ w0 (.cons _ _ _ _ w1 (.cons _ _ _ _ w2 .nil))) (body4 x0 t0 x1 t1 x2 t2)).mono fun e W' ⟨he, bel⟩ => ?_
  subst he
  exact ⟨_, rfl, _, _, _, [], _, [], hW', trodAll_mk1 (shut_bool Try.underlying4 _), (trodAll_cons_mk (Below.trod laidOut (by kernel_rfl) (of_decide_eq_true (by kernel_rfl)) h0 bel lt0) (trodAll_cons_mk (Below.trod laidOut (by kernel_rfl) (of_decide_eq_true (by kernel_rfl)) h1 bel lt1) (trodAll_cons_mk (Below.trod laidOut (by kernel_rfl) (of_decide_eq_true (by kernel_rfl)) h2 bel lt2) trodAll_mk0))), rfl, bel.frame _, fun h => by cases h⟩
theorem over : Rows.stateNamesRow.holds Try.pinned (OpenSpec.ofChange Rows.stateNamesSpec) :=
  OpenClaim.holds_of_wide 4 Try.f4 rfl rfl rfl rfl rfl rfl rfl ⟨rfl, rfl, rfl, rfl, rfl⟩ rfl rfl rfl rfl rfl (by kernel_rfl) Try.func4 (by kernel_rfl)
    (of_decide_eq_true (by kernel_rfl)) (by unfold Func.isWrapper; first | (rw [if_pos (by decide +kernel)]; kernel_rfl) | (rw [if_neg (by decide +kernel)]; exact ⟨rfl, rfl⟩))
    (fun os started H enc _ => lifted os started H enc)
theorem proved : Rows.StateNamesSaid := over
end Go.Proofs.Ytankppgafdcknaa.stateNames
namespace Go.Proofs.Ytankppgafdcknaa
/-- The row, under a short name, for the claim. -/
theorem stateNames_holds : Rows.StateNamesSaid := stateNames.proved
end Go.Proofs.Ytankppgafdcknaa
