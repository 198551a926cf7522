/- Texts joined into one: PPostx2 PPostx3. -/
import Derived.Test.YtankppgafdcknaaKp
/- Printed for this claim by a program. -/
namespace Go.Proofs.Ytankppgafdcknaa.PPost
open Go.RowKit Go.Proofs.YtankppgafdcknaaW.PrintWords Go.Proofs.YtankppgafdcknaaW.PrintLast Go.Proofs.YtankppgafdcknaaW.PrintMore
attribute [local go_sem] max2_int min2_int max_two min_two max_three min_three max_four min_four   -- for this text's walks alone
set_option linter.unusedVariables false
set_option linter.unusedSimpArgs false

/-! ### dom_Post: function 31 -/
mutual
def dom_Post.l0 : Nat → List (List Int) → List (List Bool) → Int → Int → Option ((List (List Bool)))
  | 0, _, _, _, _ => none
  | k + 1, x0, x3, x19, x20 => if x20 < x19 then ((slices_Repeat_bool_bool.f (([true] : List Bool)) (x0.length : Int)).bind fun t123 => (if 0 ≤ x20 then (if x20 < (x3.length : Int) then (dom_Post.l0 k x0 (x3.set (x20 : Int).toNat t123) x19 (wrap64 (x20 + 1))) else (none)) else (none))) else (if (x0.length : Int) = 0 then (some x3) else (dom_Post.l1 k x0 x3 (wrap64 ((x0.length : Int) - 1)) (x0.length : Int) 0))
def dom_Post.l1 : Nat → List (List Int) → List (List Bool) → Int → Int → Int → Option ((List (List Bool)))
  | 0, _, _, _, _, _ => none
  | k + 1, x0, x3, x5, x39, x40 => if x40 < x39 then (if 0 ≤ (x0.length : Int) then (if ((x0.length : Int) : Int).toNat ≤ 11728124029610 then (dom_Post.l2 k x0 x3 x5 x40 (List.replicate ((x0.length : Int) : Int).toNat []) x39 x40 x0 (x0.length : Int) 0) else (none)) else (none)) else (some x3)
def dom_Post.l2 : Nat → List (List Int) → List (List Bool) → Int → Int → List (List Int) → Int → Int → List (List Int) → Int → Int → Option ((List (List Bool)))
  | 0, _, _, _, _, _, _, _, _, _, _ => none
  | k + 1, x0, x3, x5, x6, x7, x39, x40, x46, x47, x48 => if x48 < x47 then (if 0 ≤ x48 then (if x48 < (x46.length : Int) then (dom_Post.l3 k x0 x3 x5 x6 x7 x48 x39 x40 x46 x47 x48 (rd_L1 x46 x48) ((rd_L1 x46 x48).length : Int) 0) else (none)) else (none)) else (if x6 = x5 then (dom_Post.l1 k x0 x3 x5 x39 (wrap64 (x40 + 1))) else (if 0 ≤ (x0.length : Int) then (if ((x0.length : Int) : Int).toNat ≤ 281474976710656 then ((some (List.replicate ((x0.length : Int) : Int).toNat false : List Bool)).bind fun y138 => ((dom_graph_visit.f k x7 y138 x5).bind fun t141 => (dom_Post.l4 k x0 x3 x5 x6 x39 x40 t141 (y138.length : Int) 0))) else (none)) else (none)))
def dom_Post.l3 : Nat → List (List Int) → List (List Bool) → Int → Int → List (List Int) → Int → Int → Int → List (List Int) → Int → Int → List Int → Int → Int → Option ((List (List Bool)))
  | 0, _, _, _, _, _, _, _, _, _, _, _, _, _, _ => none
  | k + 1, x0, x3, x5, x6, x7, x8, x39, x40, x46, x47, x48, x53, x54, x55 => if x55 < x54 then (if 0 ≤ x55 then (if x55 < (x53.length : Int) then ((dom_graph_is.f x0 (rd x53 x55)).bind fun t132 => (if t132 = true then (if x8 = x6 then (dom_Post.l3 k x0 x3 x5 x6 x7 x8 x39 x40 x46 x47 x48 x53 x54 (wrap64 (x55 + 1))) else (if (rd x53 x55) = x6 then (dom_Post.l3 k x0 x3 x5 x6 x7 x8 x39 x40 x46 x47 x48 x53 x54 (wrap64 (x55 + 1))) else (if 0 ≤ (rd x53 x55) then (if (rd x53 x55) < (x7.length : Int) then (if (rd_L1 x7 (rd x53 x55)).length < 17592186044416 then (dom_Post.l3 k x0 x3 x5 x6 (x7.set ((rd x53 x55) : Int).toNat ((rd_L1 x7 (rd x53 x55)) ++ [x8])) x8 x39 x40 x46 x47 x48 x53 x54 (wrap64 (x55 + 1))) else (none)) else (none)) else (none)))) else (dom_Post.l3 k x0 x3 x5 x6 x7 x8 x39 x40 x46 x47 x48 x53 x54 (wrap64 (x55 + 1))))) else (none)) else (none)) else (dom_Post.l2 k x0 x3 x5 x6 x7 x39 x40 x46 x47 (wrap64 (x48 + 1)))
def dom_Post.l4 : Nat → List (List Int) → List (List Bool) → Int → Int → Int → Int → List Bool → Int → Int → Option ((List (List Bool)))
  | 0, _, _, _, _, _, _, _, _, _ => none
  | k + 1, x0, x3, x5, x6, x39, x40, x94, x95, x96 => if x96 < x95 then (if 0 ≤ x96 then (if x96 < (x94.length : Int) then (if x96 < (x3.length : Int) then (if 0 ≤ x6 then (if x6 < ((rd_L3 x3 x96).length : Int) then (dom_Post.l4 k x0 (x3.set (x96 : Int).toNat ((rd_L3 x3 x96).set (x6 : Int).toNat (!(rdOf false x94 x96)))) x5 x6 x39 x40 x94 x95 (wrap64 (x96 + 1))) else (none)) else (none)) else (none)) else (none)) else (none)) else (dom_Post.l1 k x0 x3 x5 x39 (wrap64 (x40 + 1)))
end
def dom_Post.f (k : Nat) (l0 : List (List Int)) : Option ((List (List Bool))) := if 0 ≤ (l0.length : Int) then (if ((l0.length : Int) : Int).toNat ≤ 11728124029610 then ((some (List.replicate ((l0.length : Int) : Int).toNat [] : List (List Bool))).bind fun y117 => (dom_Post.l0 k l0 y117 (y117.length : Int) 0)) else (none)) else (none)
theorem dom_Post.mono_l : ∀ k, (∀ y0 y1 y2 y3, LeO (dom_Post.l0 k y0 y1 y2 y3) (dom_Post.l0 (k + 1) y0 y1 y2 y3)) ∧ (∀ y0 y1 y2 y3 y4, LeO (dom_Post.l1 k y0 y1 y2 y3 y4) (dom_Post.l1 (k + 1) y0 y1 y2 y3 y4)) ∧ (∀ y0 y1 y2 y3 y4 y5 y6 y7 y8 y9, LeO (dom_Post.l2 k y0 y1 y2 y3 y4 y5 y6 y7 y8 y9) (dom_Post.l2 (k + 1) y0 y1 y2 y3 y4 y5 y6 y7 y8 y9)) ∧ (∀ y0 y1 y2 y3 y4 y5 y6 y7 y8 y9 y10 y11 y12 y13, LeO (dom_Post.l3 k y0 y1 y2 y3 y4 y5 y6 y7 y8 y9 y10 y11 y12 y13) (dom_Post.l3 (k + 1) y0 y1 y2 y3 y4 y5 y6 y7 y8 y9 y10 y11 y12 y13)) ∧ (∀ y0 y1 y2 y3 y4 y5 y6 y7 y8, LeO (dom_Post.l4 k y0 y1 y2 y3 y4 y5 y6 y7 y8) (dom_Post.l4 (k + 1) y0 y1 y2 y3 y4 y5 y6 y7 y8))
  | 0 => ⟨fun _ _ _ _ r h => by simp [dom_Post.l0] at h, fun _ _ _ _ _ r h => by simp [dom_Post.l1] at h, fun _ _ _ _ _ _ _ _ _ _ r h => by simp [dom_Post.l2] at h, fun _ _ _ _ _ _ _ _ _ _ _ _ _ _ r h => by simp [dom_Post.l3] at h, fun _ _ _ _ _ _ _ _ _ r h => by simp [dom_Post.l4] at h⟩
  | k + 1 => by
    obtain ⟨ih0, ih1, ih2, ih3, ih4⟩ := dom_Post.mono_l k
    refine ⟨?_, ?_, ?_, ?_, ?_⟩
    · intro y0 y1 y2 y3
      unfold dom_Post.l0
      repeat' first
      | (with_reducible exact ih0 _ _ _ _)
      | (with_reducible exact ih1 _ _ _ _ _)
      | (with_reducible exact ih2 _ _ _ _ _ _ _ _ _ _)
      | (with_reducible exact ih3 _ _ _ _ _ _ _ _ _ _ _ _ _ _)
      | (with_reducible exact ih4 _ _ _ _ _ _ _ _ _)
      | (with_reducible exact dom_graph_visit.mono _ _ _ _)
      | (with_reducible exact LeO.refl _)
      | (with_reducible exact LeO.none _)
      | (with_reducible refine LeO.ite ?_ ?_)
      | (with_reducible refine LeO.bind ?_ (fun _ => ?_))
      | exact ih0 _ _ _ _
      | exact ih1 _ _ _ _ _
      | exact ih2 _ _ _ _ _ _ _ _ _ _
      | exact ih3 _ _ _ _ _ _ _ _ _ _ _ _ _ _
      | exact ih4 _ _ _ _ _ _ _ _ _
      | exact dom_graph_visit.mono _ _ _ _
      | exact LeO.none _
      | refine LeO.ite ?_ ?_
      | refine LeO.bind ?_ (fun _ => ?_)
    · intro y0 y1 y2 y3 y4
      unfold dom_Post.l1
      repeat' first
      | (with_reducible exact ih0 _ _ _ _)
      | (with_reducible exact ih1 _ _ _ _ _)
      | (with_reducible exact ih2 _ _ _ _ _ _ _ _ _ _)
      | (with_reducible exact ih3 _ _ _ _ _ _ _ _ _ _ _ _ _ _)
      | (with_reducible exact ih4 _ _ _ _ _ _ _ _ _)
      | (with_reducible exact dom_graph_visit.mono _ _ _ _)
      | (with_reducible exact LeO.refl _)
      | (with_reducible exact LeO.none _)
      | (with_reducible refine LeO.ite ?_ ?_)
      | (with_reducible refine LeO.bind ?_ (fun _ => ?_))
      | exact ih0 _ _ _ _
      | exact ih1 _ _ _ _ _
      | exact ih2 _ _ _ _ _ _ _ _ _ _
      | exact ih3 _ _ _ _ _ _ _ _ _ _ _ _ _ _
      | exact ih4 _ _ _ _ _ _ _ _ _
      | exact dom_graph_visit.mono _ _ _ _
      | exact LeO.none _
      | refine LeO.ite ?_ ?_
      | refine LeO.bind ?_ (fun _ => ?_)
    · intro y0 y1 y2 y3 y4 y5 y6 y7 y8 y9
      unfold dom_Post.l2
      repeat' first
      | (with_reducible exact ih0 _ _ _ _)
      | (with_reducible exact ih1 _ _ _ _ _)
      | (with_reducible exact ih2 _ _ _ _ _ _ _ _ _ _)
      | (with_reducible exact ih3 _ _ _ _ _ _ _ _ _ _ _ _ _ _)
      | (with_reducible exact ih4 _ _ _ _ _ _ _ _ _)
      | (with_reducible exact dom_graph_visit.mono _ _ _ _)
      | (with_reducible exact LeO.refl _)
      | (with_reducible exact LeO.none _)
      | (with_reducible refine LeO.ite ?_ ?_)
      | (with_reducible refine LeO.bind ?_ (fun _ => ?_))
      | exact ih0 _ _ _ _
      | exact ih1 _ _ _ _ _
      | exact ih2 _ _ _ _ _ _ _ _ _ _
      | exact ih3 _ _ _ _ _ _ _ _ _ _ _ _ _ _
      | exact ih4 _ _ _ _ _ _ _ _ _
      | exact dom_graph_visit.mono _ _ _ _
      | exact LeO.none _
      | refine LeO.ite ?_ ?_
      | refine LeO.bind ?_ (fun _ => ?_)
    · intro y0 y1 y2 y3 y4 y5 y6 y7 y8 y9 y10 y11 y12 y13
      unfold dom_Post.l3
      repeat' first
      | (with_reducible exact ih0 _ _ _ _)
      | (with_reducible exact ih1 _ _ _ _ _)
      | (with_reducible exact ih2 _ _ _ _ _ _ _ _ _ _)
      | (with_reducible exact ih3 _ _ _ _ _ _ _ _ _ _ _ _ _ _)
      | (with_reducible exact ih4 _ _ _ _ _ _ _ _ _)
      | (with_reducible exact dom_graph_visit.mono _ _ _ _)
      | (with_reducible exact LeO.refl _)
      | (with_reducible exact LeO.none _)
      | (with_reducible refine LeO.ite ?_ ?_)
      | (with_reducible refine LeO.bind ?_ (fun _ => ?_))
      | exact ih0 _ _ _ _
      | exact ih1 _ _ _ _ _
      | exact ih2 _ _ _ _ _ _ _ _ _ _
      | exact ih3 _ _ _ _ _ _ _ _ _ _ _ _ _ _
      | exact ih4 _ _ _ _ _ _ _ _ _
      | exact dom_graph_visit.mono _ _ _ _
      | exact LeO.none _
      | refine LeO.ite ?_ ?_
      | refine LeO.bind ?_ (fun _ => ?_)
    · intro y0 y1 y2 y3 y4 y5 y6 y7 y8
      unfold dom_Post.l4
      repeat' first
      | (with_reducible exact ih0 _ _ _ _)
      | (with_reducible exact ih1 _ _ _ _ _)
      | (with_reducible exact ih2 _ _ _ _ _ _ _ _ _ _)
      | (with_reducible exact ih3 _ _ _ _ _ _ _ _ _ _ _ _ _ _)
      | (with_reducible exact ih4 _ _ _ _ _ _ _ _ _)
      | (with_reducible exact dom_graph_visit.mono _ _ _ _)
      | (with_reducible exact LeO.refl _)
      | (with_reducible exact LeO.none _)
      | (with_reducible refine LeO.ite ?_ ?_)
      | (with_reducible refine LeO.bind ?_ (fun _ => ?_))
      | exact ih0 _ _ _ _
      | exact ih1 _ _ _ _ _
      | exact ih2 _ _ _ _ _ _ _ _ _ _
      | exact ih3 _ _ _ _ _ _ _ _ _ _ _ _ _ _
      | exact ih4 _ _ _ _ _ _ _ _ _
      | exact dom_graph_visit.mono _ _ _ _
      | exact LeO.none _
      | refine LeO.ite ?_ ?_
      | refine LeO.bind ?_ (fun _ => ?_)
theorem dom_Post.mono : ∀ a0 k, LeO (dom_Post.f k a0) (dom_Post.f (k + 1) a0) := by
  intro a0 k
  obtain ⟨ih0, ih1, ih2, ih3, ih4⟩ := dom_Post.mono_l k
  unfold dom_Post.f
  repeat' first
      | (with_reducible exact ih0 _ _ _ _)
      | (with_reducible exact ih1 _ _ _ _ _)
      | (with_reducible exact ih2 _ _ _ _ _ _ _ _ _ _)
      | (with_reducible exact ih3 _ _ _ _ _ _ _ _ _ _ _ _ _ _)
      | (with_reducible exact ih4 _ _ _ _ _ _ _ _ _)
      | (with_reducible exact dom_graph_visit.mono _ _ _ _)
      | (with_reducible exact LeO.refl _)
      | (with_reducible exact LeO.none _)
      | (with_reducible refine LeO.ite ?_ ?_)
      | (with_reducible refine LeO.bind ?_ (fun _ => ?_))
      | exact ih0 _ _ _ _
      | exact ih1 _ _ _ _ _
      | exact ih2 _ _ _ _ _ _ _ _ _ _
      | exact ih3 _ _ _ _ _ _ _ _ _ _ _ _ _ _
      | exact ih4 _ _ _ _ _ _ _ _ _
      | exact dom_graph_visit.mono _ _ _ _
      | exact LeO.none _
      | refine LeO.ite ?_ ?_
      | refine LeO.bind ?_ (fun _ => ?_)
set_option maxHeartbeats 8000000 in
set_option maxRecDepth 100000 in
theorem dom_Post.calls (k : Nat) (A0 : Option Addr) (c0 : Nat) (l0 : List (List Int)) (r : List (List Bool)) (w : World) (hr0 : Kd.C (Kd.slice 3 (Kd.int .i64)) w A0 l0.length l0) (hc0 : l0.length ≤ c0) (h : dom_Post.f k l0 = some r) :
    Calls Try.prog 31 #[.slice A0 l0.length c0] w fun e w' => ∃ v0_ : Value, e = .returned (v0_) ∧ Kd.S (Kd.slice 4 Kd.bool) 57 w' w.heap.size (fun _ => True) v0_ r ∧ Below w.heap.size w w' := by
  have HR0 := Aside0.mk hr0
  have HC0 := Aside0.mk hc0
  clear hr0 hc0
  have HB := Aside0.mk (Below.refl w.heap.size w)
  have H : (if 0 ≤ (l0.length : Int) then (if ((l0.length : Int) : Int).toNat ≤ 11728124029610 then ((some (List.replicate ((l0.length : Int) : Int).toNat [] : List (List Bool))).bind fun y117 => (dom_Post.l0 k l0 y117 (y117.length : Int) 0)) else (none)) else (none)) = some r := h
  clear h
  by_cases c2 : 0 ≤ (l0.length : Int)
  · rw [if_pos c2] at H
    have c2b0 := eq_true c2
    have c2b1 : decide (0 ≤ (l0.length : Int)) = true := decide_eq_true c2
    clear c2
    by_cases c3 : ((l0.length : Int) : Int).toNat ≤ 11728124029610
    · rw [if_pos c3] at H
      have c3b0 := eq_true c3
      have c3b1 : decide (((l0.length : Int) : Int).toNat ≤ 11728124029610) = true := decide_eq_true c3
      clear c3
      obtain ⟨y117, hy117⟩ : ∃ y_ : List (List Bool), y_ = (List.replicate ((l0.length : Int) : Int).toNat []) := ⟨_, rfl⟩
      replace H : (dom_Post.l0 k l0 y117 (y117.length : Int) 0) = some r := by first | (rw [hy117]; with_reducible exact H) | (have H2_ := (Option.bind_some _ _).symm.trans H; rw [hy117]; with_reducible exact H2_) | (have H2_ := (Option.bind_some _ _).symm.trans H; with_reducible exact H2_) | with_reducible exact H | (rw [hy117]; exact H) | exact H
      have Ny117 := Aside0.mk hy117
      clear hy117
      have H' := Aside0.mk H
      clear H
      go_enter Try.func31, Try.ntmps31
      go_wp2_with (first | ((with_reducible refine gate_dst (N := 17) rfl ?_); refine Kd.S_make (Kd.slice 4 Kd.bool) _ 57 rfl (N := 17) rfl 60 _ _ rfl (l0.length : Int) rfl rfl Try.underlying60 (.slice none 0 0) 24 info57 rfl (by decide) (by omega) [] (ok := fun _ => True) (okp := fun _ => True) ⟨_, rfl, Kd.R_nil _ _ _ _ _⟩ (fun _ hk => hk) trivial (of_decide_eq_true (by first | (with_reducible assumption) | assumption)) (Nat.le_trans (Nat.mul_le_mul_right _ (of_decide_eq_true (by first | (with_reducible assumption) | assumption) : (l0.length : Int).toNat ≤ 11728124029610)) (by omega)) (Below.refl _ _) (Nat.le_refl _) ?_; intro v118 w4 ho5 hb hg_ hnew_; clear hg_ hnew_; (first | rw [← Ny117.out] at ho5 | (simp only [Int.reduceToNat] at ho5; rw [← Ny117.out] at ho5)); have n0_ := Aside0.mk (Kd.S_lower ho5 (below_size (by repeat (first | (with_reducible first | exact HB.out | apply below_alloc | apply pw_below_drewN | apply below_drew1) | exact HB.out)))); have n1_ := Aside0.mk (below_step (by repeat (first | (with_reducible first | exact HB.out | apply below_alloc | apply pw_below_drewN | apply below_drew1) | exact HB.out)) hb); clear HB; have HO119 := n0_; have HB := n1_; clear n0_ n1_; clear hb ho5; obtain ⟨Ao6, co6, eo6⟩ := Kd.S_slice HO119.out; subst eo6))
      go_loopg [20] k (fun kq v20 w' => ∃ (x3_1 : List (List Bool)) (x20_1 : Int), v20 = .int .i64 x20_1 ∧ Aside0 (dom_Post.l0 kq l0 x3_1 (y117.length : Int) x20_1 = some r) ∧ Aside0 (kq ≤ k) ∧ Aside0 (Kd.S (Kd.slice 4 Kd.bool) 57 w' w.heap.size (fun _ => True) (.slice Ao6 y117.length co6) x3_1) ∧ Aside0 (Below w.heap.size w w'))
      case atStart => exact ⟨(y117), (0), (by first | rfl | (simp; done) | (simp [*]; done)), H', ⟨Nat.le_refl _⟩, ⟨by (with_reducible repeat (first | apply Kd.S_alloc | apply Kd.S_drewN | apply Kd.S_drew)); exact HO119.out⟩, ⟨by repeat (first | (with_reducible first | exact HB.out | apply below_alloc | apply pw_below_drewN | apply below_drew1) | exact HB.out)⟩⟩
      case round =>
        clear H'
        try clear c2
        try clear c2b0
        try clear c2b1
        try clear p2
        try clear c3
        try clear c3b0
        try clear c3b1
        obtain ⟨x3_1, x20_1, rfl, HA, HK1, HO_3, HB⟩ := hrel
        have hl3_1 := (Kd.S_reads' HO_3.out).1
        rw [hl3_1] at HO_3
        (try simp only [hl3_1])
        cases gk with
        | zero => exact absurd HA.out (by simp [dom_Post.l0])
        | succ k1 =>
          have H := HA.out
          clear HA
          simp only [dom_Post.l0] at H
          by_cases c7 : x20_1 < (y117.length : Int)
          · rw [if_pos c7] at H
            have c7b0 : decide (x20_1 < (y117.length : Int)) = true := decide_eq_true c7
            have c7b0_ := c7b0; (try simp only [hl3_1] at c7b0_)
            clear c7
            obtain ⟨y120, hy120⟩ : ∃ y_ : List Bool, y_ = (([true] : List Bool)) := ⟨_, rfl⟩
            replace H : ((slices_Repeat_bool_bool.f y120 (l0.length : Int)).bind fun t123 => (if 0 ≤ x20_1 then (if x20_1 < (x3_1.length : Int) then (dom_Post.l0 k1 l0 (x3_1.set (x20_1 : Int).toNat t123) (y117.length : Int) (wrap64 (x20_1 + 1))) else (none)) else (none))) = some r := by first | (rw [hy120]; with_reducible exact H) | (have H2_ := (Option.bind_some _ _).symm.trans H; rw [hy120]; with_reducible exact H2_) | (have H2_ := (Option.bind_some _ _).symm.trans H; with_reducible exact H2_) | with_reducible exact H | (rw [hy120]; exact H) | exact H
            have Ny120 := Aside0.mk hy120
            clear hy120
            replace H := Option.bind_eq_some_iff.mp H
            obtain ⟨t123, A80, H⟩ := H
            replace H : (if 0 ≤ x20_1 then (if x20_1 < (x3_1.length : Int) then (dom_Post.l0 k1 l0 (x3_1.set (x20_1 : Int).toNat t123) (y117.length : Int) (wrap64 (x20_1 + 1))) else (none)) else (none)) = some r := H
            have A8 := Aside0.mk A80
            clear A80
            by_cases c9 : 0 ≤ x20_1
            · rw [if_pos c9] at H
              have c9b0 : decide (0 ≤ x20_1) = true := decide_eq_true c9
              clear c9
              by_cases c10 : x20_1 < (x3_1.length : Int)
              · rw [if_pos c10] at H
                have c10b0 : decide (x20_1 < (x3_1.length : Int)) = true := decide_eq_true c10
                have c10b0_ := c10b0; (try simp only [hl3_1] at c10b0_)
                clear c10
                obtain ⟨y126, hy126⟩ : ∃ y_ : List (List Bool), y_ = (x3_1.set (x20_1 : Int).toNat t123) := ⟨_, rfl⟩
                replace H : (dom_Post.l0 k1 l0 y126 (y117.length : Int) (wrap64 (x20_1 + 1))) = some r := by first | (rw [hy126]; with_reducible exact H) | (have H2_ := (Option.bind_some _ _).symm.trans H; rw [hy126]; with_reducible exact H2_) | (have H2_ := (Option.bind_some _ _).symm.trans H; with_reducible exact H2_) | with_reducible exact H | (rw [hy126]; exact H) | exact H
                have Ny126 := Aside0.mk hy126
                clear hy126
                have H' := Aside0.mk H
                clear H
                go_wp2_with (first | ((with_reducible refine gate_dst (N := 25) rfl ?_); refine Kd.R_lit Kd.bool _ 4 ?hg (N := 25) ?hd (xs := ([true] : List Bool)) (inner := [.bool true]) (ok := fun _ => True) (okp := fun _ => True) ?hr ?hp (fun _ hk => hk) trivial (Below.refl _ _) (Nat.le_refl _) (by simp) ?_; (case hd => rfl); (case hg => rfl); (case hr => first | (go_simp; done) | (go_simp; rfl)); (case hp => exact (Reps.one (show Kd.M Kd.bool _ _ _ true [.bool true] from rfl) (Reps.none _ _))); intro v121 w12 ho13 hb hg_ hnew_; clear hg_ hnew_; (first | rw [← Ny120.out] at ho13 | (simp only [Int.reduceToNat] at ho13; rw [← Ny120.out] at ho13)); have n0_ := Aside0.mk (Kd.S_elder' (by (with_reducible repeat (first | apply Kd.S_alloc | apply Kd.S_drewN | apply Kd.S_drew)); exact HO_3.out) (Kd.R_base ho13) hb); have n1_ := Aside0.mk (Kd.R_lower ho13 (below_size (by repeat (first | (with_reducible first | exact HB.out | apply below_alloc | apply pw_below_drewN | apply below_drew1) | exact HB.out)))); have n2_ := Aside0.mk (below_step (by repeat (first | (with_reducible first | exact HB.out | apply below_alloc | apply pw_below_drewN | apply below_drew1) | exact HB.out)) hb); clear HO_3; clear HB; have HO_3 := n0_; have HO122 := n1_; have HB := n2_; clear n0_ n1_ n2_; clear hb ho13; obtain ⟨Ao14, co14, eo14⟩ := Kd.R_slice HO122.out; subst eo14) | ((with_reducible refine gate_callee (f := 55) rfl ?_); refine goesL_ (some 28) rfl rfl Try.func55 (by kernel_rfl) rfl #[.slice Ao14 y120.length co14, .int .i64 (l0.length : Int)] rfl (by (try simp only [List.map_toArray, List.map_cons, List.map_nil]); first | done | rfl | (simp only [List.length_drop, List.length_take]; rfl)) ?_; (with_reducible refine (slices_Repeat_bool_bool.calls _ _ y120 (l0.length : Int) t123 _ ?side1 ?side2 A8.out).mono ?_); (case side1 => repeat (first | exact (Kd.R_reads' HO122.out).2.2 | (with_reducible refine Kd.C_alloc ?_ _) | (with_reducible refine Kd.C_drewN ?_ _) | (with_reducible refine Kd.C_drew ?_))); (case side2 => exact (Kd.R_reads' HO122.out).2.1); rintro e w15 ⟨v124, rfl, ho0, hb⟩; refine ⟨_, rfl, ?_⟩; obtain ⟨Av124, cv124, ev124⟩ := Kd.R_slice ho0; subst ev124; have n0_ := Aside0.mk (Kd.S_elder' (by (with_reducible repeat (first | apply Kd.S_alloc | apply Kd.S_drewN | apply Kd.S_drew)); exact HO_3.out) (Kd.R_base ho0) hb); have n1_ := Aside0.mk (Kd.R_elder' (by (with_reducible repeat (first | apply Kd.R_alloc | apply Kd.R_drewN | apply Kd.R_drew)); exact HO122.out) (Kd.R_base ho0) hb); have n2_ := Aside0.mk (Kd.R_lower (Kd.R_new' ho0 (Kd.R_lt (by (with_reducible repeat (first | apply Kd.R_alloc | apply Kd.R_drewN | apply Kd.R_drew)); exact HO122.out))) (below_size (by repeat (first | (with_reducible first | exact HB.out | apply below_alloc | apply pw_below_drewN | apply below_drew1) | exact HB.out)))); have n3_ := Aside0.mk (below_step (by repeat (first | (with_reducible first | exact HB.out | apply below_alloc | apply pw_below_drewN | apply below_drew1) | exact HB.out)) hb); clear HO_3; clear HO122; clear HB; have HO_3 := n0_; have HO122 := n1_; have HO125 := n2_; have HB := n3_; clear n0_ n1_ n2_ n3_; (try clear hb); (try clear hb2); (try clear hk); (try clear hi); (try clear ho0); have p11 : 0 ≤ (x20_1 : Int) := of_decide_eq_true (by first | (with_reducible assumption) | assumption); have q11 : (x20_1 : Int) < ((x3_1.length : Int) : Int) := of_decide_eq_true (by first | (with_reducible assumption) | assumption); obtain ⟨go11, co11, eo11, gb11, gl11, cl11, HG11⟩ := Kd.S_form HO_3.out (by omega); (first | cases eo11 | (injection eo11 with ea_ en_ ec_; (first | subst ea_ | (injection ea_ with ea_; subst ea_)); subst ec_; clear en_)); have GB11 := Aside0.mk gb11; have GG11 := Aside0.mk HG11; clear gb11 gl11 HG11; obtain ⟨_, ce11, hcl11, hM11, hcc11, hfr11, _, _⟩ := Kd.S_elem HO_3.out [] (x20_1 : Int) p11 q11; obtain ⟨ve11_0, rfl, ge11_0⟩ := hM11; have hx11_0 := hcc11 0 _ rfl; have hf11_0 := hfr11 0; (try simp only [show ((Kd.slice 4 Kd.bool)).sz = 1 from rfl, Nat.mul_one, Nat.add_zero] at hx11_0); (try simp only [show ((Kd.slice 4 Kd.bool)).sz = 1 from rfl, Nat.mul_one, Nat.add_zero] at hf11_0); (try clear hM11); clear hcl11 hcc11 hfr11; replace p11 := eq_true p11; replace q11 := eq_true q11; have n_ := Aside0.mk (Kd.S_mono (ok' := (fun k_ => some k_ ≠ (.slice Ao14 y120.length co14 : Value).ownBlock ∧ some k_ ≠ ((.slice Av124 t123.length cv124) : Value).ownBlock)) HO_3.out (fun k_ hk => ⟨hk.1.2, hk.2⟩)); clear HO_3; have HO_3 := n_; clear n_; have HX16 := Aside0.mk (show Kd.S (Kd.slice 4 Kd.bool) 57 w15 w.heap.size (fun k_ => ((fun k_ => some k_ ≠ (.slice Ao14 y120.length co14 : Value).ownBlock)) k_ ∧ ¬ ((fun k_ => some k_ = ((.slice Av124 t123.length cv124) : Value).ownBlock)) k_) (.slice (some ⟨go11, 0, none⟩) x3_1.length co6) x3_1 from (by (with_reducible repeat (first | apply Kd.S_alloc | apply Kd.S_drewN | apply Kd.S_drew)); exact Kd.S_mono HO_3.out (fun k_ hk => ⟨hk.1, fun e_ => hk.2 e_⟩))); obtain ⟨oki16, ce16, hcl16, hM16, hcc16, hfr16, hoki16, hH16⟩ := Kd.S_elem HX16.out [] (x20_1 : Int) (of_decide_eq_true (by first | (with_reducible assumption) | assumption)) (by have h_ : (x20_1 : Int) < ((x3_1.length : Int) : Int) := of_decide_eq_true (by first | (with_reducible assumption) | assumption); first | exact h_ | (have e_ := (Kd.S_reads' HO_3.out).1; omega) | simpa using h_); obtain ⟨ve16_0, rfl, ge16_0⟩ := hM16; have HP16 := Kd.S_seg hH16 (of_decide_eq_true (by first | (with_reducible assumption) | assumption)) (by have h_ : (x20_1 : Int) < ((x3_1.length : Int) : Int) := of_decide_eq_true (by first | (with_reducible assumption) | assumption); first | exact h_ | (have e_ := (Kd.S_reads' HO_3.out).1; omega) | simpa using h_) (seg := [(.slice Av124 t123.length cv124)]) (j := 0) (show 1 ≤ 1 from by decide) (x' := t123) (Kd.M_row (Kd.R_mono (Kd.R_tight rfl (Kd.R_mono (ok' := fun k_ => ((fun k_ => some k_ ≠ (.slice Ao14 y120.length co14 : Value).ownBlock)) k_ ∧ k_ ≠ go11) (Kd.R_apart' (HO125.out) (Kd.S_typed HO_3.out) (by decide)) (fun k_ hk => ⟨hk.1.2, fun e_ => (hk.2) (by rw [e_]; rfl)⟩))) (fun _ h_ => Or.inr (h_)))) (fun _ hk => hk) (fun k_ hk_ => ((Kd.R_mono (ok' := fun k_ => ((fun k_ => some k_ ≠ (.slice Ao14 y120.length co14 : Value).ownBlock)) k_ ∧ k_ ≠ go11) (Kd.R_apart' (HO125.out) (Kd.S_typed HO_3.out) (by decide)) (fun k_ hk => ⟨hk.1.2, fun e_ => (hk.2) (by rw [e_]; rfl)⟩))).1 k_ hk_.symm); have hx16_0 := hcc16 0 _ rfl; (try simp only [show ((Kd.slice 4 Kd.bool)).sz = 1 from rfl, Nat.mul_one, Nat.add_zero] at hx16_0); have hf16_0 := hfr16 0; (try simp only [show ((Kd.slice 4 Kd.bool)).sz = 1 from rfl, Nat.mul_one, Nat.add_zero] at hf16_0); (try clear hM16); clear hcl16 hcc16 hfr16 hoki16 hH16; (try simp only [show ((Kd.slice 4 Kd.bool)).sz = 1 from rfl, Nat.mul_one, Nat.add_zero] at HP16)) | ((with_reducible refine gate_store (t := 57) (p := 29) rfl ?_); refine store_event (t := 57) (p := 29) (v := ?vo_w17) (w1 := (w15.setCell ⟨go11, (x20_1 : Int).toNat, none⟩ ((.slice Av124 t123.length cv124)))) ?hg ?ho ?hn ?hr ?_; (case ho => rfl); (case hg => rfl); (case hn => rfl); (case hr => first | (go_simp; done) | (go_simp; rfl)); intro w17 hw; have hg : w15.grownBy w17 (some go11) := (by rw [hw]; exact HP16.2); have hp_ : Kd.S (Kd.slice 4 Kd.bool) 57 w17 w.heap.size (fun k_ => some k_ ≠ (.slice Ao14 y120.length co14 : Value).ownBlock) (.slice (some ⟨go11, 0, none⟩) x3_1.length co6) y126 := (by rw [hw, Ny126.out]; exact HP16.1); clear HP16; have n0_ := Aside0.mk (hp_); have n1_ := Aside0.mk (Kd.R_over' (v := (.slice (some ⟨go11, 0, none⟩) x3_1.length co6)) (by (with_reducible repeat (first | apply Kd.R_alloc | apply Kd.R_drewN | apply Kd.R_drew)); exact HO122.out) (Kd.S_typed HO_3.out) (by decide) hg); have n2_ := Aside0.mk ((by rw [hw]; exact below_set (HB.out) GB11.out : Below w.heap.size w w17)); clear HO_3; clear HO122; clear HB; clear HO125; have HO_3 := n0_; have HO122 := n1_; have HB := n2_; clear n0_ n1_ n2_; clear hg hw hp_))
                (try simp only [← hl3_1])
                go_roundg k1
                case measure => have := HK1.out; omega
                case rel => exact ⟨(y126), (wrap64 (x20_1 + 1)), (by first | rfl | (simp; done) | (simp [*]; done)), H', ⟨by have := HK1.out; omega⟩, ⟨by (try simp only [hl3_1]); (with_reducible repeat (first | apply Kd.S_alloc | apply Kd.S_drewN | apply Kd.S_drew)); exact Kd.S_mono HO_3.out (fun _ hk => trivial)⟩, ⟨by repeat (first | (with_reducible first | exact HB.out | apply below_alloc | apply pw_below_drewN | apply below_drew1) | exact HB.out)⟩⟩
              · rw [if_neg c10] at H
                exact absurd H (by simp)
            · rw [if_neg c9] at H
              exact absurd H (by simp)
          · rw [if_neg c7] at H
            have c7b0 : decide (x20_1 < (y117.length : Int)) = false := decide_eq_false c7
            have c7b0_ := c7b0; (try simp only [hl3_1] at c7b0_)
            clear c7
            by_cases c18 : (l0.length : Int) = 0
            · rw [if_pos c18] at H
              have c18b0 : ((l0.length : Int) == 0) = true := beq_iff_eq.mpr c18
              have c18b0_ := c18b0; (try simp only [hl3_1] at c18b0_)
              have c18b1 : ((l0.length : Int) != 0) = false := bne_eq_false_iff_eq.mpr c18
              have c18b1_ := c18b1; (try simp only [hl3_1] at c18b1_)
              clear c18
              obtain rfl := Option.some.inj H
              go_wp2
              go_ret
              exact ⟨_, by first | rfl | (simp [errW_none, errW_some] <;> rfl) | (simp [*, errW_none, errW_some] <;> rfl), by (with_reducible repeat (first | apply Kd.S_alloc | apply Kd.S_drewN | apply Kd.S_drew)); exact HO_3.out, by repeat (first | (with_reducible first | exact HB.out | apply below_alloc | apply pw_below_drewN | apply below_drew1) | exact HB.out)⟩
            · rw [if_neg c18] at H
              have c18b0 : ((l0.length : Int) == 0) = false := beq_eq_false_iff_ne.mpr c18
              have c18b0_ := c18b0; (try simp only [hl3_1] at c18b0_)
              have c18b1 : ((l0.length : Int) != 0) = true := bne_iff_ne.mpr c18
              have c18b1_ := c18b1; (try simp only [hl3_1] at c18b1_)
              have c18b2 : ¬ (l0 = []) := fun h_ => c18 (by rw [h_]; rfl)
              have H' := Aside0.mk H
              clear H
              go_wp2
              go_loopg [40] k1 (fun kq v40 w' => ∃ (x3_2 : List (List Bool)) (x40_2 : Int), v40 = .int .i64 x40_2 ∧ Aside0 (dom_Post.l1 kq l0 x3_2 (wrap64 ((l0.length : Int) - 1)) (l0.length : Int) x40_2 = some r) ∧ Aside0 (kq ≤ k1) ∧ Aside0 (Kd.S (Kd.slice 4 Kd.bool) 57 w' w.heap.size (fun _ => True) (.slice Ao6 x3_1.length co6) x3_2) ∧ Aside0 (Below w.heap.size w w'))
              case atStart => exact ⟨(x3_1), (0), (by first | rfl | (simp; done) | (simp [*]; done)), H', ⟨Nat.le_refl _⟩, ⟨by (try simp only [hl3_1]); (with_reducible repeat (first | apply Kd.S_alloc | apply Kd.S_drewN | apply Kd.S_drew)); exact HO_3.out⟩, ⟨by repeat (first | (with_reducible first | exact HB.out | apply below_alloc | apply pw_below_drewN | apply below_drew1) | exact HB.out)⟩⟩
              case round =>
                clear H'
                try clear c1
                try clear p1
                try clear q1
                try clear hx1
                try clear hf1
                try clear c2
                try clear c2b0
                try clear c2b1
                try clear p2
                try clear c3
                try clear c3b0
                try clear c3b1
                try clear c5
                try clear p6
                try clear c7
                try clear c7b0
                try clear c9
                try clear c9b0
                try clear c10
                try clear c10b0
                try clear c11
                try clear p11
                try clear q11
                try clear hx11
                try clear hf11
                try clear c16
                try clear hx16
                try clear hf16
                try clear c18
                try clear c18b0
                try clear c18b1
                try clear c18b2
                try clear hx11_0
                try clear hx16_0
                try clear p11
                try clear p2
                try clear q11
                obtain ⟨x3_2, x40_2, rfl, HA, HK2, HO_3, HB⟩ := hrel
                have hl3_2 := (Kd.S_reads' HO_3.out).1
                rw [hl3_2] at HO_3
                (try simp only [hl3_2])
                cases gk with
                | zero => exact absurd HA.out (by simp [dom_Post.l1])
                | succ k2 =>
                  have H := HA.out
                  clear HA
                  simp only [dom_Post.l1] at H
                  by_cases c19 : x40_2 < (l0.length : Int)
                  · rw [if_pos c19] at H
                    have c19b0 : decide (x40_2 < (l0.length : Int)) = true := decide_eq_true c19
                    have c19b0_ := c19b0; (try simp only [hl3_1] at c19b0_); (try simp only [hl3_2] at c19b0_)
                    clear c19
                    by_cases c20 : 0 ≤ (l0.length : Int)
                    · rw [if_pos c20] at H
                      have c20b0 := eq_true c20
                      have c20b1 : decide (0 ≤ (l0.length : Int)) = true := decide_eq_true c20
                      have c20b1_ := c20b1; (try simp only [hl3_1] at c20b1_); (try simp only [hl3_2] at c20b1_)
                      clear c20
                      by_cases c21 : ((l0.length : Int) : Int).toNat ≤ 11728124029610
                      · rw [if_pos c21] at H
                        have c21b0 := eq_true c21
                        have c21b1 : decide (((l0.length : Int) : Int).toNat ≤ 11728124029610) = true := decide_eq_true c21
                        have c21b1_ := c21b1; (try simp only [hl3_1] at c21b1_); (try simp only [hl3_2] at c21b1_)
                        clear c21
                        obtain ⟨y127, hy127⟩ : ∃ y_ : List (List Int), y_ = (List.replicate ((l0.length : Int) : Int).toNat []) := ⟨_, rfl⟩
                        replace H : (dom_Post.l2 k2 l0 x3_2 (wrap64 ((l0.length : Int) - 1)) x40_2 y127 (l0.length : Int) x40_2 l0 (l0.length : Int) 0) = some r := by first | (rw [hy127]; with_reducible exact H) | (have H2_ := (Option.bind_some _ _).symm.trans H; rw [hy127]; with_reducible exact H2_) | (have H2_ := (Option.bind_some _ _).symm.trans H; with_reducible exact H2_) | with_reducible exact H | (rw [hy127]; exact H) | exact H
                        have Ny127 := Aside0.mk hy127
                        clear hy127
                        have H' := Aside0.mk H
                        clear H
                        go_wp2_with (first | ((with_reducible refine gate_dst (N := 45) rfl ?_); refine Kd.S_make (Kd.slice 3 (Kd.int .i64)) _ 54 rfl (N := 45) rfl 88 _ _ rfl (l0.length : Int) rfl rfl Try.underlying88 (.slice none 0 0) 24 info54 rfl (by decide) (by omega) [] (ok := fun _ => True) (okp := fun _ => True) ⟨_, rfl, Kd.R_nil _ _ _ _ _⟩ (fun _ hk => hk) trivial (of_decide_eq_true (by first | (with_reducible assumption) | assumption)) (Nat.le_trans (Nat.mul_le_mul_right _ (of_decide_eq_true (by first | (with_reducible assumption) | assumption) : (l0.length : Int).toNat ≤ 11728124029610)) (by omega)) (Below.refl _ _) (Nat.le_refl _) ?_; intro v128 w22 ho23 hb hg_ hnew_; clear hg_ hnew_; (first | rw [← Ny127.out] at ho23 | (simp only [Int.reduceToNat] at ho23; rw [← Ny127.out] at ho23)); have n0_ := Aside0.mk (Kd.S_below (by (with_reducible repeat (first | apply Kd.S_alloc | apply Kd.S_drewN | apply Kd.S_drew)); exact HO_3.out) hb); have n1_ := Aside0.mk (Kd.S_lower ho23 (below_size (by repeat (first | (with_reducible first | exact HB.out | apply below_alloc | apply pw_below_drewN | apply below_drew1) | exact HB.out)))); have n2_ := Aside0.mk (below_step (by repeat (first | (with_reducible first | exact HB.out | apply below_alloc | apply pw_below_drewN | apply below_drew1) | exact HB.out)) hb); clear HO_3; clear HB; have HO_3 := n0_; have HO129 := n1_; have HB := n2_; clear n0_ n1_ n2_; clear hb ho23))
                        go_loopg [48] k2 (fun kq v48 w' => ∃ (x7_3 : List (List Int)) (x48_3 : Int), v48 = .int .i64 x48_3 ∧ Aside0 (dom_Post.l2 kq l0 x3_2 (wrap64 ((l0.length : Int) - 1)) x40_2 x7_3 (l0.length : Int) x40_2 l0 (l0.length : Int) x48_3 = some r) ∧ Aside0 (kq ≤ k2) ∧ Aside0 (Kd.S (Kd.slice 4 Kd.bool) 57 w' w.heap.size (fun _ => True) (.slice Ao6 x3_2.length co6) x3_2) ∧ Aside0 (Kd.S (Kd.slice 3 (Kd.int .i64)) 54 w' w.heap.size (fun _ => True) v128 x7_3) ∧ Aside0 (Below w.heap.size w w'))
                        case atStart => exact ⟨(y127), (0), (by first | rfl | (simp; done) | (simp [*]; done)), H', ⟨Nat.le_refl _⟩, ⟨by (try simp only [hl3_1]); (try simp only [hl3_2]); (with_reducible repeat (first | apply Kd.S_alloc | apply Kd.S_drewN | apply Kd.S_drew)); exact HO_3.out⟩, ⟨by (try simp only [hl3_1]); (try simp only [hl3_2]); (with_reducible repeat (first | apply Kd.S_alloc | apply Kd.S_drewN | apply Kd.S_drew)); exact HO129.out⟩, ⟨by repeat (first | (with_reducible first | exact HB.out | apply below_alloc | apply pw_below_drewN | apply below_drew1) | exact HB.out)⟩⟩
                        case round =>
                          clear H'
                          try clear c1
                          try clear p1
                          try clear q1
                          try clear hx1
                          try clear hf1
                          try clear c2
                          try clear c2b0
                          try clear c2b1
                          try clear p2
                          try clear c3
                          try clear c3b0
                          try clear c3b1
                          try clear c5
                          try clear p6
                          try clear c7
                          try clear c7b0
                          try clear c9
                          try clear c9b0
                          try clear c10
                          try clear c10b0
                          try clear c11
                          try clear p11
                          try clear q11
                          try clear hx11
                          try clear hf11
                          try clear c16
                          try clear hx16
                          try clear hf16
                          try clear c18
                          try clear c18b0
                          try clear c18b1
                          try clear c18b2
                          try clear c19
                          try clear c19b0
                          try clear c20
                          try clear c20b0
                          try clear c20b1
                          try clear c21
                          try clear c21b0
                          try clear c21b1
                          try clear hx11_0
                          try clear hx16_0
                          try clear p1
                          try clear p11
                          try clear p2
                          try clear p6
                          try clear q1
                          try clear q11
                          obtain ⟨x7_3, x48_3, rfl, HA, HK3, HO_3, HO_7, HB⟩ := hrel
                          cases gk with
                          | zero => exact absurd HA.out (by simp [dom_Post.l2])
                          | succ k3 =>
                            have H := HA.out
                            clear HA
                            simp only [dom_Post.l2] at H
                            by_cases c24 : x48_3 < (l0.length : Int)
                            · rw [if_pos c24] at H
                              have c24b0 : decide (x48_3 < (l0.length : Int)) = true := decide_eq_true c24
                              have c24b0_ := c24b0; (try simp only [hl3_1] at c24b0_); (try simp only [hl3_2] at c24b0_)
                              clear c24
                              by_cases c25 : 0 ≤ x48_3
                              · rw [if_pos c25] at H
                                have c25b0 : decide (0 ≤ x48_3) = true := decide_eq_true c25
                                clear c25
                                by_cases c26 : x48_3 < (l0.length : Int)
                                · rw [if_pos c26] at H
                                  have c26b0 : decide (x48_3 < (l0.length : Int)) = true := decide_eq_true c26
                                  have c26b0_ := c26b0; (try simp only [hl3_1] at c26b0_); (try simp only [hl3_2] at c26b0_)
                                  clear c26
                                  have H' := Aside0.mk H
                                  clear H
                                  have p130 : 0 ≤ (x48_3 : Int) := of_decide_eq_true (by first | (with_reducible assumption) | assumption)
                                  have q130 : x48_3 < (l0.length : Int) := of_decide_eq_true (by first | (with_reducible assumption) | assumption)
                                  obtain ⟨ad130, A130_0, c130_0, e130, hx130_0, hl130_0, hi130_0⟩ := at_L1 HR0.out x48_3 p130 q130
                                  cases e130
                                  replace hx130_0 := (HB.out.cell (World.block_lt_of_cell? w _ hx130_0)).trans hx130_0
                                  have HR130_0 := Aside0.mk hi130_0
                                  have HC130_0 := Aside0.mk hl130_0
                                  clear hi130_0 hl130_0
                                  replace p130 := eq_true p130
                                  replace q130 := eq_true q130
                                  go_wp2
                                  go_loopg [55] k3 (fun kq v55 w' => ∃ (x7_4 : List (List Int)) (x55_4 : Int), v55 = .int .i64 x55_4 ∧ Aside0 (dom_Post.l3 kq l0 x3_2 (wrap64 ((l0.length : Int) - 1)) x40_2 x7_4 x48_3 (l0.length : Int) x40_2 l0 (l0.length : Int) x48_3 (rd_L1 l0 x48_3) ((rd_L1 l0 x48_3).length : Int) x55_4 = some r) ∧ Aside0 (kq ≤ k3) ∧ Aside0 (Kd.S (Kd.slice 4 Kd.bool) 57 w' w.heap.size (fun _ => True) (.slice Ao6 x3_2.length co6) x3_2) ∧ Aside0 (Kd.S (Kd.slice 3 (Kd.int .i64)) 54 w' w.heap.size (fun _ => True) v128 x7_4) ∧ Aside0 (Below w.heap.size w w'))
                                  case atStart => exact ⟨(x7_3), (0), (by first | rfl | (simp; done) | (simp [*]; done)), H', ⟨Nat.le_refl _⟩, ⟨by (try simp only [hl3_1]); (try simp only [hl3_2]); (with_reducible repeat (first | apply Kd.S_alloc | apply Kd.S_drewN | apply Kd.S_drew)); exact HO_3.out⟩, ⟨by (try simp only [hl3_1]); (try simp only [hl3_2]); (with_reducible repeat (first | apply Kd.S_alloc | apply Kd.S_drewN | apply Kd.S_drew)); exact HO_7.out⟩, ⟨by repeat (first | (with_reducible first | exact HB.out | apply below_alloc | apply pw_below_drewN | apply below_drew1) | exact HB.out)⟩⟩
                                  case round =>
                                    clear H'
                                    try clear c1
                                    try clear p1
                                    try clear q1
                                    try clear hx1
                                    try clear hf1
                                    try clear c2
                                    try clear c2b0
                                    try clear c2b1
                                    try clear p2
                                    try clear c3
                                    try clear c3b0
                                    try clear c3b1
                                    try clear c5
                                    try clear p6
                                    try clear c7
                                    try clear c7b0
                                    try clear c9
                                    try clear c9b0
                                    try clear c10
                                    try clear c10b0
                                    try clear c11
                                    try clear p11
                                    try clear q11
                                    try clear hx11
                                    try clear hf11
                                    try clear c13
                                    try clear p13
                                    try clear q13
                                    try clear hx13
                                    try clear c16
                                    try clear hx16
                                    try clear hf16
                                    try clear c18
                                    try clear c18b0
                                    try clear c18b1
                                    try clear c18b2
                                    try clear c19
                                    try clear c19b0
                                    try clear c20
                                    try clear c20b0
                                    try clear c20b1
                                    try clear c21
                                    try clear c21b0
                                    try clear c21b1
                                    try clear c24
                                    try clear c24b0
                                    try clear c25
                                    try clear c25b0
                                    try clear c26
                                    try clear c26b0
                                    try clear hx11_0
                                    try clear hx130_0
                                    try clear hx16_0
                                    try clear p1
                                    try clear p11
                                    try clear p130
                                    try clear p2
                                    try clear p6
                                    try clear q1
                                    try clear q11
                                    try clear q130
                                    obtain ⟨x7_4, x55_4, rfl, HA, HK4, HO_3, HO_7, HB⟩ := hrel
                                    cases gk with
                                    | zero => exact absurd HA.out (by simp [dom_Post.l3])
                                    | succ k4 =>
                                      have H := HA.out
                                      clear HA
                                      simp only [dom_Post.l3] at H
                                      by_cases c27 : x55_4 < ((rd_L1 l0 x48_3).length : Int)
                                      · rw [if_pos c27] at H
                                        have c27b0 : decide (x55_4 < ((rd_L1 l0 x48_3).length : Int)) = true := decide_eq_true c27
                                        have c27b0_ := c27b0; (try simp only [hl3_1] at c27b0_); (try simp only [hl3_2] at c27b0_)
                                        clear c27
                                        by_cases c28 : 0 ≤ x55_4
                                        · rw [if_pos c28] at H
                                          have c28b0 : decide (0 ≤ x55_4) = true := decide_eq_true c28
                                          clear c28
                                          by_cases c29 : x55_4 < ((rd_L1 l0 x48_3).length : Int)
                                          · rw [if_pos c29] at H
                                            have c29b0 : decide (x55_4 < ((rd_L1 l0 x48_3).length : Int)) = true := decide_eq_true c29
                                            have c29b0_ := c29b0; (try simp only [hl3_1] at c29b0_); (try simp only [hl3_2] at c29b0_)
                                            clear c29
                                            replace H := Option.bind_eq_some_iff.mp H
                                            obtain ⟨t132, A300, H⟩ := H
                                            replace H : (if t132 = true then (if x48_3 = x40_2 then (dom_Post.l3 k4 l0 x3_2 (wrap64 ((l0.length : Int) - 1)) x40_2 x7_4 x48_3 (l0.length : Int) x40_2 l0 (l0.length : Int) x48_3 (rd_L1 l0 x48_3) ((rd_L1 l0 x48_3).length : Int) (wrap64 (x55_4 + 1))) else (if (rd (rd_L1 l0 x48_3) x55_4) = x40_2 then (dom_Post.l3 k4 l0 x3_2 (wrap64 ((l0.length : Int) - 1)) x40_2 x7_4 x48_3 (l0.length : Int) x40_2 l0 (l0.length : Int) x48_3 (rd_L1 l0 x48_3) ((rd_L1 l0 x48_3).length : Int) (wrap64 (x55_4 + 1))) else (if 0 ≤ (rd (rd_L1 l0 x48_3) x55_4) then (if (rd (rd_L1 l0 x48_3) x55_4) < (x7_4.length : Int) then (if (rd_L1 x7_4 (rd (rd_L1 l0 x48_3) x55_4)).length < 17592186044416 then (dom_Post.l3 k4 l0 x3_2 (wrap64 ((l0.length : Int) - 1)) x40_2 (x7_4.set ((rd (rd_L1 l0 x48_3) x55_4) : Int).toNat ((rd_L1 x7_4 (rd (rd_L1 l0 x48_3) x55_4)) ++ [x48_3])) x48_3 (l0.length : Int) x40_2 l0 (l0.length : Int) x48_3 (rd_L1 l0 x48_3) ((rd_L1 l0 x48_3).length : Int) (wrap64 (x55_4 + 1))) else (none)) else (none)) else (none)))) else (dom_Post.l3 k4 l0 x3_2 (wrap64 ((l0.length : Int) - 1)) x40_2 x7_4 x48_3 (l0.length : Int) x40_2 l0 (l0.length : Int) x48_3 (rd_L1 l0 x48_3) ((rd_L1 l0 x48_3).length : Int) (wrap64 (x55_4 + 1)))) = some r := H
                                            have A30 := Aside0.mk A300
                                            clear A300
                                            by_cases c31 : t132 = true
                                            · subst c31
                                              have H1 : (if x48_3 = x40_2 then (dom_Post.l3 k4 l0 x3_2 (wrap64 ((l0.length : Int) - 1)) x40_2 x7_4 x48_3 (l0.length : Int) x40_2 l0 (l0.length : Int) x48_3 (rd_L1 l0 x48_3) ((rd_L1 l0 x48_3).length : Int) (wrap64 (x55_4 + 1))) else (if (rd (rd_L1 l0 x48_3) x55_4) = x40_2 then (dom_Post.l3 k4 l0 x3_2 (wrap64 ((l0.length : Int) - 1)) x40_2 x7_4 x48_3 (l0.length : Int) x40_2 l0 (l0.length : Int) x48_3 (rd_L1 l0 x48_3) ((rd_L1 l0 x48_3).length : Int) (wrap64 (x55_4 + 1))) else (if 0 ≤ (rd (rd_L1 l0 x48_3) x55_4) then (if (rd (rd_L1 l0 x48_3) x55_4) < (x7_4.length : Int) then (if (rd_L1 x7_4 (rd (rd_L1 l0 x48_3) x55_4)).length < 17592186044416 then (dom_Post.l3 k4 l0 x3_2 (wrap64 ((l0.length : Int) - 1)) x40_2 (x7_4.set ((rd (rd_L1 l0 x48_3) x55_4) : Int).toNat ((rd_L1 x7_4 (rd (rd_L1 l0 x48_3) x55_4)) ++ [x48_3])) x48_3 (l0.length : Int) x40_2 l0 (l0.length : Int) x48_3 (rd_L1 l0 x48_3) ((rd_L1 l0 x48_3).length : Int) (wrap64 (x55_4 + 1))) else (none)) else (none)) else (none)))) = some r := by rw [if_pos rfl] at H; exact H
                                              clear H
                                              have H := H1
                                              clear H1
                                              by_cases c32 : x48_3 = x40_2
                                              · rw [if_pos c32] at H
                                                have c32b0 : (x48_3 == x40_2) = true := beq_iff_eq.mpr c32
                                                have c32b1 : (x48_3 != x40_2) = false := bne_eq_false_iff_eq.mpr c32
                                                clear c32
                                                have H' := Aside0.mk H
                                                clear H
                                                have p131 : 0 ≤ (x55_4 : Int) := of_decide_eq_true (by first | (with_reducible assumption) | assumption)
                                                have q131 : x55_4 < ((rd_L1 l0 x48_3).length : Int) := of_decide_eq_true (by first | (with_reducible assumption) | assumption)
                                                obtain ⟨ad131, e131, hx131_0⟩ := Kd.at_int HR130_0.out x55_4 p131 q131
                                                cases e131
                                                replace hx131_0 := (HB.out.cell (World.block_lt_of_cell? w _ hx131_0)).trans hx131_0
                                                replace p131 := eq_true p131
                                                replace q131 := eq_true q131
                                                go_wp2_with (first | ((with_reducible refine gate_callee (f := 56) rfl ?_); refine goesL_ (some 61) rfl rfl Try.func56 (by kernel_rfl) rfl #[.slice (some ad130) l0.length c0, .int .i64 (rd (rd_L1 l0 x48_3) x55_4)] rfl (by (try simp only [List.map_toArray, List.map_cons, List.map_nil]); first | done | rfl | (simp only [List.length_drop, List.length_take]; rfl)) ?_; (with_reducible refine (dom_graph_is.calls _ _ l0 (rd (rd_L1 l0 x48_3) x55_4) true _ ?side1 ?side2 A30.out).mono ?_); (case side1 => repeat (first | exact (Kd.C_below HR0.out HB.out) | (with_reducible refine Kd.C_alloc ?_ _) | (with_reducible refine Kd.C_drewN ?_ _) | (with_reducible refine Kd.C_drew ?_))); (case side2 => exact HC0.out); rintro e w' ⟨rfl, ⟨nd, rfl⟩⟩; refine ⟨_, rfl, ?_⟩))
                                                go_roundg k4
                                                case measure => have := HK1.out; have := HK2.out; have := HK3.out; have := HK4.out; omega
                                                case rel => exact ⟨(x7_4), (wrap64 (x55_4 + 1)), (by first | rfl | (simp; done) | (simp [*]; done)), H', ⟨by have := HK1.out; have := HK2.out; have := HK3.out; have := HK4.out; omega⟩, ⟨by (try simp only [hl3_1]); (try simp only [hl3_2]); (with_reducible repeat (first | apply Kd.S_alloc | apply Kd.S_drewN | apply Kd.S_drew)); exact HO_3.out⟩, ⟨by (try simp only [hl3_1]); (try simp only [hl3_2]); (with_reducible repeat (first | apply Kd.S_alloc | apply Kd.S_drewN | apply Kd.S_drew)); exact HO_7.out⟩, ⟨by repeat (first | (with_reducible first | exact HB.out | apply below_alloc | apply pw_below_drewN | apply below_drew1) | exact HB.out)⟩⟩
                                              · rw [if_neg c32] at H
                                                have c32b0 : (x48_3 == x40_2) = false := beq_eq_false_iff_ne.mpr c32
                                                have c32b1 : (x48_3 != x40_2) = true := bne_iff_ne.mpr c32
                                                by_cases c33 : (rd (rd_L1 l0 x48_3) x55_4) = x40_2
                                                · rw [if_pos c33] at H
                                                  have c33b0 : ((rd (rd_L1 l0 x48_3) x55_4) == x40_2) = true := beq_iff_eq.mpr c33
                                                  have c33b1 : ((rd (rd_L1 l0 x48_3) x55_4) != x40_2) = false := bne_eq_false_iff_eq.mpr c33
                                                  clear c33
                                                  have H' := Aside0.mk H
                                                  clear H
                                                  have p131 : 0 ≤ (x55_4 : Int) := of_decide_eq_true (by first | (with_reducible assumption) | assumption)
                                                  have q131 : x55_4 < ((rd_L1 l0 x48_3).length : Int) := of_decide_eq_true (by first | (with_reducible assumption) | assumption)
                                                  obtain ⟨ad131, e131, hx131_0⟩ := Kd.at_int HR130_0.out x55_4 p131 q131
                                                  cases e131
                                                  replace hx131_0 := (HB.out.cell (World.block_lt_of_cell? w _ hx131_0)).trans hx131_0
                                                  replace p131 := eq_true p131
                                                  replace q131 := eq_true q131
                                                  go_wp2_with (first | ((with_reducible refine gate_callee (f := 56) rfl ?_); refine goesL_ (some 61) rfl rfl Try.func56 (by kernel_rfl) rfl #[.slice (some ad130) l0.length c0, .int .i64 (rd (rd_L1 l0 x48_3) x55_4)] rfl (by (try simp only [List.map_toArray, List.map_cons, List.map_nil]); first | done | rfl | (simp only [List.length_drop, List.length_take]; rfl)) ?_; (with_reducible refine (dom_graph_is.calls _ _ l0 (rd (rd_L1 l0 x48_3) x55_4) true _ ?side1 ?side2 A30.out).mono ?_); (case side1 => repeat (first | exact (Kd.C_below HR0.out HB.out) | (with_reducible refine Kd.C_alloc ?_ _) | (with_reducible refine Kd.C_drewN ?_ _) | (with_reducible refine Kd.C_drew ?_))); (case side2 => exact HC0.out); rintro e w' ⟨rfl, ⟨nd, rfl⟩⟩; refine ⟨_, rfl, ?_⟩))
                                                  go_roundg k4
                                                  case measure => have := HK1.out; have := HK2.out; have := HK3.out; have := HK4.out; omega
                                                  case rel => exact ⟨(x7_4), (wrap64 (x55_4 + 1)), (by first | rfl | (simp; done) | (simp [*]; done)), H', ⟨by have := HK1.out; have := HK2.out; have := HK3.out; have := HK4.out; omega⟩, ⟨by (try simp only [hl3_1]); (try simp only [hl3_2]); (with_reducible repeat (first | apply Kd.S_alloc | apply Kd.S_drewN | apply Kd.S_drew)); exact HO_3.out⟩, ⟨by (try simp only [hl3_1]); (try simp only [hl3_2]); (with_reducible repeat (first | apply Kd.S_alloc | apply Kd.S_drewN | apply Kd.S_drew)); exact HO_7.out⟩, ⟨by repeat (first | (with_reducible first | exact HB.out | apply below_alloc | apply pw_below_drewN | apply below_drew1) | exact HB.out)⟩⟩
                                                · rw [if_neg c33] at H
                                                  have c33b0 : ((rd (rd_L1 l0 x48_3) x55_4) == x40_2) = false := beq_eq_false_iff_ne.mpr c33
                                                  have c33b1 : ((rd (rd_L1 l0 x48_3) x55_4) != x40_2) = true := bne_iff_ne.mpr c33
                                                  by_cases c34 : 0 ≤ (rd (rd_L1 l0 x48_3) x55_4)
                                                  · rw [if_pos c34] at H
                                                    have c34b0 : decide (0 ≤ (rd (rd_L1 l0 x48_3) x55_4)) = true := decide_eq_true c34
                                                    clear c34
                                                    by_cases c35 : (rd (rd_L1 l0 x48_3) x55_4) < (x7_4.length : Int)
                                                    · rw [if_pos c35] at H
                                                      have c35b0 : decide ((rd (rd_L1 l0 x48_3) x55_4) < (x7_4.length : Int)) = true := decide_eq_true c35
                                                      have c35b0_ := c35b0; (try simp only [hl3_1] at c35b0_); (try simp only [hl3_2] at c35b0_)
                                                      clear c35
                                                      by_cases c36 : (rd_L1 x7_4 (rd (rd_L1 l0 x48_3) x55_4)).length < 17592186044416
                                                      · rw [if_pos c36] at H
                                                        have LMc36 := Aside0.mk c36
                                                        clear c36
                                                        obtain ⟨y134, hy134⟩ : ∃ y_ : List Int, y_ = ((rd_L1 x7_4 (rd (rd_L1 l0 x48_3) x55_4)) ++ [x48_3]) := ⟨_, rfl⟩
                                                        replace H : (dom_Post.l3 k4 l0 x3_2 (wrap64 ((l0.length : Int) - 1)) x40_2 (x7_4.set ((rd (rd_L1 l0 x48_3) x55_4) : Int).toNat y134) x48_3 (l0.length : Int) x40_2 l0 (l0.length : Int) x48_3 (rd_L1 l0 x48_3) ((rd_L1 l0 x48_3).length : Int) (wrap64 (x55_4 + 1))) = some r := by first | (rw [hy134]; with_reducible exact H) | (have H2_ := (Option.bind_some _ _).symm.trans H; rw [hy134]; with_reducible exact H2_) | (have H2_ := (Option.bind_some _ _).symm.trans H; with_reducible exact H2_) | with_reducible exact H | (rw [hy134]; exact H) | exact H
                                                        have Ny134 := Aside0.mk hy134
                                                        clear hy134
                                                        obtain ⟨y137, hy137⟩ : ∃ y_ : List (List Int), y_ = (x7_4.set ((rd (rd_L1 l0 x48_3) x55_4) : Int).toNat y134) := ⟨_, rfl⟩
                                                        replace H : (dom_Post.l3 k4 l0 x3_2 (wrap64 ((l0.length : Int) - 1)) x40_2 y137 x48_3 (l0.length : Int) x40_2 l0 (l0.length : Int) x48_3 (rd_L1 l0 x48_3) ((rd_L1 l0 x48_3).length : Int) (wrap64 (x55_4 + 1))) = some r := by first | (rw [hy137]; with_reducible exact H) | (have H2_ := (Option.bind_some _ _).symm.trans H; rw [hy137]; with_reducible exact H2_) | (have H2_ := (Option.bind_some _ _).symm.trans H; with_reducible exact H2_) | with_reducible exact H | (rw [hy137]; exact H) | exact H
                                                        have Ny137 := Aside0.mk hy137
                                                        clear hy137
                                                        have H' := Aside0.mk H
                                                        clear H
                                                        have p131 : 0 ≤ (x55_4 : Int) := of_decide_eq_true (by first | (with_reducible assumption) | assumption)
                                                        have q131 : x55_4 < ((rd_L1 l0 x48_3).length : Int) := of_decide_eq_true (by first | (with_reducible assumption) | assumption)
                                                        obtain ⟨ad131, e131, hx131_0⟩ := Kd.at_int HR130_0.out x55_4 p131 q131
                                                        cases e131
                                                        replace hx131_0 := (HB.out.cell (World.block_lt_of_cell? w _ hx131_0)).trans hx131_0
                                                        replace p131 := eq_true p131
                                                        replace q131 := eq_true q131
                                                        go_wp2_with (first | ((with_reducible refine gate_callee (f := 56) rfl ?_); refine goesL_ (some 61) rfl rfl Try.func56 (by kernel_rfl) rfl #[.slice (some ad130) l0.length c0, .int .i64 (rd (rd_L1 l0 x48_3) x55_4)] rfl (by (try simp only [List.map_toArray, List.map_cons, List.map_nil]); first | done | rfl | (simp only [List.length_drop, List.length_take]; rfl)) ?_; (with_reducible refine (dom_graph_is.calls _ _ l0 (rd (rd_L1 l0 x48_3) x55_4) true _ ?side1 ?side2 A30.out).mono ?_); (case side1 => repeat (first | exact (Kd.C_below HR0.out HB.out) | (with_reducible refine Kd.C_alloc ?_ _) | (with_reducible refine Kd.C_drewN ?_ _) | (with_reducible refine Kd.C_drew ?_))); (case side2 => exact HC0.out); rintro e w' ⟨rfl, ⟨nd, rfl⟩⟩; refine ⟨_, rfl, ?_⟩; (try (rw [drewN_self wr]; generalize hq_ : World.drewN wr _ = wr; have n0_ : Aside0 (Kd.S (Kd.slice 4 Kd.bool) 57 wr w.heap.size (fun _ => True) (.slice Ao6 x3_2.length co6) x3_2) := ⟨by rw [← hq_]; exact (by (with_reducible repeat (first | apply Kd.S_alloc | apply Kd.S_drewN | apply Kd.S_drew)); exact HO_3.out)⟩; have n1_ : Aside0 (Kd.S (Kd.slice 3 (Kd.int .i64)) 54 wr w.heap.size (fun _ => True) v128 x7_4) := ⟨by rw [← hq_]; exact (by (with_reducible repeat (first | apply Kd.S_alloc | apply Kd.S_drewN | apply Kd.S_drew)); exact HO_7.out)⟩; have n2_ : Aside0 (Below w.heap.size w wr) := ⟨by rw [← hq_]; exact (by repeat (first | (with_reducible first | exact HB.out | apply below_alloc | apply pw_below_drewN | apply below_drew1) | exact HB.out))⟩; clear HO_3 HO_7 HB hq_; have HO_3 := n0_; have HO_7 := n1_; have HB := n2_; clear n0_ n1_ n2_)); obtain ⟨Ao38, co38, eo38⟩ := Kd.S_slice HO_7.out; subst eo38; have p133 : 0 ≤ ((rd (rd_L1 l0 x48_3) x55_4) : Int) := of_decide_eq_true (by first | (with_reducible assumption) | assumption); have q133 : (rd (rd_L1 l0 x48_3) x55_4) < (x7_4.length : Int) := of_decide_eq_true (by first | (with_reducible assumption) | assumption); obtain ⟨ad133, A133_0, c133_0, e133, hx133_0, hl133_0, hi133_0⟩ := at_L1 (Kd.S_reads' HO_7.out).2.2 (rd (rd_L1 l0 x48_3) x55_4) p133 q133; cases e133; obtain ⟨ce133, hce133, hMe133, hcc133⟩ := Kd.S_get HO_7.out [] (rd (rd_L1 l0 x48_3) x55_4) p133 (by first | exact q133 | exact of_decide_eq_true (by first | (with_reducible assumption) | assumption) | (have e_ := (Kd.S_reads' HO_7.out).1; omega)); obtain ⟨ve133_0, rfl, ge133_0⟩ := hMe133; have hv133_0 := hcc133 0 _ rfl; rw [Nat.add_zero, show ((Kd.slice 3 (Kd.int .i64))).sz = 1 from rfl, Nat.mul_one] at hv133_0; replace hv133_0 := Option.some.inj (hv133_0.symm.trans hx133_0); rw [hv133_0] at ge133_0; have HL133_0 := Aside0.mk (show Kd.R (Kd.int .i64) 3 _ _ _ _ (rd_L1 x7_4 (rd (rd_L1 l0 x48_3) x55_4)) from ge133_0); clear hv133_0 ge133_0; have HX133_0 := Aside0.mk hx133_0; clear hcc133 hce133; have HR133_0 := Aside0.mk hi133_0; have HC133_0 := Aside0.mk hl133_0; clear hi133_0 hl133_0; replace p133 := eq_true p133; replace q133 := eq_true q133; obtain ⟨go39, co39, eo39, gb39, gl39, cl39, HG39⟩ := Kd.S_form HO_7.out (by have h_ : ((rd (rd_L1 l0 x48_3) x55_4) : Int) < ((x7_4.length : Int) : Int) := of_decide_eq_true (by first | (with_reducible assumption) | assumption); have h2_ : 0 ≤ ((rd (rd_L1 l0 x48_3) x55_4) : Int) := (of_decide_eq_true (by first | (with_reducible assumption) | assumption)); omega); (first | cases eo39 | (injection eo39 with ea_ en_ ec_; (first | subst ea_ | (injection ea_ with ea_; subst ea_)); subst ec_; clear en_)); have GB39 := Aside0.mk gb39; have GG39 := Aside0.mk HG39; clear gb39 gl39 HG39; (first | simp only [add_plain] at hx133_0 | skip); obtain ⟨oki39, ce39, hcl39, hM39, hcc39, _, _, hH39⟩ := Kd.S_elem HO_7.out [] ((rd (rd_L1 l0 x48_3) x55_4) : Int) (of_decide_eq_true (by first | (with_reducible assumption) | assumption)) (by have h_ : ((rd (rd_L1 l0 x48_3) x55_4) : Int) < ((x7_4.length : Int) : Int) := of_decide_eq_true (by first | (with_reducible assumption) | assumption); first | exact h_ | (have e_ := (Kd.S_reads' HO_7.out).1; omega) | simpa using h_); obtain ⟨ve39_0, rfl, ge39_0⟩ := hM39; have hv39 := hcc39 0 _ rfl; have hX39 := HX133_0.out; (try simp only [add_plain] at hX39); (try simp only [Nat.add_zero] at hv39); (try rw [show ((Kd.slice 3 (Kd.int .i64))).sz = 1 from rfl, Nat.mul_one] at hv39); replace hv39 := Option.some.inj (hv39.symm.trans hX39); subst hv39; clear hX39 hcc39 hcl39; have UU39 := Aside0.mk (show Kd.R (Kd.int .i64) 3 _ w.heap.size oki39 (.slice A133_0 (rd_L1 x7_4 (rd (rd_L1 l0 x48_3) x55_4)).length c133_0) (rd_L1 x7_4 (rd (rd_L1 l0 x48_3) x55_4)) from ge39_0); have HH39 := Aside0.mk hH39; have HN39 := Aside0.mk (Kd.S_reads' HO_7.out).1; clear hH39 ge39_0) | ((with_reducible refine gate_builtin (b := .append) (xs := #[.tmp 77, .tmp 79]) rfl ?_); at_builtin; refine Kd.R_append (Kd.int .i64) (w0 := w) w.heap.size rfl (.tmp 77) (.tmp 79) 54 3 (.int .i64 0) 8 rfl Try.underlying54 info3 rfl (by decide) (by omega) (.slice A133_0 (rd_L1 x7_4 (rd (rd_L1 l0 x48_3) x55_4)).length c133_0) (rd_L1 x7_4 (rd (rd_L1 l0 x48_3) x55_4)) x48_3 [.int .i64 x48_3] (fun k_ => oki39 k_ ∨ ((fun _ => True)) k_ ∧ wr.heap.size ≤ k_) (fun _ => False) rfl rfl ?aP (fun _ hk => hk.elim) ?aF ?aO ?aB ?aS ?aL ?_; (case aP => exact rfl); (case aB => exact (by repeat (first | (with_reducible first | exact HB.out | apply below_alloc | apply pw_below_drewN | apply below_drew1) | exact HB.out))); (case aF => exact (fun k_ hk => .inr ⟨trivial, hk⟩)); (case aO => exact (by (with_reducible repeat (first | apply Kd.R_alloc | apply Kd.R_drewN | apply Kd.R_drew)); exact Kd.R_mono UU39.out (fun _ hk => .inl hk))); (case aS => exact (below_size (by repeat (first | (with_reducible first | exact HB.out | apply below_alloc | apply pw_below_drewN | apply below_drew1) | exact HB.out)))); (case aL => have := LMc36.out; omega); intro v135 w40 ho hb hg hat; rw [← Ny134.out] at ho; have n0_ := Aside0.mk (Kd.S_over' (v := (.slice A133_0 (rd_L1 x7_4 (rd (rd_L1 l0 x48_3) x55_4)).length c133_0)) (by (with_reducible repeat (first | apply Kd.S_alloc | apply Kd.S_drewN | apply Kd.S_drew)); exact HO_3.out) (Kd.R_typed HL133_0.out) (by decide) hg); have n1_ := Aside0.mk (hb); have n2_ := Aside0.mk (Kd.H_grown (Kd.H_widen (by repeat (first | exact HH39.out | refine Kd.H_alloc ?_ _ | refine Kd.H_drewN ?_ _ | refine Kd.H_drew ?_))) hg (fun k_ e_ => .inl (UU39.out.1 k_ e_))); have n3_ := Aside0.mk (ho); clear HO_3; clear HB; clear HH39; clear HO_7; clear UU39; clear HL133_0; have HO_3 := n0_; have HB := n1_; have HH39 := n2_; have HO136 := n3_; clear n0_ n1_ n2_ n3_; clear ho hb hg hat; have p37 : 0 ≤ ((rd (rd_L1 l0 x48_3) x55_4) : Int) := of_decide_eq_true (by first | (with_reducible assumption) | assumption); have q37 : ((rd (rd_L1 l0 x48_3) x55_4) : Int) < ((x7_4.length : Int) : Int) := of_decide_eq_true (by first | (with_reducible assumption) | assumption); replace p37 := eq_true p37; replace q37 := eq_true q37; obtain ⟨Ao43, co43, eo43⟩ := Kd.R_slice HO136.out; subst eo43; obtain ⟨_, _, hraw41, _, _, hcc41, _⟩ := Kd.H_raw HH39.out (of_decide_eq_true (by first | (with_reducible assumption) | assumption)) (by have h_ : ((rd (rd_L1 l0 x48_3) x55_4) : Int) < ((x7_4.length : Int) : Int) := of_decide_eq_true (by first | (with_reducible assumption) | assumption); first | exact h_ | (have e_ := (HN39.out); omega) | simpa using h_); obtain ⟨_, hfr41⟩ := Kd.H_at HH39.out (of_decide_eq_true (by first | (with_reducible assumption) | assumption)) (by have h_ : ((rd (rd_L1 l0 x48_3) x55_4) : Int) < ((x7_4.length : Int) : Int) := of_decide_eq_true (by first | (with_reducible assumption) | assumption); first | exact h_ | (have e_ := (HN39.out); omega) | simpa using h_); have hx41_0 := hcc41 0 _ rfl; have hf41_0 := hfr41 0; (try simp only [Nat.add_zero] at hx41_0 hf41_0); (try rw [show ((Kd.slice 3 (Kd.int .i64))).sz = 1 from rfl, Nat.mul_one] at hx41_0); (try rw [show ((Kd.slice 3 (Kd.int .i64))).sz = 1 from rfl, Nat.mul_one] at hf41_0); have HP41 := Kd.S_seg0 HH39.out (of_decide_eq_true (by first | (with_reducible assumption) | assumption)) (by have h_ : ((rd (rd_L1 l0 x48_3) x55_4) : Int) < ((x7_4.length : Int) : Int) := of_decide_eq_true (by first | (with_reducible assumption) | assumption); first | exact h_ | (have e_ := (HN39.out); omega) | simpa using h_) (seg := [.slice Ao43 y134.length co43]) (j := 0) (show 1 ≤ 1 from by decide) (x' := y134) (Kd.M_row HO136.out) (fun _ hk => hk); (try simp only [show ((Kd.slice 3 (Kd.int .i64))).sz = 1 from rfl, Nat.mul_one, Nat.add_zero] at HP41); clear hcc41 hfr41) | ((with_reducible refine gate_store (t := 54) (p := 81) rfl ?_); refine store_event (t := 54) (p := 81) (v := ?vo_w42) (w1 := (w40.setCell ⟨go39, ((rd (rd_L1 l0 x48_3) x55_4) : Int).toNat, none⟩ (.slice Ao43 y134.length co43))) ?hg ?ho ?hn ?hr ?_; (case ho => rfl); (case hg => rfl); (case hn => rfl); (case hr => first | (go_simp; done) | (go_simp; rfl)); intro w42 hw; have hg : w40.grownBy w42 (some go39) := (by rw [hw]; exact HP41.2); have hp_ : Kd.S (Kd.slice 3 (Kd.int .i64)) 54 w42 w.heap.size (fun _ => True) (.slice (some ⟨go39, 0, none⟩) x7_4.length co38) y137 := (by rw [hw, Ny137.out]; exact HP41.1); clear HP41; have n0_ := Aside0.mk (Kd.S_over' (v := (.slice (some ⟨go39, 0, none⟩) x7_4.length co38)) (by (with_reducible repeat (first | apply Kd.S_alloc | apply Kd.S_drewN | apply Kd.S_drew)); exact HO_3.out) (Kd.R_typed hraw41) (by decide) hg); have n1_ := Aside0.mk ((by rw [hw]; exact below_set HB.out GB39.out : Below w.heap.size w w42)); have n2_ := Aside0.mk (hp_); clear HO_3; clear HB; clear HO136; clear HH39; have HO_3 := n0_; have HB := n1_; have HO_7 := n2_; clear n0_ n1_ n2_; clear hg hw hp_ hraw41))
                                                        go_roundg k4
                                                        case measure => have := HK1.out; have := HK2.out; have := HK3.out; have := HK4.out; omega
                                                        case rel => exact ⟨(y137), (wrap64 (x55_4 + 1)), (by first | rfl | (simp; done) | (simp [*]; done)), H', ⟨by have := HK1.out; have := HK2.out; have := HK3.out; have := HK4.out; omega⟩, ⟨by (try simp only [hl3_1]); (try simp only [hl3_2]); (with_reducible repeat (first | apply Kd.S_alloc | apply Kd.S_drewN | apply Kd.S_drew)); exact HO_3.out⟩, ⟨by (try simp only [hl3_1]); (try simp only [hl3_2]); (with_reducible repeat (first | apply Kd.S_alloc | apply Kd.S_drewN | apply Kd.S_drew)); exact HO_7.out⟩, ⟨by repeat (first | (with_reducible first | exact HB.out | apply below_alloc | apply pw_below_drewN | apply below_drew1) | exact HB.out)⟩⟩
                                                      · rw [if_neg c36] at H
                                                        exact absurd H (by simp)
                                                    · rw [if_neg c35] at H
                                                      exact absurd H (by simp)
                                                  · rw [if_neg c34] at H
                                                    exact absurd H (by simp)
                                            · replace c31 := Bool.eq_false_iff.mpr c31
                                              subst c31
                                              have H1 : (dom_Post.l3 k4 l0 x3_2 (wrap64 ((l0.length : Int) - 1)) x40_2 x7_4 x48_3 (l0.length : Int) x40_2 l0 (l0.length : Int) x48_3 (rd_L1 l0 x48_3) ((rd_L1 l0 x48_3).length : Int) (wrap64 (x55_4 + 1))) = some r := by rw [if_neg (show ¬ (false = true) by decide)] at H; exact H
                                              clear H
                                              have H := H1
                                              clear H1
                                              have H' := Aside0.mk H
                                              clear H
                                              have p131 : 0 ≤ (x55_4 : Int) := of_decide_eq_true (by first | (with_reducible assumption) | assumption)
                                              have q131 : x55_4 < ((rd_L1 l0 x48_3).length : Int) := of_decide_eq_true (by first | (with_reducible assumption) | assumption)
                                              obtain ⟨ad131, e131, hx131_0⟩ := Kd.at_int HR130_0.out x55_4 p131 q131
                                              cases e131
                                              replace hx131_0 := (HB.out.cell (World.block_lt_of_cell? w _ hx131_0)).trans hx131_0
                                              replace p131 := eq_true p131
                                              replace q131 := eq_true q131
                                              go_wp2_with (first | ((with_reducible refine gate_callee (f := 56) rfl ?_); refine goesL_ (some 61) rfl rfl Try.func56 (by kernel_rfl) rfl #[.slice (some ad130) l0.length c0, .int .i64 (rd (rd_L1 l0 x48_3) x55_4)] rfl (by (try simp only [List.map_toArray, List.map_cons, List.map_nil]); first | done | rfl | (simp only [List.length_drop, List.length_take]; rfl)) ?_; (with_reducible refine (dom_graph_is.calls _ _ l0 (rd (rd_L1 l0 x48_3) x55_4) false _ ?side1 ?side2 A30.out).mono ?_); (case side1 => repeat (first | exact (Kd.C_below HR0.out HB.out) | (with_reducible refine Kd.C_alloc ?_ _) | (with_reducible refine Kd.C_drewN ?_ _) | (with_reducible refine Kd.C_drew ?_))); (case side2 => exact HC0.out); rintro e w' ⟨rfl, ⟨nd, rfl⟩⟩; refine ⟨_, rfl, ?_⟩))
                                              go_roundg k4
                                              case measure => have := HK1.out; have := HK2.out; have := HK3.out; have := HK4.out; omega
                                              case rel => exact ⟨(x7_4), (wrap64 (x55_4 + 1)), (by first | rfl | (simp; done) | (simp [*]; done)), H', ⟨by have := HK1.out; have := HK2.out; have := HK3.out; have := HK4.out; omega⟩, ⟨by (try simp only [hl3_1]); (try simp only [hl3_2]); (with_reducible repeat (first | apply Kd.S_alloc | apply Kd.S_drewN | apply Kd.S_drew)); exact HO_3.out⟩, ⟨by (try simp only [hl3_1]); (try simp only [hl3_2]); (with_reducible repeat (first | apply Kd.S_alloc | apply Kd.S_drewN | apply Kd.S_drew)); exact HO_7.out⟩, ⟨by repeat (first | (with_reducible first | exact HB.out | apply below_alloc | apply pw_below_drewN | apply below_drew1) | exact HB.out)⟩⟩
                                          · rw [if_neg c29] at H
                                            exact absurd H (by simp)
                                        · rw [if_neg c28] at H
                                          exact absurd H (by simp)
                                      · rw [if_neg c27] at H
                                        have c27b0 : decide (x55_4 < ((rd_L1 l0 x48_3).length : Int)) = false := decide_eq_false c27
                                        have c27b0_ := c27b0; (try simp only [hl3_1] at c27b0_); (try simp only [hl3_2] at c27b0_)
                                        clear c27
                                        have H' := Aside0.mk H
                                        clear H
                                        go_wp2
                                        go_roundg k4
                                        case measure => have := HK1.out; have := HK2.out; have := HK3.out; have := HK4.out; omega
                                        case rel => exact ⟨(x7_4), (wrap64 (x48_3 + 1)), (by first | rfl | (simp; done) | (simp [*]; done)), H', ⟨by have := HK1.out; have := HK2.out; have := HK3.out; have := HK4.out; omega⟩, ⟨by (try simp only [hl3_1]); (try simp only [hl3_2]); (with_reducible repeat (first | apply Kd.S_alloc | apply Kd.S_drewN | apply Kd.S_drew)); exact HO_3.out⟩, ⟨by (try simp only [hl3_1]); (try simp only [hl3_2]); (with_reducible repeat (first | apply Kd.S_alloc | apply Kd.S_drewN | apply Kd.S_drew)); exact HO_7.out⟩, ⟨by repeat (first | (with_reducible first | exact HB.out | apply below_alloc | apply pw_below_drewN | apply below_drew1) | exact HB.out)⟩⟩
                                · rw [if_neg c26] at H
                                  exact absurd H (by simp)
                              · rw [if_neg c25] at H
                                exact absurd H (by simp)
                            · rw [if_neg c24] at H
                              have c24b0 : decide (x48_3 < (l0.length : Int)) = false := decide_eq_false c24
                              have c24b0_ := c24b0; (try simp only [hl3_1] at c24b0_); (try simp only [hl3_2] at c24b0_)
                              clear c24
                              by_cases c44 : x40_2 = (wrap64 ((l0.length : Int) - 1))
                              · rw [if_pos c44] at H
                                have c44b0 : (x40_2 == (wrap64 ((l0.length : Int) - 1))) = true := beq_iff_eq.mpr c44
                                have c44b0_ := c44b0; (try simp only [hl3_1] at c44b0_); (try simp only [hl3_2] at c44b0_)
                                have c44b1 : (x40_2 != (wrap64 ((l0.length : Int) - 1))) = false := bne_eq_false_iff_eq.mpr c44
                                have c44b1_ := c44b1; (try simp only [hl3_1] at c44b1_); (try simp only [hl3_2] at c44b1_)
                                clear c44
                                have H' := Aside0.mk H
                                clear H
                                go_wp2
                                (try simp only [← hl3_2])
                                go_roundg k3
                                case measure => have := HK1.out; have := HK2.out; have := HK3.out; omega
                                case rel => exact ⟨(x3_2), (wrap64 (x40_2 + 1)), (by first | rfl | (simp; done) | (simp [*]; done)), H', ⟨by have := HK1.out; have := HK2.out; have := HK3.out; omega⟩, ⟨by (try simp only [hl3_1]); (try simp only [hl3_2]); (with_reducible repeat (first | apply Kd.S_alloc | apply Kd.S_drewN | apply Kd.S_drew)); exact HO_3.out⟩, ⟨by repeat (first | (with_reducible first | exact HB.out | apply below_alloc | apply pw_below_drewN | apply below_drew1) | exact HB.out)⟩⟩
                              · rw [if_neg c44] at H
                                have c44b0 : (x40_2 == (wrap64 ((l0.length : Int) - 1))) = false := beq_eq_false_iff_ne.mpr c44
                                have c44b0_ := c44b0; (try simp only [hl3_1] at c44b0_); (try simp only [hl3_2] at c44b0_)
                                have c44b1 : (x40_2 != (wrap64 ((l0.length : Int) - 1))) = true := bne_iff_ne.mpr c44
                                have c44b1_ := c44b1; (try simp only [hl3_1] at c44b1_); (try simp only [hl3_2] at c44b1_)
                                by_cases c45 : 0 ≤ (l0.length : Int)
                                · rw [if_pos c45] at H
                                  have c45b0 := eq_true c45
                                  have c45b1 : decide (0 ≤ (l0.length : Int)) = true := decide_eq_true c45
                                  have c45b1_ := c45b1; (try simp only [hl3_1] at c45b1_); (try simp only [hl3_2] at c45b1_)
                                  clear c45
                                  by_cases c46 : ((l0.length : Int) : Int).toNat ≤ 281474976710656
                                  · rw [if_pos c46] at H
                                    have c46b0 := eq_true c46
                                    have c46b1 : decide (((l0.length : Int) : Int).toNat ≤ 281474976710656) = true := decide_eq_true c46
                                    have c46b1_ := c46b1; (try simp only [hl3_1] at c46b1_); (try simp only [hl3_2] at c46b1_)
                                    clear c46
                                    obtain ⟨y138, hy138⟩ : ∃ y_ : List Bool, y_ = (List.replicate ((l0.length : Int) : Int).toNat false) := ⟨_, rfl⟩
                                    replace H : ((dom_graph_visit.f k3 x7_3 y138 (wrap64 ((l0.length : Int) - 1))).bind fun t141 => (dom_Post.l4 k3 l0 x3_2 (wrap64 ((l0.length : Int) - 1)) x40_2 (l0.length : Int) x40_2 t141 (y138.length : Int) 0)) = some r := by first | (rw [hy138]; with_reducible exact H) | (have H2_ := (Option.bind_some _ _).symm.trans H; rw [hy138]; with_reducible exact H2_) | (have H2_ := (Option.bind_some _ _).symm.trans H; with_reducible exact H2_) | with_reducible exact H | (rw [hy138]; exact H) | exact H
                                    have Ny138 := Aside0.mk hy138
                                    clear hy138
                                    replace H := Option.bind_eq_some_iff.mp H
                                    obtain ⟨t141, A470, H⟩ := H
                                    replace H : (dom_Post.l4 k3 l0 x3_2 (wrap64 ((l0.length : Int) - 1)) x40_2 (l0.length : Int) x40_2 t141 (y138.length : Int) 0) = some r := H
                                    have A47 := Aside0.mk A470
                                    clear A470
                                    have H' := Aside0.mk H
                                    clear H
                                    go_wp2_with (first | ((with_reducible refine gate_dst (N := 89) rfl ?_); refine Kd.R_make Kd.bool _ 4 rfl (N := 89) rfl 57 _ _ rfl (l0.length : Int) rfl rfl Try.underlying57 (.bool false) 1 info4 rfl (by decide) (by omega) false (ok := fun _ => True) (okp := fun _ => True) rfl (fun _ hk => hk) trivial (of_decide_eq_true (by first | (with_reducible assumption) | assumption)) (Nat.le_trans (Nat.mul_le_mul_right _ (of_decide_eq_true (by first | (with_reducible assumption) | assumption) : (l0.length : Int).toNat ≤ 281474976710656)) (by omega)) (Below.refl _ _) (Nat.le_refl _) ?_; intro v139 w48 ho49 hb hg_ hnew_; clear hg_ hnew_; (first | rw [← Ny138.out] at ho49 | (simp only [Int.reduceToNat] at ho49; rw [← Ny138.out] at ho49)); have n0_ := Aside0.mk (Kd.S_elder' (by (with_reducible repeat (first | apply Kd.S_alloc | apply Kd.S_drewN | apply Kd.S_drew)); exact HO_3.out) (Kd.R_base ho49) hb); have n1_ := Aside0.mk (Kd.S_below (by (with_reducible repeat (first | apply Kd.S_alloc | apply Kd.S_drewN | apply Kd.S_drew)); exact HO_7.out) hb); have n2_ := Aside0.mk (Kd.R_lower ho49 (below_size (by repeat (first | (with_reducible first | exact HB.out | apply below_alloc | apply pw_below_drewN | apply below_drew1) | exact HB.out)))); have n3_ := Aside0.mk (below_step (by repeat (first | (with_reducible first | exact HB.out | apply below_alloc | apply pw_below_drewN | apply below_drew1) | exact HB.out)) hb); clear HO_3; clear HO_7; clear HB; have HO_3 := n0_; have HO_7 := n1_; have HO140 := n2_; have HB := n3_; clear n0_ n1_ n2_ n3_; clear hb ho49; obtain ⟨Ao50, co50, eo50⟩ := Kd.S_slice HO_7.out; subst eo50; obtain ⟨Ao51, co51, eo51⟩ := Kd.R_slice HO140.out; subst eo51) | ((with_reducible refine gate_callee (f := 53) rfl ?_); refine goesL_ (some 93) rfl rfl Try.func53 (by kernel_rfl) rfl #[.slice Ao50 x7_3.length co50, .slice Ao51 y138.length co51, .int .i64 (wrap64 ((l0.length : Int) - 1))] rfl (by (try simp only [List.map_toArray, List.map_cons, List.map_nil]); first | done | rfl | (simp only [List.length_drop, List.length_take]; rfl)) ?_; (with_reducible refine (dom_graph_visit.calls k3 _ _ x7_3 (fun k_ => some k_ = (.slice Ao51 y138.length co51 : Value).ownBlock) (.slice Ao51 y138.length co51) y138 (wrap64 ((l0.length : Int) - 1)) t141 w _ ?side1 ?side2 ?side3 ?side4 A47.out).mono ?_); (case side1 => repeat (first | (with_reducible first | exact HB.out | apply below_alloc | apply pw_below_drewN | apply below_drew1) | exact HB.out)); (case side2 => exact Kd.C_kept_own ((Kd.S_R (Kd.S_apart' HO_7.out (Kd.R_typed HO140.out) (by decide)))) (fun k_ hk_ hs_ => (hk_.2) hs_)); (case side3 => exact (Kd.S_reads' HO_7.out).2.1); (case side4 => exact Kd.R_tight rfl HO140.out); rintro e w52 ⟨rfl, hy0, hb, hkp⟩; refine ⟨_, rfl, ?_⟩; have n0_ := Aside0.mk (Kd.S_mono (ok' := fun k_ => some k_ ≠ (.slice Ao51 y138.length co51 : Value).ownBlock) (Kd.S_keptB (HO_3.out) hkp (fun k_ hk_ hs_ => (hk_.2) hs_)) (fun k_ hk_ => hk_.1.2)); have n1_ := Aside0.mk (Kd.S_mono (ok' := fun k_ => True) (Kd.S_keptB ((Kd.S_apart' HO_7.out (Kd.R_typed HO140.out) (by decide))) hkp (fun k_ hk_ hs_ => (hk_.2) hs_)) (fun k_ hk_ => trivial)); have n2_ := Aside0.mk (Kd.R_reok rfl hy0 (fun k_ e_ => HO140.out.1 k_ e_)); have n3_ := Aside0.mk (hb); clear HO_3; clear HO_7; clear HO140; clear HB; have HO_3 := n0_; have HO_7 := n1_; have HO140 := n2_; have HB := n3_; clear n0_ n1_ n2_ n3_; (try clear hb); (try clear hkp); (try clear hy0)))
                                    go_loopg [96] k3 (fun kq v96 w' => ∃ (x3_4 : List (List Bool)) (x94_4 : List Bool) (x96_4 : Int), v96 = .int .i64 x96_4 ∧ Aside0 (dom_Post.l4 kq l0 x3_4 (wrap64 ((l0.length : Int) - 1)) x40_2 (l0.length : Int) x40_2 x94_4 (y138.length : Int) x96_4 = some r) ∧ Aside0 (kq ≤ k3) ∧ Aside0 (Kd.S (Kd.slice 4 Kd.bool) 57 w' w.heap.size (fun k_ => some k_ ≠ ((.slice Ao51 y138.length co51) : Value).ownBlock) (.slice Ao6 x3_2.length co6) x3_4) ∧ Aside0 (Kd.R Kd.bool 4 w' w.heap.size (fun _ => True) (.slice Ao51 y138.length co51) x94_4) ∧ Aside0 (Below w.heap.size w w'))
                                    case atStart => exact ⟨(x3_2), (t141), (0), (by first | rfl | (simp; done) | (simp [*]; done)), H', ⟨Nat.le_refl _⟩, ⟨by (try simp only [hl3_1]); (try simp only [hl3_2]); (with_reducible repeat (first | apply Kd.S_alloc | apply Kd.S_drewN | apply Kd.S_drew)); exact HO_3.out⟩, ⟨by (try simp only [hl3_1]); (try simp only [hl3_2]); (with_reducible repeat (first | apply Kd.R_alloc | apply Kd.R_drewN | apply Kd.R_drew)); exact HO140.out⟩, ⟨by repeat (first | (with_reducible first | exact HB.out | apply below_alloc | apply pw_below_drewN | apply below_drew1) | exact HB.out)⟩⟩
                                    case round =>
                                      clear H'
                                      try clear c1
                                      try clear p1
                                      try clear q1
                                      try clear hx1
                                      try clear hf1
                                      try clear c2
                                      try clear c2b0
                                      try clear c2b1
                                      try clear p2
                                      try clear c3
                                      try clear c3b0
                                      try clear c3b1
                                      try clear p3
                                      try clear q3
                                      try clear c4
                                      try clear hx4
                                      try clear hf4
                                      try clear c5
                                      try clear p6
                                      try clear c7
                                      try clear c7b0
                                      try clear c9
                                      try clear c9b0
                                      try clear c10
                                      try clear c10b0
                                      try clear c11
                                      try clear p11
                                      try clear q11
                                      try clear hx11
                                      try clear hf11
                                      try clear c13
                                      try clear p13
                                      try clear q13
                                      try clear hx13
                                      try clear c16
                                      try clear hx16
                                      try clear hf16
                                      try clear c18
                                      try clear c18b0
                                      try clear c18b1
                                      try clear c18b2
                                      try clear c19
                                      try clear c19b0
                                      try clear c20
                                      try clear c20b0
                                      try clear c20b1
                                      try clear c21
                                      try clear c21b0
                                      try clear c21b1
                                      try clear c24
                                      try clear c24b0
                                      try clear c25
                                      try clear c25b0
                                      try clear c26
                                      try clear c26b0
                                      try clear c27
                                      try clear c27b0
                                      try clear c28
                                      try clear c28b0
                                      try clear c29
                                      try clear c29b0
                                      try clear c31
                                      try clear c32
                                      try clear c32b0
                                      try clear c32b1
                                      try clear c33
                                      try clear c33b0
                                      try clear c33b1
                                      try clear c34
                                      try clear c34b0
                                      try clear c35
                                      try clear c35b0
                                      try clear c36
                                      try clear p37
                                      try clear q37
                                      try clear c39
                                      try clear c41
                                      try clear hx41
                                      try clear hf41
                                      try clear c44
                                      try clear c44b0
                                      try clear c44b1
                                      try clear c45
                                      try clear c45b0
                                      try clear c45b1
                                      try clear c46
                                      try clear c46b0
                                      try clear c46b1
                                      try clear hx11_0
                                      try clear hx130_0
                                      try clear hx131_0
                                      try clear hx133_0
                                      try clear hx16_0
                                      try clear hx41_0
                                      try clear p1
                                      try clear p11
                                      try clear p13
                                      try clear p130
                                      try clear p131
                                      try clear p133
                                      try clear p2
                                      try clear p37
                                      try clear p6
                                      try clear q1
                                      try clear q11
                                      try clear q13
                                      try clear q130
                                      try clear q131
                                      try clear q133
                                      try clear q37
                                      obtain ⟨x3_4, x94_4, x96_4, rfl, HA, HK4, HO_3, HO_94, HB⟩ := hrel
                                      have hl3_4 := (Kd.S_reads' HO_3.out).1
                                      rw [hl3_4] at HO_3
                                      (try simp only [hl3_4])
                                      (try simp only [hl3_4] at HO_94)
                                      have hl94_4 := (Kd.R_reads' HO_94.out).1
                                      rw [hl94_4] at HO_94
                                      (try simp only [hl94_4])
                                      (try simp only [hl94_4] at HO_3)
                                      cases gk with
                                      | zero => exact absurd HA.out (by simp [dom_Post.l4])
                                      | succ k4 =>
                                        have H := HA.out
                                        clear HA
                                        simp only [dom_Post.l4] at H
                                        by_cases c53 : x96_4 < (y138.length : Int)
                                        · rw [if_pos c53] at H
                                          have c53b0 : decide (x96_4 < (y138.length : Int)) = true := decide_eq_true c53
                                          have c53b0_ := c53b0; (try simp only [hl3_1] at c53b0_); (try simp only [hl3_2] at c53b0_); (try simp only [hl3_4] at c53b0_); (try simp only [hl94_4] at c53b0_)
                                          clear c53
                                          by_cases c54 : 0 ≤ x96_4
                                          · rw [if_pos c54] at H
                                            have c54b0 : decide (0 ≤ x96_4) = true := decide_eq_true c54
                                            clear c54
                                            by_cases c55 : x96_4 < (x94_4.length : Int)
                                            · rw [if_pos c55] at H
                                              have c55b0 : decide (x96_4 < (x94_4.length : Int)) = true := decide_eq_true c55
                                              have c55b0_ := c55b0; (try simp only [hl3_1] at c55b0_); (try simp only [hl3_2] at c55b0_); (try simp only [hl3_4] at c55b0_); (try simp only [hl94_4] at c55b0_)
                                              clear c55
                                              by_cases c56 : x96_4 < (x3_4.length : Int)
                                              · rw [if_pos c56] at H
                                                have c56b0 : decide (x96_4 < (x3_4.length : Int)) = true := decide_eq_true c56
                                                have c56b0_ := c56b0; (try simp only [hl3_1] at c56b0_); (try simp only [hl3_2] at c56b0_); (try simp only [hl3_4] at c56b0_); (try simp only [hl94_4] at c56b0_)
                                                clear c56
                                                by_cases c57 : 0 ≤ x40_2
                                                · rw [if_pos c57] at H
                                                  have c57b0 : decide (0 ≤ x40_2) = true := decide_eq_true c57
                                                  clear c57
                                                  by_cases c58 : x40_2 < ((rd_L3 x3_4 x96_4).length : Int)
                                                  · rw [if_pos c58] at H
                                                    have c58b0 : decide (x40_2 < ((rd_L3 x3_4 x96_4).length : Int)) = true := decide_eq_true c58
                                                    have c58b0_ := c58b0; (try simp only [hl3_1] at c58b0_); (try simp only [hl3_2] at c58b0_); (try simp only [hl3_4] at c58b0_); (try simp only [hl94_4] at c58b0_)
                                                    clear c58
                                                    obtain ⟨y144, hy144⟩ : ∃ y_ : List Bool, y_ = ((rd_L3 x3_4 x96_4).set (x40_2 : Int).toNat (!(rdOf false x94_4 x96_4))) := ⟨_, rfl⟩
                                                    replace H : (dom_Post.l4 k4 l0 (x3_4.set (x96_4 : Int).toNat y144) (wrap64 ((l0.length : Int) - 1)) x40_2 (l0.length : Int) x40_2 x94_4 (y138.length : Int) (wrap64 (x96_4 + 1))) = some r := by first | (rw [hy144]; with_reducible exact H) | (have H2_ := (Option.bind_some _ _).symm.trans H; rw [hy144]; with_reducible exact H2_) | (have H2_ := (Option.bind_some _ _).symm.trans H; with_reducible exact H2_) | with_reducible exact H | (rw [hy144]; exact H) | exact H
                                                    have Ny144 := Aside0.mk hy144
                                                    clear hy144
                                                    obtain ⟨y146, hy146⟩ : ∃ y_ : List (List Bool), y_ = (x3_4.set (x96_4 : Int).toNat y144) := ⟨_, rfl⟩
                                                    replace H : (dom_Post.l4 k4 l0 y146 (wrap64 ((l0.length : Int) - 1)) x40_2 (l0.length : Int) x40_2 x94_4 (y138.length : Int) (wrap64 (x96_4 + 1))) = some r := by first | (rw [hy146]; with_reducible exact H) | (have H2_ := (Option.bind_some _ _).symm.trans H; rw [hy146]; with_reducible exact H2_) | (have H2_ := (Option.bind_some _ _).symm.trans H; with_reducible exact H2_) | with_reducible exact H | (rw [hy146]; exact H) | exact H
                                                    have Ny146 := Aside0.mk hy146
                                                    clear hy146
                                                    have H' := Aside0.mk H
                                                    clear H
                                                    have p142 : 0 ≤ (x96_4 : Int) := of_decide_eq_true (by first | (with_reducible assumption) | assumption)
                                                    have q142 : x96_4 < (x94_4.length : Int) := of_decide_eq_true (by first | (with_reducible assumption) | assumption)
                                                    obtain ⟨ad142, e142, hx142_0⟩ := Kd.at_bool (Kd.R_reads' HO_94.out).2.2 x96_4 p142 q142
                                                    cases e142
                                                    replace p142 := eq_true p142
                                                    replace q142 := eq_true q142
                                                    have p143 : 0 ≤ (x96_4 : Int) := of_decide_eq_true (by first | (with_reducible assumption) | assumption)
                                                    have q143 : x96_4 < (x3_4.length : Int) := of_decide_eq_true (by first | (with_reducible assumption) | assumption)
                                                    obtain ⟨ad143, A143_0, c143_0, e143, hx143_0, hl143_0, hi143_0⟩ := at_L3 (Kd.S_reads' HO_3.out).2.2 x96_4 p143 q143
                                                    cases e143
                                                    obtain ⟨ce143, hce143, hMe143, hcc143⟩ := Kd.S_get HO_3.out [] x96_4 p143 (by first | exact q143 | exact of_decide_eq_true (by first | (with_reducible assumption) | assumption) | (have e_ := (Kd.S_reads' HO_3.out).1; omega))
                                                    obtain ⟨ve143_0, rfl, ge143_0⟩ := hMe143
                                                    have hv143_0 := hcc143 0 _ rfl
                                                    rw [Nat.add_zero, show ((Kd.slice 4 Kd.bool)).sz = 1 from rfl, Nat.mul_one] at hv143_0
                                                    replace hv143_0 := Option.some.inj (hv143_0.symm.trans hx143_0)
                                                    rw [hv143_0] at ge143_0
                                                    have HL143_0 := Aside0.mk (show Kd.R Kd.bool 4 _ _ _ _ (rd_L3 x3_4 x96_4) from ge143_0)
                                                    clear hv143_0 ge143_0
                                                    have HX143_0 := Aside0.mk hx143_0
                                                    clear hcc143 hce143
                                                    have HR143_0 := Aside0.mk hi143_0
                                                    have HC143_0 := Aside0.mk hl143_0
                                                    clear hi143_0 hl143_0
                                                    replace p143 := eq_true p143
                                                    replace q143 := eq_true q143
                                                    have p59 : 0 ≤ (x40_2 : Int) := of_decide_eq_true (by first | (with_reducible assumption) | assumption)
                                                    have q59 : (x40_2 : Int) < (((rd_L3 x3_4 x96_4).length : Int) : Int) := of_decide_eq_true (by first | (with_reducible assumption) | assumption)
                                                    obtain ⟨go59, co59, eo59, gb59, gl59, cl59, HG59⟩ := Kd.R_form HL143_0.out (by omega)
                                                    (first | cases eo59 | (injection eo59 with ea_ en_ ec_; (first | subst ea_ | (injection ea_ with ea_; subst ea_)); subst ec_; clear en_))
                                                    have GB59 := Aside0.mk gb59
                                                    have GG59 := Aside0.mk HG59
                                                    clear gb59 gl59 HG59
                                                    obtain ⟨hx59_0, hf59_0⟩ := Kd.R_celln false HL143_0.out (x40_2 : Int) p59 q59
                                                    replace p59 := eq_true p59
                                                    replace q59 := eq_true q59
                                                    have hq60 : (x96_4 : Int) < (x3_4.length : Int) := (by have h_ : (x96_4 : Int) < ((x3_4.length : Int) : Int) := of_decide_eq_true (by first | (with_reducible assumption) | assumption); first | exact h_ | (have e_ := (Kd.S_reads' HO_3.out).1; omega) | simpa only [List.length_set, List.length_set] using h_)
                                                    obtain ⟨oki60, ce60, hcl60, hM60, hcc60, hok60, hbk60⟩ := Kd.S_borrow HO_3.out [] (x96_4 : Int) (of_decide_eq_true (by first | (with_reducible assumption) | assumption)) hq60
                                                    obtain ⟨ve60_0, rfl, ge60_0⟩ := hM60
                                                    have hv60 := hcc60 0 _ rfl
                                                    rw [Nat.add_zero, show ((Kd.slice 4 Kd.bool)).sz = 1 from rfl, Nat.mul_one] at hv60
                                                    replace hv60 := Option.some.inj (hv60.symm.trans HX143_0.out)
                                                    subst hv60
                                                    clear hcc60 hcl60
                                                    replace ge60_0 := (show Kd.R Kd.bool 4 _ _ _ _ (rd_L3 x3_4 x96_4) from ge60_0)
                                                    have HP60 := Kd.R_putg ge60_0 (x40_2 : Int) (!(rdOf false x94_4 x96_4))
                                                    go_wp2_with (first | ((with_reducible refine gate_store (t := 4) (p := 108) rfl ?_); refine store_event (t := 4) (p := 108) (v := ?vo_w61) (w1 := (wr.setCell ⟨go59, (x40_2 : Int).toNat, none⟩ (.bool (!(rdOf false x94_4 x96_4))))) ?hg ?ho ?hn ?hr ?_; (case ho => rfl); (case hg => rfl); (case hn => rfl); (case hr => first | (go_simp; done) | (go_simp; rfl)); intro w61 hw; have hg : wr.grownBy w61 (some go59) := (by rw [hw]; exact HP60.2); have hz_ : Kd.R Kd.bool 4 w61 w.heap.size oki60 (.slice (some ⟨go59, 0, none⟩) (rd_L3 x3_4 x96_4).length c143_0) y144 := (by rw [hw, Ny144.out]; exact HP60.1); have hp_ : Kd.S (Kd.slice 4 Kd.bool) 57 w61 w.heap.size (fun k_ => some k_ ≠ (.slice (some ad142) x94_4.length co51 : Value).ownBlock) (.slice (some ad143) x3_4.length co6) y146 := (by rw [Ny146.out]; exact hbk60 hg (fun k_ e_ => by injection e_ with e_; subst e_; exact ge60_0.1 _ rfl) (Kd.M_row hz_)); have hm_ := Kd.R_mono hz_ hok60; clear HP60 hbk60; have n0_ := Aside0.mk (hp_); have n1_ := Aside0.mk (Kd.R_grown1 (by (with_reducible repeat (first | apply Kd.R_alloc | apply Kd.R_drewN | apply Kd.R_drew)); exact HO_94.out) rfl hg ((HL143_0.out.1 _ rfl).1)); have n2_ := Aside0.mk ((by rw [hw]; exact below_set (HB.out) GB59.out : Below w.heap.size w w61)); have n3_ := Aside0.mk (hm_); have n4_ := Aside0.mk ((Kd.R_reads' hm_).2.1); clear HO_3; clear HO_94; clear HB; clear HL143_0; have HO_3 := n0_; have HO_94 := n1_; have HB := n2_; have HL147 := n3_; have HC145 := n4_; clear n0_ n1_ n2_ n3_ n4_; clear hg hw hp_ hz_ hm_ hok60))
                                                    (try simp only [← hl3_4, ← hl94_4])
                                                    go_roundg k4
                                                    case measure => have := HK1.out; have := HK2.out; have := HK3.out; have := HK4.out; omega
                                                    case rel => exact ⟨(y146), (x94_4), (wrap64 (x96_4 + 1)), (by first | rfl | (simp; done) | (simp [*]; done)), H', ⟨by have := HK1.out; have := HK2.out; have := HK3.out; have := HK4.out; omega⟩, ⟨by (try simp only [hl3_1]); (try simp only [hl3_2]); (try simp only [hl3_4]); (try simp only [hl94_4]); (with_reducible repeat (first | apply Kd.S_alloc | apply Kd.S_drewN | apply Kd.S_drew)); exact HO_3.out⟩, ⟨by (try simp only [hl3_1]); (try simp only [hl3_2]); (try simp only [hl3_4]); (try simp only [hl94_4]); (with_reducible repeat (first | apply Kd.R_alloc | apply Kd.R_drewN | apply Kd.R_drew)); exact HO_94.out⟩, ⟨by repeat (first | (with_reducible first | exact HB.out | apply below_alloc | apply pw_below_drewN | apply below_drew1) | exact HB.out)⟩⟩
                                                  · rw [if_neg c58] at H
                                                    exact absurd H (by simp)
                                                · rw [if_neg c57] at H
                                                  exact absurd H (by simp)
                                              · rw [if_neg c56] at H
                                                exact absurd H (by simp)
                                            · rw [if_neg c55] at H
                                              exact absurd H (by simp)
                                          · rw [if_neg c54] at H
                                            exact absurd H (by simp)
                                        · rw [if_neg c53] at H
                                          have c53b0 : decide (x96_4 < (y138.length : Int)) = false := decide_eq_false c53
                                          have c53b0_ := c53b0; (try simp only [hl3_1] at c53b0_); (try simp only [hl3_2] at c53b0_); (try simp only [hl3_4] at c53b0_); (try simp only [hl94_4] at c53b0_)
                                          clear c53
                                          have H' := Aside0.mk H
                                          clear H
                                          go_wp2
                                          (try simp only [← hl3_2, ← hl3_4, ← hl94_4])
                                          go_roundg k4
                                          case measure => have := HK1.out; have := HK2.out; have := HK3.out; have := HK4.out; omega
                                          case rel => exact ⟨(x3_4), (wrap64 (x40_2 + 1)), (by first | rfl | (simp; done) | (simp [*]; done)), H', ⟨by have := HK1.out; have := HK2.out; have := HK3.out; have := HK4.out; omega⟩, ⟨by (try simp only [hl3_1]); (try simp only [hl3_2]); (try simp only [hl3_4]); (try simp only [hl94_4]); (with_reducible repeat (first | apply Kd.S_alloc | apply Kd.S_drewN | apply Kd.S_drew)); exact Kd.S_mono HO_3.out (fun _ hk => trivial)⟩, ⟨by repeat (first | (with_reducible first | exact HB.out | apply below_alloc | apply pw_below_drewN | apply below_drew1) | exact HB.out)⟩⟩
                                  · rw [if_neg c46] at H
                                    exact absurd H (by simp)
                                · rw [if_neg c45] at H
                                  exact absurd H (by simp)
                      · rw [if_neg c21] at H
                        exact absurd H (by simp)
                    · rw [if_neg c20] at H
                      exact absurd H (by simp)
                  · rw [if_neg c19] at H
                    have c19b0 : decide (x40_2 < (l0.length : Int)) = false := decide_eq_false c19
                    have c19b0_ := c19b0; (try simp only [hl3_1] at c19b0_); (try simp only [hl3_2] at c19b0_)
                    clear c19
                    obtain rfl := Option.some.inj H
                    go_wp2
                    go_ret
                    exact ⟨_, by first | rfl | (simp [errW_none, errW_some] <;> rfl) | (simp [*, errW_none, errW_some] <;> rfl), by (with_reducible repeat (first | apply Kd.S_alloc | apply Kd.S_drewN | apply Kd.S_drew)); exact HO_3.out, by repeat (first | (with_reducible first | exact HB.out | apply below_alloc | apply pw_below_drewN | apply below_drew1) | exact HB.out)⟩
    · rw [if_neg c3] at H
      exact absurd H (by simp)
  · rw [if_neg c2] at H
    exact absurd H (by simp)

end Go.Proofs.Ytankppgafdcknaa.PPost

/- Printed for this claim by a program. -/
namespace Go.Proofs.Ytankppgafdcknaa.PPost
open Go.RowKit Go.Proofs.YtankppgafdcknaaW.PrintWords Go.Proofs.YtankppgafdcknaaW.PrintLast Go.Proofs.YtankppgafdcknaaW.PrintMore
attribute [local go_sem] max2_int min2_int max_two min_two max_three min_three max_four min_four   -- for this text's walks alone
set_option linter.unusedVariables false
set_option linter.unusedSimpArgs false

/-! ### dom_Reach: function 29 -/
def dom_Reach.l0 : Nat → List (List Int) → List Bool → List Int → Int → Int → Option (List Bool)
  | 0, _, _, _, _, _ => none
  | k + 1, x0, x5, x11, x12, x13 => if x13 < x12 then (if 0 ≤ x13 then (if x13 < (x11.length : Int) then ((dom_graph_visit.f k x0 x5 (rd x11 x13)).bind fun t152 => (dom_Reach.l0 k x0 t152 x11 x12 (wrap64 (x13 + 1)))) else (none)) else (none)) else (some x5)
def dom_Reach.f (k : Nat) (l0 : List (List Int)) (l1 : List Int) : Option (List Bool) := if 0 ≤ (l0.length : Int) then (if ((l0.length : Int) : Int).toNat ≤ 281474976710656 then (dom_Reach.l0 k l0 (List.replicate ((l0.length : Int) : Int).toNat false) l1 (l1.length : Int) 0) else (none)) else (none)
theorem dom_Reach.mono_l : ∀ k, (∀ y0 y1 y2 y3 y4, LeO (dom_Reach.l0 k y0 y1 y2 y3 y4) (dom_Reach.l0 (k + 1) y0 y1 y2 y3 y4))
  | 0 => fun _ _ _ _ _ r h => by simp [dom_Reach.l0] at h
  | k + 1 => by
    have ih0 := dom_Reach.mono_l k
    · intro y0 y1 y2 y3 y4
      unfold dom_Reach.l0
      repeat' first
      | (with_reducible exact ih0 _ _ _ _ _)
      | (with_reducible exact dom_graph_visit.mono _ _ _ _)
      | (with_reducible exact LeO.refl _)
      | (with_reducible exact LeO.none _)
      | (with_reducible refine LeO.ite ?_ ?_)
      | (with_reducible refine LeO.bind ?_ (fun _ => ?_))
      | exact ih0 _ _ _ _ _
      | exact dom_graph_visit.mono _ _ _ _
      | exact LeO.none _
      | refine LeO.ite ?_ ?_
      | refine LeO.bind ?_ (fun _ => ?_)
theorem dom_Reach.mono : ∀ a0 a1 k, LeO (dom_Reach.f k a0 a1) (dom_Reach.f (k + 1) a0 a1) := by
  intro a0 a1 k
  have ih0 := dom_Reach.mono_l k
  unfold dom_Reach.f
  repeat' first
      | (with_reducible exact ih0 _ _ _ _ _)
      | (with_reducible exact dom_graph_visit.mono _ _ _ _)
      | (with_reducible exact LeO.refl _)
      | (with_reducible exact LeO.none _)
      | (with_reducible refine LeO.ite ?_ ?_)
      | (with_reducible refine LeO.bind ?_ (fun _ => ?_))
      | exact ih0 _ _ _ _ _
      | exact dom_graph_visit.mono _ _ _ _
      | exact LeO.none _
      | refine LeO.ite ?_ ?_
      | refine LeO.bind ?_ (fun _ => ?_)
set_option maxHeartbeats 8000000 in
set_option maxRecDepth 100000 in
theorem dom_Reach.calls (k : Nat) (A0 : Option Addr) (c0 : Nat) (l0 : List (List Int)) (A1 : Option Addr) (c1 : Nat) (l1 : List Int) (r : List Bool) (w : World) (hr0 : Kd.C (Kd.slice 3 (Kd.int .i64)) w A0 l0.length l0) (hc0 : l0.length ≤ c0) (hr1 : Kd.C (Kd.int .i64) w A1 l1.length l1) (hc1 : l1.length ≤ c1) (h : dom_Reach.f k l0 l1 = some r) :
    Calls Try.prog 29 #[.slice A0 l0.length c0, .slice A1 l1.length c1] w fun e w' => ∃ v0_ : Value, e = .returned (v0_) ∧ Kd.R Kd.bool 4 w' w.heap.size (fun _ => True) v0_ r ∧ Below w.heap.size w w' := by
  have HR0 := Aside0.mk hr0
  have HC0 := Aside0.mk hc0
  clear hr0 hc0
  have HR1 := Aside0.mk hr1
  have HC1 := Aside0.mk hc1
  clear hr1 hc1
  have HB := Aside0.mk (Below.refl w.heap.size w)
  have H : (if 0 ≤ (l0.length : Int) then (if ((l0.length : Int) : Int).toNat ≤ 281474976710656 then (dom_Reach.l0 k l0 (List.replicate ((l0.length : Int) : Int).toNat false) l1 (l1.length : Int) 0) else (none)) else (none)) = some r := h
  clear h
  by_cases c3 : 0 ≤ (l0.length : Int)
  · rw [if_pos c3] at H
    have c3b0 := eq_true c3
    have c3b1 : decide (0 ≤ (l0.length : Int)) = true := decide_eq_true c3
    clear c3
    by_cases c4 : ((l0.length : Int) : Int).toNat ≤ 281474976710656
    · rw [if_pos c4] at H
      have c4b0 := eq_true c4
      have c4b1 : decide (((l0.length : Int) : Int).toNat ≤ 281474976710656) = true := decide_eq_true c4
      clear c4
      obtain ⟨y148, hy148⟩ : ∃ y_ : List Bool, y_ = (List.replicate ((l0.length : Int) : Int).toNat false) := ⟨_, rfl⟩
      replace H : (dom_Reach.l0 k l0 y148 l1 (l1.length : Int) 0) = some r := by first | (rw [hy148]; with_reducible exact H) | (have H2_ := (Option.bind_some _ _).symm.trans H; rw [hy148]; with_reducible exact H2_) | (have H2_ := (Option.bind_some _ _).symm.trans H; with_reducible exact H2_) | with_reducible exact H | (rw [hy148]; exact H) | exact H
      have Ny148 := Aside0.mk hy148
      clear hy148
      have H' := Aside0.mk H
      clear H
      go_enter Try.func29, Try.ntmps29
      go_wp2_with (first | ((with_reducible refine gate_dst (N := 10) rfl ?_); refine Kd.R_make Kd.bool _ 4 rfl (N := 10) rfl 57 _ _ rfl (l0.length : Int) rfl rfl Try.underlying57 (.bool false) 1 info4 rfl (by decide) (by omega) false (ok := fun _ => True) (okp := fun _ => True) rfl (fun _ hk => hk) trivial (of_decide_eq_true (by first | (with_reducible assumption) | assumption)) (Nat.le_trans (Nat.mul_le_mul_right _ (of_decide_eq_true (by first | (with_reducible assumption) | assumption) : (l0.length : Int).toNat ≤ 281474976710656)) (by omega)) (Below.refl _ _) (Nat.le_refl _) ?_; intro v149 w5 ho6 hb hg_ hnew_; clear hg_ hnew_; (first | rw [← Ny148.out] at ho6 | (simp only [Int.reduceToNat] at ho6; rw [← Ny148.out] at ho6)); have n0_ := Aside0.mk (Kd.R_lower ho6 (below_size (by repeat (first | (with_reducible first | exact HB.out | apply below_alloc | apply pw_below_drewN | apply below_drew1) | exact HB.out)))); have n1_ := Aside0.mk (below_step (by repeat (first | (with_reducible first | exact HB.out | apply below_alloc | apply pw_below_drewN | apply below_drew1) | exact HB.out)) hb); clear HB; have HO150 := n0_; have HB := n1_; clear n0_ n1_; clear hb ho6))
      go_loopg [13] k (fun kq v13 w' => ∃ (x5_1 : List Bool) (x13_1 : Int), v13 = .int .i64 x13_1 ∧ Aside0 (dom_Reach.l0 kq l0 x5_1 l1 (l1.length : Int) x13_1 = some r) ∧ Aside0 (kq ≤ k) ∧ Aside0 (Kd.R Kd.bool 4 w' w.heap.size (fun _ => True) v149 x5_1) ∧ Aside0 (Below w.heap.size w w'))
      case atStart => exact ⟨(y148), (0), (by first | rfl | (simp; done) | (simp [*]; done)), H', ⟨Nat.le_refl _⟩, ⟨by (with_reducible repeat (first | apply Kd.R_alloc | apply Kd.R_drewN | apply Kd.R_drew)); exact HO150.out⟩, ⟨by repeat (first | (with_reducible first | exact HB.out | apply below_alloc | apply pw_below_drewN | apply below_drew1) | exact HB.out)⟩⟩
      case round =>
        clear H'
        try clear c1
        try clear c2
        try clear p2
        try clear c3
        try clear c3b0
        try clear c3b1
        try clear c4
        try clear c4b0
        try clear c4b1
        obtain ⟨x5_1, x13_1, rfl, HA, HK1, HO_5, HB⟩ := hrel
        cases gk with
        | zero => exact absurd HA.out (by simp [dom_Reach.l0])
        | succ k1 =>
          have H := HA.out
          clear HA
          simp only [dom_Reach.l0] at H
          by_cases c7 : x13_1 < (l1.length : Int)
          · rw [if_pos c7] at H
            have c7b0 : decide (x13_1 < (l1.length : Int)) = true := decide_eq_true c7
            clear c7
            by_cases c8 : 0 ≤ x13_1
            · rw [if_pos c8] at H
              have c8b0 : decide (0 ≤ x13_1) = true := decide_eq_true c8
              clear c8
              by_cases c9 : x13_1 < (l1.length : Int)
              · rw [if_pos c9] at H
                have c9b0 : decide (x13_1 < (l1.length : Int)) = true := decide_eq_true c9
                clear c9
                replace H := Option.bind_eq_some_iff.mp H
                obtain ⟨t152, A100, H⟩ := H
                replace H : (dom_Reach.l0 k1 l0 t152 l1 (l1.length : Int) (wrap64 (x13_1 + 1))) = some r := H
                have A10 := Aside0.mk A100
                clear A100
                have H' := Aside0.mk H
                clear H
                have p151 : 0 ≤ (x13_1 : Int) := of_decide_eq_true (by first | (with_reducible assumption) | assumption)
                have q151 : x13_1 < (l1.length : Int) := of_decide_eq_true (by first | (with_reducible assumption) | assumption)
                obtain ⟨ad151, e151, hx151_0⟩ := Kd.at_int HR1.out x13_1 p151 q151
                cases e151
                replace hx151_0 := (HB.out.cell (World.block_lt_of_cell? w _ hx151_0)).trans hx151_0
                replace p151 := eq_true p151
                replace q151 := eq_true q151
                obtain ⟨Ao11, co11, eo11⟩ := Kd.R_slice HO_5.out
                subst eo11
                go_wp2_with (first | ((with_reducible refine gate_callee (f := 53) rfl ?_); refine goesL_ (some 20) rfl rfl Try.func53 (by kernel_rfl) rfl #[.slice A0 l0.length c0, .slice Ao11 x5_1.length co11, .int .i64 (rd l1 x13_1)] rfl (by (try simp only [List.map_toArray, List.map_cons, List.map_nil]); first | done | rfl | (simp only [List.length_drop, List.length_take]; rfl)) ?_; (with_reducible refine (dom_graph_visit.calls k1 _ _ l0 (fun k_ => some k_ = (.slice Ao11 x5_1.length co11 : Value).ownBlock) (.slice Ao11 x5_1.length co11) x5_1 (rd l1 x13_1) t152 w _ ?side1 ?side2 ?side3 ?side4 A10.out).mono ?_); (case side1 => repeat (first | (with_reducible first | exact HB.out | apply below_alloc | apply pw_below_drewN | apply below_drew1) | exact HB.out)); (case side2 => exact Kd.C_kept_came (Kd.heap_slice 3 (Kd.heap_int .i64)) HR0.out (by repeat (first | (with_reducible first | exact HB.out | apply below_alloc | apply pw_below_drewN | apply below_drew1) | exact HB.out)) (fun k_ hs_ => (fun e_ => Kd.R_base HO_5.out k_ e_.symm) hs_)); (case side3 => exact HC0.out); (case side4 => exact Kd.R_tight rfl HO_5.out); rintro e w12 ⟨rfl, hy0, hb, hkp⟩; refine ⟨_, rfl, ?_⟩; have n0_ := Aside0.mk (Kd.R_reok rfl hy0 (fun k_ e_ => HO_5.out.1 k_ e_)); have n1_ := Aside0.mk (hb); clear HO_5; clear HB; have HO_5 := n0_; have HB := n1_; clear n0_ n1_; (try clear hb); (try clear hkp); (try clear hy0)))
                go_roundg k1
                case measure => have := HK1.out; omega
                case rel => exact ⟨(t152), (wrap64 (x13_1 + 1)), (by first | rfl | (simp; done) | (simp [*]; done)), H', ⟨by have := HK1.out; omega⟩, ⟨by (with_reducible repeat (first | apply Kd.R_alloc | apply Kd.R_drewN | apply Kd.R_drew)); exact HO_5.out⟩, ⟨by repeat (first | (with_reducible first | exact HB.out | apply below_alloc | apply pw_below_drewN | apply below_drew1) | exact HB.out)⟩⟩
              · rw [if_neg c9] at H
                exact absurd H (by simp)
            · rw [if_neg c8] at H
              exact absurd H (by simp)
          · rw [if_neg c7] at H
            have c7b0 : decide (x13_1 < (l1.length : Int)) = false := decide_eq_false c7
            clear c7
            obtain rfl := Option.some.inj H
            go_wp2
            go_ret
            exact ⟨_, by first | rfl | (simp [errW_none, errW_some] <;> rfl) | (simp [*, errW_none, errW_some] <;> rfl), by (with_reducible repeat (first | apply Kd.R_alloc | apply Kd.R_drewN | apply Kd.R_drew)); exact HO_5.out, by repeat (first | (with_reducible first | exact HB.out | apply below_alloc | apply pw_below_drewN | apply below_drew1) | exact HB.out)⟩
    · rw [if_neg c4] at H
      exact absurd H (by simp)
  · rw [if_neg c3] at H
    exact absurd H (by simp)

end Go.Proofs.Ytankppgafdcknaa.PPost
