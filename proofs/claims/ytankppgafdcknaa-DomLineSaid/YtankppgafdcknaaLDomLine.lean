/- Texts joined into one: PDomx2 PDomx9 LineRuns PureDomLine LawDomLine. -/
import Derived.Test.YtankppgafdcknaaKg
import Derived.Test.YtankppgafdcknaaRows
import Derived.WalkKit
import Derived.ProofKit
import Derived.OpenShut
import Derived.ShutString
import Derived.ChangeOld
import Derived.Below
import Derived.SizedLaws
/- Printed for this claim by a program. -/
namespace Go.Proofs.Ytankppgafdcknaa.PDom
open Go.Proofs.Ytankppgafdcknaa.PPost
open Go.RowKit Go.Proofs.YtankppgafdcknaaW.PrintWords Go.Proofs.YtankppgafdcknaaW.PrintLast Go.Proofs.YtankppgafdcknaaW.PrintMore
attribute [local go_sem] max2_int min2_int max_two min_two max_three min_three max_four min_four   -- for this text's walks alone
set_option linter.unusedVariables false
set_option linter.unusedSimpArgs false

/-! ### dom_Least: function 34 -/
mutual
def dom_Least.l0 : Nat → List (List Int) → List (List Bool) → List Int → Int → Int → Option (List Int)
  | 0, _, _, _, _, _ => none
  | k + 1, x0, x3, x4, x13, x14 => if x14 < x13 then (if x4.length < 17592186044416 then ((some (x4 ++ [(-1)] : List Int)).bind fun y108 => ((dom_Reach.f k x0 (([x14] : List Int))).bind fun t114 => (if 0 ≤ (wrap64 ((x0.length : Int) - 1)) then (if (wrap64 ((x0.length : Int) - 1)) < (t114.length : Int) then (if (rdOf false t114 (wrap64 ((x0.length : Int) - 1)) = true) then (dom_Least.l1 k x0 x3 y108 x14 x13 x14 (x0.length : Int) 0) else (dom_Least.l0 k x0 x3 y108 x13 (wrap64 (x14 + 1)))) else (none)) else (none)))) else (none)) else (some x4)
def dom_Least.l1 : Nat → List (List Int) → List (List Bool) → List Int → Int → Int → Int → Int → Int → Option (List Int)
  | 0, _, _, _, _, _, _, _, _ => none
  | k + 1, x0, x3, x4, x5, x13, x14, x31, x32 => if x32 < x31 then (if x32 = x5 then (dom_Least.j2 k x0 x3 x4 x5 x32 x13 x14 x31 x32 true) else (if 0 ≤ x5 then (if x5 < (x3.length : Int) then (if 0 ≤ x32 then (if x32 < ((rd_L2 x3 x5).length : Int) then (dom_Least.j2 k x0 x3 x4 x5 x32 x13 x14 x31 x32 (!(rdOf false (rd_L2 x3 x5) x32))) else (none)) else (none)) else (none)) else (none))) else (dom_Least.l0 k x0 x3 x4 x13 (wrap64 (x14 + 1)))
def dom_Least.j2 : Nat → List (List Int) → List (List Bool) → List Int → Int → Int → Int → Int → Int → Int → Bool → Option (List Int)
  | 0, _, _, _, _, _, _, _, _, _, _ => none
  | k + 1, x0, x3, x4, x5, x6, x13, x14, x31, x32, x47 => if x47 = true then (dom_Least.l1 k x0 x3 x4 x5 x13 x14 x31 (wrap64 (x32 + 1))) else (if 0 ≤ x5 then (if x5 < (x3.length : Int) then (dom_Least.l2 k x0 x3 x4 x5 x6 true x13 x14 x31 x32 (rd_L2 x3 x5) ((rd_L2 x3 x5).length : Int) 0) else (none)) else (none))
def dom_Least.l2 : Nat → List (List Int) → List (List Bool) → List Int → Int → Int → Bool → Int → Int → Int → Int → List Bool → Int → Int → Option (List Int)
  | 0, _, _, _, _, _, _, _, _, _, _, _, _, _ => none
  | k + 1, x0, x3, x4, x5, x6, x7, x13, x14, x31, x32, x51, x52, x53 => if x53 < x52 then (if 0 ≤ x53 then (if x53 < (x51.length : Int) then (if x7 = true then (if x53 = x5 then (dom_Least.l2 k x0 x3 x4 x5 x6 true x13 x14 x31 x32 x51 x52 (wrap64 (x53 + 1))) else (if x53 = x6 then (dom_Least.l2 k x0 x3 x4 x5 x6 true x13 x14 x31 x32 x51 x52 (wrap64 (x53 + 1))) else (if rdOf false x51 x53 = true then (if 0 ≤ x6 then (if x6 < (x3.length : Int) then (if x53 < ((rd_L2 x3 x6).length : Int) then (dom_Least.l2 k x0 x3 x4 x5 x6 (rdOf false (rd_L2 x3 x6) x53) x13 x14 x31 x32 x51 x52 (wrap64 (x53 + 1))) else (none)) else (none)) else (none)) else (dom_Least.l2 k x0 x3 x4 x5 x6 true x13 x14 x31 x32 x51 x52 (wrap64 (x53 + 1)))))) else (dom_Least.l2 k x0 x3 x4 x5 x6 false x13 x14 x31 x32 x51 x52 (wrap64 (x53 + 1)))) else (none)) else (none)) else (if x7 = true then (if 0 ≤ x5 then (if x5 < (x4.length : Int) then (dom_Least.l0 k x0 x3 (x4.set (x5 : Int).toNat x6) x13 (wrap64 (x14 + 1))) else (none)) else (none)) else (dom_Least.l1 k x0 x3 x4 x5 x13 x14 x31 (wrap64 (x32 + 1))))
end
def dom_Least.f (k : Nat) (l0 : List (List Int)) : Option (List Int) := (dom_Post.f k l0).bind fun t105 => (dom_Least.l0 k l0 t105 ([] : List Int) (l0.length : Int) 0)
theorem dom_Least.mono_l : ∀ k, (∀ y0 y1 y2 y3 y4, LeO (dom_Least.l0 k y0 y1 y2 y3 y4) (dom_Least.l0 (k + 1) y0 y1 y2 y3 y4)) ∧ (∀ y0 y1 y2 y3 y4 y5 y6 y7, LeO (dom_Least.l1 k y0 y1 y2 y3 y4 y5 y6 y7) (dom_Least.l1 (k + 1) y0 y1 y2 y3 y4 y5 y6 y7)) ∧ (∀ y0 y1 y2 y3 y4 y5 y6 y7 y8 y9, LeO (dom_Least.j2 k y0 y1 y2 y3 y4 y5 y6 y7 y8 y9) (dom_Least.j2 (k + 1) y0 y1 y2 y3 y4 y5 y6 y7 y8 y9)) ∧ (∀ y0 y1 y2 y3 y4 y5 y6 y7 y8 y9 y10 y11 y12, LeO (dom_Least.l2 k y0 y1 y2 y3 y4 y5 y6 y7 y8 y9 y10 y11 y12) (dom_Least.l2 (k + 1) y0 y1 y2 y3 y4 y5 y6 y7 y8 y9 y10 y11 y12))
  | 0 => ⟨fun _ _ _ _ _ r h => by simp [dom_Least.l0] at h, fun _ _ _ _ _ _ _ _ r h => by simp [dom_Least.l1] at h, fun _ _ _ _ _ _ _ _ _ _ r h => by simp [dom_Least.j2] at h, fun _ _ _ _ _ _ _ _ _ _ _ _ _ r h => by simp [dom_Least.l2] at h⟩
  | k + 1 => by
    obtain ⟨ih0, ih1, ih2, ih3⟩ := dom_Least.mono_l k
    refine ⟨?_, ?_, ?_, ?_⟩
    · intro y0 y1 y2 y3 y4
      unfold dom_Least.l0
      repeat' first
      | (with_reducible exact ih0 _ _ _ _ _)
      | (with_reducible exact ih1 _ _ _ _ _ _ _ _)
      | (with_reducible exact ih2 _ _ _ _ _ _ _ _ _ _)
      | (with_reducible exact ih3 _ _ _ _ _ _ _ _ _ _ _ _ _)
      | (with_reducible exact dom_Post.mono _ _)
      | (with_reducible exact dom_Reach.mono _ _ _)
      | (with_reducible exact LeO.refl _)
      | (with_reducible exact LeO.none _)
      | (with_reducible refine LeO.ite ?_ ?_)
      | (with_reducible refine LeO.bind ?_ (fun _ => ?_))
      | exact ih0 _ _ _ _ _
      | exact ih1 _ _ _ _ _ _ _ _
      | exact ih2 _ _ _ _ _ _ _ _ _ _
      | exact ih3 _ _ _ _ _ _ _ _ _ _ _ _ _
      | exact dom_Post.mono _ _
      | exact dom_Reach.mono _ _ _
      | exact LeO.none _
      | refine LeO.ite ?_ ?_
      | refine LeO.bind ?_ (fun _ => ?_)
    · intro y0 y1 y2 y3 y4 y5 y6 y7
      unfold dom_Least.l1
      repeat' first
      | (with_reducible exact ih0 _ _ _ _ _)
      | (with_reducible exact ih1 _ _ _ _ _ _ _ _)
      | (with_reducible exact ih2 _ _ _ _ _ _ _ _ _ _)
      | (with_reducible exact ih3 _ _ _ _ _ _ _ _ _ _ _ _ _)
      | (with_reducible exact dom_Post.mono _ _)
      | (with_reducible exact dom_Reach.mono _ _ _)
      | (with_reducible exact LeO.refl _)
      | (with_reducible exact LeO.none _)
      | (with_reducible refine LeO.ite ?_ ?_)
      | (with_reducible refine LeO.bind ?_ (fun _ => ?_))
      | exact ih0 _ _ _ _ _
      | exact ih1 _ _ _ _ _ _ _ _
      | exact ih2 _ _ _ _ _ _ _ _ _ _
      | exact ih3 _ _ _ _ _ _ _ _ _ _ _ _ _
      | exact dom_Post.mono _ _
      | exact dom_Reach.mono _ _ _
      | exact LeO.none _
      | refine LeO.ite ?_ ?_
      | refine LeO.bind ?_ (fun _ => ?_)
    · intro y0 y1 y2 y3 y4 y5 y6 y7 y8 y9
      unfold dom_Least.j2
      repeat' first
      | (with_reducible exact ih0 _ _ _ _ _)
      | (with_reducible exact ih1 _ _ _ _ _ _ _ _)
      | (with_reducible exact ih2 _ _ _ _ _ _ _ _ _ _)
      | (with_reducible exact ih3 _ _ _ _ _ _ _ _ _ _ _ _ _)
      | (with_reducible exact dom_Post.mono _ _)
      | (with_reducible exact dom_Reach.mono _ _ _)
      | (with_reducible exact LeO.refl _)
      | (with_reducible exact LeO.none _)
      | (with_reducible refine LeO.ite ?_ ?_)
      | (with_reducible refine LeO.bind ?_ (fun _ => ?_))
      | exact ih0 _ _ _ _ _
      | exact ih1 _ _ _ _ _ _ _ _
      | exact ih2 _ _ _ _ _ _ _ _ _ _
      | exact ih3 _ _ _ _ _ _ _ _ _ _ _ _ _
      | exact dom_Post.mono _ _
      | exact dom_Reach.mono _ _ _
      | exact LeO.none _
      | refine LeO.ite ?_ ?_
      | refine LeO.bind ?_ (fun _ => ?_)
    · intro y0 y1 y2 y3 y4 y5 y6 y7 y8 y9 y10 y11 y12
      unfold dom_Least.l2
      repeat' first
      | (with_reducible exact ih0 _ _ _ _ _)
      | (with_reducible exact ih1 _ _ _ _ _ _ _ _)
      | (with_reducible exact ih2 _ _ _ _ _ _ _ _ _ _)
      | (with_reducible exact ih3 _ _ _ _ _ _ _ _ _ _ _ _ _)
      | (with_reducible exact dom_Post.mono _ _)
      | (with_reducible exact dom_Reach.mono _ _ _)
      | (with_reducible exact LeO.refl _)
      | (with_reducible exact LeO.none _)
      | (with_reducible refine LeO.ite ?_ ?_)
      | (with_reducible refine LeO.bind ?_ (fun _ => ?_))
      | exact ih0 _ _ _ _ _
      | exact ih1 _ _ _ _ _ _ _ _
      | exact ih2 _ _ _ _ _ _ _ _ _ _
      | exact ih3 _ _ _ _ _ _ _ _ _ _ _ _ _
      | exact dom_Post.mono _ _
      | exact dom_Reach.mono _ _ _
      | exact LeO.none _
      | refine LeO.ite ?_ ?_
      | refine LeO.bind ?_ (fun _ => ?_)
theorem dom_Least.mono : ∀ a0 k, LeO (dom_Least.f k a0) (dom_Least.f (k + 1) a0) := by
  intro a0 k
  obtain ⟨ih0, ih1, ih2, ih3⟩ := dom_Least.mono_l k
  unfold dom_Least.f
  repeat' first
      | (with_reducible exact ih0 _ _ _ _ _)
      | (with_reducible exact ih1 _ _ _ _ _ _ _ _)
      | (with_reducible exact ih2 _ _ _ _ _ _ _ _ _ _)
      | (with_reducible exact ih3 _ _ _ _ _ _ _ _ _ _ _ _ _)
      | (with_reducible exact dom_Post.mono _ _)
      | (with_reducible exact dom_Reach.mono _ _ _)
      | (with_reducible exact LeO.refl _)
      | (with_reducible exact LeO.none _)
      | (with_reducible refine LeO.ite ?_ ?_)
      | (with_reducible refine LeO.bind ?_ (fun _ => ?_))
      | exact ih0 _ _ _ _ _
      | exact ih1 _ _ _ _ _ _ _ _
      | exact ih2 _ _ _ _ _ _ _ _ _ _
      | exact ih3 _ _ _ _ _ _ _ _ _ _ _ _ _
      | exact dom_Post.mono _ _
      | exact dom_Reach.mono _ _ _
      | exact LeO.none _
      | refine LeO.ite ?_ ?_
      | refine LeO.bind ?_ (fun _ => ?_)
set_option maxHeartbeats 8000000 in
set_option maxRecDepth 100000 in
theorem dom_Least.calls (k : Nat) (A0 : Option Addr) (c0 : Nat) (l0 : List (List Int)) (r : List Int) (w : World) (hr0 : Kd.C (Kd.slice 3 (Kd.int .i64)) w A0 l0.length l0) (hc0 : l0.length ≤ c0) (h : dom_Least.f k l0 = some r) :
    Calls Try.prog 34 #[.slice A0 l0.length c0] w fun e w' => ∃ v0_ : Value, e = .returned (v0_) ∧ Kd.R (Kd.int .i64) 3 w' w.heap.size (fun _ => True) v0_ r ∧ Below w.heap.size w w' := by
  have HR0 := Aside0.mk hr0
  have HC0 := Aside0.mk hc0
  clear hr0 hc0
  have HB := Aside0.mk (Below.refl w.heap.size w)
  have H : ((dom_Post.f k l0).bind fun t105 => (dom_Least.l0 k l0 t105 ([] : List Int) (l0.length : Int) 0)) = some r := h
  clear h
  replace H := Option.bind_eq_some_iff.mp H
  obtain ⟨t105, A20, H⟩ := H
  replace H : (dom_Least.l0 k l0 t105 ([] : List Int) (l0.length : Int) 0) = some r := H
  have A2 := Aside0.mk A20
  clear A20
  have H' := Aside0.mk H
  clear H
  go_enter Try.func34, Try.ntmps34
  go_wp2_with (first | ((with_reducible refine gate_callee (f := 31) rfl ?_); refine goesL_ (some 11) rfl rfl Try.func31 (by kernel_rfl) rfl #[.slice A0 l0.length c0] rfl (by (try simp only [List.map_toArray, List.map_cons, List.map_nil]); first | done | rfl | (simp only [List.length_drop, List.length_take]; rfl)) ?_; (with_reducible refine (dom_Post.calls k _ _ l0 t105 _ ?side1 ?side2 A2.out).mono ?_); (case side1 => repeat (first | exact HR0.out | (with_reducible refine Kd.C_alloc ?_ _) | (with_reducible refine Kd.C_drewN ?_ _) | (with_reducible refine Kd.C_drew ?_))); (case side2 => exact HC0.out); rintro e w3 ⟨v106, rfl, ho0, hb⟩; refine ⟨_, rfl, ?_⟩; have n0_ := Aside0.mk (Kd.S_lower ho0 (below_size (by repeat (first | (with_reducible first | exact HB.out | apply below_alloc | apply pw_below_drewN | apply below_drew1) | exact HB.out)))); have n1_ := Aside0.mk (below_step (by repeat (first | (with_reducible first | exact HB.out | apply below_alloc | apply pw_below_drewN | apply below_drew1) | exact HB.out)) hb); clear HB; have HO107 := n0_; have HB := n1_; clear n0_ n1_; (try clear hb); (try clear hb2); (try clear hk); (try clear hi); (try clear ho0)))
  go_loopg [4, 14] k (fun kq v4 v14 w' => ∃ (x4_1 : List Int) (x14_1 : Int), v14 = .int .i64 x14_1 ∧ Aside0 (dom_Least.l0 kq l0 t105 x4_1 (l0.length : Int) x14_1 = some r) ∧ Aside0 (kq ≤ k) ∧ Aside0 (Kd.S (Kd.slice 4 Kd.bool) 57 w' w.heap.size (fun _ => True) v106 t105) ∧ Aside0 (Kd.R (Kd.int .i64) 3 w' w.heap.size (fun _ => True) v4 x4_1) ∧ Aside0 (Below w.heap.size w w'))
  case atStart => exact ⟨(([] : List Int)), (0), (by first | rfl | (simp; done) | (simp [*]; done)), H', ⟨Nat.le_refl _⟩, ⟨by (with_reducible repeat (first | apply Kd.S_alloc | apply Kd.S_drewN | apply Kd.S_drew)); exact HO107.out⟩, ⟨by first | exact Kd.R_nil _ _ _ _ _ | exact Kd.N_nil _ _ _ _ _ | exact Kd.V_nil _ _ _ _ _ | exact Kd.Q_nil _ _ _ _ _ | exact Kd.S_nil _ _ _ _ _⟩, ⟨by repeat (first | (with_reducible first | exact HB.out | apply below_alloc | apply pw_below_drewN | apply below_drew1) | exact HB.out)⟩⟩
  case round =>
    clear H'
    try clear p2
    try clear c3
    obtain ⟨x4_1, x14_1, rfl, HA, HK1, HO_3, HO_4, HB⟩ := hrel
    cases gk with
    | zero => exact absurd HA.out (by simp [dom_Least.l0])
    | succ k1 =>
      have H := HA.out
      clear HA
      simp only [dom_Least.l0] at H
      by_cases c4 : x14_1 < (l0.length : Int)
      · rw [if_pos c4] at H
        have c4b0 : decide (x14_1 < (l0.length : Int)) = true := decide_eq_true c4
        clear c4
        by_cases c5 : x4_1.length < 17592186044416
        · rw [if_pos c5] at H
          have LMc5 := Aside0.mk c5
          clear c5
          obtain ⟨y108, hy108⟩ : ∃ y_ : List Int, y_ = (x4_1 ++ [(-1)]) := ⟨_, rfl⟩
          replace H : ((dom_Reach.f k1 l0 (([x14_1] : List Int))).bind fun t114 => (if 0 ≤ (wrap64 ((l0.length : Int) - 1)) then (if (wrap64 ((l0.length : Int) - 1)) < (t114.length : Int) then (if (rdOf false t114 (wrap64 ((l0.length : Int) - 1)) = true) then (dom_Least.l1 k1 l0 t105 y108 x14_1 (l0.length : Int) x14_1 (l0.length : Int) 0) else (dom_Least.l0 k1 l0 t105 y108 (l0.length : Int) (wrap64 (x14_1 + 1)))) else (none)) else (none))) = some r := by first | (rw [hy108]; with_reducible exact H) | (have H2_ := (Option.bind_some _ _).symm.trans H; rw [hy108]; with_reducible exact H2_) | (have H2_ := (Option.bind_some _ _).symm.trans H; with_reducible exact H2_) | with_reducible exact H | (rw [hy108]; exact H) | exact H
          have Ny108 := Aside0.mk hy108
          clear hy108
          obtain ⟨y111, hy111⟩ : ∃ y_ : List Int, y_ = (([x14_1] : List Int)) := ⟨_, rfl⟩
          replace H : ((dom_Reach.f k1 l0 y111).bind fun t114 => (if 0 ≤ (wrap64 ((l0.length : Int) - 1)) then (if (wrap64 ((l0.length : Int) - 1)) < (t114.length : Int) then (if (rdOf false t114 (wrap64 ((l0.length : Int) - 1)) = true) then (dom_Least.l1 k1 l0 t105 y108 x14_1 (l0.length : Int) x14_1 (l0.length : Int) 0) else (dom_Least.l0 k1 l0 t105 y108 (l0.length : Int) (wrap64 (x14_1 + 1)))) else (none)) else (none))) = some r := by first | (rw [hy111]; with_reducible exact H) | (have H2_ := (Option.bind_some _ _).symm.trans H; rw [hy111]; with_reducible exact H2_) | (have H2_ := (Option.bind_some _ _).symm.trans H; with_reducible exact H2_) | with_reducible exact H | (rw [hy111]; exact H) | exact H
          have Ny111 := Aside0.mk hy111
          clear hy111
          replace H := Option.bind_eq_some_iff.mp H
          obtain ⟨t114, A60, H⟩ := H
          replace H : (if 0 ≤ (wrap64 ((l0.length : Int) - 1)) then (if (wrap64 ((l0.length : Int) - 1)) < (t114.length : Int) then (if (rdOf false t114 (wrap64 ((l0.length : Int) - 1)) = true) then (dom_Least.l1 k1 l0 t105 y108 x14_1 (l0.length : Int) x14_1 (l0.length : Int) 0) else (dom_Least.l0 k1 l0 t105 y108 (l0.length : Int) (wrap64 (x14_1 + 1)))) else (none)) else (none)) = some r := H
          have A6 := Aside0.mk A60
          clear A60
          obtain ⟨ji7, hji7⟩ : ∃ j_ : Int, (wrap64 ((l0.length : Int) - 1)) = j_ := ⟨_, rfl⟩
          replace H : (if 0 ≤ (ji7) then (if (ji7) < (t114.length : Int) then (if (rdOf false t114 (ji7) = true) then (dom_Least.l1 k1 l0 t105 y108 x14_1 (l0.length : Int) x14_1 (l0.length : Int) 0) else (dom_Least.l0 k1 l0 t105 y108 (l0.length : Int) (wrap64 (x14_1 + 1)))) else (none)) else (none)) = some r := by first | (rw [hji7] at H; exact H) | (simp only [hji7] at H ⊢; exact H)
          (try rw [hji7] at A6)
          have hji7w : (IntKind.i64.wrap ((l0.length : Int) - 1)) = ji7 := (i64_w _).trans hji7
          by_cases c8 : 0 ≤ (ji7)
          · rw [if_pos c8] at H
            have c8b0 : decide (0 ≤ (ji7)) = true := decide_eq_true c8
            clear c8
            by_cases c9 : (ji7) < (t114.length : Int)
            · rw [if_pos c9] at H
              have c9b0 : decide ((ji7) < (t114.length : Int)) = true := decide_eq_true c9
              clear c9
              obtain ⟨bq10, hbq10⟩ : ∃ b_ : Bool, b_ = (rdOf false t114 (ji7)) := ⟨_, rfl⟩
              replace H : (if (bq10 = true) then (dom_Least.l1 k1 l0 t105 y108 x14_1 (l0.length : Int) x14_1 (l0.length : Int) 0) else (dom_Least.l0 k1 l0 t105 y108 (l0.length : Int) (wrap64 (x14_1 + 1)))) = some r := by rw [← hbq10] at H; exact H
              have Nbq10 := Aside0.mk hbq10
              clear hbq10
              by_cases c11 : (bq10 = true)
              · subst c11
                have H1 : (dom_Least.l1 k1 l0 t105 y108 x14_1 (l0.length : Int) x14_1 (l0.length : Int) 0) = some r := by first | (rw [if_pos rfl] at H; exact H) | (rw [if_pos trivial] at H; exact H)
                clear H
                have H := H1
                clear H1
                have H' := Aside0.mk H
                clear H
                go_wp2_with (first | ((with_reducible refine gate_builtin (b := .append) (xs := #[.tmp 17, .tmp 18]) rfl ?_); at_builtin; refine Kd.R_append (Kd.int .i64) (w0 := w) w.heap.size rfl (.tmp 17) (.tmp 18) 54 3 (.int .i64 0) 8 rfl Try.underlying54 info3 rfl (by decide) (by omega) u4 x4_1 (-1) [.int .i64 (-1)] (fun _ => True) (fun _ => False) rfl rfl ?aP (fun _ hk => hk.elim) ?aF ?aO ?aB ?aS ?aL ?_; (case aP => first | exact rfl | exact ⟨_, rfl, Kd.R_nil _ _ _ _ _⟩); (case aB => exact (by repeat (first | (with_reducible first | exact HB.out | apply below_alloc | apply pw_below_drewN | apply below_drew1) | exact HB.out))); (case aF => exact (fun _ _ => trivial)); (case aO => exact (by (with_reducible repeat (first | apply Kd.R_alloc | apply Kd.R_drewN | apply Kd.R_drew)); exact HO_4.out)); (case aS => exact (below_size (by repeat (first | (with_reducible first | exact HB.out | apply below_alloc | apply pw_below_drewN | apply below_drew1) | exact HB.out)))); (case aL => have := LMc5.out; omega); intro v109 w12 ho hb hg hat; rw [← Ny108.out] at ho; have n0_ := Aside0.mk (Kd.S_over' (by (with_reducible repeat (first | apply Kd.S_alloc | apply Kd.S_drewN | apply Kd.S_drew)); exact HO_3.out) (Kd.R_typed (by (with_reducible repeat (first | apply Kd.R_alloc | apply Kd.R_drewN | apply Kd.R_drew)); exact HO_4.out)) (by decide) hg); have n1_ := Aside0.mk (hb); have n2_ := Aside0.mk (ho); clear HO_3; clear HB; clear HO_4; have HO_3 := n0_; have HB := n1_; have HO110 := n2_; clear n0_ n1_ n2_; clear ho hb hg hat) | ((with_reducible refine gate_dst (N := 22) rfl ?_); refine Kd.R_lit (Kd.int .i64) _ 3 ?hg (N := 22) ?hd (xs := ([x14_1] : List Int)) (inner := [.int .i64 x14_1]) (ok := fun _ => True) (okp := fun _ => True) ?hr ?hp (fun _ hk => hk) trivial (Below.refl _ _) (Nat.le_refl _) (by simp) ?_; (case hd => rfl); (case hg => rfl); (case hr => first | (go_simp; done) | (go_simp; rfl)); (case hp => exact (Reps.one (show Kd.M (Kd.int .i64) _ _ _ x14_1 [.int .i64 x14_1] from rfl) (Reps.none _ _))); intro v112 w13 ho14 hb hg_ hnew_; clear hg_ hnew_; (first | rw [← Ny111.out] at ho14 | (simp only [Int.reduceToNat] at ho14; rw [← Ny111.out] at ho14)); have n0_ := Aside0.mk (Kd.S_below (by (with_reducible repeat (first | apply Kd.S_alloc | apply Kd.S_drewN | apply Kd.S_drew)); exact HO_3.out) hb); have n1_ := Aside0.mk (Kd.R_elder' (by (with_reducible repeat (first | apply Kd.R_alloc | apply Kd.R_drewN | apply Kd.R_drew)); exact HO110.out) (Kd.R_base ho14) hb); have n2_ := Aside0.mk (Kd.R_lower (Kd.R_new' ho14 (Kd.R_lt (by (with_reducible repeat (first | apply Kd.R_alloc | apply Kd.R_drewN | apply Kd.R_drew)); exact HO110.out))) (below_size (by repeat (first | (with_reducible first | exact HB.out | apply below_alloc | apply pw_below_drewN | apply below_drew1) | exact HB.out)))); have n3_ := Aside0.mk (below_step (by repeat (first | (with_reducible first | exact HB.out | apply below_alloc | apply pw_below_drewN | apply below_drew1) | exact HB.out)) hb); clear HO_3; clear HO110; clear HB; have HO_3 := n0_; have HO110 := n1_; have HO113 := n2_; have HB := n3_; clear n0_ n1_ n2_ n3_; clear hb ho14; obtain ⟨Ao15, co15, eo15⟩ := Kd.R_slice HO113.out; subst eo15) | ((with_reducible refine gate_callee (f := 29) rfl ?_); refine goesL_ (some 23) rfl rfl Try.func29 (by kernel_rfl) rfl #[.slice A0 l0.length c0, .slice Ao15 y111.length co15] rfl (by (try simp only [List.map_toArray, List.map_cons, List.map_nil]); first | done | rfl | (simp only [List.length_drop, List.length_take]; rfl)) ?_; (with_reducible refine (dom_Reach.calls k1 _ _ l0 _ _ y111 t114 _ ?side1 ?side2 ?side3 ?side4 A6.out).mono ?_); (case side1 => repeat (first | exact (Kd.C_below HR0.out HB.out) | (with_reducible refine Kd.C_alloc ?_ _) | (with_reducible refine Kd.C_drewN ?_ _) | (with_reducible refine Kd.C_drew ?_))); (case side2 => exact HC0.out); (case side3 => repeat (first | exact (Kd.R_reads' HO113.out).2.2 | (with_reducible refine Kd.C_alloc ?_ _) | (with_reducible refine Kd.C_drewN ?_ _) | (with_reducible refine Kd.C_drew ?_))); (case side4 => exact (Kd.R_reads' HO113.out).2.1); rintro e w16 ⟨v115, rfl, ho0, hb⟩; refine ⟨_, rfl, ?_⟩; have n0_ := Aside0.mk (Kd.S_elder' (by (with_reducible repeat (first | apply Kd.S_alloc | apply Kd.S_drewN | apply Kd.S_drew)); exact HO_3.out) (Kd.R_base ho0) hb); have n1_ := Aside0.mk (Kd.R_below (by (with_reducible repeat (first | apply Kd.R_alloc | apply Kd.R_drewN | apply Kd.R_drew)); exact HO110.out) hb); have n2_ := Aside0.mk (Kd.R_below (by (with_reducible repeat (first | apply Kd.R_alloc | apply Kd.R_drewN | apply Kd.R_drew)); exact HO113.out) hb); have n3_ := Aside0.mk (Kd.R_lower ho0 (below_size (by repeat (first | (with_reducible first | exact HB.out | apply below_alloc | apply pw_below_drewN | apply below_drew1) | exact HB.out)))); have n4_ := Aside0.mk (below_step (by repeat (first | (with_reducible first | exact HB.out | apply below_alloc | apply pw_below_drewN | apply below_drew1) | exact HB.out)) hb); clear HO_3; clear HO110; clear HO113; clear HB; have HO_3 := n0_; have HO110 := n1_; have HO113 := n2_; have HO116 := n3_; have HB := n4_; clear n0_ n1_ n2_ n3_ n4_; (try clear hb); (try clear hb2); (try clear hk); (try clear hi); (try clear ho0); obtain ⟨Ao17, co17, eo17⟩ := Kd.R_slice HO116.out; subst eo17; have p117 : 0 ≤ ((ji7) : Int) := of_decide_eq_true (by first | (with_reducible assumption) | assumption); have q117 : (ji7) < (t114.length : Int) := of_decide_eq_true (by first | (with_reducible assumption) | assumption); obtain ⟨ad117, e117, hx117_0⟩ := Kd.at_bool (Kd.R_reads' HO116.out).2.2 (ji7) p117 q117; (try rw [← Nbq10.out] at hx117_0); cases e117; replace p117 := eq_true p117; replace q117 := eq_true q117))
                go_loopg [32] k1 (fun kq v32 w' => ∃ (x4_2 : List Int) (x32_2 : Int), v32 = .int .i64 x32_2 ∧ Aside0 (dom_Least.l1 kq l0 t105 x4_2 x14_1 (l0.length : Int) x14_1 (l0.length : Int) x32_2 = some r) ∧ Aside0 (kq ≤ k1) ∧ Aside0 (Kd.S (Kd.slice 4 Kd.bool) 57 w' w.heap.size (fun _ => True) v106 t105) ∧ Aside0 (Kd.R (Kd.int .i64) 3 w' w.heap.size (fun _ => True) v109 x4_2) ∧ Aside0 (Below w.heap.size w w'))
                case atStart => exact ⟨(y108), (0), (by first | rfl | (simp; done) | (simp [*]; done)), H', ⟨Nat.le_refl _⟩, ⟨by (with_reducible repeat (first | apply Kd.S_alloc | apply Kd.S_drewN | apply Kd.S_drew)); exact Kd.S_mono HO_3.out (fun _ hk => trivial)⟩, ⟨by (with_reducible repeat (first | apply Kd.R_alloc | apply Kd.R_drewN | apply Kd.R_drew)); exact Kd.R_mono HO110.out (fun _ hk => trivial)⟩, ⟨by repeat (first | (with_reducible first | exact HB.out | apply below_alloc | apply pw_below_drewN | apply below_drew1) | exact HB.out)⟩⟩
                case round =>
                  clear H'
                  try clear c1
                  try clear p1
                  try clear q1
                  try clear hx1
                  try clear c2
                  try clear p2
                  try clear c3
                  try clear c4
                  try clear c4b0
                  try clear c5
                  try clear p6
                  try clear c8
                  try clear c8b0
                  try clear c9
                  try clear c9b0
                  try clear q10
                  try clear c11
                  try clear p11
                  try clear q11
                  try clear hx11
                  try clear hx117_0
                  try clear p117
                  try clear p2
                  try clear q117
                  obtain ⟨x4_2, x32_2, rfl, HA, HK2, HO_3, HO_4, HB⟩ := hrel
                  cases gk with
                  | zero => exact absurd HA.out (by simp [dom_Least.l1])
                  | succ k2 =>
                    have H := HA.out
                    clear HA
                    simp only [dom_Least.l1] at H
                    by_cases c18 : x32_2 < (l0.length : Int)
                    · rw [if_pos c18] at H
                      have c18b0 : decide (x32_2 < (l0.length : Int)) = true := decide_eq_true c18
                      clear c18
                      have HC19 := Aside0.mk H
                      clear H
                      go_upto_region 11 with (fail)
                      go_cut [47] (fun v47 wc => ∃ (kq : Nat) (x47_18 : Bool), v47 = .bool x47_18 ∧ Aside0 (dom_Least.j2 kq l0 t105 x4_2 x14_1 x32_2 (l0.length : Int) x14_1 (l0.length : Int) x32_2 x47_18 = some r) ∧ Aside0 (kq ≤ k2) ∧ Aside0 (Kd.S (Kd.slice 4 Kd.bool) 57 wc w.heap.size (fun _ => True) v106 t105) ∧ Aside0 (Kd.R (Kd.int .i64) 3 wc w.heap.size (fun _ => True) v109 x4_2) ∧ Aside0 (Below w.heap.size w wc))
                      case first =>
                        have H := HC19.out
                        clear HC19
                        by_cases c20 : x32_2 = x14_1
                        · rw [if_pos c20] at H
                          have c20b0 : (x32_2 == x14_1) = true := beq_iff_eq.mpr c20
                          have c20b1 : (x32_2 != x14_1) = false := bne_eq_false_iff_eq.mpr c20
                          clear c20
                          (first | rw [c20b0] | (simp only [i64_w, i32_w]; rw [c20b0]) | skip)
                          have H' := Aside0.mk H
                          clear H
                          go_wp2
                          go_meet
                          case rel => exact ⟨_, (true), (by first | rfl | (simp; done) | (simp [*]; done)), H', ⟨by have := HK1.out; have := HK2.out; first | omega | exact Nat.le_refl _⟩, ⟨by (with_reducible repeat (first | apply Kd.S_alloc | apply Kd.S_drewN | apply Kd.S_drew)); exact HO_3.out⟩, ⟨by (with_reducible repeat (first | apply Kd.R_alloc | apply Kd.R_drewN | apply Kd.R_drew)); exact HO_4.out⟩, ⟨by repeat (first | (with_reducible first | exact HB.out | apply below_alloc | apply pw_below_drewN | apply below_drew1) | exact HB.out)⟩⟩
                        · rw [if_neg c20] at H
                          have c20b0 : (x32_2 == x14_1) = false := beq_eq_false_iff_ne.mpr c20
                          have c20b1 : (x32_2 != x14_1) = true := bne_iff_ne.mpr c20
                          (first | rw [c20b0] | (simp only [i64_w, i32_w]; rw [c20b0]) | skip)
                          by_cases c21 : 0 ≤ x14_1
                          · rw [if_pos c21] at H
                            have c21b0 : decide (0 ≤ x14_1) = true := decide_eq_true c21
                            clear c21
                            by_cases c22 : x14_1 < (t105.length : Int)
                            · rw [if_pos c22] at H
                              have c22b0 : decide (x14_1 < (t105.length : Int)) = true := decide_eq_true c22
                              clear c22
                              by_cases c23 : 0 ≤ x32_2
                              · rw [if_pos c23] at H
                                have c23b0 : decide (0 ≤ x32_2) = true := decide_eq_true c23
                                clear c23
                                by_cases c24 : x32_2 < ((rd_L2 t105 x14_1).length : Int)
                                · rw [if_pos c24] at H
                                  have c24b0 : decide (x32_2 < ((rd_L2 t105 x14_1).length : Int)) = true := decide_eq_true c24
                                  clear c24
                                  have H' := Aside0.mk H
                                  clear H
                                  obtain ⟨Ao25, co25, eo25⟩ := Kd.S_slice HO_3.out
                                  subst eo25
                                  have p118 : 0 ≤ (x14_1 : Int) := of_decide_eq_true (by first | (with_reducible assumption) | assumption)
                                  have q118 : x14_1 < (t105.length : Int) := of_decide_eq_true (by first | (with_reducible assumption) | assumption)
                                  obtain ⟨ad118, A118_0, c118_0, e118, hx118_0, hl118_0, hi118_0⟩ := at_L2 (Kd.S_reads' HO_3.out).2.2 x14_1 p118 q118
                                  cases e118
                                  obtain ⟨ce118, hce118, hMe118, hcc118⟩ := Kd.S_get HO_3.out [] x14_1 p118 (by first | exact q118 | exact of_decide_eq_true (by first | (with_reducible assumption) | assumption) | (have e_ := (Kd.S_reads' HO_3.out).1; omega))
                                  obtain ⟨ve118_0, rfl, ge118_0⟩ := hMe118
                                  have hv118_0 := hcc118 0 _ rfl
                                  rw [Nat.add_zero, show ((Kd.slice 4 Kd.bool)).sz = 1 from rfl, Nat.mul_one] at hv118_0
                                  replace hv118_0 := Option.some.inj (hv118_0.symm.trans hx118_0)
                                  rw [hv118_0] at ge118_0
                                  have HL118_0 := Aside0.mk (show Kd.R Kd.bool 4 _ _ _ _ (rd_L2 t105 x14_1) from ge118_0)
                                  clear hv118_0 ge118_0
                                  clear hcc118 hce118
                                  have HR118_0 := Aside0.mk hi118_0
                                  have HC118_0 := Aside0.mk hl118_0
                                  clear hi118_0 hl118_0
                                  replace p118 := eq_true p118
                                  replace q118 := eq_true q118
                                  have p119 : 0 ≤ (x32_2 : Int) := of_decide_eq_true (by first | (with_reducible assumption) | assumption)
                                  have q119 : x32_2 < ((rd_L2 t105 x14_1).length : Int) := of_decide_eq_true (by first | (with_reducible assumption) | assumption)
                                  obtain ⟨ad119, e119, hx119_0⟩ := Kd.at_bool (by repeat (first | (with_reducible exact HR118_0.out) | (with_reducible refine Kd.C_alloc ?_ _) | (with_reducible refine Kd.C_drewN ?_ _) | (with_reducible refine Kd.C_drew ?_) | exact HR118_0.out)) x32_2 p119 q119
                                  (try rw [← Nbq10.out] at hx119_0)
                                  cases e119
                                  replace p119 := eq_true p119
                                  replace q119 := eq_true q119
                                  go_wp2
                                  go_meet
                                  case rel => exact ⟨_, (!(rdOf false (rd_L2 t105 x14_1) x32_2)), (by first | rfl | (simp; done) | (simp [*]; done)), H', ⟨by have := HK1.out; have := HK2.out; first | omega | exact Nat.le_refl _⟩, ⟨by (with_reducible repeat (first | apply Kd.S_alloc | apply Kd.S_drewN | apply Kd.S_drew)); exact HO_3.out⟩, ⟨by (with_reducible repeat (first | apply Kd.R_alloc | apply Kd.R_drewN | apply Kd.R_drew)); exact HO_4.out⟩, ⟨by repeat (first | (with_reducible first | exact HB.out | apply below_alloc | apply pw_below_drewN | apply below_drew1) | exact HB.out)⟩⟩
                                · rw [if_neg c24] at H
                                  exact absurd H (by simp)
                              · rw [if_neg c23] at H
                                exact absurd H (by simp)
                            · rw [if_neg c22] at H
                              exact absurd H (by simp)
                          · rw [if_neg c21] at H
                            exact absurd H (by simp)
                      case rest =>
                        clear HC19
                        try clear c1
                        try clear p1
                        try clear q1
                        try clear hx1
                        try clear c2
                        try clear p2
                        try clear c3
                        try clear c4
                        try clear c4b0
                        try clear c5
                        try clear p6
                        try clear c8
                        try clear c8b0
                        try clear c9
                        try clear c9b0
                        try clear q10
                        try clear c11
                        try clear p11
                        try clear q11
                        try clear hx11
                        try clear c18
                        try clear c18b0
                        try clear c20
                        try clear c20b0
                        try clear c20b1
                        try clear c21
                        try clear c21b0
                        try clear c22
                        try clear c22b0
                        try clear c23
                        try clear c23b0
                        try clear c24
                        try clear c24b0
                        try clear hx117_0
                        try clear hx118_0
                        try clear hx119_0
                        try clear p1
                        try clear p11
                        try clear p117
                        try clear p118
                        try clear p119
                        try clear p2
                        try clear p6
                        try clear q1
                        try clear q10
                        try clear q11
                        try clear q117
                        try clear q118
                        try clear q119
                        obtain ⟨kq, x47_18, rfl, HA, HJ18, HO_3, HO_4, HB⟩ := hcut
                        cases kq with
                        | zero => exact absurd HA.out (by simp [dom_Least.j2])
                        | succ kj18 =>
                          have H := HA.out
                          clear HA
                          simp only [dom_Least.j2] at H
                          by_cases c26 : x47_18 = true
                          · subst c26
                            have H1 : (dom_Least.l1 kj18 l0 t105 x4_2 x14_1 (l0.length : Int) x14_1 (l0.length : Int) (wrap64 (x32_2 + 1))) = some r := by first | (rw [if_pos rfl] at H; exact H) | (rw [if_pos trivial] at H; exact H)
                            clear H
                            have H := H1
                            clear H1
                            have H' := Aside0.mk H
                            clear H
                            go_wp2
                            go_roundg kj18
                            case measure => have := HK1.out; have := HK2.out; have := HJ18.out; omega
                            case rel => exact ⟨(x4_2), (wrap64 (x32_2 + 1)), (by first | rfl | (simp; done) | (simp [*]; done)), H', ⟨by have := HK1.out; have := HK2.out; have := HJ18.out; omega⟩, ⟨by (with_reducible repeat (first | apply Kd.S_alloc | apply Kd.S_drewN | apply Kd.S_drew)); exact HO_3.out⟩, ⟨by (with_reducible repeat (first | apply Kd.R_alloc | apply Kd.R_drewN | apply Kd.R_drew)); exact HO_4.out⟩, ⟨by repeat (first | (with_reducible first | exact HB.out | apply below_alloc | apply pw_below_drewN | apply below_drew1) | exact HB.out)⟩⟩
                          · replace c26 := Bool.eq_false_iff.mpr c26
                            subst c26
                            have H1 : (if 0 ≤ x14_1 then (if x14_1 < (t105.length : Int) then (dom_Least.l2 kj18 l0 t105 x4_2 x14_1 x32_2 true (l0.length : Int) x14_1 (l0.length : Int) x32_2 (rd_L2 t105 x14_1) ((rd_L2 t105 x14_1).length : Int) 0) else (none)) else (none)) = some r := by rw [if_neg (show ¬ (false = true) by decide)] at H; exact H
                            clear H
                            have H := H1
                            clear H1
                            by_cases c27 : 0 ≤ x14_1
                            · rw [if_pos c27] at H
                              have c27b0 : decide (0 ≤ x14_1) = true := decide_eq_true c27
                              clear c27
                              by_cases c28 : x14_1 < (t105.length : Int)
                              · rw [if_pos c28] at H
                                have c28b0 : decide (x14_1 < (t105.length : Int)) = true := decide_eq_true c28
                                clear c28
                                have H' := Aside0.mk H
                                clear H
                                obtain ⟨Ao29, co29, eo29⟩ := Kd.S_slice HO_3.out
                                subst eo29
                                have p120 : 0 ≤ (x14_1 : Int) := of_decide_eq_true (by first | (with_reducible assumption) | assumption)
                                have q120 : x14_1 < (t105.length : Int) := of_decide_eq_true (by first | (with_reducible assumption) | assumption)
                                obtain ⟨ad120, A120_0, c120_0, e120, hx120_0, hl120_0, hi120_0⟩ := at_L2 (Kd.S_reads' HO_3.out).2.2 x14_1 p120 q120
                                cases e120
                                obtain ⟨ce120, hce120, hMe120, hcc120⟩ := Kd.S_get HO_3.out [] x14_1 p120 (by first | exact q120 | exact of_decide_eq_true (by first | (with_reducible assumption) | assumption) | (have e_ := (Kd.S_reads' HO_3.out).1; omega))
                                obtain ⟨ve120_0, rfl, ge120_0⟩ := hMe120
                                have hv120_0 := hcc120 0 _ rfl
                                rw [Nat.add_zero, show ((Kd.slice 4 Kd.bool)).sz = 1 from rfl, Nat.mul_one] at hv120_0
                                replace hv120_0 := Option.some.inj (hv120_0.symm.trans hx120_0)
                                rw [hv120_0] at ge120_0
                                have HL120_0 := Aside0.mk (show Kd.R Kd.bool 4 _ _ _ _ (rd_L2 t105 x14_1) from ge120_0)
                                clear hv120_0 ge120_0
                                clear hcc120 hce120
                                have HR120_0 := Aside0.mk hi120_0
                                have HC120_0 := Aside0.mk hl120_0
                                clear hi120_0 hl120_0
                                replace p120 := eq_true p120
                                replace q120 := eq_true q120
                                go_wp2
                                go_loopg [7, 53] kj18 (fun kq v7 v53 w' => ∃ (x7_4 : Bool) (x53_4 : Int), v7 = .bool x7_4 ∧ v53 = .int .i64 x53_4 ∧ Aside0 (dom_Least.l2 kq l0 t105 x4_2 x14_1 x32_2 x7_4 (l0.length : Int) x14_1 (l0.length : Int) x32_2 (rd_L2 t105 x14_1) ((rd_L2 t105 x14_1).length : Int) x53_4 = some r) ∧ Aside0 (kq ≤ kj18) ∧ Aside0 (Kd.S (Kd.slice 4 Kd.bool) 57 w' w.heap.size (fun _ => True) (.slice (some ad120) t105.length co29) t105) ∧ Aside0 (Kd.R (Kd.int .i64) 3 w' w.heap.size (fun _ => True) v109 x4_2) ∧ Aside0 (Kd.C Kd.bool w' A120_0 (rd_L2 t105 x14_1).length (rd_L2 t105 x14_1)) ∧ Aside0 (Below w.heap.size w w'))
                                case atStart => exact ⟨(true), (0), (by first | rfl | (simp; done) | (simp [*]; done)), (by first | rfl | (simp; done) | (simp [*]; done)), H', ⟨Nat.le_refl _⟩, ⟨by (with_reducible repeat (first | apply Kd.S_alloc | apply Kd.S_drewN | apply Kd.S_drew)); exact HO_3.out⟩, ⟨by (with_reducible repeat (first | apply Kd.R_alloc | apply Kd.R_drewN | apply Kd.R_drew)); exact HO_4.out⟩, ⟨by repeat (first | (with_reducible exact HR120_0.out) | (with_reducible refine Kd.C_alloc ?_ _) | (with_reducible refine Kd.C_drewN ?_ _) | (with_reducible refine Kd.C_drew ?_) | exact HR120_0.out)⟩, ⟨by repeat (first | (with_reducible first | exact HB.out | apply below_alloc | apply pw_below_drewN | apply below_drew1) | exact HB.out)⟩⟩
                                case round =>
                                  clear H'
                                  try clear c1
                                  try clear p1
                                  try clear q1
                                  try clear hx1
                                  try clear c2
                                  try clear p2
                                  try clear c3
                                  try clear c4
                                  try clear c4b0
                                  try clear c5
                                  try clear p6
                                  try clear c8
                                  try clear c8b0
                                  try clear c9
                                  try clear c9b0
                                  try clear q10
                                  try clear c11
                                  try clear p11
                                  try clear q11
                                  try clear hx11
                                  try clear c12
                                  try clear p12
                                  try clear q12
                                  try clear hx12
                                  try clear c18
                                  try clear c18b0
                                  try clear c20
                                  try clear c20b0
                                  try clear c20b1
                                  try clear c21
                                  try clear c21b0
                                  try clear c22
                                  try clear c22b0
                                  try clear c23
                                  try clear c23b0
                                  try clear c24
                                  try clear c24b0
                                  try clear c26
                                  try clear c27
                                  try clear c27b0
                                  try clear c28
                                  try clear c28b0
                                  try clear c29
                                  try clear hx117_0
                                  try clear hx118_0
                                  try clear hx119_0
                                  try clear hx120_0
                                  try clear p1
                                  try clear p11
                                  try clear p117
                                  try clear p118
                                  try clear p119
                                  try clear p120
                                  try clear p2
                                  try clear p6
                                  try clear q1
                                  try clear q10
                                  try clear q11
                                  try clear q117
                                  try clear q118
                                  try clear q119
                                  try clear q120
                                  obtain ⟨x7_4, x53_4, rfl, rfl, HA, HK4, HO_3, HO_4, HR120_0, HB⟩ := hrel
                                  cases gk with
                                  | zero => exact absurd HA.out (by simp [dom_Least.l2])
                                  | succ k4 =>
                                    have H := HA.out
                                    clear HA
                                    simp only [dom_Least.l2] at H
                                    by_cases c30 : x53_4 < ((rd_L2 t105 x14_1).length : Int)
                                    · rw [if_pos c30] at H
                                      have c30b0 : decide (x53_4 < ((rd_L2 t105 x14_1).length : Int)) = true := decide_eq_true c30
                                      clear c30
                                      by_cases c31 : 0 ≤ x53_4
                                      · rw [if_pos c31] at H
                                        have c31b0 : decide (0 ≤ x53_4) = true := decide_eq_true c31
                                        clear c31
                                        by_cases c32 : x53_4 < ((rd_L2 t105 x14_1).length : Int)
                                        · rw [if_pos c32] at H
                                          have c32b0 : decide (x53_4 < ((rd_L2 t105 x14_1).length : Int)) = true := decide_eq_true c32
                                          clear c32
                                          by_cases c33 : x7_4 = true
                                          · subst c33
                                            have H1 : (if x53_4 = x14_1 then (dom_Least.l2 k4 l0 t105 x4_2 x14_1 x32_2 true (l0.length : Int) x14_1 (l0.length : Int) x32_2 (rd_L2 t105 x14_1) ((rd_L2 t105 x14_1).length : Int) (wrap64 (x53_4 + 1))) else (if x53_4 = x32_2 then (dom_Least.l2 k4 l0 t105 x4_2 x14_1 x32_2 true (l0.length : Int) x14_1 (l0.length : Int) x32_2 (rd_L2 t105 x14_1) ((rd_L2 t105 x14_1).length : Int) (wrap64 (x53_4 + 1))) else (if rdOf false (rd_L2 t105 x14_1) x53_4 = true then (if 0 ≤ x32_2 then (if x32_2 < (t105.length : Int) then (if x53_4 < ((rd_L2 t105 x32_2).length : Int) then (dom_Least.l2 k4 l0 t105 x4_2 x14_1 x32_2 (rdOf false (rd_L2 t105 x32_2) x53_4) (l0.length : Int) x14_1 (l0.length : Int) x32_2 (rd_L2 t105 x14_1) ((rd_L2 t105 x14_1).length : Int) (wrap64 (x53_4 + 1))) else (none)) else (none)) else (none)) else (dom_Least.l2 k4 l0 t105 x4_2 x14_1 x32_2 true (l0.length : Int) x14_1 (l0.length : Int) x32_2 (rd_L2 t105 x14_1) ((rd_L2 t105 x14_1).length : Int) (wrap64 (x53_4 + 1)))))) = some r := by first | (rw [if_pos rfl] at H; exact H) | (rw [if_pos trivial] at H; exact H)
                                            clear H
                                            have H := H1
                                            clear H1
                                            by_cases c34 : x53_4 = x14_1
                                            · rw [if_pos c34] at H
                                              have c34b0 : (x53_4 == x14_1) = true := beq_iff_eq.mpr c34
                                              have c34b1 : (x53_4 != x14_1) = false := bne_eq_false_iff_eq.mpr c34
                                              clear c34
                                              have H' := Aside0.mk H
                                              clear H
                                              have p121 : 0 ≤ (x53_4 : Int) := of_decide_eq_true (by first | (with_reducible assumption) | assumption)
                                              have q121 : x53_4 < ((rd_L2 t105 x14_1).length : Int) := of_decide_eq_true (by first | (with_reducible assumption) | assumption)
                                              obtain ⟨ad121, e121, hx121_0⟩ := Kd.at_bool HR120_0.out x53_4 p121 q121
                                              (try rw [← Nbq10.out] at hx121_0)
                                              cases e121
                                              (try replace hx121_0 := (HB.out.cell (World.block_lt_of_cell? w _ hx121_0)).trans hx121_0)
                                              replace p121 := eq_true p121
                                              replace q121 := eq_true q121
                                              go_wp2
                                              go_roundg k4
                                              case measure => have := HK1.out; have := HK2.out; have := HJ18.out; have := HK4.out; omega
                                              case rel => exact ⟨(true), (wrap64 (x53_4 + 1)), (by first | rfl | (simp; done) | (simp [*]; done)), (by first | rfl | (simp; done) | (simp [*]; done)), H', ⟨by have := HK1.out; have := HK2.out; have := HJ18.out; have := HK4.out; omega⟩, ⟨by (with_reducible repeat (first | apply Kd.S_alloc | apply Kd.S_drewN | apply Kd.S_drew)); exact HO_3.out⟩, ⟨by (with_reducible repeat (first | apply Kd.R_alloc | apply Kd.R_drewN | apply Kd.R_drew)); exact HO_4.out⟩, ⟨by repeat (first | (with_reducible exact HR120_0.out) | (with_reducible refine Kd.C_alloc ?_ _) | (with_reducible refine Kd.C_drewN ?_ _) | (with_reducible refine Kd.C_drew ?_) | exact HR120_0.out)⟩, ⟨by repeat (first | (with_reducible first | exact HB.out | apply below_alloc | apply pw_below_drewN | apply below_drew1) | exact HB.out)⟩⟩
                                            · rw [if_neg c34] at H
                                              have c34b0 : (x53_4 == x14_1) = false := beq_eq_false_iff_ne.mpr c34
                                              have c34b1 : (x53_4 != x14_1) = true := bne_iff_ne.mpr c34
                                              by_cases c35 : x53_4 = x32_2
                                              · rw [if_pos c35] at H
                                                have c35b0 : (x53_4 == x32_2) = true := beq_iff_eq.mpr c35
                                                have c35b1 : (x53_4 != x32_2) = false := bne_eq_false_iff_eq.mpr c35
                                                clear c35
                                                have H' := Aside0.mk H
                                                clear H
                                                have p121 : 0 ≤ (x53_4 : Int) := of_decide_eq_true (by first | (with_reducible assumption) | assumption)
                                                have q121 : x53_4 < ((rd_L2 t105 x14_1).length : Int) := of_decide_eq_true (by first | (with_reducible assumption) | assumption)
                                                obtain ⟨ad121, e121, hx121_0⟩ := Kd.at_bool HR120_0.out x53_4 p121 q121
                                                (try rw [← Nbq10.out] at hx121_0)
                                                cases e121
                                                (try replace hx121_0 := (HB.out.cell (World.block_lt_of_cell? w _ hx121_0)).trans hx121_0)
                                                replace p121 := eq_true p121
                                                replace q121 := eq_true q121
                                                go_wp2
                                                go_roundg k4
                                                case measure => have := HK1.out; have := HK2.out; have := HJ18.out; have := HK4.out; omega
                                                case rel => exact ⟨(true), (wrap64 (x53_4 + 1)), (by first | rfl | (simp; done) | (simp [*]; done)), (by first | rfl | (simp; done) | (simp [*]; done)), H', ⟨by have := HK1.out; have := HK2.out; have := HJ18.out; have := HK4.out; omega⟩, ⟨by (with_reducible repeat (first | apply Kd.S_alloc | apply Kd.S_drewN | apply Kd.S_drew)); exact HO_3.out⟩, ⟨by (with_reducible repeat (first | apply Kd.R_alloc | apply Kd.R_drewN | apply Kd.R_drew)); exact HO_4.out⟩, ⟨by repeat (first | (with_reducible exact HR120_0.out) | (with_reducible refine Kd.C_alloc ?_ _) | (with_reducible refine Kd.C_drewN ?_ _) | (with_reducible refine Kd.C_drew ?_) | exact HR120_0.out)⟩, ⟨by repeat (first | (with_reducible first | exact HB.out | apply below_alloc | apply pw_below_drewN | apply below_drew1) | exact HB.out)⟩⟩
                                              · rw [if_neg c35] at H
                                                have c35b0 : (x53_4 == x32_2) = false := beq_eq_false_iff_ne.mpr c35
                                                have c35b1 : (x53_4 != x32_2) = true := bne_iff_ne.mpr c35
                                                obtain ⟨bq36, hbq36⟩ : ∃ b_ : Bool, b_ = (rdOf false (rd_L2 t105 x14_1) x53_4) := ⟨_, rfl⟩
                                                replace H : (if bq36 = true then (if 0 ≤ x32_2 then (if x32_2 < (t105.length : Int) then (if x53_4 < ((rd_L2 t105 x32_2).length : Int) then (dom_Least.l2 k4 l0 t105 x4_2 x14_1 x32_2 (rdOf false (rd_L2 t105 x32_2) x53_4) (l0.length : Int) x14_1 (l0.length : Int) x32_2 (rd_L2 t105 x14_1) ((rd_L2 t105 x14_1).length : Int) (wrap64 (x53_4 + 1))) else (none)) else (none)) else (none)) else (dom_Least.l2 k4 l0 t105 x4_2 x14_1 x32_2 true (l0.length : Int) x14_1 (l0.length : Int) x32_2 (rd_L2 t105 x14_1) ((rd_L2 t105 x14_1).length : Int) (wrap64 (x53_4 + 1)))) = some r := by rw [← hbq36] at H; exact H
                                                have Nbq36 := Aside0.mk hbq36
                                                clear hbq36
                                                by_cases c37 : bq36 = true
                                                · subst c37
                                                  have H1 : (if 0 ≤ x32_2 then (if x32_2 < (t105.length : Int) then (if x53_4 < ((rd_L2 t105 x32_2).length : Int) then (dom_Least.l2 k4 l0 t105 x4_2 x14_1 x32_2 (rdOf false (rd_L2 t105 x32_2) x53_4) (l0.length : Int) x14_1 (l0.length : Int) x32_2 (rd_L2 t105 x14_1) ((rd_L2 t105 x14_1).length : Int) (wrap64 (x53_4 + 1))) else (none)) else (none)) else (none)) = some r := by first | (rw [if_pos rfl] at H; exact H) | (rw [if_pos trivial] at H; exact H)
                                                  clear H
                                                  have H := H1
                                                  clear H1
                                                  by_cases c38 : 0 ≤ x32_2
                                                  · rw [if_pos c38] at H
                                                    have c38b0 : decide (0 ≤ x32_2) = true := decide_eq_true c38
                                                    clear c38
                                                    by_cases c39 : x32_2 < (t105.length : Int)
                                                    · rw [if_pos c39] at H
                                                      have c39b0 : decide (x32_2 < (t105.length : Int)) = true := decide_eq_true c39
                                                      clear c39
                                                      by_cases c40 : x53_4 < ((rd_L2 t105 x32_2).length : Int)
                                                      · rw [if_pos c40] at H
                                                        have c40b0 : decide (x53_4 < ((rd_L2 t105 x32_2).length : Int)) = true := decide_eq_true c40
                                                        clear c40
                                                        have H' := Aside0.mk H
                                                        clear H
                                                        have p121 : 0 ≤ (x53_4 : Int) := of_decide_eq_true (by first | (with_reducible assumption) | assumption)
                                                        have q121 : x53_4 < ((rd_L2 t105 x14_1).length : Int) := of_decide_eq_true (by first | (with_reducible assumption) | assumption)
                                                        obtain ⟨ad121, e121, hx121_0⟩ := Kd.at_bool HR120_0.out x53_4 p121 q121
                                                        (try rw [← Nbq10.out] at hx121_0)
                                                        (try rw [← Nbq36.out] at hx121_0)
                                                        cases e121
                                                        (try replace hx121_0 := (HB.out.cell (World.block_lt_of_cell? w _ hx121_0)).trans hx121_0)
                                                        replace p121 := eq_true p121
                                                        replace q121 := eq_true q121
                                                        have p122 : 0 ≤ (x32_2 : Int) := of_decide_eq_true (by first | (with_reducible assumption) | assumption)
                                                        have q122 : x32_2 < (t105.length : Int) := of_decide_eq_true (by first | (with_reducible assumption) | assumption)
                                                        obtain ⟨ad122, A122_0, c122_0, e122, hx122_0, hl122_0, hi122_0⟩ := at_L2 (Kd.S_reads' HO_3.out).2.2 x32_2 p122 q122
                                                        obtain rfl : ad120 = ad122 := (by injection e122)
                                                        obtain ⟨ce122, hce122, hMe122, hcc122⟩ := Kd.S_get HO_3.out [] x32_2 p122 (by first | exact q122 | exact of_decide_eq_true (by first | (with_reducible assumption) | assumption) | (have e_ := (Kd.S_reads' HO_3.out).1; omega))
                                                        obtain ⟨ve122_0, rfl, ge122_0⟩ := hMe122
                                                        have hv122_0 := hcc122 0 _ rfl
                                                        rw [Nat.add_zero, show ((Kd.slice 4 Kd.bool)).sz = 1 from rfl, Nat.mul_one] at hv122_0
                                                        replace hv122_0 := Option.some.inj (hv122_0.symm.trans hx122_0)
                                                        rw [hv122_0] at ge122_0
                                                        have HL122_0 := Aside0.mk (show Kd.R Kd.bool 4 _ _ _ _ (rd_L2 t105 x32_2) from ge122_0)
                                                        clear hv122_0 ge122_0
                                                        clear hcc122 hce122
                                                        have HR122_0 := Aside0.mk hi122_0
                                                        have HC122_0 := Aside0.mk hl122_0
                                                        clear hi122_0 hl122_0
                                                        (try (have hz_ := Option.some.inj (hx120_0.symm.trans hx122_0); injection hz_ with za_ zn_ zc_; subst za_; subst zc_; clear zn_))
                                                        replace p122 := eq_true p122
                                                        replace q122 := eq_true q122
                                                        have p123 : 0 ≤ (x53_4 : Int) := of_decide_eq_true (by first | (with_reducible assumption) | assumption)
                                                        have q123 : x53_4 < ((rd_L2 t105 x32_2).length : Int) := of_decide_eq_true (by first | (with_reducible assumption) | assumption)
                                                        obtain ⟨ad123, e123, hx123_0⟩ := Kd.at_bool (by repeat (first | (with_reducible exact HR122_0.out) | (with_reducible refine Kd.C_alloc ?_ _) | (with_reducible refine Kd.C_drewN ?_ _) | (with_reducible refine Kd.C_drew ?_) | exact HR122_0.out)) x53_4 p123 q123
                                                        (try rw [← Nbq10.out] at hx123_0)
                                                        (try rw [← Nbq36.out] at hx123_0)
                                                        cases e123
                                                        replace p123 := eq_true p123
                                                        replace q123 := eq_true q123
                                                        go_wp2
                                                        go_roundg k4
                                                        case measure => have := HK1.out; have := HK2.out; have := HJ18.out; have := HK4.out; omega
                                                        case rel => exact ⟨(rdOf false (rd_L2 t105 x32_2) x53_4), (wrap64 (x53_4 + 1)), (by first | rfl | (simp; done) | (simp [*]; done)), (by first | rfl | (simp; done) | (simp [*]; done)), H', ⟨by have := HK1.out; have := HK2.out; have := HJ18.out; have := HK4.out; omega⟩, ⟨by (with_reducible repeat (first | apply Kd.S_alloc | apply Kd.S_drewN | apply Kd.S_drew)); exact HO_3.out⟩, ⟨by (with_reducible repeat (first | apply Kd.R_alloc | apply Kd.R_drewN | apply Kd.R_drew)); exact HO_4.out⟩, ⟨by repeat (first | (with_reducible exact HR120_0.out) | (with_reducible refine Kd.C_alloc ?_ _) | (with_reducible refine Kd.C_drewN ?_ _) | (with_reducible refine Kd.C_drew ?_) | exact HR120_0.out)⟩, ⟨by repeat (first | (with_reducible first | exact HB.out | apply below_alloc | apply pw_below_drewN | apply below_drew1) | exact HB.out)⟩⟩
                                                      · rw [if_neg c40] at H
                                                        exact absurd H (by simp)
                                                    · rw [if_neg c39] at H
                                                      exact absurd H (by simp)
                                                  · rw [if_neg c38] at H
                                                    exact absurd H (by simp)
                                                · replace c37 := Bool.eq_false_iff.mpr c37
                                                  subst c37
                                                  have H1 : (dom_Least.l2 k4 l0 t105 x4_2 x14_1 x32_2 true (l0.length : Int) x14_1 (l0.length : Int) x32_2 (rd_L2 t105 x14_1) ((rd_L2 t105 x14_1).length : Int) (wrap64 (x53_4 + 1))) = some r := by rw [if_neg (show ¬ (false = true) by decide)] at H; exact H
                                                  clear H
                                                  have H := H1
                                                  clear H1
                                                  have H' := Aside0.mk H
                                                  clear H
                                                  have p121 : 0 ≤ (x53_4 : Int) := of_decide_eq_true (by first | (with_reducible assumption) | assumption)
                                                  have q121 : x53_4 < ((rd_L2 t105 x14_1).length : Int) := of_decide_eq_true (by first | (with_reducible assumption) | assumption)
                                                  obtain ⟨ad121, e121, hx121_0⟩ := Kd.at_bool HR120_0.out x53_4 p121 q121
                                                  (try rw [← Nbq10.out] at hx121_0)
                                                  (try rw [← Nbq36.out] at hx121_0)
                                                  cases e121
                                                  (try replace hx121_0 := (HB.out.cell (World.block_lt_of_cell? w _ hx121_0)).trans hx121_0)
                                                  replace p121 := eq_true p121
                                                  replace q121 := eq_true q121
                                                  go_wp2
                                                  go_roundg k4
                                                  case measure => have := HK1.out; have := HK2.out; have := HJ18.out; have := HK4.out; omega
                                                  case rel => exact ⟨(true), (wrap64 (x53_4 + 1)), (by first | rfl | (simp; done) | (simp [*]; done)), (by first | rfl | (simp; done) | (simp [*]; done)), H', ⟨by have := HK1.out; have := HK2.out; have := HJ18.out; have := HK4.out; omega⟩, ⟨by (with_reducible repeat (first | apply Kd.S_alloc | apply Kd.S_drewN | apply Kd.S_drew)); exact HO_3.out⟩, ⟨by (with_reducible repeat (first | apply Kd.R_alloc | apply Kd.R_drewN | apply Kd.R_drew)); exact HO_4.out⟩, ⟨by repeat (first | (with_reducible exact HR120_0.out) | (with_reducible refine Kd.C_alloc ?_ _) | (with_reducible refine Kd.C_drewN ?_ _) | (with_reducible refine Kd.C_drew ?_) | exact HR120_0.out)⟩, ⟨by repeat (first | (with_reducible first | exact HB.out | apply below_alloc | apply pw_below_drewN | apply below_drew1) | exact HB.out)⟩⟩
                                          · replace c33 := Bool.eq_false_iff.mpr c33
                                            subst c33
                                            have H1 : (dom_Least.l2 k4 l0 t105 x4_2 x14_1 x32_2 false (l0.length : Int) x14_1 (l0.length : Int) x32_2 (rd_L2 t105 x14_1) ((rd_L2 t105 x14_1).length : Int) (wrap64 (x53_4 + 1))) = some r := by rw [if_neg (show ¬ (false = true) by decide)] at H; exact H
                                            clear H
                                            have H := H1
                                            clear H1
                                            have H' := Aside0.mk H
                                            clear H
                                            have p121 : 0 ≤ (x53_4 : Int) := of_decide_eq_true (by first | (with_reducible assumption) | assumption)
                                            have q121 : x53_4 < ((rd_L2 t105 x14_1).length : Int) := of_decide_eq_true (by first | (with_reducible assumption) | assumption)
                                            obtain ⟨ad121, e121, hx121_0⟩ := Kd.at_bool HR120_0.out x53_4 p121 q121
                                            (try rw [← Nbq10.out] at hx121_0)
                                            cases e121
                                            (try replace hx121_0 := (HB.out.cell (World.block_lt_of_cell? w _ hx121_0)).trans hx121_0)
                                            replace p121 := eq_true p121
                                            replace q121 := eq_true q121
                                            go_wp2
                                            go_roundg k4
                                            case measure => have := HK1.out; have := HK2.out; have := HJ18.out; have := HK4.out; omega
                                            case rel => exact ⟨(false), (wrap64 (x53_4 + 1)), (by first | rfl | (simp; done) | (simp [*]; done)), (by first | rfl | (simp; done) | (simp [*]; done)), H', ⟨by have := HK1.out; have := HK2.out; have := HJ18.out; have := HK4.out; omega⟩, ⟨by (with_reducible repeat (first | apply Kd.S_alloc | apply Kd.S_drewN | apply Kd.S_drew)); exact HO_3.out⟩, ⟨by (with_reducible repeat (first | apply Kd.R_alloc | apply Kd.R_drewN | apply Kd.R_drew)); exact HO_4.out⟩, ⟨by repeat (first | (with_reducible exact HR120_0.out) | (with_reducible refine Kd.C_alloc ?_ _) | (with_reducible refine Kd.C_drewN ?_ _) | (with_reducible refine Kd.C_drew ?_) | exact HR120_0.out)⟩, ⟨by repeat (first | (with_reducible first | exact HB.out | apply below_alloc | apply pw_below_drewN | apply below_drew1) | exact HB.out)⟩⟩
                                        · rw [if_neg c32] at H
                                          exact absurd H (by simp)
                                      · rw [if_neg c31] at H
                                        exact absurd H (by simp)
                                    · rw [if_neg c30] at H
                                      have c30b0 : decide (x53_4 < ((rd_L2 t105 x14_1).length : Int)) = false := decide_eq_false c30
                                      clear c30
                                      by_cases c41 : x7_4 = true
                                      · subst c41
                                        have H1 : (if 0 ≤ x14_1 then (if x14_1 < (x4_2.length : Int) then (dom_Least.l0 k4 l0 t105 (x4_2.set (x14_1 : Int).toNat x32_2) (l0.length : Int) (wrap64 (x14_1 + 1))) else (none)) else (none)) = some r := by first | (rw [if_pos rfl] at H; exact H) | (rw [if_pos trivial] at H; exact H)
                                        clear H
                                        have H := H1
                                        clear H1
                                        by_cases c42 : 0 ≤ x14_1
                                        · rw [if_pos c42] at H
                                          have c42b0 : decide (0 ≤ x14_1) = true := decide_eq_true c42
                                          clear c42
                                          by_cases c43 : x14_1 < (x4_2.length : Int)
                                          · rw [if_pos c43] at H
                                            have c43b0 : decide (x14_1 < (x4_2.length : Int)) = true := decide_eq_true c43
                                            clear c43
                                            obtain ⟨y124, hy124⟩ : ∃ y_ : List Int, y_ = (x4_2.set (x14_1 : Int).toNat x32_2) := ⟨_, rfl⟩
                                            replace H : (dom_Least.l0 k4 l0 t105 y124 (l0.length : Int) (wrap64 (x14_1 + 1))) = some r := by first | (rw [hy124]; with_reducible exact H) | (have H2_ := (Option.bind_some _ _).symm.trans H; rw [hy124]; with_reducible exact H2_) | (have H2_ := (Option.bind_some _ _).symm.trans H; with_reducible exact H2_) | with_reducible exact H | (rw [hy124]; exact H) | exact H
                                            have Ny124 := Aside0.mk hy124
                                            clear hy124
                                            have H' := Aside0.mk H
                                            clear H
                                            have p44 : 0 ≤ (x14_1 : Int) := of_decide_eq_true (by first | (with_reducible assumption) | assumption)
                                            have q44 : (x14_1 : Int) < ((x4_2.length : Int) : Int) := of_decide_eq_true (by first | (with_reducible assumption) | assumption)
                                            obtain ⟨go44, co44, eo44, gb44, gl44, cl44, HG44⟩ := Kd.R_form HO_4.out (by omega)
                                            (first | cases eo44 | (injection eo44 with ea_ en_ ec_; (first | subst ea_ | (injection ea_ with ea_; subst ea_)); subst ec_; clear en_))
                                            have GB44 := Aside0.mk gb44
                                            have GG44 := Aside0.mk HG44
                                            clear gb44 gl44 HG44
                                            obtain ⟨hx44_0, hf44_0⟩ := Kd.R_celln 0 HO_4.out (x14_1 : Int) p44 q44
                                            replace p44 := eq_true p44
                                            replace q44 := eq_true q44
                                            have HP45 := Kd.R_putg HO_4.out (x14_1 : Int) x32_2
                                            go_wp2_with (first | ((with_reducible refine gate_store (t := 3) (p := 87) rfl ?_); refine store_event (t := 3) (p := 87) (v := ?vo_w46) (w1 := (wr.setCell ⟨go44, (x14_1 : Int).toNat, none⟩ (.int .i64 x32_2))) ?hg ?ho ?hn ?hr ?_; (case ho => rfl); (case hg => rfl); (case hn => rfl); (case hr => first | (go_simp; done) | (go_simp; rfl)); intro w46 hw; have hg : wr.grownBy w46 (some go44) := (by rw [hw]; exact HP45.2); have hp_ : Kd.R (Kd.int .i64) 3 w46 w.heap.size (fun _ => True) (.slice (some ⟨go44, 0, none⟩) x4_2.length co44) y124 := (by rw [hw, Ny124.out]; exact HP45.1); clear HP45; have n0_ := Aside0.mk (Kd.S_over' (v := (.slice (some ⟨go44, 0, none⟩) x4_2.length co44)) (by (with_reducible repeat (first | apply Kd.S_alloc | apply Kd.S_drewN | apply Kd.S_drew)); exact HO_3.out) (Kd.R_typed HO_4.out) (by decide) hg); have n1_ := Aside0.mk (hp_); have n2_ := Aside0.mk ((by rw [hw]; exact below_set (HB.out) GB44.out : Below w.heap.size w w46)); clear HO_3; clear HO_4; clear HB; have HO_3 := n0_; have HO_4 := n1_; have HB := n2_; clear n0_ n1_ n2_; clear hg hw hp_))
                                            go_roundg k4
                                            case measure => have := HK1.out; have := HK2.out; have := HJ18.out; have := HK4.out; omega
                                            case rel => exact ⟨(y124), (wrap64 (x14_1 + 1)), (by first | rfl | (simp; done) | (simp [*]; done)), H', ⟨by have := HK1.out; have := HK2.out; have := HJ18.out; have := HK4.out; omega⟩, ⟨by (with_reducible repeat (first | apply Kd.S_alloc | apply Kd.S_drewN | apply Kd.S_drew)); exact HO_3.out⟩, ⟨by (with_reducible repeat (first | apply Kd.R_alloc | apply Kd.R_drewN | apply Kd.R_drew)); exact HO_4.out⟩, ⟨by repeat (first | (with_reducible first | exact HB.out | apply below_alloc | apply pw_below_drewN | apply below_drew1) | exact HB.out)⟩⟩
                                          · rw [if_neg c43] at H
                                            exact absurd H (by simp)
                                        · rw [if_neg c42] at H
                                          exact absurd H (by simp)
                                      · replace c41 := Bool.eq_false_iff.mpr c41
                                        subst c41
                                        have H1 : (dom_Least.l1 k4 l0 t105 x4_2 x14_1 (l0.length : Int) x14_1 (l0.length : Int) (wrap64 (x32_2 + 1))) = some r := by rw [if_neg (show ¬ (false = true) by decide)] at H; exact H
                                        clear H
                                        have H := H1
                                        clear H1
                                        have H' := Aside0.mk H
                                        clear H
                                        go_wp2
                                        go_roundg k4
                                        case measure => have := HK1.out; have := HK2.out; have := HJ18.out; have := HK4.out; omega
                                        case rel => exact ⟨(x4_2), (wrap64 (x32_2 + 1)), (by first | rfl | (simp; done) | (simp [*]; done)), H', ⟨by have := HK1.out; have := HK2.out; have := HJ18.out; have := HK4.out; omega⟩, ⟨by (with_reducible repeat (first | apply Kd.S_alloc | apply Kd.S_drewN | apply Kd.S_drew)); exact HO_3.out⟩, ⟨by (with_reducible repeat (first | apply Kd.R_alloc | apply Kd.R_drewN | apply Kd.R_drew)); exact HO_4.out⟩, ⟨by repeat (first | (with_reducible first | exact HB.out | apply below_alloc | apply pw_below_drewN | apply below_drew1) | exact HB.out)⟩⟩
                              · rw [if_neg c28] at H
                                exact absurd H (by simp)
                            · rw [if_neg c27] at H
                              exact absurd H (by simp)
                    · rw [if_neg c18] at H
                      have c18b0 : decide (x32_2 < (l0.length : Int)) = false := decide_eq_false c18
                      clear c18
                      have H' := Aside0.mk H
                      clear H
                      go_wp2
                      go_roundg k2
                      case measure => have := HK1.out; have := HK2.out; omega
                      case rel => exact ⟨(x4_2), (wrap64 (x14_1 + 1)), (by first | rfl | (simp; done) | (simp [*]; done)), H', ⟨by have := HK1.out; have := HK2.out; omega⟩, ⟨by (with_reducible repeat (first | apply Kd.S_alloc | apply Kd.S_drewN | apply Kd.S_drew)); exact HO_3.out⟩, ⟨by (with_reducible repeat (first | apply Kd.R_alloc | apply Kd.R_drewN | apply Kd.R_drew)); exact HO_4.out⟩, ⟨by repeat (first | (with_reducible first | exact HB.out | apply below_alloc | apply pw_below_drewN | apply below_drew1) | exact HB.out)⟩⟩
              · replace c11 := Bool.eq_false_iff.mpr c11
                subst c11
                have H1 : (dom_Least.l0 k1 l0 t105 y108 (l0.length : Int) (wrap64 (x14_1 + 1))) = some r := by rw [if_neg (show ¬ (false = true) by decide)] at H; exact H
                clear H
                have H := H1
                clear H1
                have H' := Aside0.mk H
                clear H
                go_wp2_with (first | ((with_reducible refine gate_builtin (b := .append) (xs := #[.tmp 17, .tmp 18]) rfl ?_); at_builtin; refine Kd.R_append (Kd.int .i64) (w0 := w) w.heap.size rfl (.tmp 17) (.tmp 18) 54 3 (.int .i64 0) 8 rfl Try.underlying54 info3 rfl (by decide) (by omega) u4 x4_1 (-1) [.int .i64 (-1)] (fun _ => True) (fun _ => False) rfl rfl ?aP (fun _ hk => hk.elim) ?aF ?aO ?aB ?aS ?aL ?_; (case aP => first | exact rfl | exact ⟨_, rfl, Kd.R_nil _ _ _ _ _⟩); (case aB => exact (by repeat (first | (with_reducible first | exact HB.out | apply below_alloc | apply pw_below_drewN | apply below_drew1) | exact HB.out))); (case aF => exact (fun _ _ => trivial)); (case aO => exact (by (with_reducible repeat (first | apply Kd.R_alloc | apply Kd.R_drewN | apply Kd.R_drew)); exact HO_4.out)); (case aS => exact (below_size (by repeat (first | (with_reducible first | exact HB.out | apply below_alloc | apply pw_below_drewN | apply below_drew1) | exact HB.out)))); (case aL => have := LMc5.out; omega); intro v109 w47 ho hb hg hat; rw [← Ny108.out] at ho; have n0_ := Aside0.mk (Kd.S_over' (by (with_reducible repeat (first | apply Kd.S_alloc | apply Kd.S_drewN | apply Kd.S_drew)); exact HO_3.out) (Kd.R_typed (by (with_reducible repeat (first | apply Kd.R_alloc | apply Kd.R_drewN | apply Kd.R_drew)); exact HO_4.out)) (by decide) hg); have n1_ := Aside0.mk (hb); have n2_ := Aside0.mk (ho); clear HO_3; clear HB; clear HO_4; have HO_3 := n0_; have HB := n1_; have HO110 := n2_; clear n0_ n1_ n2_; clear ho hb hg hat) | ((with_reducible refine gate_dst (N := 22) rfl ?_); refine Kd.R_lit (Kd.int .i64) _ 3 ?hg (N := 22) ?hd (xs := ([x14_1] : List Int)) (inner := [.int .i64 x14_1]) (ok := fun _ => True) (okp := fun _ => True) ?hr ?hp (fun _ hk => hk) trivial (Below.refl _ _) (Nat.le_refl _) (by simp) ?_; (case hd => rfl); (case hg => rfl); (case hr => first | (go_simp; done) | (go_simp; rfl)); (case hp => exact (Reps.one (show Kd.M (Kd.int .i64) _ _ _ x14_1 [.int .i64 x14_1] from rfl) (Reps.none _ _))); intro v112 w48 ho49 hb hg_ hnew_; clear hg_ hnew_; (first | rw [← Ny111.out] at ho49 | (simp only [Int.reduceToNat] at ho49; rw [← Ny111.out] at ho49)); have n0_ := Aside0.mk (Kd.S_below (by (with_reducible repeat (first | apply Kd.S_alloc | apply Kd.S_drewN | apply Kd.S_drew)); exact HO_3.out) hb); have n1_ := Aside0.mk (Kd.R_elder' (by (with_reducible repeat (first | apply Kd.R_alloc | apply Kd.R_drewN | apply Kd.R_drew)); exact HO110.out) (Kd.R_base ho49) hb); have n2_ := Aside0.mk (Kd.R_lower (Kd.R_new' ho49 (Kd.R_lt (by (with_reducible repeat (first | apply Kd.R_alloc | apply Kd.R_drewN | apply Kd.R_drew)); exact HO110.out))) (below_size (by repeat (first | (with_reducible first | exact HB.out | apply below_alloc | apply pw_below_drewN | apply below_drew1) | exact HB.out)))); have n3_ := Aside0.mk (below_step (by repeat (first | (with_reducible first | exact HB.out | apply below_alloc | apply pw_below_drewN | apply below_drew1) | exact HB.out)) hb); clear HO_3; clear HO110; clear HB; have HO_3 := n0_; have HO110 := n1_; have HO113 := n2_; have HB := n3_; clear n0_ n1_ n2_ n3_; clear hb ho49; obtain ⟨Ao50, co50, eo50⟩ := Kd.R_slice HO113.out; subst eo50) | ((with_reducible refine gate_callee (f := 29) rfl ?_); refine goesL_ (some 23) rfl rfl Try.func29 (by kernel_rfl) rfl #[.slice A0 l0.length c0, .slice Ao50 y111.length co50] rfl (by (try simp only [List.map_toArray, List.map_cons, List.map_nil]); first | done | rfl | (simp only [List.length_drop, List.length_take]; rfl)) ?_; (with_reducible refine (dom_Reach.calls k1 _ _ l0 _ _ y111 t114 _ ?side1 ?side2 ?side3 ?side4 A6.out).mono ?_); (case side1 => repeat (first | exact (Kd.C_below HR0.out HB.out) | (with_reducible refine Kd.C_alloc ?_ _) | (with_reducible refine Kd.C_drewN ?_ _) | (with_reducible refine Kd.C_drew ?_))); (case side2 => exact HC0.out); (case side3 => repeat (first | exact (Kd.R_reads' HO113.out).2.2 | (with_reducible refine Kd.C_alloc ?_ _) | (with_reducible refine Kd.C_drewN ?_ _) | (with_reducible refine Kd.C_drew ?_))); (case side4 => exact (Kd.R_reads' HO113.out).2.1); rintro e w51 ⟨v115, rfl, ho0, hb⟩; refine ⟨_, rfl, ?_⟩; have n0_ := Aside0.mk (Kd.S_elder' (by (with_reducible repeat (first | apply Kd.S_alloc | apply Kd.S_drewN | apply Kd.S_drew)); exact HO_3.out) (Kd.R_base ho0) hb); have n1_ := Aside0.mk (Kd.R_below (by (with_reducible repeat (first | apply Kd.R_alloc | apply Kd.R_drewN | apply Kd.R_drew)); exact HO110.out) hb); have n2_ := Aside0.mk (Kd.R_below (by (with_reducible repeat (first | apply Kd.R_alloc | apply Kd.R_drewN | apply Kd.R_drew)); exact HO113.out) hb); have n3_ := Aside0.mk (Kd.R_lower ho0 (below_size (by repeat (first | (with_reducible first | exact HB.out | apply below_alloc | apply pw_below_drewN | apply below_drew1) | exact HB.out)))); have n4_ := Aside0.mk (below_step (by repeat (first | (with_reducible first | exact HB.out | apply below_alloc | apply pw_below_drewN | apply below_drew1) | exact HB.out)) hb); clear HO_3; clear HO110; clear HO113; clear HB; have HO_3 := n0_; have HO110 := n1_; have HO113 := n2_; have HO116 := n3_; have HB := n4_; clear n0_ n1_ n2_ n3_ n4_; (try clear hb); (try clear hb2); (try clear hk); (try clear hi); (try clear ho0); obtain ⟨Ao52, co52, eo52⟩ := Kd.R_slice HO116.out; subst eo52; have p117 : 0 ≤ ((ji7) : Int) := of_decide_eq_true (by first | (with_reducible assumption) | assumption); have q117 : (ji7) < (t114.length : Int) := of_decide_eq_true (by first | (with_reducible assumption) | assumption); obtain ⟨ad117, e117, hx117_0⟩ := Kd.at_bool (Kd.R_reads' HO116.out).2.2 (ji7) p117 q117; (try rw [← Nbq10.out] at hx117_0); cases e117; replace p117 := eq_true p117; replace q117 := eq_true q117))
                go_roundg k1
                case measure => have := HK1.out; omega
                case rel => exact ⟨(y108), (wrap64 (x14_1 + 1)), (by first | rfl | (simp; done) | (simp [*]; done)), H', ⟨by have := HK1.out; omega⟩, ⟨by (with_reducible repeat (first | apply Kd.S_alloc | apply Kd.S_drewN | apply Kd.S_drew)); exact Kd.S_mono HO_3.out (fun _ hk => trivial)⟩, ⟨by (with_reducible repeat (first | apply Kd.R_alloc | apply Kd.R_drewN | apply Kd.R_drew)); exact Kd.R_mono HO110.out (fun _ hk => trivial)⟩, ⟨by repeat (first | (with_reducible first | exact HB.out | apply below_alloc | apply pw_below_drewN | apply below_drew1) | exact HB.out)⟩⟩
            · rw [if_neg c9] at H
              exact absurd H (by simp)
          · rw [if_neg c8] at H
            exact absurd H (by simp)
        · rw [if_neg c5] at H
          exact absurd H (by simp)
      · rw [if_neg c4] at H
        have c4b0 : decide (x14_1 < (l0.length : Int)) = false := decide_eq_false c4
        clear c4
        obtain rfl := Option.some.inj H
        go_wp2
        go_ret
        exact ⟨_, by first | rfl | (simp [errW_none, errW_some] <;> rfl) | (simp [*, errW_none, errW_some] <;> rfl), by (with_reducible repeat (first | apply Kd.R_alloc | apply Kd.R_drewN | apply Kd.R_drew)); exact HO_4.out, by repeat (first | (with_reducible first | exact HB.out | apply below_alloc | apply pw_below_drewN | apply below_drew1) | exact HB.out)⟩

end Go.Proofs.Ytankppgafdcknaa.PDom

/- Printed for this claim by a program. -/
namespace Go.Proofs.Ytankppgafdcknaa.PDom
open Go.Proofs.Ytankppgafdcknaa.PPost
open Go.RowKit Go.Proofs.YtankppgafdcknaaW.PrintWords Go.Proofs.YtankppgafdcknaaW.PrintLast Go.Proofs.YtankppgafdcknaaW.PrintMore
attribute [local go_sem] max2_int min2_int max_two min_two max_three min_three max_four min_four   -- for this text's walks alone
set_option linter.unusedVariables false
set_option linter.unusedSimpArgs false

/-! ### billhooklaw10_DomLine: function 11 -/
mutual
def billhooklaw10_DomLine.l0 : Nat → Bool → Int → Int → Int → List (List Int) → Int → Option (Bool)
  | 0, _, _, _, _, _, _ => none
  | k + 1, x7, x8, x9, x10, x11, x12 => if x12 < x8 then ((some (([wrap64 (x12 + 1)] : List Int) : List Int)).bind fun y297 => (if x12 = (wrap64 (x8 - 1)) then (if x12 = x9 then (if ([] : List Int).length < 17592186044416 then (if x11.length < 5864062014805 then (billhooklaw10_DomLine.l0 k x7 x8 x9 x10 (x11 ++ [(([] : List Int) ++ [x10])]) (wrap64 (x12 + 1))) else (none)) else (none)) else (if x11.length < 5864062014805 then (billhooklaw10_DomLine.l0 k x7 x8 x9 x10 (x11 ++ [([] : List Int)]) (wrap64 (x12 + 1))) else (none))) else (if x12 = x9 then (if y297.length < 17592186044416 then (if x11.length < 5864062014805 then (billhooklaw10_DomLine.l0 k x7 x8 x9 x10 (x11 ++ [(y297 ++ [x10])]) (wrap64 (x12 + 1))) else (none)) else (none)) else (if x11.length < 5864062014805 then (billhooklaw10_DomLine.l0 k x7 x8 x9 x10 (x11 ++ [y297]) (wrap64 (x12 + 1))) else (none))))) else ((dom_Post.f k x11).bind fun t318 => ((dom_Least.f k x11).bind fun t321 => (if (t318.length : Int) = x8 then (billhooklaw10_DomLine.j1 k x7 x8 x9 x10 t318 t321 ((t321.length : Int) != x8)) else (billhooklaw10_DomLine.j1 k x7 x8 x9 x10 t318 t321 true))))
def billhooklaw10_DomLine.j1 : Nat → Bool → Int → Int → Int → List (List Bool) → List Int → Bool → Option (Bool)
  | 0, _, _, _, _, _, _, _ => none
  | k + 1, x7, x8, x9, x10, x14, x15, x78 => if x78 = true then (some false) else (billhooklaw10_DomLine.l1 k x7 x8 x9 x10 x14 x15 0)
def billhooklaw10_DomLine.l1 : Nat → Bool → Int → Int → Int → List (List Bool) → List Int → Int → Option (Bool)
  | 0, _, _, _, _, _, _, _ => none
  | k + 1, x7, x8, x9, x10, x14, x15, x16 => if x16 < x8 then (if 0 ≤ x16 then (if x16 < (x14.length : Int) then (if ((rd_L2 x14 x16).length : Int) = x8 then (billhooklaw10_DomLine.l2 k x7 x8 x9 x10 x14 x15 x16 0) else (some false)) else (none)) else (none)) else (some x7)
def billhooklaw10_DomLine.l2 : Nat → Bool → Int → Int → Int → List (List Bool) → List Int → Int → Int → Option (Bool)
  | 0, _, _, _, _, _, _, _, _ => none
  | k + 1, x7, x8, x9, x10, x14, x15, x16, x17 => if x17 < x8 then (if x17 ≥ x16 then (if x16 > x9 then (if 0 ≤ x16 then (if x16 < (x14.length : Int) then (if 0 ≤ x17 then (if x17 < ((rd_L2 x14 x16).length : Int) then (if ((rdOf false (rd_L2 x14 x16) x17) != true) = true then (some false) else (billhooklaw10_DomLine.l2 k x7 x8 x9 x10 x14 x15 x16 (wrap64 (x17 + 1)))) else (none)) else (none)) else (none)) else (none)) else (if x17 ≤ x9 then (if 0 ≤ x16 then (if x16 < (x14.length : Int) then (if 0 ≤ x17 then (if x17 < ((rd_L2 x14 x16).length : Int) then (if ((rdOf false (rd_L2 x14 x16) x17) != true) = true then (some false) else (billhooklaw10_DomLine.l2 k x7 x8 x9 x10 x14 x15 x16 (wrap64 (x17 + 1)))) else (none)) else (none)) else (none)) else (none)) else (if 0 ≤ x16 then (if x16 < (x14.length : Int) then (if 0 ≤ x17 then (if x17 < ((rd_L2 x14 x16).length : Int) then (if ((rdOf false (rd_L2 x14 x16) x17) != (decide (x17 ≥ x10))) = true then (some false) else (billhooklaw10_DomLine.l2 k x7 x8 x9 x10 x14 x15 x16 (wrap64 (x17 + 1)))) else (none)) else (none)) else (none)) else (none)))) else (if 0 ≤ x16 then (if x16 < (x14.length : Int) then (if 0 ≤ x17 then (if x17 < ((rd_L2 x14 x16).length : Int) then (if ((rdOf false (rd_L2 x14 x16) x17) != false) = true then (some false) else (billhooklaw10_DomLine.l2 k x7 x8 x9 x10 x14 x15 x16 (wrap64 (x17 + 1)))) else (none)) else (none)) else (none)) else (none))) else (if x16 = x9 then (billhooklaw10_DomLine.j4 k x7 x8 x9 x10 x14 x15 x16 x10) else (billhooklaw10_DomLine.j4 k x7 x8 x9 x10 x14 x15 x16 (wrap64 (x16 + 1))))
def billhooklaw10_DomLine.j4 : Nat → Bool → Int → Int → Int → List (List Bool) → List Int → Int → Int → Option (Bool)
  | 0, _, _, _, _, _, _, _, _ => none
  | k + 1, x7, x8, x9, x10, x14, x15, x16, x19 => if x16 = (wrap64 (x8 - 1)) then (if 0 ≤ x16 then (if x16 < (x15.length : Int) then (if (rd x15 x16) = (-1) then (billhooklaw10_DomLine.l1 k x7 x8 x9 x10 x14 x15 (wrap64 (x16 + 1))) else (some false)) else (none)) else (none)) else (if 0 ≤ x16 then (if x16 < (x15.length : Int) then (if (rd x15 x16) = x19 then (billhooklaw10_DomLine.l1 k x7 x8 x9 x10 x14 x15 (wrap64 (x16 + 1))) else (some false)) else (none)) else (none))
end
def billhooklaw10_DomLine.f (k : Nat) (a0 : Int) (a1 : Int) (a2 : Int) : Option (Bool) := (billhooklaw10_examples.f).bind fun t296 => (if t296 = true then (if (wrap64 ((wrap64 (2 + (wrap64 (Int.tmod a0 12)))) - 1)) = 0 then (none) else (if (wrap64 ((wrap64 ((wrap64 (2 + (wrap64 (Int.tmod a0 12)))) - 1)) - (Int.tmod (wrap64 (a1)) (wrap64 ((wrap64 (2 + (wrap64 (Int.tmod a0 12)))) - 1))))) = 0 then (none) else (billhooklaw10_DomLine.l0 k t296 (wrap64 (2 + (wrap64 (Int.tmod a0 12)))) (Int.tmod (wrap64 (a1)) (wrap64 ((wrap64 (2 + (wrap64 (Int.tmod a0 12)))) - 1))) (wrap64 ((wrap64 ((Int.tmod (wrap64 (a1)) (wrap64 ((wrap64 (2 + (wrap64 (Int.tmod a0 12)))) - 1))) + 1)) + (Int.tmod (wrap64 (a2)) (wrap64 ((wrap64 ((wrap64 (2 + (wrap64 (Int.tmod a0 12)))) - 1)) - (Int.tmod (wrap64 (a1)) (wrap64 ((wrap64 (2 + (wrap64 (Int.tmod a0 12)))) - 1)))))))) ([] : List (List Int)) 0))) else (some false))
theorem billhooklaw10_DomLine.mono_l : ∀ k, (∀ y0 y1 y2 y3 y4 y5, LeO (billhooklaw10_DomLine.l0 k y0 y1 y2 y3 y4 y5) (billhooklaw10_DomLine.l0 (k + 1) y0 y1 y2 y3 y4 y5)) ∧ (∀ y0 y1 y2 y3 y4 y5 y6, LeO (billhooklaw10_DomLine.j1 k y0 y1 y2 y3 y4 y5 y6) (billhooklaw10_DomLine.j1 (k + 1) y0 y1 y2 y3 y4 y5 y6)) ∧ (∀ y0 y1 y2 y3 y4 y5 y6, LeO (billhooklaw10_DomLine.l1 k y0 y1 y2 y3 y4 y5 y6) (billhooklaw10_DomLine.l1 (k + 1) y0 y1 y2 y3 y4 y5 y6)) ∧ (∀ y0 y1 y2 y3 y4 y5 y6 y7, LeO (billhooklaw10_DomLine.l2 k y0 y1 y2 y3 y4 y5 y6 y7) (billhooklaw10_DomLine.l2 (k + 1) y0 y1 y2 y3 y4 y5 y6 y7)) ∧ (∀ y0 y1 y2 y3 y4 y5 y6 y7, LeO (billhooklaw10_DomLine.j4 k y0 y1 y2 y3 y4 y5 y6 y7) (billhooklaw10_DomLine.j4 (k + 1) y0 y1 y2 y3 y4 y5 y6 y7))
  | 0 => ⟨fun _ _ _ _ _ _ r h => by simp [billhooklaw10_DomLine.l0] at h, fun _ _ _ _ _ _ _ r h => by simp [billhooklaw10_DomLine.j1] at h, fun _ _ _ _ _ _ _ r h => by simp [billhooklaw10_DomLine.l1] at h, fun _ _ _ _ _ _ _ _ r h => by simp [billhooklaw10_DomLine.l2] at h, fun _ _ _ _ _ _ _ _ r h => by simp [billhooklaw10_DomLine.j4] at h⟩
  | k + 1 => by
    obtain ⟨ih0, ih1, ih2, ih3, ih4⟩ := billhooklaw10_DomLine.mono_l k
    refine ⟨?_, ?_, ?_, ?_, ?_⟩
    · intro y0 y1 y2 y3 y4 y5
      unfold billhooklaw10_DomLine.l0
      repeat' first
      | (with_reducible exact ih0 _ _ _ _ _ _)
      | (with_reducible exact ih1 _ _ _ _ _ _ _)
      | (with_reducible exact ih2 _ _ _ _ _ _ _)
      | (with_reducible exact ih3 _ _ _ _ _ _ _ _)
      | (with_reducible exact ih4 _ _ _ _ _ _ _ _)
      | (with_reducible exact dom_Least.mono _ _)
      | (with_reducible exact dom_Post.mono _ _)
      | (with_reducible exact LeO.refl _)
      | (with_reducible exact LeO.none _)
      | (with_reducible refine LeO.ite ?_ ?_)
      | (with_reducible refine LeO.bind ?_ (fun _ => ?_))
      | exact ih0 _ _ _ _ _ _
      | exact ih1 _ _ _ _ _ _ _
      | exact ih2 _ _ _ _ _ _ _
      | exact ih3 _ _ _ _ _ _ _ _
      | exact ih4 _ _ _ _ _ _ _ _
      | exact dom_Least.mono _ _
      | exact dom_Post.mono _ _
      | exact LeO.none _
      | refine LeO.ite ?_ ?_
      | refine LeO.bind ?_ (fun _ => ?_)
    · intro y0 y1 y2 y3 y4 y5 y6
      unfold billhooklaw10_DomLine.j1
      repeat' first
      | (with_reducible exact ih0 _ _ _ _ _ _)
      | (with_reducible exact ih1 _ _ _ _ _ _ _)
      | (with_reducible exact ih2 _ _ _ _ _ _ _)
      | (with_reducible exact ih3 _ _ _ _ _ _ _ _)
      | (with_reducible exact ih4 _ _ _ _ _ _ _ _)
      | (with_reducible exact dom_Least.mono _ _)
      | (with_reducible exact dom_Post.mono _ _)
      | (with_reducible exact LeO.refl _)
      | (with_reducible exact LeO.none _)
      | (with_reducible refine LeO.ite ?_ ?_)
      | (with_reducible refine LeO.bind ?_ (fun _ => ?_))
      | exact ih0 _ _ _ _ _ _
      | exact ih1 _ _ _ _ _ _ _
      | exact ih2 _ _ _ _ _ _ _
      | exact ih3 _ _ _ _ _ _ _ _
      | exact ih4 _ _ _ _ _ _ _ _
      | exact dom_Least.mono _ _
      | exact dom_Post.mono _ _
      | exact LeO.none _
      | refine LeO.ite ?_ ?_
      | refine LeO.bind ?_ (fun _ => ?_)
    · intro y0 y1 y2 y3 y4 y5 y6
      unfold billhooklaw10_DomLine.l1
      repeat' first
      | (with_reducible exact ih0 _ _ _ _ _ _)
      | (with_reducible exact ih1 _ _ _ _ _ _ _)
      | (with_reducible exact ih2 _ _ _ _ _ _ _)
      | (with_reducible exact ih3 _ _ _ _ _ _ _ _)
      | (with_reducible exact ih4 _ _ _ _ _ _ _ _)
      | (with_reducible exact dom_Least.mono _ _)
      | (with_reducible exact dom_Post.mono _ _)
      | (with_reducible exact LeO.refl _)
      | (with_reducible exact LeO.none _)
      | (with_reducible refine LeO.ite ?_ ?_)
      | (with_reducible refine LeO.bind ?_ (fun _ => ?_))
      | exact ih0 _ _ _ _ _ _
      | exact ih1 _ _ _ _ _ _ _
      | exact ih2 _ _ _ _ _ _ _
      | exact ih3 _ _ _ _ _ _ _ _
      | exact ih4 _ _ _ _ _ _ _ _
      | exact dom_Least.mono _ _
      | exact dom_Post.mono _ _
      | exact LeO.none _
      | refine LeO.ite ?_ ?_
      | refine LeO.bind ?_ (fun _ => ?_)
    · intro y0 y1 y2 y3 y4 y5 y6 y7
      unfold billhooklaw10_DomLine.l2
      repeat' first
      | (with_reducible exact ih0 _ _ _ _ _ _)
      | (with_reducible exact ih1 _ _ _ _ _ _ _)
      | (with_reducible exact ih2 _ _ _ _ _ _ _)
      | (with_reducible exact ih3 _ _ _ _ _ _ _ _)
      | (with_reducible exact ih4 _ _ _ _ _ _ _ _)
      | (with_reducible exact dom_Least.mono _ _)
      | (with_reducible exact dom_Post.mono _ _)
      | (with_reducible exact LeO.refl _)
      | (with_reducible exact LeO.none _)
      | (with_reducible refine LeO.ite ?_ ?_)
      | (with_reducible refine LeO.bind ?_ (fun _ => ?_))
      | exact ih0 _ _ _ _ _ _
      | exact ih1 _ _ _ _ _ _ _
      | exact ih2 _ _ _ _ _ _ _
      | exact ih3 _ _ _ _ _ _ _ _
      | exact ih4 _ _ _ _ _ _ _ _
      | exact dom_Least.mono _ _
      | exact dom_Post.mono _ _
      | exact LeO.none _
      | refine LeO.ite ?_ ?_
      | refine LeO.bind ?_ (fun _ => ?_)
    · intro y0 y1 y2 y3 y4 y5 y6 y7
      unfold billhooklaw10_DomLine.j4
      repeat' first
      | (with_reducible exact ih0 _ _ _ _ _ _)
      | (with_reducible exact ih1 _ _ _ _ _ _ _)
      | (with_reducible exact ih2 _ _ _ _ _ _ _)
      | (with_reducible exact ih3 _ _ _ _ _ _ _ _)
      | (with_reducible exact ih4 _ _ _ _ _ _ _ _)
      | (with_reducible exact dom_Least.mono _ _)
      | (with_reducible exact dom_Post.mono _ _)
      | (with_reducible exact LeO.refl _)
      | (with_reducible exact LeO.none _)
      | (with_reducible refine LeO.ite ?_ ?_)
      | (with_reducible refine LeO.bind ?_ (fun _ => ?_))
      | exact ih0 _ _ _ _ _ _
      | exact ih1 _ _ _ _ _ _ _
      | exact ih2 _ _ _ _ _ _ _
      | exact ih3 _ _ _ _ _ _ _ _
      | exact ih4 _ _ _ _ _ _ _ _
      | exact dom_Least.mono _ _
      | exact dom_Post.mono _ _
      | exact LeO.none _
      | refine LeO.ite ?_ ?_
      | refine LeO.bind ?_ (fun _ => ?_)
theorem billhooklaw10_DomLine.mono : ∀ a0 a1 a2 k, LeO (billhooklaw10_DomLine.f k a0 a1 a2) (billhooklaw10_DomLine.f (k + 1) a0 a1 a2) := by
  intro a0 a1 a2 k
  obtain ⟨ih0, ih1, ih2, ih3, ih4⟩ := billhooklaw10_DomLine.mono_l k
  unfold billhooklaw10_DomLine.f
  repeat' first
      | (with_reducible exact ih0 _ _ _ _ _ _)
      | (with_reducible exact ih1 _ _ _ _ _ _ _)
      | (with_reducible exact ih2 _ _ _ _ _ _ _)
      | (with_reducible exact ih3 _ _ _ _ _ _ _ _)
      | (with_reducible exact ih4 _ _ _ _ _ _ _ _)
      | (with_reducible exact dom_Least.mono _ _)
      | (with_reducible exact dom_Post.mono _ _)
      | (with_reducible exact LeO.refl _)
      | (with_reducible exact LeO.none _)
      | (with_reducible refine LeO.ite ?_ ?_)
      | (with_reducible refine LeO.bind ?_ (fun _ => ?_))
      | exact ih0 _ _ _ _ _ _
      | exact ih1 _ _ _ _ _ _ _
      | exact ih2 _ _ _ _ _ _ _
      | exact ih3 _ _ _ _ _ _ _ _
      | exact ih4 _ _ _ _ _ _ _ _
      | exact dom_Least.mono _ _
      | exact dom_Post.mono _ _
      | exact LeO.none _
      | refine LeO.ite ?_ ?_
      | refine LeO.bind ?_ (fun _ => ?_)
set_option maxHeartbeats 8000000 in
set_option maxRecDepth 100000 in
theorem billhooklaw10_DomLine.calls (k : Nat) (a0 : Int) (a1 : Int) (a2 : Int) (r : Bool) (w : World) (h : billhooklaw10_DomLine.f k a0 a1 a2 = some r) :
    Calls Try.prog 11 #[.int .u8 a0, .int .u8 a1, .int .u8 a2] w fun e w' => e = .returned (.bool r) ∧ Below w.heap.size w w' := by
  have HB := Aside0.mk (Below.refl w.heap.size w)
  have H : ((billhooklaw10_examples.f).bind fun t296 => (if t296 = true then (if (wrap64 ((wrap64 (2 + (wrap64 (Int.tmod a0 12)))) - 1)) = 0 then (none) else (if (wrap64 ((wrap64 ((wrap64 (2 + (wrap64 (Int.tmod a0 12)))) - 1)) - (Int.tmod (wrap64 (a1)) (wrap64 ((wrap64 (2 + (wrap64 (Int.tmod a0 12)))) - 1))))) = 0 then (none) else (billhooklaw10_DomLine.l0 k t296 (wrap64 (2 + (wrap64 (Int.tmod a0 12)))) (Int.tmod (wrap64 (a1)) (wrap64 ((wrap64 (2 + (wrap64 (Int.tmod a0 12)))) - 1))) (wrap64 ((wrap64 ((Int.tmod (wrap64 (a1)) (wrap64 ((wrap64 (2 + (wrap64 (Int.tmod a0 12)))) - 1))) + 1)) + (Int.tmod (wrap64 (a2)) (wrap64 ((wrap64 ((wrap64 (2 + (wrap64 (Int.tmod a0 12)))) - 1)) - (Int.tmod (wrap64 (a1)) (wrap64 ((wrap64 (2 + (wrap64 (Int.tmod a0 12)))) - 1)))))))) ([] : List (List Int)) 0))) else (some false))) = some r := h
  clear h
  replace H := Option.bind_eq_some_iff.mp H
  obtain ⟨t296, A40, H⟩ := H
  replace H : (if t296 = true then (if (wrap64 ((wrap64 (2 + (wrap64 (Int.tmod a0 12)))) - 1)) = 0 then (none) else (if (wrap64 ((wrap64 ((wrap64 (2 + (wrap64 (Int.tmod a0 12)))) - 1)) - (Int.tmod (wrap64 (a1)) (wrap64 ((wrap64 (2 + (wrap64 (Int.tmod a0 12)))) - 1))))) = 0 then (none) else (billhooklaw10_DomLine.l0 k t296 (wrap64 (2 + (wrap64 (Int.tmod a0 12)))) (Int.tmod (wrap64 (a1)) (wrap64 ((wrap64 (2 + (wrap64 (Int.tmod a0 12)))) - 1))) (wrap64 ((wrap64 ((Int.tmod (wrap64 (a1)) (wrap64 ((wrap64 (2 + (wrap64 (Int.tmod a0 12)))) - 1))) + 1)) + (Int.tmod (wrap64 (a2)) (wrap64 ((wrap64 ((wrap64 (2 + (wrap64 (Int.tmod a0 12)))) - 1)) - (Int.tmod (wrap64 (a1)) (wrap64 ((wrap64 (2 + (wrap64 (Int.tmod a0 12)))) - 1)))))))) ([] : List (List Int)) 0))) else (some false)) = some r := H
  have A4 := Aside0.mk A40
  clear A40
  by_cases c5 : t296 = true
  · subst c5
    have H1 : (if (wrap64 ((wrap64 (2 + (wrap64 (Int.tmod a0 12)))) - 1)) = 0 then (none) else (if (wrap64 ((wrap64 ((wrap64 (2 + (wrap64 (Int.tmod a0 12)))) - 1)) - (Int.tmod (wrap64 (a1)) (wrap64 ((wrap64 (2 + (wrap64 (Int.tmod a0 12)))) - 1))))) = 0 then (none) else (billhooklaw10_DomLine.l0 k true (wrap64 (2 + (wrap64 (Int.tmod a0 12)))) (Int.tmod (wrap64 (a1)) (wrap64 ((wrap64 (2 + (wrap64 (Int.tmod a0 12)))) - 1))) (wrap64 ((wrap64 ((Int.tmod (wrap64 (a1)) (wrap64 ((wrap64 (2 + (wrap64 (Int.tmod a0 12)))) - 1))) + 1)) + (Int.tmod (wrap64 (a2)) (wrap64 ((wrap64 ((wrap64 (2 + (wrap64 (Int.tmod a0 12)))) - 1)) - (Int.tmod (wrap64 (a1)) (wrap64 ((wrap64 (2 + (wrap64 (Int.tmod a0 12)))) - 1)))))))) ([] : List (List Int)) 0))) = some r := by first | (rw [if_pos rfl] at H; exact H) | (rw [if_pos trivial] at H; exact H)
    clear H
    have H := H1
    clear H1
    by_cases c6 : (wrap64 ((wrap64 (2 + (wrap64 (Int.tmod a0 12)))) - 1)) = 0
    · rw [if_pos c6] at H
      exact absurd H (by simp)
    · rw [if_neg c6] at H
      have c6b0 : ((wrap64 ((wrap64 (2 + (wrap64 (Int.tmod a0 12)))) - 1)) == 0) = false := beq_eq_false_iff_ne.mpr c6
      have c6b1 : ((wrap64 ((wrap64 (2 + (wrap64 (Int.tmod a0 12)))) - 1)) != 0) = true := bne_iff_ne.mpr c6
      by_cases c7 : (wrap64 ((wrap64 ((wrap64 (2 + (wrap64 (Int.tmod a0 12)))) - 1)) - (Int.tmod (wrap64 (a1)) (wrap64 ((wrap64 (2 + (wrap64 (Int.tmod a0 12)))) - 1))))) = 0
      · rw [if_pos c7] at H
        exact absurd H (by simp)
      · rw [if_neg c7] at H
        have c7b0 : ((wrap64 ((wrap64 ((wrap64 (2 + (wrap64 (Int.tmod a0 12)))) - 1)) - (Int.tmod (wrap64 (a1)) (wrap64 ((wrap64 (2 + (wrap64 (Int.tmod a0 12)))) - 1))))) == 0) = false := beq_eq_false_iff_ne.mpr c7
        have c7b1 : ((wrap64 ((wrap64 ((wrap64 (2 + (wrap64 (Int.tmod a0 12)))) - 1)) - (Int.tmod (wrap64 (a1)) (wrap64 ((wrap64 (2 + (wrap64 (Int.tmod a0 12)))) - 1))))) != 0) = true := bne_iff_ne.mpr c7
        have H' := Aside0.mk H
        clear H
        go_enter Try.func11, Try.ntmps11
        go_wp2_with (first | ((with_reducible refine gate_callee (f := 26) rfl ?_); refine goesL_ (some 20) rfl rfl Try.func26 (by kernel_rfl) rfl #[] rfl (by (try simp only [List.map_toArray, List.map_cons, List.map_nil]); first | done | rfl | (simp only [List.length_drop, List.length_take]; rfl)) ?_; (with_reducible refine (billhooklaw10_examples.calls  true _ A4.out).mono ?_); rintro e w8 ⟨rfl, hb⟩; refine ⟨_, rfl, ?_⟩; have n0_ := Aside0.mk (below_step (by repeat (first | (with_reducible first | exact HB.out | apply below_alloc | apply pw_below_drewN | apply below_drew1) | exact HB.out)) hb); clear HB; have HB := n0_; clear n0_; (try clear hb); (try clear hb2); (try clear hk); (try clear hi)))
        go_loopg [11, 12] k (fun kq v11 v12 w' => ∃ (x11_1 : List (List Int)) (x12_1 : Int), v12 = .int .i64 x12_1 ∧ Aside0 (billhooklaw10_DomLine.l0 kq true (wrap64 (2 + (wrap64 (Int.tmod a0 12)))) (Int.tmod (wrap64 (a1)) (wrap64 ((wrap64 (2 + (wrap64 (Int.tmod a0 12)))) - 1))) (wrap64 ((wrap64 ((Int.tmod (wrap64 (a1)) (wrap64 ((wrap64 (2 + (wrap64 (Int.tmod a0 12)))) - 1))) + 1)) + (Int.tmod (wrap64 (a2)) (wrap64 ((wrap64 ((wrap64 (2 + (wrap64 (Int.tmod a0 12)))) - 1)) - (Int.tmod (wrap64 (a1)) (wrap64 ((wrap64 (2 + (wrap64 (Int.tmod a0 12)))) - 1)))))))) x11_1 x12_1 = some r) ∧ Aside0 (kq ≤ k) ∧ Aside0 (Kd.S (Kd.slice 3 (Kd.int .i64)) 54 w' w.heap.size (fun _ => True) v11 x11_1) ∧ Aside0 (Below w.heap.size w w'))
        case atStart => exact ⟨(([] : List (List Int))), (0), (by first | rfl | (simp; done) | (simp [*]; done)), H', ⟨Nat.le_refl _⟩, ⟨by first | exact Kd.S_nil _ _ _ _ _ | exact Kd.N_nil _ _ _ _ _ | exact Kd.V_nil _ _ _ _ _ | exact Kd.Q_nil _ _ _ _ _ | exact Kd.R_nil _ _ _ _ _⟩, ⟨by repeat (first | (with_reducible first | exact HB.out | apply below_alloc | apply pw_below_drewN | apply below_drew1) | exact HB.out)⟩⟩
        case round =>
          clear H'
          try clear c1
          try clear c2
          try clear p2
          try clear c5
          try clear c6
          try clear c6b0
          try clear c6b1
          try clear p6
          try clear c7
          try clear c7b0
          try clear c7b1
          obtain ⟨x11_1, x12_1, rfl, HA, HK1, HO_11, HB⟩ := hrel
          cases gk with
          | zero => exact absurd HA.out (by simp [billhooklaw10_DomLine.l0])
          | succ k1 =>
            have H := HA.out
            clear HA
            simp only [billhooklaw10_DomLine.l0] at H
            by_cases c9 : x12_1 < (wrap64 (2 + (wrap64 (Int.tmod a0 12))))
            · rw [if_pos c9] at H
              have c9b0 : decide (x12_1 < (wrap64 (2 + (wrap64 (Int.tmod a0 12))))) = true := decide_eq_true c9
              clear c9
              obtain ⟨y297, hy297⟩ : ∃ y_ : List Int, y_ = (([wrap64 (x12_1 + 1)] : List Int)) := ⟨_, rfl⟩
              replace H : (if x12_1 = (wrap64 ((wrap64 (2 + (wrap64 (Int.tmod a0 12)))) - 1)) then (if x12_1 = (Int.tmod (wrap64 (a1)) (wrap64 ((wrap64 (2 + (wrap64 (Int.tmod a0 12)))) - 1))) then (if ([] : List Int).length < 17592186044416 then (if x11_1.length < 5864062014805 then (billhooklaw10_DomLine.l0 k1 true (wrap64 (2 + (wrap64 (Int.tmod a0 12)))) (Int.tmod (wrap64 (a1)) (wrap64 ((wrap64 (2 + (wrap64 (Int.tmod a0 12)))) - 1))) (wrap64 ((wrap64 ((Int.tmod (wrap64 (a1)) (wrap64 ((wrap64 (2 + (wrap64 (Int.tmod a0 12)))) - 1))) + 1)) + (Int.tmod (wrap64 (a2)) (wrap64 ((wrap64 ((wrap64 (2 + (wrap64 (Int.tmod a0 12)))) - 1)) - (Int.tmod (wrap64 (a1)) (wrap64 ((wrap64 (2 + (wrap64 (Int.tmod a0 12)))) - 1)))))))) (x11_1 ++ [(([] : List Int) ++ [(wrap64 ((wrap64 ((Int.tmod (wrap64 (a1)) (wrap64 ((wrap64 (2 + (wrap64 (Int.tmod a0 12)))) - 1))) + 1)) + (Int.tmod (wrap64 (a2)) (wrap64 ((wrap64 ((wrap64 (2 + (wrap64 (Int.tmod a0 12)))) - 1)) - (Int.tmod (wrap64 (a1)) (wrap64 ((wrap64 (2 + (wrap64 (Int.tmod a0 12)))) - 1))))))))])]) (wrap64 (x12_1 + 1))) else (none)) else (none)) else (if x11_1.length < 5864062014805 then (billhooklaw10_DomLine.l0 k1 true (wrap64 (2 + (wrap64 (Int.tmod a0 12)))) (Int.tmod (wrap64 (a1)) (wrap64 ((wrap64 (2 + (wrap64 (Int.tmod a0 12)))) - 1))) (wrap64 ((wrap64 ((Int.tmod (wrap64 (a1)) (wrap64 ((wrap64 (2 + (wrap64 (Int.tmod a0 12)))) - 1))) + 1)) + (Int.tmod (wrap64 (a2)) (wrap64 ((wrap64 ((wrap64 (2 + (wrap64 (Int.tmod a0 12)))) - 1)) - (Int.tmod (wrap64 (a1)) (wrap64 ((wrap64 (2 + (wrap64 (Int.tmod a0 12)))) - 1)))))))) (x11_1 ++ [([] : List Int)]) (wrap64 (x12_1 + 1))) else (none))) else (if x12_1 = (Int.tmod (wrap64 (a1)) (wrap64 ((wrap64 (2 + (wrap64 (Int.tmod a0 12)))) - 1))) then (if y297.length < 17592186044416 then (if x11_1.length < 5864062014805 then (billhooklaw10_DomLine.l0 k1 true (wrap64 (2 + (wrap64 (Int.tmod a0 12)))) (Int.tmod (wrap64 (a1)) (wrap64 ((wrap64 (2 + (wrap64 (Int.tmod a0 12)))) - 1))) (wrap64 ((wrap64 ((Int.tmod (wrap64 (a1)) (wrap64 ((wrap64 (2 + (wrap64 (Int.tmod a0 12)))) - 1))) + 1)) + (Int.tmod (wrap64 (a2)) (wrap64 ((wrap64 ((wrap64 (2 + (wrap64 (Int.tmod a0 12)))) - 1)) - (Int.tmod (wrap64 (a1)) (wrap64 ((wrap64 (2 + (wrap64 (Int.tmod a0 12)))) - 1)))))))) (x11_1 ++ [(y297 ++ [(wrap64 ((wrap64 ((Int.tmod (wrap64 (a1)) (wrap64 ((wrap64 (2 + (wrap64 (Int.tmod a0 12)))) - 1))) + 1)) + (Int.tmod (wrap64 (a2)) (wrap64 ((wrap64 ((wrap64 (2 + (wrap64 (Int.tmod a0 12)))) - 1)) - (Int.tmod (wrap64 (a1)) (wrap64 ((wrap64 (2 + (wrap64 (Int.tmod a0 12)))) - 1))))))))])]) (wrap64 (x12_1 + 1))) else (none)) else (none)) else (if x11_1.length < 5864062014805 then (billhooklaw10_DomLine.l0 k1 true (wrap64 (2 + (wrap64 (Int.tmod a0 12)))) (Int.tmod (wrap64 (a1)) (wrap64 ((wrap64 (2 + (wrap64 (Int.tmod a0 12)))) - 1))) (wrap64 ((wrap64 ((Int.tmod (wrap64 (a1)) (wrap64 ((wrap64 (2 + (wrap64 (Int.tmod a0 12)))) - 1))) + 1)) + (Int.tmod (wrap64 (a2)) (wrap64 ((wrap64 ((wrap64 (2 + (wrap64 (Int.tmod a0 12)))) - 1)) - (Int.tmod (wrap64 (a1)) (wrap64 ((wrap64 (2 + (wrap64 (Int.tmod a0 12)))) - 1)))))))) (x11_1 ++ [y297]) (wrap64 (x12_1 + 1))) else (none)))) = some r := by first | (rw [hy297]; with_reducible exact H) | (have H2_ := (Option.bind_some _ _).symm.trans H; rw [hy297]; with_reducible exact H2_) | (have H2_ := (Option.bind_some _ _).symm.trans H; with_reducible exact H2_) | with_reducible exact H | (rw [hy297]; exact H) | exact H
              have Ny297 := Aside0.mk hy297
              clear hy297
              by_cases c10 : x12_1 = (wrap64 ((wrap64 (2 + (wrap64 (Int.tmod a0 12)))) - 1))
              · rw [if_pos c10] at H
                have c10b0 : (x12_1 == (wrap64 ((wrap64 (2 + (wrap64 (Int.tmod a0 12)))) - 1))) = true := beq_iff_eq.mpr c10
                have c10b1 : (x12_1 != (wrap64 ((wrap64 (2 + (wrap64 (Int.tmod a0 12)))) - 1))) = false := bne_eq_false_iff_eq.mpr c10
                clear c10
                by_cases c11 : x12_1 = (Int.tmod (wrap64 (a1)) (wrap64 ((wrap64 (2 + (wrap64 (Int.tmod a0 12)))) - 1)))
                · rw [if_pos c11] at H
                  have c11b0 : (x12_1 == (Int.tmod (wrap64 (a1)) (wrap64 ((wrap64 (2 + (wrap64 (Int.tmod a0 12)))) - 1)))) = true := beq_iff_eq.mpr c11
                  have c11b1 : (x12_1 != (Int.tmod (wrap64 (a1)) (wrap64 ((wrap64 (2 + (wrap64 (Int.tmod a0 12)))) - 1)))) = false := bne_eq_false_iff_eq.mpr c11
                  clear c11
                  by_cases c12 : ([] : List Int).length < 17592186044416
                  · rw [if_pos c12] at H
                    have LMc12 := Aside0.mk c12
                    clear c12
                    obtain ⟨y300, hy300⟩ : ∃ y_ : List Int, y_ = (([] : List Int) ++ [(wrap64 ((wrap64 ((Int.tmod (wrap64 (a1)) (wrap64 ((wrap64 (2 + (wrap64 (Int.tmod a0 12)))) - 1))) + 1)) + (Int.tmod (wrap64 (a2)) (wrap64 ((wrap64 ((wrap64 (2 + (wrap64 (Int.tmod a0 12)))) - 1)) - (Int.tmod (wrap64 (a1)) (wrap64 ((wrap64 (2 + (wrap64 (Int.tmod a0 12)))) - 1))))))))]) := ⟨_, rfl⟩
                    replace H : (if x11_1.length < 5864062014805 then (billhooklaw10_DomLine.l0 k1 true (wrap64 (2 + (wrap64 (Int.tmod a0 12)))) (Int.tmod (wrap64 (a1)) (wrap64 ((wrap64 (2 + (wrap64 (Int.tmod a0 12)))) - 1))) (wrap64 ((wrap64 ((Int.tmod (wrap64 (a1)) (wrap64 ((wrap64 (2 + (wrap64 (Int.tmod a0 12)))) - 1))) + 1)) + (Int.tmod (wrap64 (a2)) (wrap64 ((wrap64 ((wrap64 (2 + (wrap64 (Int.tmod a0 12)))) - 1)) - (Int.tmod (wrap64 (a1)) (wrap64 ((wrap64 (2 + (wrap64 (Int.tmod a0 12)))) - 1)))))))) (x11_1 ++ [y300]) (wrap64 (x12_1 + 1))) else (none)) = some r := by first | (rw [hy300]; with_reducible exact H) | (have H2_ := (Option.bind_some _ _).symm.trans H; rw [hy300]; with_reducible exact H2_) | (have H2_ := (Option.bind_some _ _).symm.trans H; with_reducible exact H2_) | with_reducible exact H | (rw [hy300]; exact H) | exact H
                    have Ny300 := Aside0.mk hy300
                    clear hy300
                    by_cases c13 : x11_1.length < 5864062014805
                    · rw [if_pos c13] at H
                      have LMc13 := Aside0.mk c13
                      clear c13
                      obtain ⟨y303, hy303⟩ : ∃ y_ : List (List Int), y_ = (x11_1 ++ [y300]) := ⟨_, rfl⟩
                      replace H : (billhooklaw10_DomLine.l0 k1 true (wrap64 (2 + (wrap64 (Int.tmod a0 12)))) (Int.tmod (wrap64 (a1)) (wrap64 ((wrap64 (2 + (wrap64 (Int.tmod a0 12)))) - 1))) (wrap64 ((wrap64 ((Int.tmod (wrap64 (a1)) (wrap64 ((wrap64 (2 + (wrap64 (Int.tmod a0 12)))) - 1))) + 1)) + (Int.tmod (wrap64 (a2)) (wrap64 ((wrap64 ((wrap64 (2 + (wrap64 (Int.tmod a0 12)))) - 1)) - (Int.tmod (wrap64 (a1)) (wrap64 ((wrap64 (2 + (wrap64 (Int.tmod a0 12)))) - 1)))))))) y303 (wrap64 (x12_1 + 1))) = some r := by first | (rw [hy303]; with_reducible exact H) | (have H2_ := (Option.bind_some _ _).symm.trans H; rw [hy303]; with_reducible exact H2_) | (have H2_ := (Option.bind_some _ _).symm.trans H; with_reducible exact H2_) | with_reducible exact H | (rw [hy303]; exact H) | exact H
                      have Ny303 := Aside0.mk hy303
                      clear hy303
                      have H' := Aside0.mk H
                      clear H
                      go_wp2_with (first | ((with_reducible refine gate_dst (N := 49) rfl ?_); (try (refine gate_guard (by rfl) ?_; dsimp only)); refine Kd.R_lit (Kd.int .i64) _ 3 ?hg (N := 49) ?hd (xs := ([wrap64 (x12_1 + 1)] : List Int)) (inner := [.int .i64 (wrap64 (x12_1 + 1))]) (ok := fun _ => True) (okp := fun _ => True) ?hr ?hp (fun _ hk => hk) trivial (Below.refl _ _) (Nat.le_refl _) (by simp) ?_; (case hd => rfl); (case hg => rfl); (case hr => first | (go_simp; done) | (go_simp; rfl)); (case hp => exact (Reps.one (show Kd.M (Kd.int .i64) _ _ _ (wrap64 (x12_1 + 1)) [.int .i64 (wrap64 (x12_1 + 1))] from rfl) (Reps.none _ _))); intro v298 w14 ho15 hb hg_ hnew_; clear hg_ hnew_; (first | rw [← Ny297.out] at ho15 | (simp only [Int.reduceToNat] at ho15; rw [← Ny297.out] at ho15)); have n0_ := Aside0.mk (Kd.S_elder' (by (with_reducible repeat (first | apply Kd.S_alloc | apply Kd.S_drewN | apply Kd.S_drew)); exact HO_11.out) (Kd.R_base ho15) hb); have n1_ := Aside0.mk (Kd.R_lower ho15 (below_size (by repeat (first | (with_reducible first | exact HB.out | apply below_alloc | apply pw_below_drewN | apply below_drew1) | exact HB.out)))); have n2_ := Aside0.mk (below_step (by repeat (first | (with_reducible first | exact HB.out | apply below_alloc | apply pw_below_drewN | apply below_drew1) | exact HB.out)) hb); clear HO_11; clear HB; have HO_11 := n0_; have HO299 := n1_; have HB := n2_; clear n0_ n1_ n2_; clear hb ho15) | ((with_reducible refine gate_builtin (b := .append) (xs := #[.tmp 57, .tmp 59]) rfl ?_); (try (refine gate_guard (by rfl) ?_; dsimp only)); at_builtin; refine Kd.R_append (Kd.int .i64) (w0 := w) w.heap.size rfl (.tmp 57) (.tmp 59) 54 3 (.int .i64 0) 8 rfl Try.underlying54 info3 rfl (by decide) (by omega) (.slice none 0 0) ([] : List Int) (wrap64 ((wrap64 ((Int.tmod (wrap64 (a1)) (wrap64 ((wrap64 (2 + (wrap64 (Int.tmod a0 12)))) - 1))) + 1)) + (Int.tmod (wrap64 (a2)) (wrap64 ((wrap64 ((wrap64 (2 + (wrap64 (Int.tmod a0 12)))) - 1)) - (Int.tmod (wrap64 (a1)) (wrap64 ((wrap64 (2 + (wrap64 (Int.tmod a0 12)))) - 1)))))))) [.int .i64 (wrap64 ((wrap64 ((Int.tmod (wrap64 (a1)) (wrap64 ((wrap64 (2 + (wrap64 (Int.tmod a0 12)))) - 1))) + 1)) + (Int.tmod (wrap64 (a2)) (wrap64 ((wrap64 ((wrap64 (2 + (wrap64 (Int.tmod a0 12)))) - 1)) - (Int.tmod (wrap64 (a1)) (wrap64 ((wrap64 (2 + (wrap64 (Int.tmod a0 12)))) - 1))))))))] (fun k_ => some k_ ≠ (v298 : Value).ownBlock) (fun _ => False) rfl rfl ?aP (fun _ hk => hk.elim) ?aF ?aO ?aB ?aS ?aL ?_; (case aP => first | exact rfl | exact ⟨_, rfl, Kd.R_nil _ _ _ _ _⟩); (case aB => exact (by repeat (first | (with_reducible first | exact HB.out | apply below_alloc | apply pw_below_drewN | apply below_drew1) | exact HB.out))); (case aF => exact (fun k_ hk => Kd.fresh' (Kd.R_lt (by (with_reducible repeat (first | apply Kd.R_alloc | apply Kd.R_drewN | apply Kd.R_drew)); exact HO299.out)) k_ hk)); (case aO => exact ((Kd.R_nil _ _ _ _ (fun k_ => some k_ ≠ (v298 : Value).ownBlock)))); (case aS => exact (below_size (by repeat (first | (with_reducible first | exact HB.out | apply below_alloc | apply pw_below_drewN | apply below_drew1) | exact HB.out)))); (case aL => have := LMc12.out; omega); intro v301 w16 ho hb hg hat; rw [← Ny300.out] at ho; have n0_ := Aside0.mk (Kd.S_after (Kd.S_apart_nil (by (with_reducible repeat (first | apply Kd.S_alloc | apply Kd.S_drewN | apply Kd.S_drew)); exact HO_11.out)) hg hat); have n1_ := Aside0.mk (Kd.R_after (Kd.R_apart_nil (by (with_reducible repeat (first | apply Kd.R_alloc | apply Kd.R_drewN | apply Kd.R_drew)); exact HO299.out)) hg hat); have n2_ := Aside0.mk (hb); have n3_ := Aside0.mk (ho); clear HO_11; clear HO299; clear HB; have HO_11 := n0_; have HO299 := n1_; have HB := n2_; have HO302 := n3_; clear n0_ n1_ n2_ n3_; clear ho hb hg hat; obtain ⟨Ao18, co18, eo18⟩ := Kd.R_slice HO302.out; subst eo18) | ((with_reducible refine gate_builtin (b := .append) (xs := #[.tmp 61, .tmp 63]) rfl ?_); (try (refine gate_guard (by rfl) ?_; dsimp only)); at_builtin; refine Kd.S_append (Kd.slice 3 (Kd.int .i64)) (w0 := w) w.heap.size rfl (.tmp 61) (.tmp 63) 53 54 (.slice none 0 0) 24 rfl Try.underlying53 info54 rfl (by decide) (by omega) u11 x11_1 y300 [.slice Ao18 y300.length co18] (fun k_ => some k_ ≠ (v298 : Value).ownBlock) (fun k_ => some k_ = (.slice Ao18 y300.length co18 : Value).ownBlock) rfl rfl ?aP (fun k_ hk_ => ((Kd.R_mono (ok' := fun k_ => ((fun k_ => some k_ ≠ (v298 : Value).ownBlock)) k_ ∧ some k_ ≠ (u11 : Value).ownBlock) (Kd.R_apart' (HO302.out) (Kd.S_typed HO_11.out) (by decide)) (fun k_ hk => ⟨hk.1, hk.2⟩))).1 k_ hk_.symm) ?aF ?aO ?aB ?aS ?aL ?_; (case aP => exact Kd.M_row (Kd.R_mono (Kd.R_tight rfl (Kd.R_mono (ok' := fun k_ => ((fun k_ => some k_ ≠ (v298 : Value).ownBlock)) k_ ∧ some k_ ≠ (u11 : Value).ownBlock) (Kd.R_apart' (HO302.out) (Kd.S_typed HO_11.out) (by decide)) (fun k_ hk => ⟨hk.1, hk.2⟩))) (fun _ h_ => h_))); (case aB => exact (by repeat (first | (with_reducible first | exact HB.out | apply below_alloc | apply pw_below_drewN | apply below_drew1) | exact HB.out))); (case aF => exact (fun k_ hk => Kd.fresh' (Kd.R_lt (by (with_reducible repeat (first | apply Kd.R_alloc | apply Kd.R_drewN | apply Kd.R_drew)); exact HO299.out)) k_ hk)); (case aO => exact (by (with_reducible repeat (first | apply Kd.S_alloc | apply Kd.S_drewN | apply Kd.S_drew)); exact Kd.S_mono HO_11.out (fun k_ hk => ⟨hk.1.2, fun e_ => hk.2 e_⟩))); (case aS => exact (below_size (by repeat (first | (with_reducible first | exact HB.out | apply below_alloc | apply pw_below_drewN | apply below_drew1) | exact HB.out)))); (case aL => have := LMc13.out; omega); intro v304 w17 ho hb hg hat; rw [← Ny303.out] at ho; have n0_ := Aside0.mk (Kd.R_over' (by (with_reducible repeat (first | apply Kd.R_alloc | apply Kd.R_drewN | apply Kd.R_drew)); exact HO299.out) (Kd.S_typed (by (with_reducible repeat (first | apply Kd.S_alloc | apply Kd.S_drewN | apply Kd.S_drew)); exact HO_11.out)) (by decide) hg); have n1_ := Aside0.mk (hb); have n2_ := Aside0.mk (ho); clear HO299; clear HB; clear HO_11; clear HO302; have HO299 := n0_; have HB := n1_; have HO305 := n2_; clear n0_ n1_ n2_; clear ho hb hg hat))
                      go_roundg k1
                      case measure => have := HK1.out; omega
                      case rel => exact ⟨(y303), (wrap64 (x12_1 + 1)), (by first | rfl | (simp; done) | (simp [*]; done)), H', ⟨by have := HK1.out; omega⟩, ⟨by (with_reducible repeat (first | apply Kd.S_alloc | apply Kd.S_drewN | apply Kd.S_drew)); exact Kd.S_mono HO305.out (fun _ hk => trivial)⟩, ⟨by repeat (first | (with_reducible first | exact HB.out | apply below_alloc | apply pw_below_drewN | apply below_drew1) | exact HB.out)⟩⟩
                    · rw [if_neg c13] at H
                      exact absurd H (by simp)
                  · rw [if_neg c12] at H
                    exact absurd H (by simp)
                · rw [if_neg c11] at H
                  have c11b0 : (x12_1 == (Int.tmod (wrap64 (a1)) (wrap64 ((wrap64 (2 + (wrap64 (Int.tmod a0 12)))) - 1)))) = false := beq_eq_false_iff_ne.mpr c11
                  have c11b1 : (x12_1 != (Int.tmod (wrap64 (a1)) (wrap64 ((wrap64 (2 + (wrap64 (Int.tmod a0 12)))) - 1)))) = true := bne_iff_ne.mpr c11
                  by_cases c19 : x11_1.length < 5864062014805
                  · rw [if_pos c19] at H
                    have LMc19 := Aside0.mk c19
                    clear c19
                    obtain ⟨y306, hy306⟩ : ∃ y_ : List (List Int), y_ = (x11_1 ++ [([] : List Int)]) := ⟨_, rfl⟩
                    replace H : (billhooklaw10_DomLine.l0 k1 true (wrap64 (2 + (wrap64 (Int.tmod a0 12)))) (Int.tmod (wrap64 (a1)) (wrap64 ((wrap64 (2 + (wrap64 (Int.tmod a0 12)))) - 1))) (wrap64 ((wrap64 ((Int.tmod (wrap64 (a1)) (wrap64 ((wrap64 (2 + (wrap64 (Int.tmod a0 12)))) - 1))) + 1)) + (Int.tmod (wrap64 (a2)) (wrap64 ((wrap64 ((wrap64 (2 + (wrap64 (Int.tmod a0 12)))) - 1)) - (Int.tmod (wrap64 (a1)) (wrap64 ((wrap64 (2 + (wrap64 (Int.tmod a0 12)))) - 1)))))))) y306 (wrap64 (x12_1 + 1))) = some r := by first | (rw [hy306]; with_reducible exact H) | (have H2_ := (Option.bind_some _ _).symm.trans H; rw [hy306]; with_reducible exact H2_) | (have H2_ := (Option.bind_some _ _).symm.trans H; with_reducible exact H2_) | with_reducible exact H | (rw [hy306]; exact H) | exact H
                    have Ny306 := Aside0.mk hy306
                    clear hy306
                    have H' := Aside0.mk H
                    clear H
                    go_wp2_with (first | ((with_reducible refine gate_dst (N := 49) rfl ?_); (try (refine gate_guard (by rfl) ?_; dsimp only)); refine Kd.R_lit (Kd.int .i64) _ 3 ?hg (N := 49) ?hd (xs := ([wrap64 (x12_1 + 1)] : List Int)) (inner := [.int .i64 (wrap64 (x12_1 + 1))]) (ok := fun _ => True) (okp := fun _ => True) ?hr ?hp (fun _ hk => hk) trivial (Below.refl _ _) (Nat.le_refl _) (by simp) ?_; (case hd => rfl); (case hg => rfl); (case hr => first | (go_simp; done) | (go_simp; rfl)); (case hp => exact (Reps.one (show Kd.M (Kd.int .i64) _ _ _ (wrap64 (x12_1 + 1)) [.int .i64 (wrap64 (x12_1 + 1))] from rfl) (Reps.none _ _))); intro v298 w20 ho21 hb hg_ hnew_; clear hg_ hnew_; (first | rw [← Ny297.out] at ho21 | (simp only [Int.reduceToNat] at ho21; rw [← Ny297.out] at ho21)); have n0_ := Aside0.mk (Kd.S_elder' (by (with_reducible repeat (first | apply Kd.S_alloc | apply Kd.S_drewN | apply Kd.S_drew)); exact HO_11.out) (Kd.R_base ho21) hb); have n1_ := Aside0.mk (Kd.R_lower ho21 (below_size (by repeat (first | (with_reducible first | exact HB.out | apply below_alloc | apply pw_below_drewN | apply below_drew1) | exact HB.out)))); have n2_ := Aside0.mk (below_step (by repeat (first | (with_reducible first | exact HB.out | apply below_alloc | apply pw_below_drewN | apply below_drew1) | exact HB.out)) hb); clear HO_11; clear HB; have HO_11 := n0_; have HO299 := n1_; have HB := n2_; clear n0_ n1_ n2_; clear hb ho21) | ((with_reducible refine gate_builtin (b := .append) (xs := #[.tmp 61, .tmp 63]) rfl ?_); (try (refine gate_guard (by rfl) ?_; dsimp only)); at_builtin; refine Kd.S_append (Kd.slice 3 (Kd.int .i64)) (w0 := w) w.heap.size rfl (.tmp 61) (.tmp 63) 53 54 (.slice none 0 0) 24 rfl Try.underlying53 info54 rfl (by decide) (by omega) u11 x11_1 ([] : List Int) [.slice none 0 0] (fun k_ => some k_ ≠ (v298 : Value).ownBlock) (fun _ => False) rfl rfl ?aP (fun k_ hk_ => hk_.elim) ?aF ?aO ?aB ?aS ?aL ?_; (case aP => exact Kd.M_row (Kd.R_nil _ _ _ _ _)); (case aB => exact (by repeat (first | (with_reducible first | exact HB.out | apply below_alloc | apply pw_below_drewN | apply below_drew1) | exact HB.out))); (case aF => exact (fun k_ hk => Kd.fresh' (Kd.R_lt (by (with_reducible repeat (first | apply Kd.R_alloc | apply Kd.R_drewN | apply Kd.R_drew)); exact HO299.out)) k_ hk)); (case aO => exact (by (with_reducible repeat (first | apply Kd.S_alloc | apply Kd.S_drewN | apply Kd.S_drew)); exact Kd.S_mono HO_11.out (fun k_ hk => ⟨hk.2, fun e_ => e_⟩))); (case aS => exact (below_size (by repeat (first | (with_reducible first | exact HB.out | apply below_alloc | apply pw_below_drewN | apply below_drew1) | exact HB.out)))); (case aL => have := LMc19.out; omega); intro v307 w22 ho hb hg hat; rw [← Ny306.out] at ho; have n0_ := Aside0.mk (Kd.R_over' (by (with_reducible repeat (first | apply Kd.R_alloc | apply Kd.R_drewN | apply Kd.R_drew)); exact HO299.out) (Kd.S_typed (by (with_reducible repeat (first | apply Kd.S_alloc | apply Kd.S_drewN | apply Kd.S_drew)); exact HO_11.out)) (by decide) hg); have n1_ := Aside0.mk (hb); have n2_ := Aside0.mk (ho); clear HO299; clear HB; clear HO_11; have HO299 := n0_; have HB := n1_; have HO308 := n2_; clear n0_ n1_ n2_; clear ho hb hg hat))
                    go_roundg k1
                    case measure => have := HK1.out; omega
                    case rel => exact ⟨(y306), (wrap64 (x12_1 + 1)), (by first | rfl | (simp; done) | (simp [*]; done)), H', ⟨by have := HK1.out; omega⟩, ⟨by (with_reducible repeat (first | apply Kd.S_alloc | apply Kd.S_drewN | apply Kd.S_drew)); exact Kd.S_mono HO308.out (fun _ hk => trivial)⟩, ⟨by repeat (first | (with_reducible first | exact HB.out | apply below_alloc | apply pw_below_drewN | apply below_drew1) | exact HB.out)⟩⟩
                  · rw [if_neg c19] at H
                    exact absurd H (by simp)
              · rw [if_neg c10] at H
                have c10b0 : (x12_1 == (wrap64 ((wrap64 (2 + (wrap64 (Int.tmod a0 12)))) - 1))) = false := beq_eq_false_iff_ne.mpr c10
                have c10b1 : (x12_1 != (wrap64 ((wrap64 (2 + (wrap64 (Int.tmod a0 12)))) - 1))) = true := bne_iff_ne.mpr c10
                by_cases c23 : x12_1 = (Int.tmod (wrap64 (a1)) (wrap64 ((wrap64 (2 + (wrap64 (Int.tmod a0 12)))) - 1)))
                · rw [if_pos c23] at H
                  have c23b0 : (x12_1 == (Int.tmod (wrap64 (a1)) (wrap64 ((wrap64 (2 + (wrap64 (Int.tmod a0 12)))) - 1)))) = true := beq_iff_eq.mpr c23
                  have c23b1 : (x12_1 != (Int.tmod (wrap64 (a1)) (wrap64 ((wrap64 (2 + (wrap64 (Int.tmod a0 12)))) - 1)))) = false := bne_eq_false_iff_eq.mpr c23
                  clear c23
                  by_cases c24 : y297.length < 17592186044416
                  · rw [if_pos c24] at H
                    have LMc24 := Aside0.mk c24
                    clear c24
                    obtain ⟨y309, hy309⟩ : ∃ y_ : List Int, y_ = (y297 ++ [(wrap64 ((wrap64 ((Int.tmod (wrap64 (a1)) (wrap64 ((wrap64 (2 + (wrap64 (Int.tmod a0 12)))) - 1))) + 1)) + (Int.tmod (wrap64 (a2)) (wrap64 ((wrap64 ((wrap64 (2 + (wrap64 (Int.tmod a0 12)))) - 1)) - (Int.tmod (wrap64 (a1)) (wrap64 ((wrap64 (2 + (wrap64 (Int.tmod a0 12)))) - 1))))))))]) := ⟨_, rfl⟩
                    replace H : (if x11_1.length < 5864062014805 then (billhooklaw10_DomLine.l0 k1 true (wrap64 (2 + (wrap64 (Int.tmod a0 12)))) (Int.tmod (wrap64 (a1)) (wrap64 ((wrap64 (2 + (wrap64 (Int.tmod a0 12)))) - 1))) (wrap64 ((wrap64 ((Int.tmod (wrap64 (a1)) (wrap64 ((wrap64 (2 + (wrap64 (Int.tmod a0 12)))) - 1))) + 1)) + (Int.tmod (wrap64 (a2)) (wrap64 ((wrap64 ((wrap64 (2 + (wrap64 (Int.tmod a0 12)))) - 1)) - (Int.tmod (wrap64 (a1)) (wrap64 ((wrap64 (2 + (wrap64 (Int.tmod a0 12)))) - 1)))))))) (x11_1 ++ [y309]) (wrap64 (x12_1 + 1))) else (none)) = some r := by first | (rw [hy309]; with_reducible exact H) | (have H2_ := (Option.bind_some _ _).symm.trans H; rw [hy309]; with_reducible exact H2_) | (have H2_ := (Option.bind_some _ _).symm.trans H; with_reducible exact H2_) | with_reducible exact H | (rw [hy309]; exact H) | exact H
                    have Ny309 := Aside0.mk hy309
                    clear hy309
                    by_cases c25 : x11_1.length < 5864062014805
                    · rw [if_pos c25] at H
                      have LMc25 := Aside0.mk c25
                      clear c25
                      obtain ⟨y312, hy312⟩ : ∃ y_ : List (List Int), y_ = (x11_1 ++ [y309]) := ⟨_, rfl⟩
                      replace H : (billhooklaw10_DomLine.l0 k1 true (wrap64 (2 + (wrap64 (Int.tmod a0 12)))) (Int.tmod (wrap64 (a1)) (wrap64 ((wrap64 (2 + (wrap64 (Int.tmod a0 12)))) - 1))) (wrap64 ((wrap64 ((Int.tmod (wrap64 (a1)) (wrap64 ((wrap64 (2 + (wrap64 (Int.tmod a0 12)))) - 1))) + 1)) + (Int.tmod (wrap64 (a2)) (wrap64 ((wrap64 ((wrap64 (2 + (wrap64 (Int.tmod a0 12)))) - 1)) - (Int.tmod (wrap64 (a1)) (wrap64 ((wrap64 (2 + (wrap64 (Int.tmod a0 12)))) - 1)))))))) y312 (wrap64 (x12_1 + 1))) = some r := by first | (rw [hy312]; with_reducible exact H) | (have H2_ := (Option.bind_some _ _).symm.trans H; rw [hy312]; with_reducible exact H2_) | (have H2_ := (Option.bind_some _ _).symm.trans H; with_reducible exact H2_) | with_reducible exact H | (rw [hy312]; exact H) | exact H
                      have Ny312 := Aside0.mk hy312
                      clear hy312
                      have H' := Aside0.mk H
                      clear H
                      go_wp2_with (first | ((with_reducible refine gate_dst (N := 49) rfl ?_); (try (refine gate_guard (by rfl) ?_; dsimp only)); refine Kd.R_lit (Kd.int .i64) _ 3 ?hg (N := 49) ?hd (xs := ([wrap64 (x12_1 + 1)] : List Int)) (inner := [.int .i64 (wrap64 (x12_1 + 1))]) (ok := fun _ => True) (okp := fun _ => True) ?hr ?hp (fun _ hk => hk) trivial (Below.refl _ _) (Nat.le_refl _) (by simp) ?_; (case hd => rfl); (case hg => rfl); (case hr => first | (go_simp; done) | (go_simp; rfl)); (case hp => exact (Reps.one (show Kd.M (Kd.int .i64) _ _ _ (wrap64 (x12_1 + 1)) [.int .i64 (wrap64 (x12_1 + 1))] from rfl) (Reps.none _ _))); intro v298 w26 ho27 hb hg_ hnew_; clear hg_ hnew_; (first | rw [← Ny297.out] at ho27 | (simp only [Int.reduceToNat] at ho27; rw [← Ny297.out] at ho27)); have n0_ := Aside0.mk (Kd.S_elder' (by (with_reducible repeat (first | apply Kd.S_alloc | apply Kd.S_drewN | apply Kd.S_drew)); exact HO_11.out) (Kd.R_base ho27) hb); have n1_ := Aside0.mk (Kd.R_lower ho27 (below_size (by repeat (first | (with_reducible first | exact HB.out | apply below_alloc | apply pw_below_drewN | apply below_drew1) | exact HB.out)))); have n2_ := Aside0.mk (below_step (by repeat (first | (with_reducible first | exact HB.out | apply below_alloc | apply pw_below_drewN | apply below_drew1) | exact HB.out)) hb); clear HO_11; clear HB; have HO_11 := n0_; have HO299 := n1_; have HB := n2_; clear n0_ n1_ n2_; clear hb ho27) | ((with_reducible refine gate_builtin (b := .append) (xs := #[.tmp 57, .tmp 59]) rfl ?_); (try (refine gate_guard (by rfl) ?_; dsimp only)); at_builtin; refine Kd.R_append (Kd.int .i64) (w0 := w) w.heap.size rfl (.tmp 57) (.tmp 59) 54 3 (.int .i64 0) 8 rfl Try.underlying54 info3 rfl (by decide) (by omega) v298 y297 (wrap64 ((wrap64 ((Int.tmod (wrap64 (a1)) (wrap64 ((wrap64 (2 + (wrap64 (Int.tmod a0 12)))) - 1))) + 1)) + (Int.tmod (wrap64 (a2)) (wrap64 ((wrap64 ((wrap64 (2 + (wrap64 (Int.tmod a0 12)))) - 1)) - (Int.tmod (wrap64 (a1)) (wrap64 ((wrap64 (2 + (wrap64 (Int.tmod a0 12)))) - 1)))))))) [.int .i64 (wrap64 ((wrap64 ((Int.tmod (wrap64 (a1)) (wrap64 ((wrap64 (2 + (wrap64 (Int.tmod a0 12)))) - 1))) + 1)) + (Int.tmod (wrap64 (a2)) (wrap64 ((wrap64 ((wrap64 (2 + (wrap64 (Int.tmod a0 12)))) - 1)) - (Int.tmod (wrap64 (a1)) (wrap64 ((wrap64 (2 + (wrap64 (Int.tmod a0 12)))) - 1))))))))] (fun _ => True) (fun _ => False) rfl rfl ?aP (fun _ hk => hk.elim) ?aF ?aO ?aB ?aS ?aL ?_; (case aP => first | exact rfl | exact ⟨_, rfl, Kd.R_nil _ _ _ _ _⟩); (case aB => exact (by repeat (first | (with_reducible first | exact HB.out | apply below_alloc | apply pw_below_drewN | apply below_drew1) | exact HB.out))); (case aF => exact (fun _ _ => trivial)); (case aO => exact (by (with_reducible repeat (first | apply Kd.R_alloc | apply Kd.R_drewN | apply Kd.R_drew)); exact HO299.out)); (case aS => exact (below_size (by repeat (first | (with_reducible first | exact HB.out | apply below_alloc | apply pw_below_drewN | apply below_drew1) | exact HB.out)))); (case aL => have := LMc24.out; omega); intro v310 w28 ho hb hg hat; rw [← Ny309.out] at ho; have n0_ := Aside0.mk (Kd.S_after (ok := (fun _ => True)) (by (with_reducible repeat (first | apply Kd.S_alloc | apply Kd.S_drewN | apply Kd.S_drew)); exact HO_11.out) hg hat); have n1_ := Aside0.mk (hb); have n2_ := Aside0.mk (ho); clear HO_11; clear HB; clear HO299; have HO_11 := n0_; have HB := n1_; have HO311 := n2_; clear n0_ n1_ n2_; clear ho hb hg hat; obtain ⟨Ao30, co30, eo30⟩ := Kd.R_slice HO311.out; subst eo30) | ((with_reducible refine gate_builtin (b := .append) (xs := #[.tmp 61, .tmp 63]) rfl ?_); (try (refine gate_guard (by rfl) ?_; dsimp only)); at_builtin; refine Kd.S_append (Kd.slice 3 (Kd.int .i64)) (w0 := w) w.heap.size rfl (.tmp 61) (.tmp 63) 53 54 (.slice none 0 0) 24 rfl Try.underlying53 info54 rfl (by decide) (by omega) u11 x11_1 y309 [.slice Ao30 y309.length co30] (fun _ => True) (fun k_ => some k_ = (.slice Ao30 y309.length co30 : Value).ownBlock) rfl rfl ?aP (fun k_ hk_ => ((Kd.R_mono (ok' := fun k_ => ((fun _ => True)) k_ ∧ some k_ ≠ (u11 : Value).ownBlock) (Kd.R_apart' (HO311.out) (Kd.S_typed HO_11.out) (by decide)) (fun k_ hk => ⟨trivial, hk.2⟩))).1 k_ hk_.symm) ?aF ?aO ?aB ?aS ?aL ?_; (case aP => exact Kd.M_row (Kd.R_mono (Kd.R_tight rfl (Kd.R_mono (ok' := fun k_ => ((fun _ => True)) k_ ∧ some k_ ≠ (u11 : Value).ownBlock) (Kd.R_apart' (HO311.out) (Kd.S_typed HO_11.out) (by decide)) (fun k_ hk => ⟨trivial, hk.2⟩))) (fun _ h_ => h_))); (case aB => exact (by repeat (first | (with_reducible first | exact HB.out | apply below_alloc | apply pw_below_drewN | apply below_drew1) | exact HB.out))); (case aF => exact (fun _ _ => trivial)); (case aO => exact (by (with_reducible repeat (first | apply Kd.S_alloc | apply Kd.S_drewN | apply Kd.S_drew)); exact Kd.S_mono HO_11.out (fun k_ hk => ⟨trivial, fun e_ => hk.2 e_⟩))); (case aS => exact (below_size (by repeat (first | (with_reducible first | exact HB.out | apply below_alloc | apply pw_below_drewN | apply below_drew1) | exact HB.out)))); (case aL => have := LMc25.out; omega); intro v313 w29 ho hb hg hat; rw [← Ny312.out] at ho; have n0_ := Aside0.mk (hb); have n1_ := Aside0.mk (ho); clear HB; clear HO_11; clear HO311; have HB := n0_; have HO314 := n1_; clear n0_ n1_; clear ho hb hg hat))
                      go_roundg k1
                      case measure => have := HK1.out; omega
                      case rel => exact ⟨(y312), (wrap64 (x12_1 + 1)), (by first | rfl | (simp; done) | (simp [*]; done)), H', ⟨by have := HK1.out; omega⟩, ⟨by (with_reducible repeat (first | apply Kd.S_alloc | apply Kd.S_drewN | apply Kd.S_drew)); exact HO314.out⟩, ⟨by repeat (first | (with_reducible first | exact HB.out | apply below_alloc | apply pw_below_drewN | apply below_drew1) | exact HB.out)⟩⟩
                    · rw [if_neg c25] at H
                      exact absurd H (by simp)
                  · rw [if_neg c24] at H
                    exact absurd H (by simp)
                · rw [if_neg c23] at H
                  have c23b0 : (x12_1 == (Int.tmod (wrap64 (a1)) (wrap64 ((wrap64 (2 + (wrap64 (Int.tmod a0 12)))) - 1)))) = false := beq_eq_false_iff_ne.mpr c23
                  have c23b1 : (x12_1 != (Int.tmod (wrap64 (a1)) (wrap64 ((wrap64 (2 + (wrap64 (Int.tmod a0 12)))) - 1)))) = true := bne_iff_ne.mpr c23
                  by_cases c31 : x11_1.length < 5864062014805
                  · rw [if_pos c31] at H
                    have LMc31 := Aside0.mk c31
                    clear c31
                    obtain ⟨y315, hy315⟩ : ∃ y_ : List (List Int), y_ = (x11_1 ++ [y297]) := ⟨_, rfl⟩
                    replace H : (billhooklaw10_DomLine.l0 k1 true (wrap64 (2 + (wrap64 (Int.tmod a0 12)))) (Int.tmod (wrap64 (a1)) (wrap64 ((wrap64 (2 + (wrap64 (Int.tmod a0 12)))) - 1))) (wrap64 ((wrap64 ((Int.tmod (wrap64 (a1)) (wrap64 ((wrap64 (2 + (wrap64 (Int.tmod a0 12)))) - 1))) + 1)) + (Int.tmod (wrap64 (a2)) (wrap64 ((wrap64 ((wrap64 (2 + (wrap64 (Int.tmod a0 12)))) - 1)) - (Int.tmod (wrap64 (a1)) (wrap64 ((wrap64 (2 + (wrap64 (Int.tmod a0 12)))) - 1)))))))) y315 (wrap64 (x12_1 + 1))) = some r := by first | (rw [hy315]; with_reducible exact H) | (have H2_ := (Option.bind_some _ _).symm.trans H; rw [hy315]; with_reducible exact H2_) | (have H2_ := (Option.bind_some _ _).symm.trans H; with_reducible exact H2_) | with_reducible exact H | (rw [hy315]; exact H) | exact H
                    have Ny315 := Aside0.mk hy315
                    clear hy315
                    have H' := Aside0.mk H
                    clear H
                    go_wp2_with (first | ((with_reducible refine gate_dst (N := 49) rfl ?_); (try (refine gate_guard (by rfl) ?_; dsimp only)); refine Kd.R_lit (Kd.int .i64) _ 3 ?hg (N := 49) ?hd (xs := ([wrap64 (x12_1 + 1)] : List Int)) (inner := [.int .i64 (wrap64 (x12_1 + 1))]) (ok := fun _ => True) (okp := fun _ => True) ?hr ?hp (fun _ hk => hk) trivial (Below.refl _ _) (Nat.le_refl _) (by simp) ?_; (case hd => rfl); (case hg => rfl); (case hr => first | (go_simp; done) | (go_simp; rfl)); (case hp => exact (Reps.one (show Kd.M (Kd.int .i64) _ _ _ (wrap64 (x12_1 + 1)) [.int .i64 (wrap64 (x12_1 + 1))] from rfl) (Reps.none _ _))); intro v298 w32 ho33 hb hg_ hnew_; clear hg_ hnew_; (first | rw [← Ny297.out] at ho33 | (simp only [Int.reduceToNat] at ho33; rw [← Ny297.out] at ho33)); have n0_ := Aside0.mk (Kd.S_elder' (by (with_reducible repeat (first | apply Kd.S_alloc | apply Kd.S_drewN | apply Kd.S_drew)); exact HO_11.out) (Kd.R_base ho33) hb); have n1_ := Aside0.mk (Kd.R_lower ho33 (below_size (by repeat (first | (with_reducible first | exact HB.out | apply below_alloc | apply pw_below_drewN | apply below_drew1) | exact HB.out)))); have n2_ := Aside0.mk (below_step (by repeat (first | (with_reducible first | exact HB.out | apply below_alloc | apply pw_below_drewN | apply below_drew1) | exact HB.out)) hb); clear HO_11; clear HB; have HO_11 := n0_; have HO299 := n1_; have HB := n2_; clear n0_ n1_ n2_; clear hb ho33; obtain ⟨Ao35, co35, eo35⟩ := Kd.R_slice HO299.out; subst eo35) | ((with_reducible refine gate_builtin (b := .append) (xs := #[.tmp 61, .tmp 63]) rfl ?_); (try (refine gate_guard (by rfl) ?_; dsimp only)); at_builtin; refine Kd.S_append (Kd.slice 3 (Kd.int .i64)) (w0 := w) w.heap.size rfl (.tmp 61) (.tmp 63) 53 54 (.slice none 0 0) 24 rfl Try.underlying53 info54 rfl (by decide) (by omega) u11 x11_1 y297 [.slice Ao35 y297.length co35] (fun _ => True) (fun k_ => some k_ = (.slice Ao35 y297.length co35 : Value).ownBlock) rfl rfl ?aP (fun k_ hk_ => ((Kd.R_mono (ok' := fun k_ => ((fun _ => True)) k_ ∧ some k_ ≠ (u11 : Value).ownBlock) (Kd.R_apart' (HO299.out) (Kd.S_typed HO_11.out) (by decide)) (fun k_ hk => ⟨trivial, hk.2⟩))).1 k_ hk_.symm) ?aF ?aO ?aB ?aS ?aL ?_; (case aP => exact Kd.M_row (Kd.R_mono (Kd.R_tight rfl (Kd.R_mono (ok' := fun k_ => ((fun _ => True)) k_ ∧ some k_ ≠ (u11 : Value).ownBlock) (Kd.R_apart' (HO299.out) (Kd.S_typed HO_11.out) (by decide)) (fun k_ hk => ⟨trivial, hk.2⟩))) (fun _ h_ => h_))); (case aB => exact (by repeat (first | (with_reducible first | exact HB.out | apply below_alloc | apply pw_below_drewN | apply below_drew1) | exact HB.out))); (case aF => exact (fun _ _ => trivial)); (case aO => exact (by (with_reducible repeat (first | apply Kd.S_alloc | apply Kd.S_drewN | apply Kd.S_drew)); exact Kd.S_mono HO_11.out (fun k_ hk => ⟨trivial, fun e_ => hk.2 e_⟩))); (case aS => exact (below_size (by repeat (first | (with_reducible first | exact HB.out | apply below_alloc | apply pw_below_drewN | apply below_drew1) | exact HB.out)))); (case aL => have := LMc31.out; omega); intro v316 w34 ho hb hg hat; rw [← Ny315.out] at ho; have n0_ := Aside0.mk (hb); have n1_ := Aside0.mk (ho); clear HB; clear HO_11; clear HO299; have HB := n0_; have HO317 := n1_; clear n0_ n1_; clear ho hb hg hat))
                    go_roundg k1
                    case measure => have := HK1.out; omega
                    case rel => exact ⟨(y315), (wrap64 (x12_1 + 1)), (by first | rfl | (simp; done) | (simp [*]; done)), H', ⟨by have := HK1.out; omega⟩, ⟨by (with_reducible repeat (first | apply Kd.S_alloc | apply Kd.S_drewN | apply Kd.S_drew)); exact HO317.out⟩, ⟨by repeat (first | (with_reducible first | exact HB.out | apply below_alloc | apply pw_below_drewN | apply below_drew1) | exact HB.out)⟩⟩
                  · rw [if_neg c31] at H
                    exact absurd H (by simp)
            · rw [if_neg c9] at H
              have c9b0 : decide (x12_1 < (wrap64 (2 + (wrap64 (Int.tmod a0 12))))) = false := decide_eq_false c9
              clear c9
              replace H := Option.bind_eq_some_iff.mp H
              obtain ⟨t318, A360, H⟩ := H
              replace H : ((dom_Least.f k1 x11_1).bind fun t321 => (if (t318.length : Int) = (wrap64 (2 + (wrap64 (Int.tmod a0 12)))) then (billhooklaw10_DomLine.j1 k1 true (wrap64 (2 + (wrap64 (Int.tmod a0 12)))) (Int.tmod (wrap64 (a1)) (wrap64 ((wrap64 (2 + (wrap64 (Int.tmod a0 12)))) - 1))) (wrap64 ((wrap64 ((Int.tmod (wrap64 (a1)) (wrap64 ((wrap64 (2 + (wrap64 (Int.tmod a0 12)))) - 1))) + 1)) + (Int.tmod (wrap64 (a2)) (wrap64 ((wrap64 ((wrap64 (2 + (wrap64 (Int.tmod a0 12)))) - 1)) - (Int.tmod (wrap64 (a1)) (wrap64 ((wrap64 (2 + (wrap64 (Int.tmod a0 12)))) - 1)))))))) t318 t321 ((t321.length : Int) != (wrap64 (2 + (wrap64 (Int.tmod a0 12)))))) else (billhooklaw10_DomLine.j1 k1 true (wrap64 (2 + (wrap64 (Int.tmod a0 12)))) (Int.tmod (wrap64 (a1)) (wrap64 ((wrap64 (2 + (wrap64 (Int.tmod a0 12)))) - 1))) (wrap64 ((wrap64 ((Int.tmod (wrap64 (a1)) (wrap64 ((wrap64 (2 + (wrap64 (Int.tmod a0 12)))) - 1))) + 1)) + (Int.tmod (wrap64 (a2)) (wrap64 ((wrap64 ((wrap64 (2 + (wrap64 (Int.tmod a0 12)))) - 1)) - (Int.tmod (wrap64 (a1)) (wrap64 ((wrap64 (2 + (wrap64 (Int.tmod a0 12)))) - 1)))))))) t318 t321 true))) = some r := H
              have A36 := Aside0.mk A360
              clear A360
              replace H := Option.bind_eq_some_iff.mp H
              obtain ⟨t321, A370, H⟩ := H
              replace H : (if (t318.length : Int) = (wrap64 (2 + (wrap64 (Int.tmod a0 12)))) then (billhooklaw10_DomLine.j1 k1 true (wrap64 (2 + (wrap64 (Int.tmod a0 12)))) (Int.tmod (wrap64 (a1)) (wrap64 ((wrap64 (2 + (wrap64 (Int.tmod a0 12)))) - 1))) (wrap64 ((wrap64 ((Int.tmod (wrap64 (a1)) (wrap64 ((wrap64 (2 + (wrap64 (Int.tmod a0 12)))) - 1))) + 1)) + (Int.tmod (wrap64 (a2)) (wrap64 ((wrap64 ((wrap64 (2 + (wrap64 (Int.tmod a0 12)))) - 1)) - (Int.tmod (wrap64 (a1)) (wrap64 ((wrap64 (2 + (wrap64 (Int.tmod a0 12)))) - 1)))))))) t318 t321 ((t321.length : Int) != (wrap64 (2 + (wrap64 (Int.tmod a0 12)))))) else (billhooklaw10_DomLine.j1 k1 true (wrap64 (2 + (wrap64 (Int.tmod a0 12)))) (Int.tmod (wrap64 (a1)) (wrap64 ((wrap64 (2 + (wrap64 (Int.tmod a0 12)))) - 1))) (wrap64 ((wrap64 ((Int.tmod (wrap64 (a1)) (wrap64 ((wrap64 (2 + (wrap64 (Int.tmod a0 12)))) - 1))) + 1)) + (Int.tmod (wrap64 (a2)) (wrap64 ((wrap64 ((wrap64 (2 + (wrap64 (Int.tmod a0 12)))) - 1)) - (Int.tmod (wrap64 (a1)) (wrap64 ((wrap64 (2 + (wrap64 (Int.tmod a0 12)))) - 1)))))))) t318 t321 true)) = some r := H
              have A37 := Aside0.mk A370
              clear A370
              have HC38 := Aside0.mk H
              clear H
              obtain ⟨Ao39, co39, eo39⟩ := Kd.S_slice HO_11.out
              subst eo39
              go_upto_region 19 with (first | ((with_reducible refine gate_callee (f := 31) rfl ?_); refine goesL_ (some 66) rfl rfl Try.func31 (by kernel_rfl) rfl #[.slice Ao39 x11_1.length co39] rfl (by (try simp only [List.map_toArray, List.map_cons, List.map_nil]); first | done | rfl | (simp only [List.length_drop, List.length_take]; rfl)) ?_; (with_reducible refine (dom_Post.calls k1 _ _ x11_1 t318 _ ?side1 ?side2 A36.out).mono ?_); (case side1 => repeat (first | exact (Kd.S_reads' HO_11.out).2.2 | (with_reducible refine Kd.C_alloc ?_ _) | (with_reducible refine Kd.C_drewN ?_ _) | (with_reducible refine Kd.C_drew ?_))); (case side2 => exact (Kd.S_reads' HO_11.out).2.1); rintro e w40 ⟨v319, rfl, ho0, hb⟩; refine ⟨_, rfl, ?_⟩; have n0_ := Aside0.mk (Kd.S_below (by (with_reducible repeat (first | apply Kd.S_alloc | apply Kd.S_drewN | apply Kd.S_drew)); exact HO_11.out) hb); have n1_ := Aside0.mk (Kd.S_lower ho0 (below_size (by repeat (first | (with_reducible first | exact HB.out | apply below_alloc | apply pw_below_drewN | apply below_drew1) | exact HB.out)))); have n2_ := Aside0.mk (below_step (by repeat (first | (with_reducible first | exact HB.out | apply below_alloc | apply pw_below_drewN | apply below_drew1) | exact HB.out)) hb); clear HO_11; clear HB; have HO_11 := n0_; have HO320 := n1_; have HB := n2_; clear n0_ n1_ n2_; (try clear hb); (try clear hb2); (try clear hk); (try clear hi); (try clear ho0)) | ((with_reducible refine gate_callee (f := 34) rfl ?_); refine goesL_ (some 68) rfl rfl Try.func34 (by kernel_rfl) rfl #[.slice Ao39 x11_1.length co39] rfl (by (try simp only [List.map_toArray, List.map_cons, List.map_nil]); first | done | rfl | (simp only [List.length_drop, List.length_take]; rfl)) ?_; (with_reducible refine (dom_Least.calls k1 _ _ x11_1 t321 _ ?side1 ?side2 A37.out).mono ?_); (case side1 => repeat (first | exact (Kd.S_reads' HO_11.out).2.2 | (with_reducible refine Kd.C_alloc ?_ _) | (with_reducible refine Kd.C_drewN ?_ _) | (with_reducible refine Kd.C_drew ?_))); (case side2 => exact (Kd.S_reads' HO_11.out).2.1); rintro e w41 ⟨v322, rfl, ho0, hb⟩; refine ⟨_, rfl, ?_⟩; have n0_ := Aside0.mk (Kd.S_elder' (by (with_reducible repeat (first | apply Kd.S_alloc | apply Kd.S_drewN | apply Kd.S_drew)); exact HO_11.out) (Kd.R_base ho0) hb); have n1_ := Aside0.mk (Kd.S_below (by (with_reducible repeat (first | apply Kd.S_alloc | apply Kd.S_drewN | apply Kd.S_drew)); exact HO320.out) hb); have n2_ := Aside0.mk (Kd.R_lower ho0 (below_size (by repeat (first | (with_reducible first | exact HB.out | apply below_alloc | apply pw_below_drewN | apply below_drew1) | exact HB.out)))); have n3_ := Aside0.mk (below_step (by repeat (first | (with_reducible first | exact HB.out | apply below_alloc | apply pw_below_drewN | apply below_drew1) | exact HB.out)) hb); clear HO_11; clear HO320; clear HB; have HO_11 := n0_; have HO320 := n1_; have HO323 := n2_; have HB := n3_; clear n0_ n1_ n2_ n3_; (try clear hb); (try clear hb2); (try clear hk); (try clear hi); (try clear ho0)))
              (try simp only [Act.put, List.setIfInBounds_toArray, List.set_cons_zero, List.set_cons_succ])
              go_cut [78] (fun v78 wc => ∃ (kq : Nat) (x78_37 : Bool), v78 = .bool x78_37 ∧ Aside0 (billhooklaw10_DomLine.j1 kq true (wrap64 (2 + (wrap64 (Int.tmod a0 12)))) (Int.tmod (wrap64 (a1)) (wrap64 ((wrap64 (2 + (wrap64 (Int.tmod a0 12)))) - 1))) (wrap64 ((wrap64 ((Int.tmod (wrap64 (a1)) (wrap64 ((wrap64 (2 + (wrap64 (Int.tmod a0 12)))) - 1))) + 1)) + (Int.tmod (wrap64 (a2)) (wrap64 ((wrap64 ((wrap64 (2 + (wrap64 (Int.tmod a0 12)))) - 1)) - (Int.tmod (wrap64 (a1)) (wrap64 ((wrap64 (2 + (wrap64 (Int.tmod a0 12)))) - 1)))))))) t318 t321 x78_37 = some r) ∧ Aside0 (kq ≤ k1) ∧ Aside0 (Kd.S (Kd.slice 4 Kd.bool) 57 wc w.heap.size (fun _ => True) v319 t318) ∧ Aside0 (Kd.R (Kd.int .i64) 3 wc w.heap.size (fun _ => True) v322 t321) ∧ Aside0 (Below w.heap.size w wc))
              case first =>
                have H := HC38.out
                clear HC38
                by_cases c42 : (t318.length : Int) = (wrap64 (2 + (wrap64 (Int.tmod a0 12))))
                · rw [if_pos c42] at H
                  have c42b0 : ((t318.length : Int) == (wrap64 (2 + (wrap64 (Int.tmod a0 12))))) = true := beq_iff_eq.mpr c42
                  have c42b1 : ((t318.length : Int) != (wrap64 (2 + (wrap64 (Int.tmod a0 12))))) = false := bne_eq_false_iff_eq.mpr c42
                  clear c42
                  (first | rw [c42b0] | (simp only [i64_w, i32_w]; rw [c42b0]) | skip)
                  have H' := Aside0.mk H
                  clear H
                  obtain ⟨Ao43, co43, eo43⟩ := Kd.S_slice HO320.out
                  subst eo43
                  obtain ⟨Ao44, co44, eo44⟩ := Kd.R_slice HO323.out
                  subst eo44
                  go_wp2
                  go_meet
                  case rel => exact ⟨_, (((t321.length : Int) != (wrap64 (2 + (wrap64 (Int.tmod a0 12)))))), (by first | rfl | (simp; done) | (simp [*]; done)), H', ⟨by have := HK1.out; first | omega | exact Nat.le_refl _⟩, ⟨by (with_reducible repeat (first | apply Kd.S_alloc | apply Kd.S_drewN | apply Kd.S_drew)); exact HO320.out⟩, ⟨by (with_reducible repeat (first | apply Kd.R_alloc | apply Kd.R_drewN | apply Kd.R_drew)); exact HO323.out⟩, ⟨by repeat (first | (with_reducible first | exact HB.out | apply below_alloc | apply pw_below_drewN | apply below_drew1) | exact HB.out)⟩⟩
                · rw [if_neg c42] at H
                  have c42b0 : ((t318.length : Int) == (wrap64 (2 + (wrap64 (Int.tmod a0 12))))) = false := beq_eq_false_iff_ne.mpr c42
                  have c42b1 : ((t318.length : Int) != (wrap64 (2 + (wrap64 (Int.tmod a0 12))))) = true := bne_iff_ne.mpr c42
                  (first | rw [c42b0] | (simp only [i64_w, i32_w]; rw [c42b0]) | skip)
                  have H' := Aside0.mk H
                  clear H
                  obtain ⟨Ao45, co45, eo45⟩ := Kd.S_slice HO320.out
                  subst eo45
                  go_wp2
                  go_meet
                  case rel => exact ⟨_, (true), (by first | rfl | (simp; done) | (simp [*]; done)), H', ⟨by have := HK1.out; first | omega | exact Nat.le_refl _⟩, ⟨by (with_reducible repeat (first | apply Kd.S_alloc | apply Kd.S_drewN | apply Kd.S_drew)); exact HO320.out⟩, ⟨by (with_reducible repeat (first | apply Kd.R_alloc | apply Kd.R_drewN | apply Kd.R_drew)); exact HO323.out⟩, ⟨by repeat (first | (with_reducible first | exact HB.out | apply below_alloc | apply pw_below_drewN | apply below_drew1) | exact HB.out)⟩⟩
              case rest =>
                clear HC38
                try clear c1
                try clear c2
                try clear p2
                try clear c3
                try clear c4
                try clear c5
                try clear c6
                try clear c6b0
                try clear c6b1
                try clear p6
                try clear c7
                try clear c7b0
                try clear c7b1
                try clear c9
                try clear c9b0
                try clear c10
                try clear c10b0
                try clear c10b1
                try clear c11
                try clear c11b0
                try clear c11b1
                try clear c12
                try clear c13
                try clear c19
                try clear c23
                try clear c23b0
                try clear c23b1
                try clear c24
                try clear c25
                try clear c26
                try clear c31
                try clear c34
                try clear c42
                try clear c42b0
                try clear c42b1
                try clear p2
                try clear p6
                obtain ⟨kq, x78_37, rfl, HA, HJ37, HO_14, HO_15, HB⟩ := hcut
                cases kq with
                | zero => exact absurd HA.out (by simp [billhooklaw10_DomLine.j1])
                | succ kj37 =>
                  have H := HA.out
                  clear HA
                  simp only [billhooklaw10_DomLine.j1] at H
                  by_cases c46 : x78_37 = true
                  · subst c46
                    have H1 : (some false) = some r := by first | (rw [if_pos rfl] at H; exact H) | (rw [if_pos trivial] at H; exact H)
                    clear H
                    have H := H1
                    clear H1
                    obtain rfl := Option.some.inj H
                    go_wp2
                    go_ret
                    exact ⟨by first | rfl | (simp [errW_none, errW_some] <;> rfl) | (simp [*, errW_none, errW_some] <;> rfl), by repeat (first | (with_reducible first | exact HB.out | apply below_alloc | apply pw_below_drewN | apply below_drew1) | exact HB.out)⟩
                  · replace c46 := Bool.eq_false_iff.mpr c46
                    subst c46
                    have H1 : (billhooklaw10_DomLine.l1 kj37 true (wrap64 (2 + (wrap64 (Int.tmod a0 12)))) (Int.tmod (wrap64 (a1)) (wrap64 ((wrap64 (2 + (wrap64 (Int.tmod a0 12)))) - 1))) (wrap64 ((wrap64 ((Int.tmod (wrap64 (a1)) (wrap64 ((wrap64 (2 + (wrap64 (Int.tmod a0 12)))) - 1))) + 1)) + (Int.tmod (wrap64 (a2)) (wrap64 ((wrap64 ((wrap64 (2 + (wrap64 (Int.tmod a0 12)))) - 1)) - (Int.tmod (wrap64 (a1)) (wrap64 ((wrap64 (2 + (wrap64 (Int.tmod a0 12)))) - 1)))))))) t318 t321 0) = some r := by rw [if_neg (show ¬ (false = true) by decide)] at H; exact H
                    clear H
                    have H := H1
                    clear H1
                    have H' := Aside0.mk H
                    clear H
                    go_wp2
                    go_loopg [16] kj37 (fun kq v16 w' => ∃ (x16_3 : Int), v16 = .int .i64 x16_3 ∧ Aside0 (billhooklaw10_DomLine.l1 kq true (wrap64 (2 + (wrap64 (Int.tmod a0 12)))) (Int.tmod (wrap64 (a1)) (wrap64 ((wrap64 (2 + (wrap64 (Int.tmod a0 12)))) - 1))) (wrap64 ((wrap64 ((Int.tmod (wrap64 (a1)) (wrap64 ((wrap64 (2 + (wrap64 (Int.tmod a0 12)))) - 1))) + 1)) + (Int.tmod (wrap64 (a2)) (wrap64 ((wrap64 ((wrap64 (2 + (wrap64 (Int.tmod a0 12)))) - 1)) - (Int.tmod (wrap64 (a1)) (wrap64 ((wrap64 (2 + (wrap64 (Int.tmod a0 12)))) - 1)))))))) t318 t321 x16_3 = some r) ∧ Aside0 (kq ≤ kj37) ∧ Aside0 (Kd.S (Kd.slice 4 Kd.bool) 57 w' w.heap.size (fun _ => True) v319 t318) ∧ Aside0 (Kd.R (Kd.int .i64) 3 w' w.heap.size (fun _ => True) v322 t321) ∧ Aside0 (Below w.heap.size w w'))
                    case atStart => exact ⟨(0), (by first | rfl | (simp; done) | (simp [*]; done)), H', ⟨Nat.le_refl _⟩, ⟨by (with_reducible repeat (first | apply Kd.S_alloc | apply Kd.S_drewN | apply Kd.S_drew)); exact HO_14.out⟩, ⟨by (with_reducible repeat (first | apply Kd.R_alloc | apply Kd.R_drewN | apply Kd.R_drew)); exact HO_15.out⟩, ⟨by repeat (first | (with_reducible first | exact HB.out | apply below_alloc | apply pw_below_drewN | apply below_drew1) | exact HB.out)⟩⟩
                    case round =>
                      clear H'
                      try clear c1
                      try clear c2
                      try clear p2
                      try clear c3
                      try clear c4
                      try clear c5
                      try clear c6
                      try clear c6b0
                      try clear c6b1
                      try clear p6
                      try clear c7
                      try clear c7b0
                      try clear c7b1
                      try clear c9
                      try clear c9b0
                      try clear c10
                      try clear c10b0
                      try clear c10b1
                      try clear c11
                      try clear c11b0
                      try clear c11b1
                      try clear c12
                      try clear c13
                      try clear c19
                      try clear c23
                      try clear c23b0
                      try clear c23b1
                      try clear c24
                      try clear c25
                      try clear c26
                      try clear c31
                      try clear c34
                      try clear c42
                      try clear c42b0
                      try clear c42b1
                      try clear c46
                      try clear p2
                      try clear p6
                      obtain ⟨x16_3, rfl, HA, HK3, HO_14, HO_15, HB⟩ := hrel
                      cases gk with
                      | zero => exact absurd HA.out (by simp [billhooklaw10_DomLine.l1])
                      | succ k3 =>
                        have H := HA.out
                        clear HA
                        simp only [billhooklaw10_DomLine.l1] at H
                        by_cases c47 : x16_3 < (wrap64 (2 + (wrap64 (Int.tmod a0 12))))
                        · rw [if_pos c47] at H
                          have c47b0 : decide (x16_3 < (wrap64 (2 + (wrap64 (Int.tmod a0 12))))) = true := decide_eq_true c47
                          clear c47
                          by_cases c48 : 0 ≤ x16_3
                          · rw [if_pos c48] at H
                            have c48b0 : decide (0 ≤ x16_3) = true := decide_eq_true c48
                            clear c48
                            by_cases c49 : x16_3 < (t318.length : Int)
                            · rw [if_pos c49] at H
                              have c49b0 : decide (x16_3 < (t318.length : Int)) = true := decide_eq_true c49
                              clear c49
                              by_cases c50 : ((rd_L2 t318 x16_3).length : Int) = (wrap64 (2 + (wrap64 (Int.tmod a0 12))))
                              · rw [if_pos c50] at H
                                have c50b0 : (((rd_L2 t318 x16_3).length : Int) == (wrap64 (2 + (wrap64 (Int.tmod a0 12))))) = true := beq_iff_eq.mpr c50
                                have c50b1 : (((rd_L2 t318 x16_3).length : Int) != (wrap64 (2 + (wrap64 (Int.tmod a0 12))))) = false := bne_eq_false_iff_eq.mpr c50
                                clear c50
                                have H' := Aside0.mk H
                                clear H
                                obtain ⟨Ao51, co51, eo51⟩ := Kd.S_slice HO_14.out
                                subst eo51
                                have p324 : 0 ≤ (x16_3 : Int) := of_decide_eq_true (by first | (with_reducible assumption) | assumption)
                                have q324 : x16_3 < (t318.length : Int) := of_decide_eq_true (by first | (with_reducible assumption) | assumption)
                                obtain ⟨ad324, A324_0, c324_0, e324, hx324_0, hl324_0, hi324_0⟩ := at_L2 (Kd.S_reads' HO_14.out).2.2 x16_3 p324 q324
                                cases e324
                                obtain ⟨ce324, hce324, hMe324, hcc324⟩ := Kd.S_get HO_14.out [] x16_3 p324 (by first | exact q324 | exact of_decide_eq_true (by first | (with_reducible assumption) | assumption) | (have e_ := (Kd.S_reads' HO_14.out).1; omega))
                                obtain ⟨ve324_0, rfl, ge324_0⟩ := hMe324
                                have hv324_0 := hcc324 0 _ rfl
                                rw [Nat.add_zero, show ((Kd.slice 4 Kd.bool)).sz = 1 from rfl, Nat.mul_one] at hv324_0
                                replace hv324_0 := Option.some.inj (hv324_0.symm.trans hx324_0)
                                rw [hv324_0] at ge324_0
                                have HL324_0 := Aside0.mk (show Kd.R Kd.bool 4 _ _ _ _ (rd_L2 t318 x16_3) from ge324_0)
                                clear hv324_0 ge324_0
                                clear hcc324 hce324
                                have HR324_0 := Aside0.mk hi324_0
                                have HC324_0 := Aside0.mk hl324_0
                                clear hi324_0 hl324_0
                                replace p324 := eq_true p324
                                replace q324 := eq_true q324
                                go_wp2
                                go_loopg [17] k3 (fun kq v17 w' => ∃ (x17_4 : Int), v17 = .int .i64 x17_4 ∧ Aside0 (billhooklaw10_DomLine.l2 kq true (wrap64 (2 + (wrap64 (Int.tmod a0 12)))) (Int.tmod (wrap64 (a1)) (wrap64 ((wrap64 (2 + (wrap64 (Int.tmod a0 12)))) - 1))) (wrap64 ((wrap64 ((Int.tmod (wrap64 (a1)) (wrap64 ((wrap64 (2 + (wrap64 (Int.tmod a0 12)))) - 1))) + 1)) + (Int.tmod (wrap64 (a2)) (wrap64 ((wrap64 ((wrap64 (2 + (wrap64 (Int.tmod a0 12)))) - 1)) - (Int.tmod (wrap64 (a1)) (wrap64 ((wrap64 (2 + (wrap64 (Int.tmod a0 12)))) - 1)))))))) t318 t321 x16_3 x17_4 = some r) ∧ Aside0 (kq ≤ k3) ∧ Aside0 (Kd.S (Kd.slice 4 Kd.bool) 57 w' w.heap.size (fun _ => True) (.slice (some ad324) t318.length co51) t318) ∧ Aside0 (Kd.R (Kd.int .i64) 3 w' w.heap.size (fun _ => True) v322 t321) ∧ Aside0 (Kd.C Kd.bool w' A324_0 (rd_L2 t318 x16_3).length (rd_L2 t318 x16_3)) ∧ Aside0 (Below w.heap.size w w'))
                                case atStart => exact ⟨(0), (by first | rfl | (simp; done) | (simp [*]; done)), H', ⟨Nat.le_refl _⟩, ⟨by (with_reducible repeat (first | apply Kd.S_alloc | apply Kd.S_drewN | apply Kd.S_drew)); exact HO_14.out⟩, ⟨by (with_reducible repeat (first | apply Kd.R_alloc | apply Kd.R_drewN | apply Kd.R_drew)); exact HO_15.out⟩, ⟨by repeat (first | (with_reducible exact HR324_0.out) | (with_reducible refine Kd.C_alloc ?_ _) | (with_reducible refine Kd.C_drewN ?_ _) | (with_reducible refine Kd.C_drew ?_) | exact HR324_0.out)⟩, ⟨by repeat (first | (with_reducible first | exact HB.out | apply below_alloc | apply pw_below_drewN | apply below_drew1) | exact HB.out)⟩⟩
                                case round =>
                                  clear H'
                                  try clear c1
                                  try clear c2
                                  try clear p2
                                  try clear c3
                                  try clear p3
                                  try clear q3
                                  try clear hx3
                                  try clear c4
                                  try clear c5
                                  try clear c6
                                  try clear c6b0
                                  try clear c6b1
                                  try clear p6
                                  try clear c7
                                  try clear c7b0
                                  try clear c7b1
                                  try clear c9
                                  try clear c9b0
                                  try clear c10
                                  try clear c10b0
                                  try clear c10b1
                                  try clear c11
                                  try clear c11b0
                                  try clear c11b1
                                  try clear c12
                                  try clear c13
                                  try clear c19
                                  try clear c23
                                  try clear c23b0
                                  try clear c23b1
                                  try clear c24
                                  try clear c25
                                  try clear c26
                                  try clear c31
                                  try clear c32
                                  try clear p32
                                  try clear q32
                                  try clear hx32
                                  try clear c34
                                  try clear c42
                                  try clear c42b0
                                  try clear c42b1
                                  try clear c46
                                  try clear c47
                                  try clear c47b0
                                  try clear c48
                                  try clear c48b0
                                  try clear c49
                                  try clear c49b0
                                  try clear c50
                                  try clear c50b0
                                  try clear c50b1
                                  try clear hx324_0
                                  try clear p2
                                  try clear p324
                                  try clear p6
                                  try clear q324
                                  obtain ⟨x17_4, rfl, HA, HK4, HO_14, HO_15, HR324_0, HB⟩ := hrel
                                  cases gk with
                                  | zero => exact absurd HA.out (by simp [billhooklaw10_DomLine.l2])
                                  | succ k4 =>
                                    have H := HA.out
                                    clear HA
                                    simp only [billhooklaw10_DomLine.l2] at H
                                    by_cases c52 : x17_4 < (wrap64 (2 + (wrap64 (Int.tmod a0 12))))
                                    · rw [if_pos c52] at H
                                      have c52b0 : decide (x17_4 < (wrap64 (2 + (wrap64 (Int.tmod a0 12))))) = true := decide_eq_true c52
                                      clear c52
                                      by_cases c53 : x17_4 ≥ x16_3
                                      · rw [if_pos c53] at H
                                        have c53b0 : decide (x16_3 ≤ x17_4) = true := decide_eq_true c53
                                        clear c53
                                        by_cases c54 : x16_3 > (Int.tmod (wrap64 (a1)) (wrap64 ((wrap64 (2 + (wrap64 (Int.tmod a0 12)))) - 1)))
                                        · rw [if_pos c54] at H
                                          have c54b0 : decide ((Int.tmod (wrap64 (a1)) (wrap64 ((wrap64 (2 + (wrap64 (Int.tmod a0 12)))) - 1))) < x16_3) = true := decide_eq_true c54
                                          clear c54
                                          by_cases c55 : 0 ≤ x16_3
                                          · rw [if_pos c55] at H
                                            have c55b0 : decide (0 ≤ x16_3) = true := decide_eq_true c55
                                            clear c55
                                            by_cases c56 : x16_3 < (t318.length : Int)
                                            · rw [if_pos c56] at H
                                              have c56b0 : decide (x16_3 < (t318.length : Int)) = true := decide_eq_true c56
                                              clear c56
                                              by_cases c57 : 0 ≤ x17_4
                                              · rw [if_pos c57] at H
                                                have c57b0 : decide (0 ≤ x17_4) = true := decide_eq_true c57
                                                clear c57
                                                by_cases c58 : x17_4 < ((rd_L2 t318 x16_3).length : Int)
                                                · rw [if_pos c58] at H
                                                  have c58b0 : decide (x17_4 < ((rd_L2 t318 x16_3).length : Int)) = true := decide_eq_true c58
                                                  clear c58
                                                  by_cases c59 : ((rdOf false (rd_L2 t318 x16_3) x17_4) != true) = true
                                                  · rw [if_pos c59] at H
                                                    have c59b0 : ((rdOf false (rd_L2 t318 x16_3) x17_4) != true) = true := c59
                                                    (try (have c59b1 : decide ((rdOf false (rd_L2 t318 x16_3) x17_4) = true) = false := by simpa using c59))
                                                    (try (have c59b2 : ((rdOf false (rd_L2 t318 x16_3) x17_4) == true) = false := by simpa using c59))
                                                    (try (have c59b3 : ¬ ((rdOf false (rd_L2 t318 x16_3) x17_4) = true) := by simpa using c59))
                                                    clear c59
                                                    obtain rfl := Option.some.inj H
                                                    have p325 : 0 ≤ (x16_3 : Int) := of_decide_eq_true (by first | (with_reducible assumption) | assumption)
                                                    have q325 : x16_3 < (t318.length : Int) := of_decide_eq_true (by first | (with_reducible assumption) | assumption)
                                                    obtain ⟨ad325, A325_0, c325_0, e325, hx325_0, hl325_0, hi325_0⟩ := at_L2 (Kd.S_reads' HO_14.out).2.2 x16_3 p325 q325
                                                    obtain rfl : ad324 = ad325 := (by injection e325)
                                                    obtain ⟨ce325, hce325, hMe325, hcc325⟩ := Kd.S_get HO_14.out [] x16_3 p325 (by first | exact q325 | exact of_decide_eq_true (by first | (with_reducible assumption) | assumption) | (have e_ := (Kd.S_reads' HO_14.out).1; omega))
                                                    obtain ⟨ve325_0, rfl, ge325_0⟩ := hMe325
                                                    have hv325_0 := hcc325 0 _ rfl
                                                    rw [Nat.add_zero, show ((Kd.slice 4 Kd.bool)).sz = 1 from rfl, Nat.mul_one] at hv325_0
                                                    replace hv325_0 := Option.some.inj (hv325_0.symm.trans hx325_0)
                                                    rw [hv325_0] at ge325_0
                                                    have HL325_0 := Aside0.mk (show Kd.R Kd.bool 4 _ _ _ _ (rd_L2 t318 x16_3) from ge325_0)
                                                    clear hv325_0 ge325_0
                                                    clear hcc325 hce325
                                                    have HR325_0 := Aside0.mk hi325_0
                                                    have HC325_0 := Aside0.mk hl325_0
                                                    clear hi325_0 hl325_0
                                                    (try (have hz_ := Option.some.inj (hx324_0.symm.trans hx325_0); injection hz_ with za_ zn_ zc_; subst za_; subst zc_; clear zn_))
                                                    replace p325 := eq_true p325
                                                    replace q325 := eq_true q325
                                                    have p326 : 0 ≤ (x17_4 : Int) := of_decide_eq_true (by first | (with_reducible assumption) | assumption)
                                                    have q326 : x17_4 < ((rd_L2 t318 x16_3).length : Int) := of_decide_eq_true (by first | (with_reducible assumption) | assumption)
                                                    obtain ⟨ad326, e326, hx326_0⟩ := Kd.at_bool (by repeat (first | (with_reducible exact HR325_0.out) | (with_reducible refine Kd.C_alloc ?_ _) | (with_reducible refine Kd.C_drewN ?_ _) | (with_reducible refine Kd.C_drew ?_) | exact HR325_0.out)) x17_4 p326 q326
                                                    cases e326
                                                    replace p326 := eq_true p326
                                                    replace q326 := eq_true q326
                                                    go_wp2
                                                    go_ret
                                                    exact ⟨by first | rfl | (simp [errW_none, errW_some] <;> rfl) | (simp [*, errW_none, errW_some] <;> rfl), by repeat (first | (with_reducible first | exact HB.out | apply below_alloc | apply pw_below_drewN | apply below_drew1) | exact HB.out)⟩
                                                  · rw [if_neg c59] at H
                                                    have c59b0 : ((rdOf false (rd_L2 t318 x16_3) x17_4) != true) = false := by simpa using c59
                                                    (try (have c59b1 : decide ((rdOf false (rd_L2 t318 x16_3) x17_4) = true) = true := by simpa using c59))
                                                    (try (have c59b2 : ((rdOf false (rd_L2 t318 x16_3) x17_4) == true) = true := by simpa using c59))
                                                    clear c59
                                                    have H' := Aside0.mk H
                                                    clear H
                                                    have p325 : 0 ≤ (x16_3 : Int) := of_decide_eq_true (by first | (with_reducible assumption) | assumption)
                                                    have q325 : x16_3 < (t318.length : Int) := of_decide_eq_true (by first | (with_reducible assumption) | assumption)
                                                    obtain ⟨ad325, A325_0, c325_0, e325, hx325_0, hl325_0, hi325_0⟩ := at_L2 (Kd.S_reads' HO_14.out).2.2 x16_3 p325 q325
                                                    obtain rfl : ad324 = ad325 := (by injection e325)
                                                    obtain ⟨ce325, hce325, hMe325, hcc325⟩ := Kd.S_get HO_14.out [] x16_3 p325 (by first | exact q325 | exact of_decide_eq_true (by first | (with_reducible assumption) | assumption) | (have e_ := (Kd.S_reads' HO_14.out).1; omega))
                                                    obtain ⟨ve325_0, rfl, ge325_0⟩ := hMe325
                                                    have hv325_0 := hcc325 0 _ rfl
                                                    rw [Nat.add_zero, show ((Kd.slice 4 Kd.bool)).sz = 1 from rfl, Nat.mul_one] at hv325_0
                                                    replace hv325_0 := Option.some.inj (hv325_0.symm.trans hx325_0)
                                                    rw [hv325_0] at ge325_0
                                                    have HL325_0 := Aside0.mk (show Kd.R Kd.bool 4 _ _ _ _ (rd_L2 t318 x16_3) from ge325_0)
                                                    clear hv325_0 ge325_0
                                                    clear hcc325 hce325
                                                    have HR325_0 := Aside0.mk hi325_0
                                                    have HC325_0 := Aside0.mk hl325_0
                                                    clear hi325_0 hl325_0
                                                    (try (have hz_ := Option.some.inj (hx324_0.symm.trans hx325_0); injection hz_ with za_ zn_ zc_; subst za_; subst zc_; clear zn_))
                                                    replace p325 := eq_true p325
                                                    replace q325 := eq_true q325
                                                    have p326 : 0 ≤ (x17_4 : Int) := of_decide_eq_true (by first | (with_reducible assumption) | assumption)
                                                    have q326 : x17_4 < ((rd_L2 t318 x16_3).length : Int) := of_decide_eq_true (by first | (with_reducible assumption) | assumption)
                                                    obtain ⟨ad326, e326, hx326_0⟩ := Kd.at_bool (by repeat (first | (with_reducible exact HR325_0.out) | (with_reducible refine Kd.C_alloc ?_ _) | (with_reducible refine Kd.C_drewN ?_ _) | (with_reducible refine Kd.C_drew ?_) | exact HR325_0.out)) x17_4 p326 q326
                                                    cases e326
                                                    replace p326 := eq_true p326
                                                    replace q326 := eq_true q326
                                                    go_wp2
                                                    go_roundg k4
                                                    case measure => have := HK1.out; have := HJ37.out; have := HK3.out; have := HK4.out; omega
                                                    case rel => exact ⟨(wrap64 (x17_4 + 1)), (by first | rfl | (simp; done) | (simp [*]; done)), H', ⟨by have := HK1.out; have := HJ37.out; have := HK3.out; have := HK4.out; omega⟩, ⟨by (with_reducible repeat (first | apply Kd.S_alloc | apply Kd.S_drewN | apply Kd.S_drew)); exact HO_14.out⟩, ⟨by (with_reducible repeat (first | apply Kd.R_alloc | apply Kd.R_drewN | apply Kd.R_drew)); exact HO_15.out⟩, ⟨by repeat (first | (with_reducible exact HR324_0.out) | (with_reducible refine Kd.C_alloc ?_ _) | (with_reducible refine Kd.C_drewN ?_ _) | (with_reducible refine Kd.C_drew ?_) | exact HR324_0.out)⟩, ⟨by repeat (first | (with_reducible first | exact HB.out | apply below_alloc | apply pw_below_drewN | apply below_drew1) | exact HB.out)⟩⟩
                                                · rw [if_neg c58] at H
                                                  exact absurd H (by simp)
                                              · rw [if_neg c57] at H
                                                exact absurd H (by simp)
                                            · rw [if_neg c56] at H
                                              exact absurd H (by simp)
                                          · rw [if_neg c55] at H
                                            exact absurd H (by simp)
                                        · rw [if_neg c54] at H
                                          have c54b0 : decide ((Int.tmod (wrap64 (a1)) (wrap64 ((wrap64 (2 + (wrap64 (Int.tmod a0 12)))) - 1))) < x16_3) = false := decide_eq_false c54
                                          clear c54
                                          by_cases c60 : x17_4 ≤ (Int.tmod (wrap64 (a1)) (wrap64 ((wrap64 (2 + (wrap64 (Int.tmod a0 12)))) - 1)))
                                          · rw [if_pos c60] at H
                                            have c60b0 : decide (x17_4 ≤ (Int.tmod (wrap64 (a1)) (wrap64 ((wrap64 (2 + (wrap64 (Int.tmod a0 12)))) - 1)))) = true := decide_eq_true c60
                                            clear c60
                                            by_cases c61 : 0 ≤ x16_3
                                            · rw [if_pos c61] at H
                                              have c61b0 : decide (0 ≤ x16_3) = true := decide_eq_true c61
                                              clear c61
                                              by_cases c62 : x16_3 < (t318.length : Int)
                                              · rw [if_pos c62] at H
                                                have c62b0 : decide (x16_3 < (t318.length : Int)) = true := decide_eq_true c62
                                                clear c62
                                                by_cases c63 : 0 ≤ x17_4
                                                · rw [if_pos c63] at H
                                                  have c63b0 : decide (0 ≤ x17_4) = true := decide_eq_true c63
                                                  clear c63
                                                  by_cases c64 : x17_4 < ((rd_L2 t318 x16_3).length : Int)
                                                  · rw [if_pos c64] at H
                                                    have c64b0 : decide (x17_4 < ((rd_L2 t318 x16_3).length : Int)) = true := decide_eq_true c64
                                                    clear c64
                                                    by_cases c65 : ((rdOf false (rd_L2 t318 x16_3) x17_4) != true) = true
                                                    · rw [if_pos c65] at H
                                                      have c65b0 : ((rdOf false (rd_L2 t318 x16_3) x17_4) != true) = true := c65
                                                      (try (have c65b1 : decide ((rdOf false (rd_L2 t318 x16_3) x17_4) = true) = false := by simpa using c65))
                                                      (try (have c65b2 : ((rdOf false (rd_L2 t318 x16_3) x17_4) == true) = false := by simpa using c65))
                                                      (try (have c65b3 : ¬ ((rdOf false (rd_L2 t318 x16_3) x17_4) = true) := by simpa using c65))
                                                      clear c65
                                                      obtain rfl := Option.some.inj H
                                                      have p327 : 0 ≤ (x16_3 : Int) := of_decide_eq_true (by first | (with_reducible assumption) | assumption)
                                                      have q327 : x16_3 < (t318.length : Int) := of_decide_eq_true (by first | (with_reducible assumption) | assumption)
                                                      obtain ⟨ad327, A327_0, c327_0, e327, hx327_0, hl327_0, hi327_0⟩ := at_L2 (Kd.S_reads' HO_14.out).2.2 x16_3 p327 q327
                                                      obtain rfl : ad324 = ad327 := (by injection e327)
                                                      obtain ⟨ce327, hce327, hMe327, hcc327⟩ := Kd.S_get HO_14.out [] x16_3 p327 (by first | exact q327 | exact of_decide_eq_true (by first | (with_reducible assumption) | assumption) | (have e_ := (Kd.S_reads' HO_14.out).1; omega))
                                                      obtain ⟨ve327_0, rfl, ge327_0⟩ := hMe327
                                                      have hv327_0 := hcc327 0 _ rfl
                                                      rw [Nat.add_zero, show ((Kd.slice 4 Kd.bool)).sz = 1 from rfl, Nat.mul_one] at hv327_0
                                                      replace hv327_0 := Option.some.inj (hv327_0.symm.trans hx327_0)
                                                      rw [hv327_0] at ge327_0
                                                      have HL327_0 := Aside0.mk (show Kd.R Kd.bool 4 _ _ _ _ (rd_L2 t318 x16_3) from ge327_0)
                                                      clear hv327_0 ge327_0
                                                      clear hcc327 hce327
                                                      have HR327_0 := Aside0.mk hi327_0
                                                      have HC327_0 := Aside0.mk hl327_0
                                                      clear hi327_0 hl327_0
                                                      (try (have hz_ := Option.some.inj (hx324_0.symm.trans hx327_0); injection hz_ with za_ zn_ zc_; subst za_; subst zc_; clear zn_))
                                                      replace p327 := eq_true p327
                                                      replace q327 := eq_true q327
                                                      have p328 : 0 ≤ (x17_4 : Int) := of_decide_eq_true (by first | (with_reducible assumption) | assumption)
                                                      have q328 : x17_4 < ((rd_L2 t318 x16_3).length : Int) := of_decide_eq_true (by first | (with_reducible assumption) | assumption)
                                                      obtain ⟨ad328, e328, hx328_0⟩ := Kd.at_bool (by repeat (first | (with_reducible exact HR327_0.out) | (with_reducible refine Kd.C_alloc ?_ _) | (with_reducible refine Kd.C_drewN ?_ _) | (with_reducible refine Kd.C_drew ?_) | exact HR327_0.out)) x17_4 p328 q328
                                                      cases e328
                                                      replace p328 := eq_true p328
                                                      replace q328 := eq_true q328
                                                      go_wp2
                                                      go_ret
                                                      exact ⟨by first | rfl | (simp [errW_none, errW_some] <;> rfl) | (simp [*, errW_none, errW_some] <;> rfl), by repeat (first | (with_reducible first | exact HB.out | apply below_alloc | apply pw_below_drewN | apply below_drew1) | exact HB.out)⟩
                                                    · rw [if_neg c65] at H
                                                      have c65b0 : ((rdOf false (rd_L2 t318 x16_3) x17_4) != true) = false := by simpa using c65
                                                      (try (have c65b1 : decide ((rdOf false (rd_L2 t318 x16_3) x17_4) = true) = true := by simpa using c65))
                                                      (try (have c65b2 : ((rdOf false (rd_L2 t318 x16_3) x17_4) == true) = true := by simpa using c65))
                                                      clear c65
                                                      have H' := Aside0.mk H
                                                      clear H
                                                      have p327 : 0 ≤ (x16_3 : Int) := of_decide_eq_true (by first | (with_reducible assumption) | assumption)
                                                      have q327 : x16_3 < (t318.length : Int) := of_decide_eq_true (by first | (with_reducible assumption) | assumption)
                                                      obtain ⟨ad327, A327_0, c327_0, e327, hx327_0, hl327_0, hi327_0⟩ := at_L2 (Kd.S_reads' HO_14.out).2.2 x16_3 p327 q327
                                                      obtain rfl : ad324 = ad327 := (by injection e327)
                                                      obtain ⟨ce327, hce327, hMe327, hcc327⟩ := Kd.S_get HO_14.out [] x16_3 p327 (by first | exact q327 | exact of_decide_eq_true (by first | (with_reducible assumption) | assumption) | (have e_ := (Kd.S_reads' HO_14.out).1; omega))
                                                      obtain ⟨ve327_0, rfl, ge327_0⟩ := hMe327
                                                      have hv327_0 := hcc327 0 _ rfl
                                                      rw [Nat.add_zero, show ((Kd.slice 4 Kd.bool)).sz = 1 from rfl, Nat.mul_one] at hv327_0
                                                      replace hv327_0 := Option.some.inj (hv327_0.symm.trans hx327_0)
                                                      rw [hv327_0] at ge327_0
                                                      have HL327_0 := Aside0.mk (show Kd.R Kd.bool 4 _ _ _ _ (rd_L2 t318 x16_3) from ge327_0)
                                                      clear hv327_0 ge327_0
                                                      clear hcc327 hce327
                                                      have HR327_0 := Aside0.mk hi327_0
                                                      have HC327_0 := Aside0.mk hl327_0
                                                      clear hi327_0 hl327_0
                                                      (try (have hz_ := Option.some.inj (hx324_0.symm.trans hx327_0); injection hz_ with za_ zn_ zc_; subst za_; subst zc_; clear zn_))
                                                      replace p327 := eq_true p327
                                                      replace q327 := eq_true q327
                                                      have p328 : 0 ≤ (x17_4 : Int) := of_decide_eq_true (by first | (with_reducible assumption) | assumption)
                                                      have q328 : x17_4 < ((rd_L2 t318 x16_3).length : Int) := of_decide_eq_true (by first | (with_reducible assumption) | assumption)
                                                      obtain ⟨ad328, e328, hx328_0⟩ := Kd.at_bool (by repeat (first | (with_reducible exact HR327_0.out) | (with_reducible refine Kd.C_alloc ?_ _) | (with_reducible refine Kd.C_drewN ?_ _) | (with_reducible refine Kd.C_drew ?_) | exact HR327_0.out)) x17_4 p328 q328
                                                      cases e328
                                                      replace p328 := eq_true p328
                                                      replace q328 := eq_true q328
                                                      go_wp2
                                                      go_roundg k4
                                                      case measure => have := HK1.out; have := HJ37.out; have := HK3.out; have := HK4.out; omega
                                                      case rel => exact ⟨(wrap64 (x17_4 + 1)), (by first | rfl | (simp; done) | (simp [*]; done)), H', ⟨by have := HK1.out; have := HJ37.out; have := HK3.out; have := HK4.out; omega⟩, ⟨by (with_reducible repeat (first | apply Kd.S_alloc | apply Kd.S_drewN | apply Kd.S_drew)); exact HO_14.out⟩, ⟨by (with_reducible repeat (first | apply Kd.R_alloc | apply Kd.R_drewN | apply Kd.R_drew)); exact HO_15.out⟩, ⟨by repeat (first | (with_reducible exact HR324_0.out) | (with_reducible refine Kd.C_alloc ?_ _) | (with_reducible refine Kd.C_drewN ?_ _) | (with_reducible refine Kd.C_drew ?_) | exact HR324_0.out)⟩, ⟨by repeat (first | (with_reducible first | exact HB.out | apply below_alloc | apply pw_below_drewN | apply below_drew1) | exact HB.out)⟩⟩
                                                  · rw [if_neg c64] at H
                                                    exact absurd H (by simp)
                                                · rw [if_neg c63] at H
                                                  exact absurd H (by simp)
                                              · rw [if_neg c62] at H
                                                exact absurd H (by simp)
                                            · rw [if_neg c61] at H
                                              exact absurd H (by simp)
                                          · rw [if_neg c60] at H
                                            have c60b0 : decide (x17_4 ≤ (Int.tmod (wrap64 (a1)) (wrap64 ((wrap64 (2 + (wrap64 (Int.tmod a0 12)))) - 1)))) = false := decide_eq_false c60
                                            clear c60
                                            by_cases c66 : 0 ≤ x16_3
                                            · rw [if_pos c66] at H
                                              have c66b0 : decide (0 ≤ x16_3) = true := decide_eq_true c66
                                              clear c66
                                              by_cases c67 : x16_3 < (t318.length : Int)
                                              · rw [if_pos c67] at H
                                                have c67b0 : decide (x16_3 < (t318.length : Int)) = true := decide_eq_true c67
                                                clear c67
                                                by_cases c68 : 0 ≤ x17_4
                                                · rw [if_pos c68] at H
                                                  have c68b0 : decide (0 ≤ x17_4) = true := decide_eq_true c68
                                                  clear c68
                                                  by_cases c69 : x17_4 < ((rd_L2 t318 x16_3).length : Int)
                                                  · rw [if_pos c69] at H
                                                    have c69b0 : decide (x17_4 < ((rd_L2 t318 x16_3).length : Int)) = true := decide_eq_true c69
                                                    clear c69
                                                    by_cases c70 : ((rdOf false (rd_L2 t318 x16_3) x17_4) != (decide (x17_4 ≥ (wrap64 ((wrap64 ((Int.tmod (wrap64 (a1)) (wrap64 ((wrap64 (2 + (wrap64 (Int.tmod a0 12)))) - 1))) + 1)) + (Int.tmod (wrap64 (a2)) (wrap64 ((wrap64 ((wrap64 (2 + (wrap64 (Int.tmod a0 12)))) - 1)) - (Int.tmod (wrap64 (a1)) (wrap64 ((wrap64 (2 + (wrap64 (Int.tmod a0 12)))) - 1))))))))))) = true
                                                    · rw [if_pos c70] at H
                                                      have c70b0 : ((rdOf false (rd_L2 t318 x16_3) x17_4) != (decide (x17_4 ≥ (wrap64 ((wrap64 ((Int.tmod (wrap64 (a1)) (wrap64 ((wrap64 (2 + (wrap64 (Int.tmod a0 12)))) - 1))) + 1)) + (Int.tmod (wrap64 (a2)) (wrap64 ((wrap64 ((wrap64 (2 + (wrap64 (Int.tmod a0 12)))) - 1)) - (Int.tmod (wrap64 (a1)) (wrap64 ((wrap64 (2 + (wrap64 (Int.tmod a0 12)))) - 1))))))))))) = true := c70
                                                      (try (have c70b1 : decide ((rdOf false (rd_L2 t318 x16_3) x17_4) = (decide (x17_4 ≥ (wrap64 ((wrap64 ((Int.tmod (wrap64 (a1)) (wrap64 ((wrap64 (2 + (wrap64 (Int.tmod a0 12)))) - 1))) + 1)) + (Int.tmod (wrap64 (a2)) (wrap64 ((wrap64 ((wrap64 (2 + (wrap64 (Int.tmod a0 12)))) - 1)) - (Int.tmod (wrap64 (a1)) (wrap64 ((wrap64 (2 + (wrap64 (Int.tmod a0 12)))) - 1))))))))))) = false := by simpa using c70))
                                                      (try (have c70b2 : ((rdOf false (rd_L2 t318 x16_3) x17_4) == (decide (x17_4 ≥ (wrap64 ((wrap64 ((Int.tmod (wrap64 (a1)) (wrap64 ((wrap64 (2 + (wrap64 (Int.tmod a0 12)))) - 1))) + 1)) + (Int.tmod (wrap64 (a2)) (wrap64 ((wrap64 ((wrap64 (2 + (wrap64 (Int.tmod a0 12)))) - 1)) - (Int.tmod (wrap64 (a1)) (wrap64 ((wrap64 (2 + (wrap64 (Int.tmod a0 12)))) - 1))))))))))) = false := by simpa using c70))
                                                      (try (have c70b3 : ¬ ((rdOf false (rd_L2 t318 x16_3) x17_4) = (decide (x17_4 ≥ (wrap64 ((wrap64 ((Int.tmod (wrap64 (a1)) (wrap64 ((wrap64 (2 + (wrap64 (Int.tmod a0 12)))) - 1))) + 1)) + (Int.tmod (wrap64 (a2)) (wrap64 ((wrap64 ((wrap64 (2 + (wrap64 (Int.tmod a0 12)))) - 1)) - (Int.tmod (wrap64 (a1)) (wrap64 ((wrap64 (2 + (wrap64 (Int.tmod a0 12)))) - 1))))))))))) := by simpa using c70))
                                                      clear c70
                                                      obtain rfl := Option.some.inj H
                                                      have p329 : 0 ≤ (x16_3 : Int) := of_decide_eq_true (by first | (with_reducible assumption) | assumption)
                                                      have q329 : x16_3 < (t318.length : Int) := of_decide_eq_true (by first | (with_reducible assumption) | assumption)
                                                      obtain ⟨ad329, A329_0, c329_0, e329, hx329_0, hl329_0, hi329_0⟩ := at_L2 (Kd.S_reads' HO_14.out).2.2 x16_3 p329 q329
                                                      obtain rfl : ad324 = ad329 := (by injection e329)
                                                      obtain ⟨ce329, hce329, hMe329, hcc329⟩ := Kd.S_get HO_14.out [] x16_3 p329 (by first | exact q329 | exact of_decide_eq_true (by first | (with_reducible assumption) | assumption) | (have e_ := (Kd.S_reads' HO_14.out).1; omega))
                                                      obtain ⟨ve329_0, rfl, ge329_0⟩ := hMe329
                                                      have hv329_0 := hcc329 0 _ rfl
                                                      rw [Nat.add_zero, show ((Kd.slice 4 Kd.bool)).sz = 1 from rfl, Nat.mul_one] at hv329_0
                                                      replace hv329_0 := Option.some.inj (hv329_0.symm.trans hx329_0)
                                                      rw [hv329_0] at ge329_0
                                                      have HL329_0 := Aside0.mk (show Kd.R Kd.bool 4 _ _ _ _ (rd_L2 t318 x16_3) from ge329_0)
                                                      clear hv329_0 ge329_0
                                                      clear hcc329 hce329
                                                      have HR329_0 := Aside0.mk hi329_0
                                                      have HC329_0 := Aside0.mk hl329_0
                                                      clear hi329_0 hl329_0
                                                      (try (have hz_ := Option.some.inj (hx324_0.symm.trans hx329_0); injection hz_ with za_ zn_ zc_; subst za_; subst zc_; clear zn_))
                                                      replace p329 := eq_true p329
                                                      replace q329 := eq_true q329
                                                      have p330 : 0 ≤ (x17_4 : Int) := of_decide_eq_true (by first | (with_reducible assumption) | assumption)
                                                      have q330 : x17_4 < ((rd_L2 t318 x16_3).length : Int) := of_decide_eq_true (by first | (with_reducible assumption) | assumption)
                                                      obtain ⟨ad330, e330, hx330_0⟩ := Kd.at_bool (by repeat (first | (with_reducible exact HR329_0.out) | (with_reducible refine Kd.C_alloc ?_ _) | (with_reducible refine Kd.C_drewN ?_ _) | (with_reducible refine Kd.C_drew ?_) | exact HR329_0.out)) x17_4 p330 q330
                                                      cases e330
                                                      replace p330 := eq_true p330
                                                      replace q330 := eq_true q330
                                                      go_wp2
                                                      go_ret
                                                      exact ⟨by first | rfl | (simp [errW_none, errW_some] <;> rfl) | (simp [*, errW_none, errW_some] <;> rfl), by repeat (first | (with_reducible first | exact HB.out | apply below_alloc | apply pw_below_drewN | apply below_drew1) | exact HB.out)⟩
                                                    · rw [if_neg c70] at H
                                                      have c70b0 : ((rdOf false (rd_L2 t318 x16_3) x17_4) != (decide (x17_4 ≥ (wrap64 ((wrap64 ((Int.tmod (wrap64 (a1)) (wrap64 ((wrap64 (2 + (wrap64 (Int.tmod a0 12)))) - 1))) + 1)) + (Int.tmod (wrap64 (a2)) (wrap64 ((wrap64 ((wrap64 (2 + (wrap64 (Int.tmod a0 12)))) - 1)) - (Int.tmod (wrap64 (a1)) (wrap64 ((wrap64 (2 + (wrap64 (Int.tmod a0 12)))) - 1))))))))))) = false := by simpa using c70
                                                      (try (have c70b1 : decide ((rdOf false (rd_L2 t318 x16_3) x17_4) = (decide (x17_4 ≥ (wrap64 ((wrap64 ((Int.tmod (wrap64 (a1)) (wrap64 ((wrap64 (2 + (wrap64 (Int.tmod a0 12)))) - 1))) + 1)) + (Int.tmod (wrap64 (a2)) (wrap64 ((wrap64 ((wrap64 (2 + (wrap64 (Int.tmod a0 12)))) - 1)) - (Int.tmod (wrap64 (a1)) (wrap64 ((wrap64 (2 + (wrap64 (Int.tmod a0 12)))) - 1))))))))))) = true := by simpa using c70))
                                                      (try (have c70b2 : ((rdOf false (rd_L2 t318 x16_3) x17_4) == (decide (x17_4 ≥ (wrap64 ((wrap64 ((Int.tmod (wrap64 (a1)) (wrap64 ((wrap64 (2 + (wrap64 (Int.tmod a0 12)))) - 1))) + 1)) + (Int.tmod (wrap64 (a2)) (wrap64 ((wrap64 ((wrap64 (2 + (wrap64 (Int.tmod a0 12)))) - 1)) - (Int.tmod (wrap64 (a1)) (wrap64 ((wrap64 (2 + (wrap64 (Int.tmod a0 12)))) - 1))))))))))) = true := by simpa using c70))
                                                      clear c70
                                                      have H' := Aside0.mk H
                                                      clear H
                                                      have p329 : 0 ≤ (x16_3 : Int) := of_decide_eq_true (by first | (with_reducible assumption) | assumption)
                                                      have q329 : x16_3 < (t318.length : Int) := of_decide_eq_true (by first | (with_reducible assumption) | assumption)
                                                      obtain ⟨ad329, A329_0, c329_0, e329, hx329_0, hl329_0, hi329_0⟩ := at_L2 (Kd.S_reads' HO_14.out).2.2 x16_3 p329 q329
                                                      obtain rfl : ad324 = ad329 := (by injection e329)
                                                      obtain ⟨ce329, hce329, hMe329, hcc329⟩ := Kd.S_get HO_14.out [] x16_3 p329 (by first | exact q329 | exact of_decide_eq_true (by first | (with_reducible assumption) | assumption) | (have e_ := (Kd.S_reads' HO_14.out).1; omega))
                                                      obtain ⟨ve329_0, rfl, ge329_0⟩ := hMe329
                                                      have hv329_0 := hcc329 0 _ rfl
                                                      rw [Nat.add_zero, show ((Kd.slice 4 Kd.bool)).sz = 1 from rfl, Nat.mul_one] at hv329_0
                                                      replace hv329_0 := Option.some.inj (hv329_0.symm.trans hx329_0)
                                                      rw [hv329_0] at ge329_0
                                                      have HL329_0 := Aside0.mk (show Kd.R Kd.bool 4 _ _ _ _ (rd_L2 t318 x16_3) from ge329_0)
                                                      clear hv329_0 ge329_0
                                                      clear hcc329 hce329
                                                      have HR329_0 := Aside0.mk hi329_0
                                                      have HC329_0 := Aside0.mk hl329_0
                                                      clear hi329_0 hl329_0
                                                      (try (have hz_ := Option.some.inj (hx324_0.symm.trans hx329_0); injection hz_ with za_ zn_ zc_; subst za_; subst zc_; clear zn_))
                                                      replace p329 := eq_true p329
                                                      replace q329 := eq_true q329
                                                      have p330 : 0 ≤ (x17_4 : Int) := of_decide_eq_true (by first | (with_reducible assumption) | assumption)
                                                      have q330 : x17_4 < ((rd_L2 t318 x16_3).length : Int) := of_decide_eq_true (by first | (with_reducible assumption) | assumption)
                                                      obtain ⟨ad330, e330, hx330_0⟩ := Kd.at_bool (by repeat (first | (with_reducible exact HR329_0.out) | (with_reducible refine Kd.C_alloc ?_ _) | (with_reducible refine Kd.C_drewN ?_ _) | (with_reducible refine Kd.C_drew ?_) | exact HR329_0.out)) x17_4 p330 q330
                                                      cases e330
                                                      replace p330 := eq_true p330
                                                      replace q330 := eq_true q330
                                                      go_wp2
                                                      go_roundg k4
                                                      case measure => have := HK1.out; have := HJ37.out; have := HK3.out; have := HK4.out; omega
                                                      case rel => exact ⟨(wrap64 (x17_4 + 1)), (by first | rfl | (simp; done) | (simp [*]; done)), H', ⟨by have := HK1.out; have := HJ37.out; have := HK3.out; have := HK4.out; omega⟩, ⟨by (with_reducible repeat (first | apply Kd.S_alloc | apply Kd.S_drewN | apply Kd.S_drew)); exact HO_14.out⟩, ⟨by (with_reducible repeat (first | apply Kd.R_alloc | apply Kd.R_drewN | apply Kd.R_drew)); exact HO_15.out⟩, ⟨by repeat (first | (with_reducible exact HR324_0.out) | (with_reducible refine Kd.C_alloc ?_ _) | (with_reducible refine Kd.C_drewN ?_ _) | (with_reducible refine Kd.C_drew ?_) | exact HR324_0.out)⟩, ⟨by repeat (first | (with_reducible first | exact HB.out | apply below_alloc | apply pw_below_drewN | apply below_drew1) | exact HB.out)⟩⟩
                                                  · rw [if_neg c69] at H
                                                    exact absurd H (by simp)
                                                · rw [if_neg c68] at H
                                                  exact absurd H (by simp)
                                              · rw [if_neg c67] at H
                                                exact absurd H (by simp)
                                            · rw [if_neg c66] at H
                                              exact absurd H (by simp)
                                      · rw [if_neg c53] at H
                                        have c53b0 : decide (x16_3 ≤ x17_4) = false := decide_eq_false c53
                                        clear c53
                                        by_cases c71 : 0 ≤ x16_3
                                        · rw [if_pos c71] at H
                                          have c71b0 : decide (0 ≤ x16_3) = true := decide_eq_true c71
                                          clear c71
                                          by_cases c72 : x16_3 < (t318.length : Int)
                                          · rw [if_pos c72] at H
                                            have c72b0 : decide (x16_3 < (t318.length : Int)) = true := decide_eq_true c72
                                            clear c72
                                            by_cases c73 : 0 ≤ x17_4
                                            · rw [if_pos c73] at H
                                              have c73b0 : decide (0 ≤ x17_4) = true := decide_eq_true c73
                                              clear c73
                                              by_cases c74 : x17_4 < ((rd_L2 t318 x16_3).length : Int)
                                              · rw [if_pos c74] at H
                                                have c74b0 : decide (x17_4 < ((rd_L2 t318 x16_3).length : Int)) = true := decide_eq_true c74
                                                clear c74
                                                by_cases c75 : ((rdOf false (rd_L2 t318 x16_3) x17_4) != false) = true
                                                · rw [if_pos c75] at H
                                                  have c75b0 : ((rdOf false (rd_L2 t318 x16_3) x17_4) != false) = true := c75
                                                  (try (have c75b1 : decide ((rdOf false (rd_L2 t318 x16_3) x17_4) = false) = false := by simpa using c75))
                                                  (try (have c75b2 : ((rdOf false (rd_L2 t318 x16_3) x17_4) == false) = false := by simpa using c75))
                                                  (try (have c75b3 : ¬ ((rdOf false (rd_L2 t318 x16_3) x17_4) = false) := by simpa using c75))
                                                  clear c75
                                                  obtain rfl := Option.some.inj H
                                                  have p331 : 0 ≤ (x16_3 : Int) := of_decide_eq_true (by first | (with_reducible assumption) | assumption)
                                                  have q331 : x16_3 < (t318.length : Int) := of_decide_eq_true (by first | (with_reducible assumption) | assumption)
                                                  obtain ⟨ad331, A331_0, c331_0, e331, hx331_0, hl331_0, hi331_0⟩ := at_L2 (Kd.S_reads' HO_14.out).2.2 x16_3 p331 q331
                                                  obtain rfl : ad324 = ad331 := (by injection e331)
                                                  obtain ⟨ce331, hce331, hMe331, hcc331⟩ := Kd.S_get HO_14.out [] x16_3 p331 (by first | exact q331 | exact of_decide_eq_true (by first | (with_reducible assumption) | assumption) | (have e_ := (Kd.S_reads' HO_14.out).1; omega))
                                                  obtain ⟨ve331_0, rfl, ge331_0⟩ := hMe331
                                                  have hv331_0 := hcc331 0 _ rfl
                                                  rw [Nat.add_zero, show ((Kd.slice 4 Kd.bool)).sz = 1 from rfl, Nat.mul_one] at hv331_0
                                                  replace hv331_0 := Option.some.inj (hv331_0.symm.trans hx331_0)
                                                  rw [hv331_0] at ge331_0
                                                  have HL331_0 := Aside0.mk (show Kd.R Kd.bool 4 _ _ _ _ (rd_L2 t318 x16_3) from ge331_0)
                                                  clear hv331_0 ge331_0
                                                  clear hcc331 hce331
                                                  have HR331_0 := Aside0.mk hi331_0
                                                  have HC331_0 := Aside0.mk hl331_0
                                                  clear hi331_0 hl331_0
                                                  (try (have hz_ := Option.some.inj (hx324_0.symm.trans hx331_0); injection hz_ with za_ zn_ zc_; subst za_; subst zc_; clear zn_))
                                                  replace p331 := eq_true p331
                                                  replace q331 := eq_true q331
                                                  have p332 : 0 ≤ (x17_4 : Int) := of_decide_eq_true (by first | (with_reducible assumption) | assumption)
                                                  have q332 : x17_4 < ((rd_L2 t318 x16_3).length : Int) := of_decide_eq_true (by first | (with_reducible assumption) | assumption)
                                                  obtain ⟨ad332, e332, hx332_0⟩ := Kd.at_bool (by repeat (first | (with_reducible exact HR331_0.out) | (with_reducible refine Kd.C_alloc ?_ _) | (with_reducible refine Kd.C_drewN ?_ _) | (with_reducible refine Kd.C_drew ?_) | exact HR331_0.out)) x17_4 p332 q332
                                                  cases e332
                                                  replace p332 := eq_true p332
                                                  replace q332 := eq_true q332
                                                  go_wp2
                                                  go_ret
                                                  exact ⟨by first | rfl | (simp [errW_none, errW_some] <;> rfl) | (simp [*, errW_none, errW_some] <;> rfl), by repeat (first | (with_reducible first | exact HB.out | apply below_alloc | apply pw_below_drewN | apply below_drew1) | exact HB.out)⟩
                                                · rw [if_neg c75] at H
                                                  have c75b0 : ((rdOf false (rd_L2 t318 x16_3) x17_4) != false) = false := by simpa using c75
                                                  (try (have c75b1 : decide ((rdOf false (rd_L2 t318 x16_3) x17_4) = false) = true := by simpa using c75))
                                                  (try (have c75b2 : ((rdOf false (rd_L2 t318 x16_3) x17_4) == false) = true := by simpa using c75))
                                                  clear c75
                                                  have H' := Aside0.mk H
                                                  clear H
                                                  have p331 : 0 ≤ (x16_3 : Int) := of_decide_eq_true (by first | (with_reducible assumption) | assumption)
                                                  have q331 : x16_3 < (t318.length : Int) := of_decide_eq_true (by first | (with_reducible assumption) | assumption)
                                                  obtain ⟨ad331, A331_0, c331_0, e331, hx331_0, hl331_0, hi331_0⟩ := at_L2 (Kd.S_reads' HO_14.out).2.2 x16_3 p331 q331
                                                  obtain rfl : ad324 = ad331 := (by injection e331)
                                                  obtain ⟨ce331, hce331, hMe331, hcc331⟩ := Kd.S_get HO_14.out [] x16_3 p331 (by first | exact q331 | exact of_decide_eq_true (by first | (with_reducible assumption) | assumption) | (have e_ := (Kd.S_reads' HO_14.out).1; omega))
                                                  obtain ⟨ve331_0, rfl, ge331_0⟩ := hMe331
                                                  have hv331_0 := hcc331 0 _ rfl
                                                  rw [Nat.add_zero, show ((Kd.slice 4 Kd.bool)).sz = 1 from rfl, Nat.mul_one] at hv331_0
                                                  replace hv331_0 := Option.some.inj (hv331_0.symm.trans hx331_0)
                                                  rw [hv331_0] at ge331_0
                                                  have HL331_0 := Aside0.mk (show Kd.R Kd.bool 4 _ _ _ _ (rd_L2 t318 x16_3) from ge331_0)
                                                  clear hv331_0 ge331_0
                                                  clear hcc331 hce331
                                                  have HR331_0 := Aside0.mk hi331_0
                                                  have HC331_0 := Aside0.mk hl331_0
                                                  clear hi331_0 hl331_0
                                                  (try (have hz_ := Option.some.inj (hx324_0.symm.trans hx331_0); injection hz_ with za_ zn_ zc_; subst za_; subst zc_; clear zn_))
                                                  replace p331 := eq_true p331
                                                  replace q331 := eq_true q331
                                                  have p332 : 0 ≤ (x17_4 : Int) := of_decide_eq_true (by first | (with_reducible assumption) | assumption)
                                                  have q332 : x17_4 < ((rd_L2 t318 x16_3).length : Int) := of_decide_eq_true (by first | (with_reducible assumption) | assumption)
                                                  obtain ⟨ad332, e332, hx332_0⟩ := Kd.at_bool (by repeat (first | (with_reducible exact HR331_0.out) | (with_reducible refine Kd.C_alloc ?_ _) | (with_reducible refine Kd.C_drewN ?_ _) | (with_reducible refine Kd.C_drew ?_) | exact HR331_0.out)) x17_4 p332 q332
                                                  cases e332
                                                  replace p332 := eq_true p332
                                                  replace q332 := eq_true q332
                                                  go_wp2
                                                  go_roundg k4
                                                  case measure => have := HK1.out; have := HJ37.out; have := HK3.out; have := HK4.out; omega
                                                  case rel => exact ⟨(wrap64 (x17_4 + 1)), (by first | rfl | (simp; done) | (simp [*]; done)), H', ⟨by have := HK1.out; have := HJ37.out; have := HK3.out; have := HK4.out; omega⟩, ⟨by (with_reducible repeat (first | apply Kd.S_alloc | apply Kd.S_drewN | apply Kd.S_drew)); exact HO_14.out⟩, ⟨by (with_reducible repeat (first | apply Kd.R_alloc | apply Kd.R_drewN | apply Kd.R_drew)); exact HO_15.out⟩, ⟨by repeat (first | (with_reducible exact HR324_0.out) | (with_reducible refine Kd.C_alloc ?_ _) | (with_reducible refine Kd.C_drewN ?_ _) | (with_reducible refine Kd.C_drew ?_) | exact HR324_0.out)⟩, ⟨by repeat (first | (with_reducible first | exact HB.out | apply below_alloc | apply pw_below_drewN | apply below_drew1) | exact HB.out)⟩⟩
                                              · rw [if_neg c74] at H
                                                exact absurd H (by simp)
                                            · rw [if_neg c73] at H
                                              exact absurd H (by simp)
                                          · rw [if_neg c72] at H
                                            exact absurd H (by simp)
                                        · rw [if_neg c71] at H
                                          exact absurd H (by simp)
                                    · rw [if_neg c52] at H
                                      have c52b0 : decide (x17_4 < (wrap64 (2 + (wrap64 (Int.tmod a0 12))))) = false := decide_eq_false c52
                                      clear c52
                                      have HC76 := Aside0.mk H
                                      clear H
                                      go_upto_if 127 with (fail)
                                      go_cut [19] (fun v19 wc => ∃ (kq : Nat) (x19_75 : Int), v19 = .int .i64 x19_75 ∧ Aside0 (billhooklaw10_DomLine.j4 kq true (wrap64 (2 + (wrap64 (Int.tmod a0 12)))) (Int.tmod (wrap64 (a1)) (wrap64 ((wrap64 (2 + (wrap64 (Int.tmod a0 12)))) - 1))) (wrap64 ((wrap64 ((Int.tmod (wrap64 (a1)) (wrap64 ((wrap64 (2 + (wrap64 (Int.tmod a0 12)))) - 1))) + 1)) + (Int.tmod (wrap64 (a2)) (wrap64 ((wrap64 ((wrap64 (2 + (wrap64 (Int.tmod a0 12)))) - 1)) - (Int.tmod (wrap64 (a1)) (wrap64 ((wrap64 (2 + (wrap64 (Int.tmod a0 12)))) - 1)))))))) t318 t321 x16_3 x19_75 = some r) ∧ Aside0 (kq ≤ k4) ∧ Aside0 (Kd.S (Kd.slice 4 Kd.bool) 57 wc w.heap.size (fun _ => True) (.slice (some ad324) t318.length co51) t318) ∧ Aside0 (Kd.R (Kd.int .i64) 3 wc w.heap.size (fun _ => True) v322 t321) ∧ Aside0 (Kd.C Kd.bool wc A324_0 (rd_L2 t318 x16_3).length (rd_L2 t318 x16_3)) ∧ Aside0 (Below w.heap.size w wc))
                                      case first =>
                                        have H := HC76.out
                                        clear HC76
                                        by_cases c77 : x16_3 = (Int.tmod (wrap64 (a1)) (wrap64 ((wrap64 (2 + (wrap64 (Int.tmod a0 12)))) - 1)))
                                        · rw [if_pos c77] at H
                                          have c77b0 : (x16_3 == (Int.tmod (wrap64 (a1)) (wrap64 ((wrap64 (2 + (wrap64 (Int.tmod a0 12)))) - 1)))) = true := beq_iff_eq.mpr c77
                                          have c77b1 : (x16_3 != (Int.tmod (wrap64 (a1)) (wrap64 ((wrap64 (2 + (wrap64 (Int.tmod a0 12)))) - 1)))) = false := bne_eq_false_iff_eq.mpr c77
                                          clear c77
                                          (first | rw [c77b0] | (simp only [i64_w, i32_w]; rw [c77b0]) | skip)
                                          have H' := Aside0.mk H
                                          clear H
                                          go_wp2
                                          go_meet
                                          case rel => exact ⟨_, ((wrap64 ((wrap64 ((Int.tmod (wrap64 (a1)) (wrap64 ((wrap64 (2 + (wrap64 (Int.tmod a0 12)))) - 1))) + 1)) + (Int.tmod (wrap64 (a2)) (wrap64 ((wrap64 ((wrap64 (2 + (wrap64 (Int.tmod a0 12)))) - 1)) - (Int.tmod (wrap64 (a1)) (wrap64 ((wrap64 (2 + (wrap64 (Int.tmod a0 12)))) - 1))))))))), (by first | rfl | (simp; done) | (simp [*]; done)), H', ⟨by have := HK1.out; have := HJ37.out; have := HK3.out; have := HK4.out; first | omega | exact Nat.le_refl _⟩, ⟨by (with_reducible repeat (first | apply Kd.S_alloc | apply Kd.S_drewN | apply Kd.S_drew)); exact HO_14.out⟩, ⟨by (with_reducible repeat (first | apply Kd.R_alloc | apply Kd.R_drewN | apply Kd.R_drew)); exact HO_15.out⟩, ⟨by repeat (first | (with_reducible exact HR324_0.out) | (with_reducible refine Kd.C_alloc ?_ _) | (with_reducible refine Kd.C_drewN ?_ _) | (with_reducible refine Kd.C_drew ?_) | exact HR324_0.out)⟩, ⟨by repeat (first | (with_reducible first | exact HB.out | apply below_alloc | apply pw_below_drewN | apply below_drew1) | exact HB.out)⟩⟩
                                        · rw [if_neg c77] at H
                                          have c77b0 : (x16_3 == (Int.tmod (wrap64 (a1)) (wrap64 ((wrap64 (2 + (wrap64 (Int.tmod a0 12)))) - 1)))) = false := beq_eq_false_iff_ne.mpr c77
                                          have c77b1 : (x16_3 != (Int.tmod (wrap64 (a1)) (wrap64 ((wrap64 (2 + (wrap64 (Int.tmod a0 12)))) - 1)))) = true := bne_iff_ne.mpr c77
                                          (first | rw [c77b0] | (simp only [i64_w, i32_w]; rw [c77b0]) | skip)
                                          have H' := Aside0.mk H
                                          clear H
                                          go_wp2
                                          go_meet
                                          case rel => exact ⟨_, (wrap64 (x16_3 + 1)), (by first | rfl | (simp; done) | (simp [*]; done)), H', ⟨by have := HK1.out; have := HJ37.out; have := HK3.out; have := HK4.out; first | omega | exact Nat.le_refl _⟩, ⟨by (with_reducible repeat (first | apply Kd.S_alloc | apply Kd.S_drewN | apply Kd.S_drew)); exact HO_14.out⟩, ⟨by (with_reducible repeat (first | apply Kd.R_alloc | apply Kd.R_drewN | apply Kd.R_drew)); exact HO_15.out⟩, ⟨by repeat (first | (with_reducible exact HR324_0.out) | (with_reducible refine Kd.C_alloc ?_ _) | (with_reducible refine Kd.C_drewN ?_ _) | (with_reducible refine Kd.C_drew ?_) | exact HR324_0.out)⟩, ⟨by repeat (first | (with_reducible first | exact HB.out | apply below_alloc | apply pw_below_drewN | apply below_drew1) | exact HB.out)⟩⟩
                                      case rest =>
                                        clear HC76
                                        try clear c1
                                        try clear c2
                                        try clear p2
                                        try clear c3
                                        try clear p3
                                        try clear q3
                                        try clear hx3
                                        try clear c4
                                        try clear c5
                                        try clear c6
                                        try clear c6b0
                                        try clear c6b1
                                        try clear p6
                                        try clear c7
                                        try clear c7b0
                                        try clear c7b1
                                        try clear c9
                                        try clear c9b0
                                        try clear c10
                                        try clear c10b0
                                        try clear c10b1
                                        try clear c11
                                        try clear c11b0
                                        try clear c11b1
                                        try clear c12
                                        try clear c13
                                        try clear c19
                                        try clear c23
                                        try clear c23b0
                                        try clear c23b1
                                        try clear c24
                                        try clear c25
                                        try clear c26
                                        try clear c31
                                        try clear c32
                                        try clear p32
                                        try clear q32
                                        try clear hx32
                                        try clear c33
                                        try clear p33
                                        try clear q33
                                        try clear hx33
                                        try clear c34
                                        try clear c42
                                        try clear c42b0
                                        try clear c42b1
                                        try clear c46
                                        try clear c47
                                        try clear c47b0
                                        try clear c48
                                        try clear c48b0
                                        try clear c49
                                        try clear c49b0
                                        try clear c50
                                        try clear c50b0
                                        try clear c50b1
                                        try clear c52
                                        try clear c52b0
                                        try clear c53
                                        try clear c53b0
                                        try clear c54
                                        try clear c54b0
                                        try clear c55
                                        try clear c55b0
                                        try clear c56
                                        try clear c56b0
                                        try clear c57
                                        try clear c57b0
                                        try clear c58
                                        try clear c58b0
                                        try clear c59
                                        try clear c59b0
                                        try clear c59b1
                                        try clear c59b2
                                        try clear c60
                                        try clear c60b0
                                        try clear c61
                                        try clear c61b0
                                        try clear c62
                                        try clear c62b0
                                        try clear c63
                                        try clear c63b0
                                        try clear c64
                                        try clear c64b0
                                        try clear p64
                                        try clear c65
                                        try clear c65b0
                                        try clear c65b1
                                        try clear c65b2
                                        try clear c66
                                        try clear c66b0
                                        try clear c67
                                        try clear c67b0
                                        try clear c68
                                        try clear c68b0
                                        try clear c69
                                        try clear c69b0
                                        try clear c70
                                        try clear c70b0
                                        try clear c70b1
                                        try clear c70b2
                                        try clear c71
                                        try clear c71b0
                                        try clear c72
                                        try clear c72b0
                                        try clear c73
                                        try clear c73b0
                                        try clear c74
                                        try clear c74b0
                                        try clear c75
                                        try clear c75b0
                                        try clear c75b1
                                        try clear c75b2
                                        try clear c77
                                        try clear c77b0
                                        try clear c77b1
                                        try clear hx324_0
                                        try clear hx325_0
                                        try clear hx326_0
                                        try clear hx327_0
                                        try clear hx328_0
                                        try clear hx329_0
                                        try clear hx330_0
                                        try clear hx331_0
                                        try clear hx332_0
                                        try clear p2
                                        try clear p3
                                        try clear p32
                                        try clear p324
                                        try clear p325
                                        try clear p326
                                        try clear p327
                                        try clear p328
                                        try clear p329
                                        try clear p330
                                        try clear p331
                                        try clear p332
                                        try clear p6
                                        try clear q3
                                        try clear q32
                                        try clear q324
                                        try clear q325
                                        try clear q326
                                        try clear q327
                                        try clear q328
                                        try clear q329
                                        try clear q330
                                        try clear q331
                                        try clear q332
                                        obtain ⟨kq, x19_75, rfl, HA, HJ75, HO_14, HO_15, HR324_0, HB⟩ := hcut
                                        cases kq with
                                        | zero => exact absurd HA.out (by simp [billhooklaw10_DomLine.j4])
                                        | succ kj75 =>
                                          have H := HA.out
                                          clear HA
                                          simp only [billhooklaw10_DomLine.j4] at H
                                          by_cases c78 : x16_3 = (wrap64 ((wrap64 (2 + (wrap64 (Int.tmod a0 12)))) - 1))
                                          · rw [if_pos c78] at H
                                            have c78b0 : (x16_3 == (wrap64 ((wrap64 (2 + (wrap64 (Int.tmod a0 12)))) - 1))) = true := beq_iff_eq.mpr c78
                                            have c78b1 : (x16_3 != (wrap64 ((wrap64 (2 + (wrap64 (Int.tmod a0 12)))) - 1))) = false := bne_eq_false_iff_eq.mpr c78
                                            clear c78
                                            by_cases c79 : 0 ≤ x16_3
                                            · rw [if_pos c79] at H
                                              have c79b0 : decide (0 ≤ x16_3) = true := decide_eq_true c79
                                              clear c79
                                              by_cases c80 : x16_3 < (t321.length : Int)
                                              · rw [if_pos c80] at H
                                                have c80b0 : decide (x16_3 < (t321.length : Int)) = true := decide_eq_true c80
                                                clear c80
                                                by_cases c81 : (rd t321 x16_3) = (-1)
                                                · rw [if_pos c81] at H
                                                  have c81b0 : ((rd t321 x16_3) == (-1)) = true := beq_iff_eq.mpr c81
                                                  have c81b1 : ((rd t321 x16_3) != (-1)) = false := bne_eq_false_iff_eq.mpr c81
                                                  clear c81
                                                  have H' := Aside0.mk H
                                                  clear H
                                                  obtain ⟨Ao82, co82, eo82⟩ := Kd.R_slice HO_15.out
                                                  subst eo82
                                                  have p333 : 0 ≤ (x16_3 : Int) := of_decide_eq_true (by first | (with_reducible assumption) | assumption)
                                                  have q333 : x16_3 < (t321.length : Int) := of_decide_eq_true (by first | (with_reducible assumption) | assumption)
                                                  obtain ⟨ad333, e333, hx333_0⟩ := Kd.at_int (Kd.R_reads' HO_15.out).2.2 x16_3 p333 q333
                                                  cases e333
                                                  replace p333 := eq_true p333
                                                  replace q333 := eq_true q333
                                                  go_wp2
                                                  go_roundg kj75
                                                  case measure => have := HK1.out; have := HJ37.out; have := HK3.out; have := HK4.out; have := HJ75.out; omega
                                                  case rel => exact ⟨(wrap64 (x16_3 + 1)), (by first | rfl | (simp; done) | (simp [*]; done)), H', ⟨by have := HK1.out; have := HJ37.out; have := HK3.out; have := HK4.out; have := HJ75.out; omega⟩, ⟨by (with_reducible repeat (first | apply Kd.S_alloc | apply Kd.S_drewN | apply Kd.S_drew)); exact HO_14.out⟩, ⟨by (with_reducible repeat (first | apply Kd.R_alloc | apply Kd.R_drewN | apply Kd.R_drew)); exact HO_15.out⟩, ⟨by repeat (first | (with_reducible first | exact HB.out | apply below_alloc | apply pw_below_drewN | apply below_drew1) | exact HB.out)⟩⟩
                                                · rw [if_neg c81] at H
                                                  have c81b0 : ((rd t321 x16_3) == (-1)) = false := beq_eq_false_iff_ne.mpr c81
                                                  have c81b1 : ((rd t321 x16_3) != (-1)) = true := bne_iff_ne.mpr c81
                                                  obtain rfl := Option.some.inj H
                                                  obtain ⟨Ao83, co83, eo83⟩ := Kd.R_slice HO_15.out
                                                  subst eo83
                                                  have p333 : 0 ≤ (x16_3 : Int) := of_decide_eq_true (by first | (with_reducible assumption) | assumption)
                                                  have q333 : x16_3 < (t321.length : Int) := of_decide_eq_true (by first | (with_reducible assumption) | assumption)
                                                  obtain ⟨ad333, e333, hx333_0⟩ := Kd.at_int (Kd.R_reads' HO_15.out).2.2 x16_3 p333 q333
                                                  cases e333
                                                  replace p333 := eq_true p333
                                                  replace q333 := eq_true q333
                                                  go_wp2
                                                  go_ret
                                                  exact ⟨by first | rfl | (simp [errW_none, errW_some] <;> rfl) | (simp [*, errW_none, errW_some] <;> rfl), by repeat (first | (with_reducible first | exact HB.out | apply below_alloc | apply pw_below_drewN | apply below_drew1) | exact HB.out)⟩
                                              · rw [if_neg c80] at H
                                                exact absurd H (by simp)
                                            · rw [if_neg c79] at H
                                              exact absurd H (by simp)
                                          · rw [if_neg c78] at H
                                            have c78b0 : (x16_3 == (wrap64 ((wrap64 (2 + (wrap64 (Int.tmod a0 12)))) - 1))) = false := beq_eq_false_iff_ne.mpr c78
                                            have c78b1 : (x16_3 != (wrap64 ((wrap64 (2 + (wrap64 (Int.tmod a0 12)))) - 1))) = true := bne_iff_ne.mpr c78
                                            by_cases c84 : 0 ≤ x16_3
                                            · rw [if_pos c84] at H
                                              have c84b0 : decide (0 ≤ x16_3) = true := decide_eq_true c84
                                              clear c84
                                              by_cases c85 : x16_3 < (t321.length : Int)
                                              · rw [if_pos c85] at H
                                                have c85b0 : decide (x16_3 < (t321.length : Int)) = true := decide_eq_true c85
                                                clear c85
                                                by_cases c86 : (rd t321 x16_3) = x19_75
                                                · rw [if_pos c86] at H
                                                  have c86b0 : ((rd t321 x16_3) == x19_75) = true := beq_iff_eq.mpr c86
                                                  have c86b1 : ((rd t321 x16_3) != x19_75) = false := bne_eq_false_iff_eq.mpr c86
                                                  clear c86
                                                  have H' := Aside0.mk H
                                                  clear H
                                                  obtain ⟨Ao87, co87, eo87⟩ := Kd.R_slice HO_15.out
                                                  subst eo87
                                                  have p334 : 0 ≤ (x16_3 : Int) := of_decide_eq_true (by first | (with_reducible assumption) | assumption)
                                                  have q334 : x16_3 < (t321.length : Int) := of_decide_eq_true (by first | (with_reducible assumption) | assumption)
                                                  obtain ⟨ad334, e334, hx334_0⟩ := Kd.at_int (Kd.R_reads' HO_15.out).2.2 x16_3 p334 q334
                                                  cases e334
                                                  replace p334 := eq_true p334
                                                  replace q334 := eq_true q334
                                                  go_wp2
                                                  go_roundg kj75
                                                  case measure => have := HK1.out; have := HJ37.out; have := HK3.out; have := HK4.out; have := HJ75.out; omega
                                                  case rel => exact ⟨(wrap64 (x16_3 + 1)), (by first | rfl | (simp; done) | (simp [*]; done)), H', ⟨by have := HK1.out; have := HJ37.out; have := HK3.out; have := HK4.out; have := HJ75.out; omega⟩, ⟨by (with_reducible repeat (first | apply Kd.S_alloc | apply Kd.S_drewN | apply Kd.S_drew)); exact HO_14.out⟩, ⟨by (with_reducible repeat (first | apply Kd.R_alloc | apply Kd.R_drewN | apply Kd.R_drew)); exact HO_15.out⟩, ⟨by repeat (first | (with_reducible first | exact HB.out | apply below_alloc | apply pw_below_drewN | apply below_drew1) | exact HB.out)⟩⟩
                                                · rw [if_neg c86] at H
                                                  have c86b0 : ((rd t321 x16_3) == x19_75) = false := beq_eq_false_iff_ne.mpr c86
                                                  have c86b1 : ((rd t321 x16_3) != x19_75) = true := bne_iff_ne.mpr c86
                                                  obtain rfl := Option.some.inj H
                                                  obtain ⟨Ao88, co88, eo88⟩ := Kd.R_slice HO_15.out
                                                  subst eo88
                                                  have p334 : 0 ≤ (x16_3 : Int) := of_decide_eq_true (by first | (with_reducible assumption) | assumption)
                                                  have q334 : x16_3 < (t321.length : Int) := of_decide_eq_true (by first | (with_reducible assumption) | assumption)
                                                  obtain ⟨ad334, e334, hx334_0⟩ := Kd.at_int (Kd.R_reads' HO_15.out).2.2 x16_3 p334 q334
                                                  cases e334
                                                  replace p334 := eq_true p334
                                                  replace q334 := eq_true q334
                                                  go_wp2
                                                  go_ret
                                                  exact ⟨by first | rfl | (simp [errW_none, errW_some] <;> rfl) | (simp [*, errW_none, errW_some] <;> rfl), by repeat (first | (with_reducible first | exact HB.out | apply below_alloc | apply pw_below_drewN | apply below_drew1) | exact HB.out)⟩
                                              · rw [if_neg c85] at H
                                                exact absurd H (by simp)
                                            · rw [if_neg c84] at H
                                              exact absurd H (by simp)
                              · rw [if_neg c50] at H
                                have c50b0 : (((rd_L2 t318 x16_3).length : Int) == (wrap64 (2 + (wrap64 (Int.tmod a0 12))))) = false := beq_eq_false_iff_ne.mpr c50
                                have c50b1 : (((rd_L2 t318 x16_3).length : Int) != (wrap64 (2 + (wrap64 (Int.tmod a0 12))))) = true := bne_iff_ne.mpr c50
                                obtain rfl := Option.some.inj H
                                obtain ⟨Ao89, co89, eo89⟩ := Kd.S_slice HO_14.out
                                subst eo89
                                have p324 : 0 ≤ (x16_3 : Int) := of_decide_eq_true (by first | (with_reducible assumption) | assumption)
                                have q324 : x16_3 < (t318.length : Int) := of_decide_eq_true (by first | (with_reducible assumption) | assumption)
                                obtain ⟨ad324, A324_0, c324_0, e324, hx324_0, hl324_0, hi324_0⟩ := at_L2 (Kd.S_reads' HO_14.out).2.2 x16_3 p324 q324
                                cases e324
                                obtain ⟨ce324, hce324, hMe324, hcc324⟩ := Kd.S_get HO_14.out [] x16_3 p324 (by first | exact q324 | exact of_decide_eq_true (by first | (with_reducible assumption) | assumption) | (have e_ := (Kd.S_reads' HO_14.out).1; omega))
                                obtain ⟨ve324_0, rfl, ge324_0⟩ := hMe324
                                have hv324_0 := hcc324 0 _ rfl
                                rw [Nat.add_zero, show ((Kd.slice 4 Kd.bool)).sz = 1 from rfl, Nat.mul_one] at hv324_0
                                replace hv324_0 := Option.some.inj (hv324_0.symm.trans hx324_0)
                                rw [hv324_0] at ge324_0
                                have HL324_0 := Aside0.mk (show Kd.R Kd.bool 4 _ _ _ _ (rd_L2 t318 x16_3) from ge324_0)
                                clear hv324_0 ge324_0
                                clear hcc324 hce324
                                have HR324_0 := Aside0.mk hi324_0
                                have HC324_0 := Aside0.mk hl324_0
                                clear hi324_0 hl324_0
                                replace p324 := eq_true p324
                                replace q324 := eq_true q324
                                go_wp2
                                go_ret
                                exact ⟨by first | rfl | (simp [errW_none, errW_some] <;> rfl) | (simp [*, errW_none, errW_some] <;> rfl), by repeat (first | (with_reducible first | exact HB.out | apply below_alloc | apply pw_below_drewN | apply below_drew1) | exact HB.out)⟩
                            · rw [if_neg c49] at H
                              exact absurd H (by simp)
                          · rw [if_neg c48] at H
                            exact absurd H (by simp)
                        · rw [if_neg c47] at H
                          have c47b0 : decide (x16_3 < (wrap64 (2 + (wrap64 (Int.tmod a0 12))))) = false := decide_eq_false c47
                          clear c47
                          obtain rfl := Option.some.inj H
                          go_wp2
                          go_ret
                          exact ⟨by first | rfl | (simp [errW_none, errW_some] <;> rfl) | (simp [*, errW_none, errW_some] <;> rfl), by repeat (first | (with_reducible first | exact HB.out | apply below_alloc | apply pw_below_drewN | apply below_drew1) | exact HB.out)⟩
  · replace c5 := Bool.eq_false_iff.mpr c5
    subst c5
    have H1 : (some false) = some r := by rw [if_neg (show ¬ (false = true) by decide)] at H; exact H
    clear H
    have H := H1
    clear H1
    obtain rfl := Option.some.inj H
    go_enter Try.func11, Try.ntmps11
    go_wp2_with (first | ((with_reducible refine gate_callee (f := 26) rfl ?_); refine goesL_ (some 20) rfl rfl Try.func26 (by kernel_rfl) rfl #[] rfl (by (try simp only [List.map_toArray, List.map_cons, List.map_nil]); first | done | rfl | (simp only [List.length_drop, List.length_take]; rfl)) ?_; (with_reducible refine (billhooklaw10_examples.calls  false _ A4.out).mono ?_); rintro e w90 ⟨rfl, hb⟩; refine ⟨_, rfl, ?_⟩; have n0_ := Aside0.mk (below_step (by repeat (first | (with_reducible first | exact HB.out | apply below_alloc | apply pw_below_drewN | apply below_drew1) | exact HB.out)) hb); clear HB; have HB := n0_; clear n0_; (try clear hb); (try clear hb2); (try clear hk); (try clear hi)))
    go_ret
    exact ⟨by first | rfl | (simp [errW_none, errW_some] <;> rfl) | (simp [*, errW_none, errW_some] <;> rfl), by repeat (first | (with_reducible first | exact HB.out | apply below_alloc | apply pw_below_drewN | apply below_drew1) | exact HB.out)⟩

/-- THE ONE PURE STATEMENT of billhooklaw10_DomLine: yours. -/
def billhooklaw10_DomLine.Pure : Prop := ∀ (a0 : Int) (a1 : Int) (a2 : Int), (Lit.int .u8 a0).wf = true → (Lit.int .u8 a1).wf = true → (Lit.int .u8 a2).wf = true → ∃ k, billhooklaw10_DomLine.f k a0 a1 a2 = some true
theorem billhooklaw10_DomLine.walk (P : billhooklaw10_DomLine.Pure) (a0 : Int) (a1 : Int) (a2 : Int) (w : World) (w0 : (Lit.int .u8 a0).wf = true) (w1 : (Lit.int .u8 a1).wf = true) (w2 : (Lit.int .u8 a2).wf = true) :
    Calls Try.prog 11 #[.int .u8 a0, .int .u8 a1, .int .u8 a2] w fun e w' => e = .returned (.bool true) ∧ Below w.heap.size w w' := by
  obtain ⟨k, h⟩ := P a0 a1 a2 w0 w1 w2
  refine (billhooklaw10_DomLine.calls k a0 a1 a2 true w h).mono ?_
  rintro e w' ⟨rfl, hd⟩
  exact ⟨rfl, hd⟩

end Go.Proofs.Ytankppgafdcknaa.PDom

/- Of any line, and an edge that goes round: each node is postdominated by all behind it but those that are gone round, and first by the next one: of each line that there is, run. -/
set_option linter.unusedVariables false
set_option linter.unusedSimpArgs false
set_option maxRecDepth 100000
namespace Go.Proofs.Ytankppgafdcknaa.Pure
open Go Go.RowKit Go.Proofs.YtankppgafdcknaaW.PrintWords Go.Proofs.Ytankppgafdcknaa.PPost Go.Proofs.Ytankppgafdcknaa.PDom Go.Proofs.Ytankppgafdcknaa.Gr
/-- the fuel of the runs, told to the kernel alone -/
def FU : Nat := 5000
def lineAt (n a b : Nat) : Bool := !(decide (a + 1 + b < n)) || decide (billhooklaw10_DomLine.l0 FU true (n : Int) (a : Int) ((a + 1 + b : Nat) : Int) [] 0 = some true)
theorem ln2_0 : ((List.range (2 - 1 - 0)).all fun b => lineAt 2 0 b) = true := by decide +kernel
theorem ln3_0 : ((List.range (3 - 1 - 0)).all fun b => lineAt 3 0 b) = true := by decide +kernel
theorem ln3_1 : ((List.range (3 - 1 - 1)).all fun b => lineAt 3 1 b) = true := by decide +kernel
theorem ln4_0 : ((List.range (4 - 1 - 0)).all fun b => lineAt 4 0 b) = true := by decide +kernel
theorem ln4_1 : ((List.range (4 - 1 - 1)).all fun b => lineAt 4 1 b) = true := by decide +kernel
theorem ln4_2 : ((List.range (4 - 1 - 2)).all fun b => lineAt 4 2 b) = true := by decide +kernel
theorem ln5_0 : ((List.range (5 - 1 - 0)).all fun b => lineAt 5 0 b) = true := by decide +kernel
theorem ln5_1 : ((List.range (5 - 1 - 1)).all fun b => lineAt 5 1 b) = true := by decide +kernel
theorem ln5_2 : ((List.range (5 - 1 - 2)).all fun b => lineAt 5 2 b) = true := by decide +kernel
theorem ln5_3 : ((List.range (5 - 1 - 3)).all fun b => lineAt 5 3 b) = true := by decide +kernel
theorem ln6_0 : ((List.range (6 - 1 - 0)).all fun b => lineAt 6 0 b) = true := by decide +kernel
theorem ln6_1 : ((List.range (6 - 1 - 1)).all fun b => lineAt 6 1 b) = true := by decide +kernel
theorem ln6_2 : ((List.range (6 - 1 - 2)).all fun b => lineAt 6 2 b) = true := by decide +kernel
theorem ln6_3 : ((List.range (6 - 1 - 3)).all fun b => lineAt 6 3 b) = true := by decide +kernel
theorem ln6_4 : ((List.range (6 - 1 - 4)).all fun b => lineAt 6 4 b) = true := by decide +kernel
theorem ln7_0 : ((List.range (7 - 1 - 0)).all fun b => lineAt 7 0 b) = true := by decide +kernel
theorem ln7_1 : ((List.range (7 - 1 - 1)).all fun b => lineAt 7 1 b) = true := by decide +kernel
theorem ln7_2 : ((List.range (7 - 1 - 2)).all fun b => lineAt 7 2 b) = true := by decide +kernel
theorem ln7_3 : ((List.range (7 - 1 - 3)).all fun b => lineAt 7 3 b) = true := by decide +kernel
theorem ln7_4 : ((List.range (7 - 1 - 4)).all fun b => lineAt 7 4 b) = true := by decide +kernel
theorem ln7_5 : ((List.range (7 - 1 - 5)).all fun b => lineAt 7 5 b) = true := by decide +kernel
theorem ln8_0 : ((List.range (8 - 1 - 0)).all fun b => lineAt 8 0 b) = true := by decide +kernel
theorem ln8_1 : ((List.range (8 - 1 - 1)).all fun b => lineAt 8 1 b) = true := by decide +kernel
theorem ln8_2 : ((List.range (8 - 1 - 2)).all fun b => lineAt 8 2 b) = true := by decide +kernel
theorem ln8_3 : ((List.range (8 - 1 - 3)).all fun b => lineAt 8 3 b) = true := by decide +kernel
theorem ln8_4 : ((List.range (8 - 1 - 4)).all fun b => lineAt 8 4 b) = true := by decide +kernel
theorem ln8_5 : ((List.range (8 - 1 - 5)).all fun b => lineAt 8 5 b) = true := by decide +kernel
theorem ln8_6 : ((List.range (8 - 1 - 6)).all fun b => lineAt 8 6 b) = true := by decide +kernel
theorem ln9_0 : ((List.range (9 - 1 - 0)).all fun b => lineAt 9 0 b) = true := by decide +kernel
theorem ln9_1 : ((List.range (9 - 1 - 1)).all fun b => lineAt 9 1 b) = true := by decide +kernel
theorem ln9_2 : ((List.range (9 - 1 - 2)).all fun b => lineAt 9 2 b) = true := by decide +kernel
theorem ln9_3 : ((List.range (9 - 1 - 3)).all fun b => lineAt 9 3 b) = true := by decide +kernel
theorem ln9_4 : ((List.range (9 - 1 - 4)).all fun b => lineAt 9 4 b) = true := by decide +kernel
theorem ln9_5 : ((List.range (9 - 1 - 5)).all fun b => lineAt 9 5 b) = true := by decide +kernel
theorem ln9_6 : ((List.range (9 - 1 - 6)).all fun b => lineAt 9 6 b) = true := by decide +kernel
theorem ln9_7 : ((List.range (9 - 1 - 7)).all fun b => lineAt 9 7 b) = true := by decide +kernel
theorem ln10_0 : ((List.range (10 - 1 - 0)).all fun b => lineAt 10 0 b) = true := by decide +kernel
theorem ln10_1 : ((List.range (10 - 1 - 1)).all fun b => lineAt 10 1 b) = true := by decide +kernel
theorem ln10_2 : ((List.range (10 - 1 - 2)).all fun b => lineAt 10 2 b) = true := by decide +kernel
theorem ln10_3 : ((List.range (10 - 1 - 3)).all fun b => lineAt 10 3 b) = true := by decide +kernel
theorem ln10_4 : ((List.range (10 - 1 - 4)).all fun b => lineAt 10 4 b) = true := by decide +kernel
theorem ln10_5 : ((List.range (10 - 1 - 5)).all fun b => lineAt 10 5 b) = true := by decide +kernel
theorem ln10_6 : ((List.range (10 - 1 - 6)).all fun b => lineAt 10 6 b) = true := by decide +kernel
theorem ln10_7 : ((List.range (10 - 1 - 7)).all fun b => lineAt 10 7 b) = true := by decide +kernel
theorem ln10_8 : ((List.range (10 - 1 - 8)).all fun b => lineAt 10 8 b) = true := by decide +kernel
theorem ln11_0 : ((List.range (11 - 1 - 0)).all fun b => lineAt 11 0 b) = true := by decide +kernel
theorem ln11_1 : ((List.range (11 - 1 - 1)).all fun b => lineAt 11 1 b) = true := by decide +kernel
theorem ln11_2 : ((List.range (11 - 1 - 2)).all fun b => lineAt 11 2 b) = true := by decide +kernel
theorem ln11_3 : ((List.range (11 - 1 - 3)).all fun b => lineAt 11 3 b) = true := by decide +kernel
theorem ln11_4 : ((List.range (11 - 1 - 4)).all fun b => lineAt 11 4 b) = true := by decide +kernel
theorem ln11_5 : ((List.range (11 - 1 - 5)).all fun b => lineAt 11 5 b) = true := by decide +kernel
theorem ln11_6 : ((List.range (11 - 1 - 6)).all fun b => lineAt 11 6 b) = true := by decide +kernel
theorem ln11_7 : ((List.range (11 - 1 - 7)).all fun b => lineAt 11 7 b) = true := by decide +kernel
theorem ln11_8 : ((List.range (11 - 1 - 8)).all fun b => lineAt 11 8 b) = true := by decide +kernel
theorem ln11_9 : ((List.range (11 - 1 - 9)).all fun b => lineAt 11 9 b) = true := by decide +kernel
theorem ln12_0 : ((List.range (12 - 1 - 0)).all fun b => lineAt 12 0 b) = true := by decide +kernel
theorem ln12_1 : ((List.range (12 - 1 - 1)).all fun b => lineAt 12 1 b) = true := by decide +kernel
theorem ln12_2 : ((List.range (12 - 1 - 2)).all fun b => lineAt 12 2 b) = true := by decide +kernel
theorem ln12_3 : ((List.range (12 - 1 - 3)).all fun b => lineAt 12 3 b) = true := by decide +kernel
theorem ln12_4 : ((List.range (12 - 1 - 4)).all fun b => lineAt 12 4 b) = true := by decide +kernel
theorem ln12_5 : ((List.range (12 - 1 - 5)).all fun b => lineAt 12 5 b) = true := by decide +kernel
theorem ln12_6 : ((List.range (12 - 1 - 6)).all fun b => lineAt 12 6 b) = true := by decide +kernel
theorem ln12_7 : ((List.range (12 - 1 - 7)).all fun b => lineAt 12 7 b) = true := by decide +kernel
theorem ln12_8 : ((List.range (12 - 1 - 8)).all fun b => lineAt 12 8 b) = true := by decide +kernel
theorem ln12_9 : ((List.range (12 - 1 - 9)).all fun b => lineAt 12 9 b) = true := by decide +kernel
theorem ln12_10 : ((List.range (12 - 1 - 10)).all fun b => lineAt 12 10 b) = true := by decide +kernel
theorem ln13_0 : ((List.range (13 - 1 - 0)).all fun b => lineAt 13 0 b) = true := by decide +kernel
theorem ln13_1 : ((List.range (13 - 1 - 1)).all fun b => lineAt 13 1 b) = true := by decide +kernel
theorem ln13_2 : ((List.range (13 - 1 - 2)).all fun b => lineAt 13 2 b) = true := by decide +kernel
theorem ln13_3 : ((List.range (13 - 1 - 3)).all fun b => lineAt 13 3 b) = true := by decide +kernel
theorem ln13_4 : ((List.range (13 - 1 - 4)).all fun b => lineAt 13 4 b) = true := by decide +kernel
theorem ln13_5 : ((List.range (13 - 1 - 5)).all fun b => lineAt 13 5 b) = true := by decide +kernel
theorem ln13_6 : ((List.range (13 - 1 - 6)).all fun b => lineAt 13 6 b) = true := by decide +kernel
theorem ln13_7 : ((List.range (13 - 1 - 7)).all fun b => lineAt 13 7 b) = true := by decide +kernel
theorem ln13_8 : ((List.range (13 - 1 - 8)).all fun b => lineAt 13 8 b) = true := by decide +kernel
theorem ln13_9 : ((List.range (13 - 1 - 9)).all fun b => lineAt 13 9 b) = true := by decide +kernel
theorem ln13_10 : ((List.range (13 - 1 - 10)).all fun b => lineAt 13 10 b) = true := by decide +kernel
theorem ln13_11 : ((List.range (13 - 1 - 11)).all fun b => lineAt 13 11 b) = true := by decide +kernel
theorem ln (n a : Nat) (h1 : 2 ≤ n) (h2 : n ≤ 13) (h3 : a < n - 1) : ((List.range (n - 1 - a)).all fun b => lineAt n a b) = true := by
  obtain rfl | rfl | rfl | rfl | rfl | rfl | rfl | rfl | rfl | rfl | rfl | rfl : n = 2 ∨ n = 3 ∨ n = 4 ∨ n = 5 ∨ n = 6 ∨ n = 7 ∨ n = 8 ∨ n = 9 ∨ n = 10 ∨ n = 11 ∨ n = 12 ∨ n = 13 := by omega
  · obtain rfl : a = 0 := by omega
    exact ln2_0
  · obtain rfl | rfl : a = 0 ∨ a = 1 := by omega
    · exact ln3_0
    · exact ln3_1
  · obtain rfl | rfl | rfl : a = 0 ∨ a = 1 ∨ a = 2 := by omega
    · exact ln4_0
    · exact ln4_1
    · exact ln4_2
  · obtain rfl | rfl | rfl | rfl : a = 0 ∨ a = 1 ∨ a = 2 ∨ a = 3 := by omega
    · exact ln5_0
    · exact ln5_1
    · exact ln5_2
    · exact ln5_3
  · obtain rfl | rfl | rfl | rfl | rfl : a = 0 ∨ a = 1 ∨ a = 2 ∨ a = 3 ∨ a = 4 := by omega
    · exact ln6_0
    · exact ln6_1
    · exact ln6_2
    · exact ln6_3
    · exact ln6_4
  · obtain rfl | rfl | rfl | rfl | rfl | rfl : a = 0 ∨ a = 1 ∨ a = 2 ∨ a = 3 ∨ a = 4 ∨ a = 5 := by omega
    · exact ln7_0
    · exact ln7_1
    · exact ln7_2
    · exact ln7_3
    · exact ln7_4
    · exact ln7_5
  · obtain rfl | rfl | rfl | rfl | rfl | rfl | rfl : a = 0 ∨ a = 1 ∨ a = 2 ∨ a = 3 ∨ a = 4 ∨ a = 5 ∨ a = 6 := by omega
    · exact ln8_0
    · exact ln8_1
    · exact ln8_2
    · exact ln8_3
    · exact ln8_4
    · exact ln8_5
    · exact ln8_6
  · obtain rfl | rfl | rfl | rfl | rfl | rfl | rfl | rfl : a = 0 ∨ a = 1 ∨ a = 2 ∨ a = 3 ∨ a = 4 ∨ a = 5 ∨ a = 6 ∨ a = 7 := by omega
    · exact ln9_0
    · exact ln9_1
    · exact ln9_2
    · exact ln9_3
    · exact ln9_4
    · exact ln9_5
    · exact ln9_6
    · exact ln9_7
  · obtain rfl | rfl | rfl | rfl | rfl | rfl | rfl | rfl | rfl : a = 0 ∨ a = 1 ∨ a = 2 ∨ a = 3 ∨ a = 4 ∨ a = 5 ∨ a = 6 ∨ a = 7 ∨ a = 8 := by omega
    · exact ln10_0
    · exact ln10_1
    · exact ln10_2
    · exact ln10_3
    · exact ln10_4
    · exact ln10_5
    · exact ln10_6
    · exact ln10_7
    · exact ln10_8
  · obtain rfl | rfl | rfl | rfl | rfl | rfl | rfl | rfl | rfl | rfl : a = 0 ∨ a = 1 ∨ a = 2 ∨ a = 3 ∨ a = 4 ∨ a = 5 ∨ a = 6 ∨ a = 7 ∨ a = 8 ∨ a = 9 := by omega
    · exact ln11_0
    · exact ln11_1
    · exact ln11_2
    · exact ln11_3
    · exact ln11_4
    · exact ln11_5
    · exact ln11_6
    · exact ln11_7
    · exact ln11_8
    · exact ln11_9
  · obtain rfl | rfl | rfl | rfl | rfl | rfl | rfl | rfl | rfl | rfl | rfl : a = 0 ∨ a = 1 ∨ a = 2 ∨ a = 3 ∨ a = 4 ∨ a = 5 ∨ a = 6 ∨ a = 7 ∨ a = 8 ∨ a = 9 ∨ a = 10 := by omega
    · exact ln12_0
    · exact ln12_1
    · exact ln12_2
    · exact ln12_3
    · exact ln12_4
    · exact ln12_5
    · exact ln12_6
    · exact ln12_7
    · exact ln12_8
    · exact ln12_9
    · exact ln12_10
  · obtain rfl | rfl | rfl | rfl | rfl | rfl | rfl | rfl | rfl | rfl | rfl | rfl : a = 0 ∨ a = 1 ∨ a = 2 ∨ a = 3 ∨ a = 4 ∨ a = 5 ∨ a = 6 ∨ a = 7 ∨ a = 8 ∨ a = 9 ∨ a = 10 ∨ a = 11 := by omega
    · exact ln13_0
    · exact ln13_1
    · exact ln13_2
    · exact ln13_3
    · exact ln13_4
    · exact ln13_5
    · exact ln13_6
    · exact ln13_7
    · exact ln13_8
    · exact ln13_9
    · exact ln13_10
    · exact ln13_11
end Go.Proofs.Ytankppgafdcknaa.Pure

/- Of any line, and an edge that goes round: what the runs told, at the law's own input. -/
set_option linter.unusedVariables false
set_option linter.unusedSimpArgs false
set_option maxRecDepth 100000
namespace Go.Proofs.Ytankppgafdcknaa.Pure
open Go Go.RowKit Go.Proofs.YtankppgafdcknaaW.PrintWords Go.Proofs.Ytankppgafdcknaa.PPost Go.Proofs.Ytankppgafdcknaa.PDom Go.Proofs.Ytankppgafdcknaa.Gr
theorem ln_e1 (a : Int) (ha : 0 ≤ a ∧ a ≤ 255) : wrap64 (2 + wrap64 (Int.tmod a 12)) = 2 + a % 12 := by
  rw [Int.tmod_eq_emod_of_nonneg ha.1, w64 (n := a % 12) (by omega) (by omega), w64 (by omega) (by omega)]
theorem ln_e2 (a : Int) : ∃ n : Nat, (2 ≤ n ∧ n ≤ 13) ∧ 2 + a % 12 = (n : Int) := ⟨(2 + a % 12).toNat, by omega, by omega⟩
theorem ln_e4 (b : Int) (hb : 0 ≤ b ∧ b ≤ 255) (n : Nat) (hn : 0 < n) : ∃ i : Nat, i < n ∧ Int.tmod (wrap64 b) (n : Int) = (i : Int) := by
  have h1 := Int.tmod_nonneg (b := (n : Int)) hb.1
  have h2 := Int.tmod_lt_of_pos b (show (0 : Int) < (n : Int) by omega)
  exact ⟨(Int.tmod b (n : Int)).toNat, by omega, by rw [w64 (by omega) (by omega)]; omega⟩
theorem ln_e5 (n i : Nat) (hn : n ≤ 13) (hi : i < n - 1) : wrap64 (((n - 1 : Nat) : Int) - (i : Int)) = ((n - 1 - i : Nat) : Int) := by rw [w64 (by omega) (by omega)]; omega
theorem ln_e7 (n i j : Nat) (hn : n ≤ 13) (hi : i < n - 1) (hj : j < n - 1 - i) : wrap64 (wrap64 ((i : Int) + 1) + (j : Int)) = ((i + 1 + j : Nat) : Int) := by
  rw [w64 (n := (i : Int) + 1) (by omega) (by omega), w64 (by omega) (by omega)]; omega
theorem ln_n (n i j : Nat) (hn : 2 ≤ n ∧ n ≤ 13) (hi : i < n - 1) (hj : j < n - 1 - i) : ¬ ((n - 1 : Nat) : Int) = 0 ∧ ¬ ((n - 1 - i : Nat) : Int) = 0 ∧ i + 1 + j < n := by omega
theorem DomLine : billhooklaw10_DomLine.Pure := by
  intro a b c ha hb hc
  obtain ⟨n, hn, e2⟩ := ln_e2 a
  obtain ⟨i, hi, e4⟩ := ln_e4 b (u8_wf hb) (n - 1) (by clear e2; omega)
  obtain ⟨j, hj, e6⟩ := ln_e4 c (u8_wf hc) (n - 1 - i) (Nat.sub_pos_of_lt hi)
  obtain ⟨n1, n2, n3⟩ := ln_n n i j hn hi hj
  have hl := ln n i hn.1 hn.2 hi
  rw [List.all_eq_true] at hl
  have hl := hl j (List.mem_range.2 hj)
  unfold lineAt at hl
  rw [decide_eq_true n3, Bool.not_true, Bool.false_or] at hl
  have hl := of_decide_eq_true hl
  refine ⟨FU, ?_⟩
  unfold billhooklaw10_DomLine.f
  rw [ex_f, Option.bind_some, if_pos rfl, ln_e1 a (u8_wf ha), e2, w_pred n (Nat.lt_of_le_of_lt hn.2 (by decide)) (Nat.lt_of_lt_of_le (by decide) hn.1), e4, if_neg n1, ln_e5 n i hn.2 hi, if_neg n2, e6, ln_e7 n i j hn.2 hi hj]
  exact hl
end Go.Proofs.Ytankppgafdcknaa.Pure

/- Printed for this claim by a program. -/
namespace Go.Proofs.Ytankppgafdcknaa.domLine
open Go.ChangeShapes Go.WideShapes Go.ChangeAt Go.RowKit
open Go.ChangeMaps (open_string shut_string)
set_option linter.unusedVariables false
theorem own : ownKnob Try.prog.godebug = none := by kernel_rfl
set_option maxRecDepth 100000 in
theorem lifted (os : Os) (started : os.Started) (H : Type) (enc : TypeId × Value → H) :
    ReturnsInHanded {} Try.checked os 11 .any (Rows.domLineSpec.pre6 enc Try.prog Try.f11 Rows.domLineRow.domain false) (Rows.domLineSpec.post enc Try.prog Try.f11 false true false false) := by
  refine returnsInHanded_of_change_sized (C := Try.checked) own started (by kernel_rfl) Try.func11
    (ChangeSpec.witness6 (enc := enc) (C := Try.checked) false ⟨#[], #[.int .u8 0, .int .u8 0, .int .u8 0], []⟩ 8 (by kernel_rfl) (by kernel_rfl) (by kernel_rfl) (by kernel_rfl)) ?_
  intro W base args ds gs before hval0 hW hcnd hsz0 _
  have hsz : (DataW.weightsEach Try.prog (Try.f11.params.toList ++ Rows.domLineSpec.plain.varTypes Try.prog) (ds ++ gs)).all (· ≤ reachBytes) = true := hsz0
  have hval : ∀ (j : Nat) t v, Try.f11.params[j]? = some t → args[j]? = some v → Value.okWide Try.prog W .any base t v := hval0
  have hW' := hW
  obtain ⟨p, q, hA0, hV, rfl, hfz, hnd⟩ := hW
  have hA : DataW.TrodAll enc Try.prog W 0 (fun _ => true) true Try.f11.params.toList args.toList ds p := hA0
  rw [Try.params11] at hA hval hsz
  obtain ⟨v0, vs0, d0, ds0, p0, q0, hargs, rfl, rfl, h0, r0⟩ := trodAll_cons hA
  obtain ⟨v1, vs1, d1, ds1, p1, q1, rfl, rfl, rfl, h1, r1⟩ := trodAll_cons r0
  obtain ⟨v2, vs2, d2, ds2, p2, q2, rfl, rfl, rfl, h2, r2⟩ := trodAll_cons r1
  obtain ⟨rfl, rfl, rfl⟩ := trodAll_nil r2
  obtain rfl : args = #[v0, v1, v2] := by cases args; simp_all
  obtain ⟨rfl, rfl⟩ := trodVars_none hV
  obtain ⟨a0, rfl, rfl, rfl, w0⟩ := open_int Try.underlying5 (hval 0 5 v0 rfl rfl) h0
  obtain ⟨a1, rfl, rfl, rfl, w1⟩ := open_int Try.underlying5 (hval 1 5 v1 rfl rfl) h1
  obtain ⟨a2, rfl, rfl, rfl, w2⟩ := open_int Try.underlying5 (hval 2 5 v2 rfl rfl) h2
  clear hA0 hval0 hsz0 hsz
  refine (PDom.billhooklaw10_DomLine.walk Pure.DomLine a0 a1 a2 W w0 w1 w2).mono fun e W' ⟨he, bel⟩ => ?_
  subst he
  exact ⟨_, rfl, _, _, _, [], _, [], hW', trodAll_mk1 (shut_bool Try.underlying4 _), (trodAll_cons_mk (shut_int Try.underlying5 w0) (trodAll_cons_mk (shut_int Try.underlying5 w1) (trodAll_cons_mk (shut_int Try.underlying5 w2) trodAll_mk0))), rfl, bel.frame _, fun h => by cases h⟩
theorem over : Rows.domLineRow.holds Try.pinned (OpenSpec.ofChange Rows.domLineSpec) :=
  OpenClaim.holds_of_wide 11 Try.f11 rfl rfl rfl rfl rfl rfl rfl ⟨rfl, rfl, rfl, rfl, rfl⟩ rfl rfl rfl rfl rfl (by kernel_rfl) Try.func11 (by kernel_rfl)
    (of_decide_eq_true (by kernel_rfl)) (by unfold Func.isWrapper; first | (rw [if_pos (by decide +kernel)]; kernel_rfl) | (rw [if_neg (by decide +kernel)]; exact ⟨rfl, rfl⟩))
    (fun os started H enc _ => lifted os started H enc)
theorem proved : Rows.DomLineSaid := over
#print axioms proved
end Go.Proofs.Ytankppgafdcknaa.domLine
namespace Go.Proofs.Ytankppgafdcknaa
/-- The row, under a short name, for the claim. -/
theorem domLine_holds : Rows.DomLineSaid := domLine.proved
end Go.Proofs.Ytankppgafdcknaa
