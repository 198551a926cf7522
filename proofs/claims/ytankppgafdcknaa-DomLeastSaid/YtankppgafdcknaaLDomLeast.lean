/- Texts joined into one: PDomx2 G5 PDomx6 PureDomLeast LawDomLeast. -/
import Derived.Test.YtankppgafdcknaaKg
import Derived.Test.YtankppgafdcknaaRows
import Derived.WalkKit
import Derived.ProofKit
import Derived.OpenShut
import Derived.ShutString
import Derived.ChangeOld
import Derived.Below
import Derived.SizedLaws
import Derived.Test.YtankppgafdcknaaKw
/- Printed for this claim by a program. -/
namespace Go.Proofs.Ytankppgafdcknaa.PDom
open Go.Proofs.Ytankppgafdcknaa.PPost
open Go.RowKit Go.Proofs.YtankppgafdcknaaW.PrintWords Go.Proofs.YtankppgafdcknaaW.PrintLast Go.Proofs.YtankppgafdcknaaW.PrintMore
attribute [local go_sem] max2_int min2_int max_two min_two max_three min_three max_four min_four   -- for this text's walks alone
set_option linter.unusedVariables false
set_option linter.unusedSimpArgs false

/-! ### dom_Least: function 34 -/
mutual
def dom_Least.l0 : Nat → List (List Int) → List (List Bool) → List Int → Int → Int → Option (List Int)
  | 0, _, _, _, _, _ => none
  | k + 1, x0, x3, x4, x13, x14 => if x14 < x13 then (if x4.length < 17592186044416 then ((some (x4 ++ [(-1)] : List Int)).bind fun y108 => ((dom_Reach.f k x0 (([x14] : List Int))).bind fun t114 => (if 0 ≤ (wrap64 ((x0.length : Int) - 1)) then (if (wrap64 ((x0.length : Int) - 1)) < (t114.length : Int) then (if (rdOf false t114 (wrap64 ((x0.length : Int) - 1)) = true) then (dom_Least.l1 k x0 x3 y108 x14 x13 x14 (x0.length : Int) 0) else (dom_Least.l0 k x0 x3 y108 x13 (wrap64 (x14 + 1)))) else (none)) else (none)))) else (none)) else (some x4)
def dom_Least.l1 : Nat → List (List Int) → List (List Bool) → List Int → Int → Int → Int → Int → Int → Option (List Int)
  | 0, _, _, _, _, _, _, _, _ => none
  | k + 1, x0, x3, x4, x5, x13, x14, x31, x32 => if x32 < x31 then (if x32 = x5 then (dom_Least.j2 k x0 x3 x4 x5 x32 x13 x14 x31 x32 true) else (if 0 ≤ x5 then (if x5 < (x3.length : Int) then (if 0 ≤ x32 then (if x32 < ((rd_L2 x3 x5).length : Int) then (dom_Least.j2 k x0 x3 x4 x5 x32 x13 x14 x31 x32 (!(rdOf false (rd_L2 x3 x5) x32))) else (none)) else (none)) else (none)) else (none))) else (dom_Least.l0 k x0 x3 x4 x13 (wrap64 (x14 + 1)))
def dom_Least.j2 : Nat → List (List Int) → List (List Bool) → List Int → Int → Int → Int → Int → Int → Int → Bool → Option (List Int)
  | 0, _, _, _, _, _, _, _, _, _, _ => none
  | k + 1, x0, x3, x4, x5, x6, x13, x14, x31, x32, x47 => if x47 = true then (dom_Least.l1 k x0 x3 x4 x5 x13 x14 x31 (wrap64 (x32 + 1))) else (if 0 ≤ x5 then (if x5 < (x3.length : Int) then (dom_Least.l2 k x0 x3 x4 x5 x6 true x13 x14 x31 x32 (rd_L2 x3 x5) ((rd_L2 x3 x5).length : Int) 0) else (none)) else (none))
def dom_Least.l2 : Nat → List (List Int) → List (List Bool) → List Int → Int → Int → Bool → Int → Int → Int → Int → List Bool → Int → Int → Option (List Int)
  | 0, _, _, _, _, _, _, _, _, _, _, _, _, _ => none
  | k + 1, x0, x3, x4, x5, x6, x7, x13, x14, x31, x32, x51, x52, x53 => if x53 < x52 then (if 0 ≤ x53 then (if x53 < (x51.length : Int) then (if x7 = true then (if x53 = x5 then (dom_Least.l2 k x0 x3 x4 x5 x6 true x13 x14 x31 x32 x51 x52 (wrap64 (x53 + 1))) else (if x53 = x6 then (dom_Least.l2 k x0 x3 x4 x5 x6 true x13 x14 x31 x32 x51 x52 (wrap64 (x53 + 1))) else (if rdOf false x51 x53 = true then (if 0 ≤ x6 then (if x6 < (x3.length : Int) then (if x53 < ((rd_L2 x3 x6).length : Int) then (dom_Least.l2 k x0 x3 x4 x5 x6 (rdOf false (rd_L2 x3 x6) x53) x13 x14 x31 x32 x51 x52 (wrap64 (x53 + 1))) else (none)) else (none)) else (none)) else (dom_Least.l2 k x0 x3 x4 x5 x6 true x13 x14 x31 x32 x51 x52 (wrap64 (x53 + 1)))))) else (dom_Least.l2 k x0 x3 x4 x5 x6 false x13 x14 x31 x32 x51 x52 (wrap64 (x53 + 1)))) else (none)) else (none)) else (if x7 = true then (if 0 ≤ x5 then (if x5 < (x4.length : Int) then (dom_Least.l0 k x0 x3 (x4.set (x5 : Int).toNat x6) x13 (wrap64 (x14 + 1))) else (none)) else (none)) else (dom_Least.l1 k x0 x3 x4 x5 x13 x14 x31 (wrap64 (x32 + 1))))
end
def dom_Least.f (k : Nat) (l0 : List (List Int)) : Option (List Int) := (dom_Post.f k l0).bind fun t105 => (dom_Least.l0 k l0 t105 ([] : List Int) (l0.length : Int) 0)
theorem dom_Least.mono_l : ∀ k, (∀ y0 y1 y2 y3 y4, LeO (dom_Least.l0 k y0 y1 y2 y3 y4) (dom_Least.l0 (k + 1) y0 y1 y2 y3 y4)) ∧ (∀ y0 y1 y2 y3 y4 y5 y6 y7, LeO (dom_Least.l1 k y0 y1 y2 y3 y4 y5 y6 y7) (dom_Least.l1 (k + 1) y0 y1 y2 y3 y4 y5 y6 y7)) ∧ (∀ y0 y1 y2 y3 y4 y5 y6 y7 y8 y9, LeO (dom_Least.j2 k y0 y1 y2 y3 y4 y5 y6 y7 y8 y9) (dom_Least.j2 (k + 1) y0 y1 y2 y3 y4 y5 y6 y7 y8 y9)) ∧ (∀ y0 y1 y2 y3 y4 y5 y6 y7 y8 y9 y10 y11 y12, LeO (dom_Least.l2 k y0 y1 y2 y3 y4 y5 y6 y7 y8 y9 y10 y11 y12) (dom_Least.l2 (k + 1) y0 y1 y2 y3 y4 y5 y6 y7 y8 y9 y10 y11 y12))
  | 0 => ⟨fun _ _ _ _ _ r h => by simp [dom_Least.l0] at h, fun _ _ _ _ _ _ _ _ r h => by simp [dom_Least.l1] at h, fun _ _ _ _ _ _ _ _ _ _ r h => by simp [dom_Least.j2] at h, fun _ _ _ _ _ _ _ _ _ _ _ _ _ r h => by simp [dom_Least.l2] at h⟩
  | k + 1 => by
    obtain ⟨ih0, ih1, ih2, ih3⟩ := dom_Least.mono_l k
    refine ⟨?_, ?_, ?_, ?_⟩
    · intro y0 y1 y2 y3 y4
      unfold dom_Least.l0
      repeat' first
      | (with_reducible exact ih0 _ _ _ _ _)
      | (with_reducible exact ih1 _ _ _ _ _ _ _ _)
      | (with_reducible exact ih2 _ _ _ _ _ _ _ _ _ _)
      | (with_reducible exact ih3 _ _ _ _ _ _ _ _ _ _ _ _ _)
      | (with_reducible exact dom_Post.mono _ _)
      | (with_reducible exact dom_Reach.mono _ _ _)
      | (with_reducible exact LeO.refl _)
      | (with_reducible exact LeO.none _)
      | (with_reducible refine LeO.ite ?_ ?_)
      | (with_reducible refine LeO.bind ?_ (fun _ => ?_))
      | exact ih0 _ _ _ _ _
      | exact ih1 _ _ _ _ _ _ _ _
      | exact ih2 _ _ _ _ _ _ _ _ _ _
      | exact ih3 _ _ _ _ _ _ _ _ _ _ _ _ _
      | exact dom_Post.mono _ _
      | exact dom_Reach.mono _ _ _
      | exact LeO.none _
      | refine LeO.ite ?_ ?_
      | refine LeO.bind ?_ (fun _ => ?_)
    · intro y0 y1 y2 y3 y4 y5 y6 y7
      unfold dom_Least.l1
      repeat' first
      | (with_reducible exact ih0 _ _ _ _ _)
      | (with_reducible exact ih1 _ _ _ _ _ _ _ _)
      | (with_reducible exact ih2 _ _ _ _ _ _ _ _ _ _)
      | (with_reducible exact ih3 _ _ _ _ _ _ _ _ _ _ _ _ _)
      | (with_reducible exact dom_Post.mono _ _)
      | (with_reducible exact dom_Reach.mono _ _ _)
      | (with_reducible exact LeO.refl _)
      | (with_reducible exact LeO.none _)
      | (with_reducible refine LeO.ite ?_ ?_)
      | (with_reducible refine LeO.bind ?_ (fun _ => ?_))
      | exact ih0 _ _ _ _ _
      | exact ih1 _ _ _ _ _ _ _ _
      | exact ih2 _ _ _ _ _ _ _ _ _ _
      | exact ih3 _ _ _ _ _ _ _ _ _ _ _ _ _
      | exact dom_Post.mono _ _
      | exact dom_Reach.mono _ _ _
      | exact LeO.none _
      | refine LeO.ite ?_ ?_
      | refine LeO.bind ?_ (fun _ => ?_)
    · intro y0 y1 y2 y3 y4 y5 y6 y7 y8 y9
      unfold dom_Least.j2
      repeat' first
      | (with_reducible exact ih0 _ _ _ _ _)
      | (with_reducible exact ih1 _ _ _ _ _ _ _ _)
      | (with_reducible exact ih2 _ _ _ _ _ _ _ _ _ _)
      | (with_reducible exact ih3 _ _ _ _ _ _ _ _ _ _ _ _ _)
      | (with_reducible exact dom_Post.mono _ _)
      | (with_reducible exact dom_Reach.mono _ _ _)
      | (with_reducible exact LeO.refl _)
      | (with_reducible exact LeO.none _)
      | (with_reducible refine LeO.ite ?_ ?_)
      | (with_reducible refine LeO.bind ?_ (fun _ => ?_))
      | exact ih0 _ _ _ _ _
      | exact ih1 _ _ _ _ _ _ _ _
      | exact ih2 _ _ _ _ _ _ _ _ _ _
      | exact ih3 _ _ _ _ _ _ _ _ _ _ _ _ _
      | exact dom_Post.mono _ _
      | exact dom_Reach.mono _ _ _
      | exact LeO.none _
      | refine LeO.ite ?_ ?_
      | refine LeO.bind ?_ (fun _ => ?_)
    · intro y0 y1 y2 y3 y4 y5 y6 y7 y8 y9 y10 y11 y12
      unfold dom_Least.l2
      repeat' first
      | (with_reducible exact ih0 _ _ _ _ _)
      | (with_reducible exact ih1 _ _ _ _ _ _ _ _)
      | (with_reducible exact ih2 _ _ _ _ _ _ _ _ _ _)
      | (with_reducible exact ih3 _ _ _ _ _ _ _ _ _ _ _ _ _)
      | (with_reducible exact dom_Post.mono _ _)
      | (with_reducible exact dom_Reach.mono _ _ _)
      | (with_reducible exact LeO.refl _)
      | (with_reducible exact LeO.none _)
      | (with_reducible refine LeO.ite ?_ ?_)
      | (with_reducible refine LeO.bind ?_ (fun _ => ?_))
      | exact ih0 _ _ _ _ _
      | exact ih1 _ _ _ _ _ _ _ _
      | exact ih2 _ _ _ _ _ _ _ _ _ _
      | exact ih3 _ _ _ _ _ _ _ _ _ _ _ _ _
      | exact dom_Post.mono _ _
      | exact dom_Reach.mono _ _ _
      | exact LeO.none _
      | refine LeO.ite ?_ ?_
      | refine LeO.bind ?_ (fun _ => ?_)
theorem dom_Least.mono : ∀ a0 k, LeO (dom_Least.f k a0) (dom_Least.f (k + 1) a0) := by
  intro a0 k
  obtain ⟨ih0, ih1, ih2, ih3⟩ := dom_Least.mono_l k
  unfold dom_Least.f
  repeat' first
      | (with_reducible exact ih0 _ _ _ _ _)
      | (with_reducible exact ih1 _ _ _ _ _ _ _ _)
      | (with_reducible exact ih2 _ _ _ _ _ _ _ _ _ _)
      | (with_reducible exact ih3 _ _ _ _ _ _ _ _ _ _ _ _ _)
      | (with_reducible exact dom_Post.mono _ _)
      | (with_reducible exact dom_Reach.mono _ _ _)
      | (with_reducible exact LeO.refl _)
      | (with_reducible exact LeO.none _)
      | (with_reducible refine LeO.ite ?_ ?_)
      | (with_reducible refine LeO.bind ?_ (fun _ => ?_))
      | exact ih0 _ _ _ _ _
      | exact ih1 _ _ _ _ _ _ _ _
      | exact ih2 _ _ _ _ _ _ _ _ _ _
      | exact ih3 _ _ _ _ _ _ _ _ _ _ _ _ _
      | exact dom_Post.mono _ _
      | exact dom_Reach.mono _ _ _
      | exact LeO.none _
      | refine LeO.ite ?_ ?_
      | refine LeO.bind ?_ (fun _ => ?_)
set_option maxHeartbeats 8000000 in
set_option maxRecDepth 100000 in
theorem dom_Least.calls (k : Nat) (A0 : Option Addr) (c0 : Nat) (l0 : List (List Int)) (r : List Int) (w : World) (hr0 : Kd.C (Kd.slice 3 (Kd.int .i64)) w A0 l0.length l0) (hc0 : l0.length ≤ c0) (h : dom_Least.f k l0 = some r) :
    Calls Try.prog 34 #[.slice A0 l0.length c0] w fun e w' => ∃ v0_ : Value, e = .returned (v0_) ∧ Kd.R (Kd.int .i64) 3 w' w.heap.size (fun _ => True) v0_ r ∧ Below w.heap.size w w' := by
  have HR0 := Aside0.mk hr0
  have HC0 := Aside0.mk hc0
  clear hr0 hc0
  have HB := Aside0.mk (Below.refl w.heap.size w)
  have H : ((dom_Post.f k l0).bind fun t105 => (dom_Least.l0 k l0 t105 ([] : List Int) (l0.length : Int) 0)) = some r := h
  clear h
  replace H := Option.bind_eq_some_iff.mp H
  obtain ⟨t105, A20, H⟩ := H
  replace H : (dom_Least.l0 k l0 t105 ([] : List Int) (l0.length : Int) 0) = some r := H
  have A2 := Aside0.mk A20
  clear A20
  have H' := Aside0.mk H
  clear H
  go_enter Try.func34, Try.ntmps34
  go_wp2_with (first | ((with_reducible refine gate_callee (f := 31) rfl ?_); refine goesL_ (some 11) rfl rfl Try.func31 (by kernel_rfl) rfl #[.slice A0 l0.length c0] rfl (by (try simp only [List.map_toArray, List.map_cons, List.map_nil]); first | done | rfl | (simp only [List.length_drop, List.length_take]; rfl)) ?_; (with_reducible refine (dom_Post.calls k _ _ l0 t105 _ ?side1 ?side2 A2.out).mono ?_); (case side1 => repeat (first | exact HR0.out | (with_reducible refine Kd.C_alloc ?_ _) | (with_reducible refine Kd.C_drewN ?_ _) | (with_reducible refine Kd.C_drew ?_))); (case side2 => exact HC0.out); rintro e w3 ⟨v106, rfl, ho0, hb⟩; refine ⟨_, rfl, ?_⟩; have n0_ := Aside0.mk (Kd.S_lower ho0 (below_size (by repeat (first | (with_reducible first | exact HB.out | apply below_alloc | apply pw_below_drewN | apply below_drew1) | exact HB.out)))); have n1_ := Aside0.mk (below_step (by repeat (first | (with_reducible first | exact HB.out | apply below_alloc | apply pw_below_drewN | apply below_drew1) | exact HB.out)) hb); clear HB; have HO107 := n0_; have HB := n1_; clear n0_ n1_; (try clear hb); (try clear hb2); (try clear hk); (try clear hi); (try clear ho0)))
  go_loopg [4, 14] k (fun kq v4 v14 w' => ∃ (x4_1 : List Int) (x14_1 : Int), v14 = .int .i64 x14_1 ∧ Aside0 (dom_Least.l0 kq l0 t105 x4_1 (l0.length : Int) x14_1 = some r) ∧ Aside0 (kq ≤ k) ∧ Aside0 (Kd.S (Kd.slice 4 Kd.bool) 57 w' w.heap.size (fun _ => True) v106 t105) ∧ Aside0 (Kd.R (Kd.int .i64) 3 w' w.heap.size (fun _ => True) v4 x4_1) ∧ Aside0 (Below w.heap.size w w'))
  case atStart => exact ⟨(([] : List Int)), (0), (by first | rfl | (simp; done) | (simp [*]; done)), H', ⟨Nat.le_refl _⟩, ⟨by (with_reducible repeat (first | apply Kd.S_alloc | apply Kd.S_drewN | apply Kd.S_drew)); exact HO107.out⟩, ⟨by first | exact Kd.R_nil _ _ _ _ _ | exact Kd.N_nil _ _ _ _ _ | exact Kd.V_nil _ _ _ _ _ | exact Kd.Q_nil _ _ _ _ _ | exact Kd.S_nil _ _ _ _ _⟩, ⟨by repeat (first | (with_reducible first | exact HB.out | apply below_alloc | apply pw_below_drewN | apply below_drew1) | exact HB.out)⟩⟩
  case round =>
    clear H'
    try clear p2
    try clear c3
    obtain ⟨x4_1, x14_1, rfl, HA, HK1, HO_3, HO_4, HB⟩ := hrel
    cases gk with
    | zero => exact absurd HA.out (by simp [dom_Least.l0])
    | succ k1 =>
      have H := HA.out
      clear HA
      simp only [dom_Least.l0] at H
      by_cases c4 : x14_1 < (l0.length : Int)
      · rw [if_pos c4] at H
        have c4b0 : decide (x14_1 < (l0.length : Int)) = true := decide_eq_true c4
        clear c4
        by_cases c5 : x4_1.length < 17592186044416
        · rw [if_pos c5] at H
          have LMc5 := Aside0.mk c5
          clear c5
          obtain ⟨y108, hy108⟩ : ∃ y_ : List Int, y_ = (x4_1 ++ [(-1)]) := ⟨_, rfl⟩
          replace H : ((dom_Reach.f k1 l0 (([x14_1] : List Int))).bind fun t114 => (if 0 ≤ (wrap64 ((l0.length : Int) - 1)) then (if (wrap64 ((l0.length : Int) - 1)) < (t114.length : Int) then (if (rdOf false t114 (wrap64 ((l0.length : Int) - 1)) = true) then (dom_Least.l1 k1 l0 t105 y108 x14_1 (l0.length : Int) x14_1 (l0.length : Int) 0) else (dom_Least.l0 k1 l0 t105 y108 (l0.length : Int) (wrap64 (x14_1 + 1)))) else (none)) else (none))) = some r := by first | (rw [hy108]; with_reducible exact H) | (have H2_ := (Option.bind_some _ _).symm.trans H; rw [hy108]; with_reducible exact H2_) | (have H2_ := (Option.bind_some _ _).symm.trans H; with_reducible exact H2_) | with_reducible exact H | (rw [hy108]; exact H) | exact H
          have Ny108 := Aside0.mk hy108
          clear hy108
          obtain ⟨y111, hy111⟩ : ∃ y_ : List Int, y_ = (([x14_1] : List Int)) := ⟨_, rfl⟩
          replace H : ((dom_Reach.f k1 l0 y111).bind fun t114 => (if 0 ≤ (wrap64 ((l0.length : Int) - 1)) then (if (wrap64 ((l0.length : Int) - 1)) < (t114.length : Int) then (if (rdOf false t114 (wrap64 ((l0.length : Int) - 1)) = true) then (dom_Least.l1 k1 l0 t105 y108 x14_1 (l0.length : Int) x14_1 (l0.length : Int) 0) else (dom_Least.l0 k1 l0 t105 y108 (l0.length : Int) (wrap64 (x14_1 + 1)))) else (none)) else (none))) = some r := by first | (rw [hy111]; with_reducible exact H) | (have H2_ := (Option.bind_some _ _).symm.trans H; rw [hy111]; with_reducible exact H2_) | (have H2_ := (Option.bind_some _ _).symm.trans H; with_reducible exact H2_) | with_reducible exact H | (rw [hy111]; exact H) | exact H
          have Ny111 := Aside0.mk hy111
          clear hy111
          replace H := Option.bind_eq_some_iff.mp H
          obtain ⟨t114, A60, H⟩ := H
          replace H : (if 0 ≤ (wrap64 ((l0.length : Int) - 1)) then (if (wrap64 ((l0.length : Int) - 1)) < (t114.length : Int) then (if (rdOf false t114 (wrap64 ((l0.length : Int) - 1)) = true) then (dom_Least.l1 k1 l0 t105 y108 x14_1 (l0.length : Int) x14_1 (l0.length : Int) 0) else (dom_Least.l0 k1 l0 t105 y108 (l0.length : Int) (wrap64 (x14_1 + 1)))) else (none)) else (none)) = some r := H
          have A6 := Aside0.mk A60
          clear A60
          obtain ⟨ji7, hji7⟩ : ∃ j_ : Int, (wrap64 ((l0.length : Int) - 1)) = j_ := ⟨_, rfl⟩
          replace H : (if 0 ≤ (ji7) then (if (ji7) < (t114.length : Int) then (if (rdOf false t114 (ji7) = true) then (dom_Least.l1 k1 l0 t105 y108 x14_1 (l0.length : Int) x14_1 (l0.length : Int) 0) else (dom_Least.l0 k1 l0 t105 y108 (l0.length : Int) (wrap64 (x14_1 + 1)))) else (none)) else (none)) = some r := by first | (rw [hji7] at H; exact H) | (simp only [hji7] at H ⊢; exact H)
          (try rw [hji7] at A6)
          have hji7w : (IntKind.i64.wrap ((l0.length : Int) - 1)) = ji7 := (i64_w _).trans hji7
          by_cases c8 : 0 ≤ (ji7)
          · rw [if_pos c8] at H
            have c8b0 : decide (0 ≤ (ji7)) = true := decide_eq_true c8
            clear c8
            by_cases c9 : (ji7) < (t114.length : Int)
            · rw [if_pos c9] at H
              have c9b0 : decide ((ji7) < (t114.length : Int)) = true := decide_eq_true c9
              clear c9
              obtain ⟨bq10, hbq10⟩ : ∃ b_ : Bool, b_ = (rdOf false t114 (ji7)) := ⟨_, rfl⟩
              replace H : (if (bq10 = true) then (dom_Least.l1 k1 l0 t105 y108 x14_1 (l0.length : Int) x14_1 (l0.length : Int) 0) else (dom_Least.l0 k1 l0 t105 y108 (l0.length : Int) (wrap64 (x14_1 + 1)))) = some r := by rw [← hbq10] at H; exact H
              have Nbq10 := Aside0.mk hbq10
              clear hbq10
              by_cases c11 : (bq10 = true)
              · subst c11
                have H1 : (dom_Least.l1 k1 l0 t105 y108 x14_1 (l0.length : Int) x14_1 (l0.length : Int) 0) = some r := by first | (rw [if_pos rfl] at H; exact H) | (rw [if_pos trivial] at H; exact H)
                clear H
                have H := H1
                clear H1
                have H' := Aside0.mk H
                clear H
                go_wp2_with (first | ((with_reducible refine gate_builtin (b := .append) (xs := #[.tmp 17, .tmp 18]) rfl ?_); at_builtin; refine Kd.R_append (Kd.int .i64) (w0 := w) w.heap.size rfl (.tmp 17) (.tmp 18) 54 3 (.int .i64 0) 8 rfl Try.underlying54 info3 rfl (by decide) (by omega) u4 x4_1 (-1) [.int .i64 (-1)] (fun _ => True) (fun _ => False) rfl rfl ?aP (fun _ hk => hk.elim) ?aF ?aO ?aB ?aS ?aL ?_; (case aP => first | exact rfl | exact ⟨_, rfl, Kd.R_nil _ _ _ _ _⟩); (case aB => exact (by repeat (first | (with_reducible first | exact HB.out | apply below_alloc | apply pw_below_drewN | apply below_drew1) | exact HB.out))); (case aF => exact (fun _ _ => trivial)); (case aO => exact (by (with_reducible repeat (first | apply Kd.R_alloc | apply Kd.R_drewN | apply Kd.R_drew)); exact HO_4.out)); (case aS => exact (below_size (by repeat (first | (with_reducible first | exact HB.out | apply below_alloc | apply pw_below_drewN | apply below_drew1) | exact HB.out)))); (case aL => have := LMc5.out; omega); intro v109 w12 ho hb hg hat; rw [← Ny108.out] at ho; have n0_ := Aside0.mk (Kd.S_over' (by (with_reducible repeat (first | apply Kd.S_alloc | apply Kd.S_drewN | apply Kd.S_drew)); exact HO_3.out) (Kd.R_typed (by (with_reducible repeat (first | apply Kd.R_alloc | apply Kd.R_drewN | apply Kd.R_drew)); exact HO_4.out)) (by decide) hg); have n1_ := Aside0.mk (hb); have n2_ := Aside0.mk (ho); clear HO_3; clear HB; clear HO_4; have HO_3 := n0_; have HB := n1_; have HO110 := n2_; clear n0_ n1_ n2_; clear ho hb hg hat) | ((with_reducible refine gate_dst (N := 22) rfl ?_); refine Kd.R_lit (Kd.int .i64) _ 3 ?hg (N := 22) ?hd (xs := ([x14_1] : List Int)) (inner := [.int .i64 x14_1]) (ok := fun _ => True) (okp := fun _ => True) ?hr ?hp (fun _ hk => hk) trivial (Below.refl _ _) (Nat.le_refl _) (by simp) ?_; (case hd => rfl); (case hg => rfl); (case hr => first | (go_simp; done) | (go_simp; rfl)); (case hp => exact (Reps.one (show Kd.M (Kd.int .i64) _ _ _ x14_1 [.int .i64 x14_1] from rfl) (Reps.none _ _))); intro v112 w13 ho14 hb hg_ hnew_; clear hg_ hnew_; (first | rw [← Ny111.out] at ho14 | (simp only [Int.reduceToNat] at ho14; rw [← Ny111.out] at ho14)); have n0_ := Aside0.mk (Kd.S_below (by (with_reducible repeat (first | apply Kd.S_alloc | apply Kd.S_drewN | apply Kd.S_drew)); exact HO_3.out) hb); have n1_ := Aside0.mk (Kd.R_elder' (by (with_reducible repeat (first | apply Kd.R_alloc | apply Kd.R_drewN | apply Kd.R_drew)); exact HO110.out) (Kd.R_base ho14) hb); have n2_ := Aside0.mk (Kd.R_lower (Kd.R_new' ho14 (Kd.R_lt (by (with_reducible repeat (first | apply Kd.R_alloc | apply Kd.R_drewN | apply Kd.R_drew)); exact HO110.out))) (below_size (by repeat (first | (with_reducible first | exact HB.out | apply below_alloc | apply pw_below_drewN | apply below_drew1) | exact HB.out)))); have n3_ := Aside0.mk (below_step (by repeat (first | (with_reducible first | exact HB.out | apply below_alloc | apply pw_below_drewN | apply below_drew1) | exact HB.out)) hb); clear HO_3; clear HO110; clear HB; have HO_3 := n0_; have HO110 := n1_; have HO113 := n2_; have HB := n3_; clear n0_ n1_ n2_ n3_; clear hb ho14; obtain ⟨Ao15, co15, eo15⟩ := Kd.R_slice HO113.out; subst eo15) | ((with_reducible refine gate_callee (f := 29) rfl ?_); refine goesL_ (some 23) rfl rfl Try.func29 (by kernel_rfl) rfl #[.slice A0 l0.length c0, .slice Ao15 y111.length co15] rfl (by (try simp only [List.map_toArray, List.map_cons, List.map_nil]); first | done | rfl | (simp only [List.length_drop, List.length_take]; rfl)) ?_; (with_reducible refine (dom_Reach.calls k1 _ _ l0 _ _ y111 t114 _ ?side1 ?side2 ?side3 ?side4 A6.out).mono ?_); (case side1 => repeat (first | exact (Kd.C_below HR0.out HB.out) | (with_reducible refine Kd.C_alloc ?_ _) | (with_reducible refine Kd.C_drewN ?_ _) | (with_reducible refine Kd.C_drew ?_))); (case side2 => exact HC0.out); (case side3 => repeat (first | exact (Kd.R_reads' HO113.out).2.2 | (with_reducible refine Kd.C_alloc ?_ _) | (with_reducible refine Kd.C_drewN ?_ _) | (with_reducible refine Kd.C_drew ?_))); (case side4 => exact (Kd.R_reads' HO113.out).2.1); rintro e w16 ⟨v115, rfl, ho0, hb⟩; refine ⟨_, rfl, ?_⟩; have n0_ := Aside0.mk (Kd.S_elder' (by (with_reducible repeat (first | apply Kd.S_alloc | apply Kd.S_drewN | apply Kd.S_drew)); exact HO_3.out) (Kd.R_base ho0) hb); have n1_ := Aside0.mk (Kd.R_below (by (with_reducible repeat (first | apply Kd.R_alloc | apply Kd.R_drewN | apply Kd.R_drew)); exact HO110.out) hb); have n2_ := Aside0.mk (Kd.R_below (by (with_reducible repeat (first | apply Kd.R_alloc | apply Kd.R_drewN | apply Kd.R_drew)); exact HO113.out) hb); have n3_ := Aside0.mk (Kd.R_lower ho0 (below_size (by repeat (first | (with_reducible first | exact HB.out | apply below_alloc | apply pw_below_drewN | apply below_drew1) | exact HB.out)))); have n4_ := Aside0.mk (below_step (by repeat (first | (with_reducible first | exact HB.out | apply below_alloc | apply pw_below_drewN | apply below_drew1) | exact HB.out)) hb); clear HO_3; clear HO110; clear HO113; clear HB; have HO_3 := n0_; have HO110 := n1_; have HO113 := n2_; have HO116 := n3_; have HB := n4_; clear n0_ n1_ n2_ n3_ n4_; (try clear hb); (try clear hb2); (try clear hk); (try clear hi); (try clear ho0); obtain ⟨Ao17, co17, eo17⟩ := Kd.R_slice HO116.out; subst eo17; have p117 : 0 ≤ ((ji7) : Int) := of_decide_eq_true (by first | (with_reducible assumption) | assumption); have q117 : (ji7) < (t114.length : Int) := of_decide_eq_true (by first | (with_reducible assumption) | assumption); obtain ⟨ad117, e117, hx117_0⟩ := Kd.at_bool (Kd.R_reads' HO116.out).2.2 (ji7) p117 q117; (try rw [← Nbq10.out] at hx117_0); cases e117; replace p117 := eq_true p117; replace q117 := eq_true q117))
                go_loopg [32] k1 (fun kq v32 w' => ∃ (x4_2 : List Int) (x32_2 : Int), v32 = .int .i64 x32_2 ∧ Aside0 (dom_Least.l1 kq l0 t105 x4_2 x14_1 (l0.length : Int) x14_1 (l0.length : Int) x32_2 = some r) ∧ Aside0 (kq ≤ k1) ∧ Aside0 (Kd.S (Kd.slice 4 Kd.bool) 57 w' w.heap.size (fun _ => True) v106 t105) ∧ Aside0 (Kd.R (Kd.int .i64) 3 w' w.heap.size (fun _ => True) v109 x4_2) ∧ Aside0 (Below w.heap.size w w'))
                case atStart => exact ⟨(y108), (0), (by first | rfl | (simp; done) | (simp [*]; done)), H', ⟨Nat.le_refl _⟩, ⟨by (with_reducible repeat (first | apply Kd.S_alloc | apply Kd.S_drewN | apply Kd.S_drew)); exact Kd.S_mono HO_3.out (fun _ hk => trivial)⟩, ⟨by (with_reducible repeat (first | apply Kd.R_alloc | apply Kd.R_drewN | apply Kd.R_drew)); exact Kd.R_mono HO110.out (fun _ hk => trivial)⟩, ⟨by repeat (first | (with_reducible first | exact HB.out | apply below_alloc | apply pw_below_drewN | apply below_drew1) | exact HB.out)⟩⟩
                case round =>
                  clear H'
                  try clear c1
                  try clear p1
                  try clear q1
                  try clear hx1
                  try clear c2
                  try clear p2
                  try clear c3
                  try clear c4
                  try clear c4b0
                  try clear c5
                  try clear p6
                  try clear c8
                  try clear c8b0
                  try clear c9
                  try clear c9b0
                  try clear q10
                  try clear c11
                  try clear p11
                  try clear q11
                  try clear hx11
                  try clear hx117_0
                  try clear p117
                  try clear p2
                  try clear q117
                  obtain ⟨x4_2, x32_2, rfl, HA, HK2, HO_3, HO_4, HB⟩ := hrel
                  cases gk with
                  | zero => exact absurd HA.out (by simp [dom_Least.l1])
                  | succ k2 =>
                    have H := HA.out
                    clear HA
                    simp only [dom_Least.l1] at H
                    by_cases c18 : x32_2 < (l0.length : Int)
                    · rw [if_pos c18] at H
                      have c18b0 : decide (x32_2 < (l0.length : Int)) = true := decide_eq_true c18
                      clear c18
                      have HC19 := Aside0.mk H
                      clear H
                      go_upto_region 11 with (fail)
                      go_cut [47] (fun v47 wc => ∃ (kq : Nat) (x47_18 : Bool), v47 = .bool x47_18 ∧ Aside0 (dom_Least.j2 kq l0 t105 x4_2 x14_1 x32_2 (l0.length : Int) x14_1 (l0.length : Int) x32_2 x47_18 = some r) ∧ Aside0 (kq ≤ k2) ∧ Aside0 (Kd.S (Kd.slice 4 Kd.bool) 57 wc w.heap.size (fun _ => True) v106 t105) ∧ Aside0 (Kd.R (Kd.int .i64) 3 wc w.heap.size (fun _ => True) v109 x4_2) ∧ Aside0 (Below w.heap.size w wc))
                      case first =>
                        have H := HC19.out
                        clear HC19
                        by_cases c20 : x32_2 = x14_1
                        · rw [if_pos c20] at H
                          have c20b0 : (x32_2 == x14_1) = true := beq_iff_eq.mpr c20
                          have c20b1 : (x32_2 != x14_1) = false := bne_eq_false_iff_eq.mpr c20
                          clear c20
                          (first | rw [c20b0] | (simp only [i64_w, i32_w]; rw [c20b0]) | skip)
                          have H' := Aside0.mk H
                          clear H
                          go_wp2
                          go_meet
                          case rel => exact ⟨_, (true), (by first | rfl | (simp; done) | (simp [*]; done)), H', ⟨by have := HK1.out; have := HK2.out; first | omega | exact Nat.le_refl _⟩, ⟨by (with_reducible repeat (first | apply Kd.S_alloc | apply Kd.S_drewN | apply Kd.S_drew)); exact HO_3.out⟩, ⟨by (with_reducible repeat (first | apply Kd.R_alloc | apply Kd.R_drewN | apply Kd.R_drew)); exact HO_4.out⟩, ⟨by repeat (first | (with_reducible first | exact HB.out | apply below_alloc | apply pw_below_drewN | apply below_drew1) | exact HB.out)⟩⟩
                        · rw [if_neg c20] at H
                          have c20b0 : (x32_2 == x14_1) = false := beq_eq_false_iff_ne.mpr c20
                          have c20b1 : (x32_2 != x14_1) = true := bne_iff_ne.mpr c20
                          (first | rw [c20b0] | (simp only [i64_w, i32_w]; rw [c20b0]) | skip)
                          by_cases c21 : 0 ≤ x14_1
                          · rw [if_pos c21] at H
                            have c21b0 : decide (0 ≤ x14_1) = true := decide_eq_true c21
                            clear c21
                            by_cases c22 : x14_1 < (t105.length : Int)
                            · rw [if_pos c22] at H
                              have c22b0 : decide (x14_1 < (t105.length : Int)) = true := decide_eq_true c22
                              clear c22
                              by_cases c23 : 0 ≤ x32_2
                              · rw [if_pos c23] at H
                                have c23b0 : decide (0 ≤ x32_2) = true := decide_eq_true c23
                                clear c23
                                by_cases c24 : x32_2 < ((rd_L2 t105 x14_1).length : Int)
                                · rw [if_pos c24] at H
                                  have c24b0 : decide (x32_2 < ((rd_L2 t105 x14_1).length : Int)) = true := decide_eq_true c24
                                  clear c24
                                  have H' := Aside0.mk H
                                  clear H
                                  obtain ⟨Ao25, co25, eo25⟩ := Kd.S_slice HO_3.out
                                  subst eo25
                                  have p118 : 0 ≤ (x14_1 : Int) := of_decide_eq_true (by first | (with_reducible assumption) | assumption)
                                  have q118 : x14_1 < (t105.length : Int) := of_decide_eq_true (by first | (with_reducible assumption) | assumption)
                                  obtain ⟨ad118, A118_0, c118_0, e118, hx118_0, hl118_0, hi118_0⟩ := at_L2 (Kd.S_reads' HO_3.out).2.2 x14_1 p118 q118
                                  cases e118
                                  obtain ⟨ce118, hce118, hMe118, hcc118⟩ := Kd.S_get HO_3.out [] x14_1 p118 (by first | exact q118 | exact of_decide_eq_true (by first | (with_reducible assumption) | assumption) | (have e_ := (Kd.S_reads' HO_3.out).1; omega))
                                  obtain ⟨ve118_0, rfl, ge118_0⟩ := hMe118
                                  have hv118_0 := hcc118 0 _ rfl
                                  rw [Nat.add_zero, show ((Kd.slice 4 Kd.bool)).sz = 1 from rfl, Nat.mul_one] at hv118_0
                                  replace hv118_0 := Option.some.inj (hv118_0.symm.trans hx118_0)
                                  rw [hv118_0] at ge118_0
                                  have HL118_0 := Aside0.mk (show Kd.R Kd.bool 4 _ _ _ _ (rd_L2 t105 x14_1) from ge118_0)
                                  clear hv118_0 ge118_0
                                  clear hcc118 hce118
                                  have HR118_0 := Aside0.mk hi118_0
                                  have HC118_0 := Aside0.mk hl118_0
                                  clear hi118_0 hl118_0
                                  replace p118 := eq_true p118
                                  replace q118 := eq_true q118
                                  have p119 : 0 ≤ (x32_2 : Int) := of_decide_eq_true (by first | (with_reducible assumption) | assumption)
                                  have q119 : x32_2 < ((rd_L2 t105 x14_1).length : Int) := of_decide_eq_true (by first | (with_reducible assumption) | assumption)
                                  obtain ⟨ad119, e119, hx119_0⟩ := Kd.at_bool (by repeat (first | (with_reducible exact HR118_0.out) | (with_reducible refine Kd.C_alloc ?_ _) | (with_reducible refine Kd.C_drewN ?_ _) | (with_reducible refine Kd.C_drew ?_) | exact HR118_0.out)) x32_2 p119 q119
                                  (try rw [← Nbq10.out] at hx119_0)
                                  cases e119
                                  replace p119 := eq_true p119
                                  replace q119 := eq_true q119
                                  go_wp2
                                  go_meet
                                  case rel => exact ⟨_, (!(rdOf false (rd_L2 t105 x14_1) x32_2)), (by first | rfl | (simp; done) | (simp [*]; done)), H', ⟨by have := HK1.out; have := HK2.out; first | omega | exact Nat.le_refl _⟩, ⟨by (with_reducible repeat (first | apply Kd.S_alloc | apply Kd.S_drewN | apply Kd.S_drew)); exact HO_3.out⟩, ⟨by (with_reducible repeat (first | apply Kd.R_alloc | apply Kd.R_drewN | apply Kd.R_drew)); exact HO_4.out⟩, ⟨by repeat (first | (with_reducible first | exact HB.out | apply below_alloc | apply pw_below_drewN | apply below_drew1) | exact HB.out)⟩⟩
                                · rw [if_neg c24] at H
                                  exact absurd H (by simp)
                              · rw [if_neg c23] at H
                                exact absurd H (by simp)
                            · rw [if_neg c22] at H
                              exact absurd H (by simp)
                          · rw [if_neg c21] at H
                            exact absurd H (by simp)
                      case rest =>
                        clear HC19
                        try clear c1
                        try clear p1
                        try clear q1
                        try clear hx1
                        try clear c2
                        try clear p2
                        try clear c3
                        try clear c4
                        try clear c4b0
                        try clear c5
                        try clear p6
                        try clear c8
                        try clear c8b0
                        try clear c9
                        try clear c9b0
                        try clear q10
                        try clear c11
                        try clear p11
                        try clear q11
                        try clear hx11
                        try clear c18
                        try clear c18b0
                        try clear c20
                        try clear c20b0
                        try clear c20b1
                        try clear c21
                        try clear c21b0
                        try clear c22
                        try clear c22b0
                        try clear c23
                        try clear c23b0
                        try clear c24
                        try clear c24b0
                        try clear hx117_0
                        try clear hx118_0
                        try clear hx119_0
                        try clear p1
                        try clear p11
                        try clear p117
                        try clear p118
                        try clear p119
                        try clear p2
                        try clear p6
                        try clear q1
                        try clear q10
                        try clear q11
                        try clear q117
                        try clear q118
                        try clear q119
                        obtain ⟨kq, x47_18, rfl, HA, HJ18, HO_3, HO_4, HB⟩ := hcut
                        cases kq with
                        | zero => exact absurd HA.out (by simp [dom_Least.j2])
                        | succ kj18 =>
                          have H := HA.out
                          clear HA
                          simp only [dom_Least.j2] at H
                          by_cases c26 : x47_18 = true
                          · subst c26
                            have H1 : (dom_Least.l1 kj18 l0 t105 x4_2 x14_1 (l0.length : Int) x14_1 (l0.length : Int) (wrap64 (x32_2 + 1))) = some r := by first | (rw [if_pos rfl] at H; exact H) | (rw [if_pos trivial] at H; exact H)
                            clear H
                            have H := H1
                            clear H1
                            have H' := Aside0.mk H
                            clear H
                            go_wp2
                            go_roundg kj18
                            case measure => have := HK1.out; have := HK2.out; have := HJ18.out; omega
                            case rel => exact ⟨(x4_2), (wrap64 (x32_2 + 1)), (by first | rfl | (simp; done) | (simp [*]; done)), H', ⟨by have := HK1.out; have := HK2.out; have := HJ18.out; omega⟩, ⟨by (with_reducible repeat (first | apply Kd.S_alloc | apply Kd.S_drewN | apply Kd.S_drew)); exact HO_3.out⟩, ⟨by (with_reducible repeat (first | apply Kd.R_alloc | apply Kd.R_drewN | apply Kd.R_drew)); exact HO_4.out⟩, ⟨by repeat (first | (with_reducible first | exact HB.out | apply below_alloc | apply pw_below_drewN | apply below_drew1) | exact HB.out)⟩⟩
                          · replace c26 := Bool.eq_false_iff.mpr c26
                            subst c26
                            have H1 : (if 0 ≤ x14_1 then (if x14_1 < (t105.length : Int) then (dom_Least.l2 kj18 l0 t105 x4_2 x14_1 x32_2 true (l0.length : Int) x14_1 (l0.length : Int) x32_2 (rd_L2 t105 x14_1) ((rd_L2 t105 x14_1).length : Int) 0) else (none)) else (none)) = some r := by rw [if_neg (show ¬ (false = true) by decide)] at H; exact H
                            clear H
                            have H := H1
                            clear H1
                            by_cases c27 : 0 ≤ x14_1
                            · rw [if_pos c27] at H
                              have c27b0 : decide (0 ≤ x14_1) = true := decide_eq_true c27
                              clear c27
                              by_cases c28 : x14_1 < (t105.length : Int)
                              · rw [if_pos c28] at H
                                have c28b0 : decide (x14_1 < (t105.length : Int)) = true := decide_eq_true c28
                                clear c28
                                have H' := Aside0.mk H
                                clear H
                                obtain ⟨Ao29, co29, eo29⟩ := Kd.S_slice HO_3.out
                                subst eo29
                                have p120 : 0 ≤ (x14_1 : Int) := of_decide_eq_true (by first | (with_reducible assumption) | assumption)
                                have q120 : x14_1 < (t105.length : Int) := of_decide_eq_true (by first | (with_reducible assumption) | assumption)
                                obtain ⟨ad120, A120_0, c120_0, e120, hx120_0, hl120_0, hi120_0⟩ := at_L2 (Kd.S_reads' HO_3.out).2.2 x14_1 p120 q120
                                cases e120
                                obtain ⟨ce120, hce120, hMe120, hcc120⟩ := Kd.S_get HO_3.out [] x14_1 p120 (by first | exact q120 | exact of_decide_eq_true (by first | (with_reducible assumption) | assumption) | (have e_ := (Kd.S_reads' HO_3.out).1; omega))
                                obtain ⟨ve120_0, rfl, ge120_0⟩ := hMe120
                                have hv120_0 := hcc120 0 _ rfl
                                rw [Nat.add_zero, show ((Kd.slice 4 Kd.bool)).sz = 1 from rfl, Nat.mul_one] at hv120_0
                                replace hv120_0 := Option.some.inj (hv120_0.symm.trans hx120_0)
                                rw [hv120_0] at ge120_0
                                have HL120_0 := Aside0.mk (show Kd.R Kd.bool 4 _ _ _ _ (rd_L2 t105 x14_1) from ge120_0)
                                clear hv120_0 ge120_0
                                clear hcc120 hce120
                                have HR120_0 := Aside0.mk hi120_0
                                have HC120_0 := Aside0.mk hl120_0
                                clear hi120_0 hl120_0
                                replace p120 := eq_true p120
                                replace q120 := eq_true q120
                                go_wp2
                                go_loopg [7, 53] kj18 (fun kq v7 v53 w' => ∃ (x7_4 : Bool) (x53_4 : Int), v7 = .bool x7_4 ∧ v53 = .int .i64 x53_4 ∧ Aside0 (dom_Least.l2 kq l0 t105 x4_2 x14_1 x32_2 x7_4 (l0.length : Int) x14_1 (l0.length : Int) x32_2 (rd_L2 t105 x14_1) ((rd_L2 t105 x14_1).length : Int) x53_4 = some r) ∧ Aside0 (kq ≤ kj18) ∧ Aside0 (Kd.S (Kd.slice 4 Kd.bool) 57 w' w.heap.size (fun _ => True) (.slice (some ad120) t105.length co29) t105) ∧ Aside0 (Kd.R (Kd.int .i64) 3 w' w.heap.size (fun _ => True) v109 x4_2) ∧ Aside0 (Kd.C Kd.bool w' A120_0 (rd_L2 t105 x14_1).length (rd_L2 t105 x14_1)) ∧ Aside0 (Below w.heap.size w w'))
                                case atStart => exact ⟨(true), (0), (by first | rfl | (simp; done) | (simp [*]; done)), (by first | rfl | (simp; done) | (simp [*]; done)), H', ⟨Nat.le_refl _⟩, ⟨by (with_reducible repeat (first | apply Kd.S_alloc | apply Kd.S_drewN | apply Kd.S_drew)); exact HO_3.out⟩, ⟨by (with_reducible repeat (first | apply Kd.R_alloc | apply Kd.R_drewN | apply Kd.R_drew)); exact HO_4.out⟩, ⟨by repeat (first | (with_reducible exact HR120_0.out) | (with_reducible refine Kd.C_alloc ?_ _) | (with_reducible refine Kd.C_drewN ?_ _) | (with_reducible refine Kd.C_drew ?_) | exact HR120_0.out)⟩, ⟨by repeat (first | (with_reducible first | exact HB.out | apply below_alloc | apply pw_below_drewN | apply below_drew1) | exact HB.out)⟩⟩
                                case round =>
                                  clear H'
                                  try clear c1
                                  try clear p1
                                  try clear q1
                                  try clear hx1
                                  try clear c2
                                  try clear p2
                                  try clear c3
                                  try clear c4
                                  try clear c4b0
                                  try clear c5
                                  try clear p6
                                  try clear c8
                                  try clear c8b0
                                  try clear c9
                                  try clear c9b0
                                  try clear q10
                                  try clear c11
                                  try clear p11
                                  try clear q11
                                  try clear hx11
                                  try clear c12
                                  try clear p12
                                  try clear q12
                                  try clear hx12
                                  try clear c18
                                  try clear c18b0
                                  try clear c20
                                  try clear c20b0
                                  try clear c20b1
                                  try clear c21
                                  try clear c21b0
                                  try clear c22
                                  try clear c22b0
                                  try clear c23
                                  try clear c23b0
                                  try clear c24
                                  try clear c24b0
                                  try clear c26
                                  try clear c27
                                  try clear c27b0
                                  try clear c28
                                  try clear c28b0
                                  try clear c29
                                  try clear hx117_0
                                  try clear hx118_0
                                  try clear hx119_0
                                  try clear hx120_0
                                  try clear p1
                                  try clear p11
                                  try clear p117
                                  try clear p118
                                  try clear p119
                                  try clear p120
                                  try clear p2
                                  try clear p6
                                  try clear q1
                                  try clear q10
                                  try clear q11
                                  try clear q117
                                  try clear q118
                                  try clear q119
                                  try clear q120
                                  obtain ⟨x7_4, x53_4, rfl, rfl, HA, HK4, HO_3, HO_4, HR120_0, HB⟩ := hrel
                                  cases gk with
                                  | zero => exact absurd HA.out (by simp [dom_Least.l2])
                                  | succ k4 =>
                                    have H := HA.out
                                    clear HA
                                    simp only [dom_Least.l2] at H
                                    by_cases c30 : x53_4 < ((rd_L2 t105 x14_1).length : Int)
                                    · rw [if_pos c30] at H
                                      have c30b0 : decide (x53_4 < ((rd_L2 t105 x14_1).length : Int)) = true := decide_eq_true c30
                                      clear c30
                                      by_cases c31 : 0 ≤ x53_4
                                      · rw [if_pos c31] at H
                                        have c31b0 : decide (0 ≤ x53_4) = true := decide_eq_true c31
                                        clear c31
                                        by_cases c32 : x53_4 < ((rd_L2 t105 x14_1).length : Int)
                                        · rw [if_pos c32] at H
                                          have c32b0 : decide (x53_4 < ((rd_L2 t105 x14_1).length : Int)) = true := decide_eq_true c32
                                          clear c32
                                          by_cases c33 : x7_4 = true
                                          · subst c33
                                            have H1 : (if x53_4 = x14_1 then (dom_Least.l2 k4 l0 t105 x4_2 x14_1 x32_2 true (l0.length : Int) x14_1 (l0.length : Int) x32_2 (rd_L2 t105 x14_1) ((rd_L2 t105 x14_1).length : Int) (wrap64 (x53_4 + 1))) else (if x53_4 = x32_2 then (dom_Least.l2 k4 l0 t105 x4_2 x14_1 x32_2 true (l0.length : Int) x14_1 (l0.length : Int) x32_2 (rd_L2 t105 x14_1) ((rd_L2 t105 x14_1).length : Int) (wrap64 (x53_4 + 1))) else (if rdOf false (rd_L2 t105 x14_1) x53_4 = true then (if 0 ≤ x32_2 then (if x32_2 < (t105.length : Int) then (if x53_4 < ((rd_L2 t105 x32_2).length : Int) then (dom_Least.l2 k4 l0 t105 x4_2 x14_1 x32_2 (rdOf false (rd_L2 t105 x32_2) x53_4) (l0.length : Int) x14_1 (l0.length : Int) x32_2 (rd_L2 t105 x14_1) ((rd_L2 t105 x14_1).length : Int) (wrap64 (x53_4 + 1))) else (none)) else (none)) else (none)) else (dom_Least.l2 k4 l0 t105 x4_2 x14_1 x32_2 true (l0.length : Int) x14_1 (l0.length : Int) x32_2 (rd_L2 t105 x14_1) ((rd_L2 t105 x14_1).length : Int) (wrap64 (x53_4 + 1)))))) = some r := by first | (rw [if_pos rfl] at H; exact H) | (rw [if_pos trivial] at H; exact H)
                                            clear H
                                            have H := H1
                                            clear H1
                                            by_cases c34 : x53_4 = x14_1
                                            · rw [if_pos c34] at H
                                              have c34b0 : (x53_4 == x14_1) = true := beq_iff_eq.mpr c34
                                              have c34b1 : (x53_4 != x14_1) = false := bne_eq_false_iff_eq.mpr c34
                                              clear c34
                                              have H' := Aside0.mk H
                                              clear H
                                              have p121 : 0 ≤ (x53_4 : Int) := of_decide_eq_true (by first | (with_reducible assumption) | assumption)
                                              have q121 : x53_4 < ((rd_L2 t105 x14_1).length : Int) := of_decide_eq_true (by first | (with_reducible assumption) | assumption)
                                              obtain ⟨ad121, e121, hx121_0⟩ := Kd.at_bool HR120_0.out x53_4 p121 q121
                                              (try rw [← Nbq10.out] at hx121_0)
                                              cases e121
                                              (try replace hx121_0 := (HB.out.cell (World.block_lt_of_cell? w _ hx121_0)).trans hx121_0)
                                              replace p121 := eq_true p121
                                              replace q121 := eq_true q121
                                              go_wp2
                                              go_roundg k4
                                              case measure => have := HK1.out; have := HK2.out; have := HJ18.out; have := HK4.out; omega
                                              case rel => exact ⟨(true), (wrap64 (x53_4 + 1)), (by first | rfl | (simp; done) | (simp [*]; done)), (by first | rfl | (simp; done) | (simp [*]; done)), H', ⟨by have := HK1.out; have := HK2.out; have := HJ18.out; have := HK4.out; omega⟩, ⟨by (with_reducible repeat (first | apply Kd.S_alloc | apply Kd.S_drewN | apply Kd.S_drew)); exact HO_3.out⟩, ⟨by (with_reducible repeat (first | apply Kd.R_alloc | apply Kd.R_drewN | apply Kd.R_drew)); exact HO_4.out⟩, ⟨by repeat (first | (with_reducible exact HR120_0.out) | (with_reducible refine Kd.C_alloc ?_ _) | (with_reducible refine Kd.C_drewN ?_ _) | (with_reducible refine Kd.C_drew ?_) | exact HR120_0.out)⟩, ⟨by repeat (first | (with_reducible first | exact HB.out | apply below_alloc | apply pw_below_drewN | apply below_drew1) | exact HB.out)⟩⟩
                                            · rw [if_neg c34] at H
                                              have c34b0 : (x53_4 == x14_1) = false := beq_eq_false_iff_ne.mpr c34
                                              have c34b1 : (x53_4 != x14_1) = true := bne_iff_ne.mpr c34
                                              by_cases c35 : x53_4 = x32_2
                                              · rw [if_pos c35] at H
                                                have c35b0 : (x53_4 == x32_2) = true := beq_iff_eq.mpr c35
                                                have c35b1 : (x53_4 != x32_2) = false := bne_eq_false_iff_eq.mpr c35
                                                clear c35
                                                have H' := Aside0.mk H
                                                clear H
                                                have p121 : 0 ≤ (x53_4 : Int) := of_decide_eq_true (by first | (with_reducible assumption) | assumption)
                                                have q121 : x53_4 < ((rd_L2 t105 x14_1).length : Int) := of_decide_eq_true (by first | (with_reducible assumption) | assumption)
                                                obtain ⟨ad121, e121, hx121_0⟩ := Kd.at_bool HR120_0.out x53_4 p121 q121
                                                (try rw [← Nbq10.out] at hx121_0)
                                                cases e121
                                                (try replace hx121_0 := (HB.out.cell (World.block_lt_of_cell? w _ hx121_0)).trans hx121_0)
                                                replace p121 := eq_true p121
                                                replace q121 := eq_true q121
                                                go_wp2
                                                go_roundg k4
                                                case measure => have := HK1.out; have := HK2.out; have := HJ18.out; have := HK4.out; omega
                                                case rel => exact ⟨(true), (wrap64 (x53_4 + 1)), (by first | rfl | (simp; done) | (simp [*]; done)), (by first | rfl | (simp; done) | (simp [*]; done)), H', ⟨by have := HK1.out; have := HK2.out; have := HJ18.out; have := HK4.out; omega⟩, ⟨by (with_reducible repeat (first | apply Kd.S_alloc | apply Kd.S_drewN | apply Kd.S_drew)); exact HO_3.out⟩, ⟨by (with_reducible repeat (first | apply Kd.R_alloc | apply Kd.R_drewN | apply Kd.R_drew)); exact HO_4.out⟩, ⟨by repeat (first | (with_reducible exact HR120_0.out) | (with_reducible refine Kd.C_alloc ?_ _) | (with_reducible refine Kd.C_drewN ?_ _) | (with_reducible refine Kd.C_drew ?_) | exact HR120_0.out)⟩, ⟨by repeat (first | (with_reducible first | exact HB.out | apply below_alloc | apply pw_below_drewN | apply below_drew1) | exact HB.out)⟩⟩
                                              · rw [if_neg c35] at H
                                                have c35b0 : (x53_4 == x32_2) = false := beq_eq_false_iff_ne.mpr c35
                                                have c35b1 : (x53_4 != x32_2) = true := bne_iff_ne.mpr c35
                                                obtain ⟨bq36, hbq36⟩ : ∃ b_ : Bool, b_ = (rdOf false (rd_L2 t105 x14_1) x53_4) := ⟨_, rfl⟩
                                                replace H : (if bq36 = true then (if 0 ≤ x32_2 then (if x32_2 < (t105.length : Int) then (if x53_4 < ((rd_L2 t105 x32_2).length : Int) then (dom_Least.l2 k4 l0 t105 x4_2 x14_1 x32_2 (rdOf false (rd_L2 t105 x32_2) x53_4) (l0.length : Int) x14_1 (l0.length : Int) x32_2 (rd_L2 t105 x14_1) ((rd_L2 t105 x14_1).length : Int) (wrap64 (x53_4 + 1))) else (none)) else (none)) else (none)) else (dom_Least.l2 k4 l0 t105 x4_2 x14_1 x32_2 true (l0.length : Int) x14_1 (l0.length : Int) x32_2 (rd_L2 t105 x14_1) ((rd_L2 t105 x14_1).length : Int) (wrap64 (x53_4 + 1)))) = some r := by rw [← hbq36] at H; exact H
                                                have Nbq36 := Aside0.mk hbq36
                                                clear hbq36
                                                by_cases c37 : bq36 = true
                                                · subst c37
                                                  have H1 : (if 0 ≤ x32_2 then (if x32_2 < (t105.length : Int) then (if x53_4 < ((rd_L2 t105 x32_2).length : Int) then (dom_Least.l2 k4 l0 t105 x4_2 x14_1 x32_2 (rdOf false (rd_L2 t105 x32_2) x53_4) (l0.length : Int) x14_1 (l0.length : Int) x32_2 (rd_L2 t105 x14_1) ((rd_L2 t105 x14_1).length : Int) (wrap64 (x53_4 + 1))) else (none)) else (none)) else (none)) = some r := by first | (rw [if_pos rfl] at H; exact H) | (rw [if_pos trivial] at H; exact H)
                                                  clear H
                                                  have H := H1
                                                  clear H1
                                                  by_cases c38 : 0 ≤ x32_2
                                                  · rw [if_pos c38] at H
                                                    have c38b0 : decide (0 ≤ x32_2) = true := decide_eq_true c38
                                                    clear c38
                                                    by_cases c39 : x32_2 < (t105.length : Int)
                                                    · rw [if_pos c39] at H
                                                      have c39b0 : decide (x32_2 < (t105.length : Int)) = true := decide_eq_true c39
                                                      clear c39
                                                      by_cases c40 : x53_4 < ((rd_L2 t105 x32_2).length : Int)
                                                      · rw [if_pos c40] at H
                                                        have c40b0 : decide (x53_4 < ((rd_L2 t105 x32_2).length : Int)) = true := decide_eq_true c40
                                                        clear c40
                                                        have H' := Aside0.mk H
                                                        clear H
                                                        have p121 : 0 ≤ (x53_4 : Int) := of_decide_eq_true (by first | (with_reducible assumption) | assumption)
                                                        have q121 : x53_4 < ((rd_L2 t105 x14_1).length : Int) := of_decide_eq_true (by first | (with_reducible assumption) | assumption)
                                                        obtain ⟨ad121, e121, hx121_0⟩ := Kd.at_bool HR120_0.out x53_4 p121 q121
                                                        (try rw [← Nbq10.out] at hx121_0)
                                                        (try rw [← Nbq36.out] at hx121_0)
                                                        cases e121
                                                        (try replace hx121_0 := (HB.out.cell (World.block_lt_of_cell? w _ hx121_0)).trans hx121_0)
                                                        replace p121 := eq_true p121
                                                        replace q121 := eq_true q121
                                                        have p122 : 0 ≤ (x32_2 : Int) := of_decide_eq_true (by first | (with_reducible assumption) | assumption)
                                                        have q122 : x32_2 < (t105.length : Int) := of_decide_eq_true (by first | (with_reducible assumption) | assumption)
                                                        obtain ⟨ad122, A122_0, c122_0, e122, hx122_0, hl122_0, hi122_0⟩ := at_L2 (Kd.S_reads' HO_3.out).2.2 x32_2 p122 q122
                                                        obtain rfl : ad120 = ad122 := (by injection e122)
                                                        obtain ⟨ce122, hce122, hMe122, hcc122⟩ := Kd.S_get HO_3.out [] x32_2 p122 (by first | exact q122 | exact of_decide_eq_true (by first | (with_reducible assumption) | assumption) | (have e_ := (Kd.S_reads' HO_3.out).1; omega))
                                                        obtain ⟨ve122_0, rfl, ge122_0⟩ := hMe122
                                                        have hv122_0 := hcc122 0 _ rfl
                                                        rw [Nat.add_zero, show ((Kd.slice 4 Kd.bool)).sz = 1 from rfl, Nat.mul_one] at hv122_0
                                                        replace hv122_0 := Option.some.inj (hv122_0.symm.trans hx122_0)
                                                        rw [hv122_0] at ge122_0
                                                        have HL122_0 := Aside0.mk (show Kd.R Kd.bool 4 _ _ _ _ (rd_L2 t105 x32_2) from ge122_0)
                                                        clear hv122_0 ge122_0
                                                        clear hcc122 hce122
                                                        have HR122_0 := Aside0.mk hi122_0
                                                        have HC122_0 := Aside0.mk hl122_0
                                                        clear hi122_0 hl122_0
                                                        (try (have hz_ := Option.some.inj (hx120_0.symm.trans hx122_0); injection hz_ with za_ zn_ zc_; subst za_; subst zc_; clear zn_))
                                                        replace p122 := eq_true p122
                                                        replace q122 := eq_true q122
                                                        have p123 : 0 ≤ (x53_4 : Int) := of_decide_eq_true (by first | (with_reducible assumption) | assumption)
                                                        have q123 : x53_4 < ((rd_L2 t105 x32_2).length : Int) := of_decide_eq_true (by first | (with_reducible assumption) | assumption)
                                                        obtain ⟨ad123, e123, hx123_0⟩ := Kd.at_bool (by repeat (first | (with_reducible exact HR122_0.out) | (with_reducible refine Kd.C_alloc ?_ _) | (with_reducible refine Kd.C_drewN ?_ _) | (with_reducible refine Kd.C_drew ?_) | exact HR122_0.out)) x53_4 p123 q123
                                                        (try rw [← Nbq10.out] at hx123_0)
                                                        (try rw [← Nbq36.out] at hx123_0)
                                                        cases e123
                                                        replace p123 := eq_true p123
                                                        replace q123 := eq_true q123
                                                        go_wp2
                                                        go_roundg k4
                                                        case measure => have := HK1.out; have := HK2.out; have := HJ18.out; have := HK4.out; omega
                                                        case rel => exact ⟨(rdOf false (rd_L2 t105 x32_2) x53_4), (wrap64 (x53_4 + 1)), (by first | rfl | (simp; done) | (simp [*]; done)), (by first | rfl | (simp; done) | (simp [*]; done)), H', ⟨by have := HK1.out; have := HK2.out; have := HJ18.out; have := HK4.out; omega⟩, ⟨by (with_reducible repeat (first | apply Kd.S_alloc | apply Kd.S_drewN | apply Kd.S_drew)); exact HO_3.out⟩, ⟨by (with_reducible repeat (first | apply Kd.R_alloc | apply Kd.R_drewN | apply Kd.R_drew)); exact HO_4.out⟩, ⟨by repeat (first | (with_reducible exact HR120_0.out) | (with_reducible refine Kd.C_alloc ?_ _) | (with_reducible refine Kd.C_drewN ?_ _) | (with_reducible refine Kd.C_drew ?_) | exact HR120_0.out)⟩, ⟨by repeat (first | (with_reducible first | exact HB.out | apply below_alloc | apply pw_below_drewN | apply below_drew1) | exact HB.out)⟩⟩
                                                      · rw [if_neg c40] at H
                                                        exact absurd H (by simp)
                                                    · rw [if_neg c39] at H
                                                      exact absurd H (by simp)
                                                  · rw [if_neg c38] at H
                                                    exact absurd H (by simp)
                                                · replace c37 := Bool.eq_false_iff.mpr c37
                                                  subst c37
                                                  have H1 : (dom_Least.l2 k4 l0 t105 x4_2 x14_1 x32_2 true (l0.length : Int) x14_1 (l0.length : Int) x32_2 (rd_L2 t105 x14_1) ((rd_L2 t105 x14_1).length : Int) (wrap64 (x53_4 + 1))) = some r := by rw [if_neg (show ¬ (false = true) by decide)] at H; exact H
                                                  clear H
                                                  have H := H1
                                                  clear H1
                                                  have H' := Aside0.mk H
                                                  clear H
                                                  have p121 : 0 ≤ (x53_4 : Int) := of_decide_eq_true (by first | (with_reducible assumption) | assumption)
                                                  have q121 : x53_4 < ((rd_L2 t105 x14_1).length : Int) := of_decide_eq_true (by first | (with_reducible assumption) | assumption)
                                                  obtain ⟨ad121, e121, hx121_0⟩ := Kd.at_bool HR120_0.out x53_4 p121 q121
                                                  (try rw [← Nbq10.out] at hx121_0)
                                                  (try rw [← Nbq36.out] at hx121_0)
                                                  cases e121
                                                  (try replace hx121_0 := (HB.out.cell (World.block_lt_of_cell? w _ hx121_0)).trans hx121_0)
                                                  replace p121 := eq_true p121
                                                  replace q121 := eq_true q121
                                                  go_wp2
                                                  go_roundg k4
                                                  case measure => have := HK1.out; have := HK2.out; have := HJ18.out; have := HK4.out; omega
                                                  case rel => exact ⟨(true), (wrap64 (x53_4 + 1)), (by first | rfl | (simp; done) | (simp [*]; done)), (by first | rfl | (simp; done) | (simp [*]; done)), H', ⟨by have := HK1.out; have := HK2.out; have := HJ18.out; have := HK4.out; omega⟩, ⟨by (with_reducible repeat (first | apply Kd.S_alloc | apply Kd.S_drewN | apply Kd.S_drew)); exact HO_3.out⟩, ⟨by (with_reducible repeat (first | apply Kd.R_alloc | apply Kd.R_drewN | apply Kd.R_drew)); exact HO_4.out⟩, ⟨by repeat (first | (with_reducible exact HR120_0.out) | (with_reducible refine Kd.C_alloc ?_ _) | (with_reducible refine Kd.C_drewN ?_ _) | (with_reducible refine Kd.C_drew ?_) | exact HR120_0.out)⟩, ⟨by repeat (first | (with_reducible first | exact HB.out | apply below_alloc | apply pw_below_drewN | apply below_drew1) | exact HB.out)⟩⟩
                                          · replace c33 := Bool.eq_false_iff.mpr c33
                                            subst c33
                                            have H1 : (dom_Least.l2 k4 l0 t105 x4_2 x14_1 x32_2 false (l0.length : Int) x14_1 (l0.length : Int) x32_2 (rd_L2 t105 x14_1) ((rd_L2 t105 x14_1).length : Int) (wrap64 (x53_4 + 1))) = some r := by rw [if_neg (show ¬ (false = true) by decide)] at H; exact H
                                            clear H
                                            have H := H1
                                            clear H1
                                            have H' := Aside0.mk H
                                            clear H
                                            have p121 : 0 ≤ (x53_4 : Int) := of_decide_eq_true (by first | (with_reducible assumption) | assumption)
                                            have q121 : x53_4 < ((rd_L2 t105 x14_1).length : Int) := of_decide_eq_true (by first | (with_reducible assumption) | assumption)
                                            obtain ⟨ad121, e121, hx121_0⟩ := Kd.at_bool HR120_0.out x53_4 p121 q121
                                            (try rw [← Nbq10.out] at hx121_0)
                                            cases e121
                                            (try replace hx121_0 := (HB.out.cell (World.block_lt_of_cell? w _ hx121_0)).trans hx121_0)
                                            replace p121 := eq_true p121
                                            replace q121 := eq_true q121
                                            go_wp2
                                            go_roundg k4
                                            case measure => have := HK1.out; have := HK2.out; have := HJ18.out; have := HK4.out; omega
                                            case rel => exact ⟨(false), (wrap64 (x53_4 + 1)), (by first | rfl | (simp; done) | (simp [*]; done)), (by first | rfl | (simp; done) | (simp [*]; done)), H', ⟨by have := HK1.out; have := HK2.out; have := HJ18.out; have := HK4.out; omega⟩, ⟨by (with_reducible repeat (first | apply Kd.S_alloc | apply Kd.S_drewN | apply Kd.S_drew)); exact HO_3.out⟩, ⟨by (with_reducible repeat (first | apply Kd.R_alloc | apply Kd.R_drewN | apply Kd.R_drew)); exact HO_4.out⟩, ⟨by repeat (first | (with_reducible exact HR120_0.out) | (with_reducible refine Kd.C_alloc ?_ _) | (with_reducible refine Kd.C_drewN ?_ _) | (with_reducible refine Kd.C_drew ?_) | exact HR120_0.out)⟩, ⟨by repeat (first | (with_reducible first | exact HB.out | apply below_alloc | apply pw_below_drewN | apply below_drew1) | exact HB.out)⟩⟩
                                        · rw [if_neg c32] at H
                                          exact absurd H (by simp)
                                      · rw [if_neg c31] at H
                                        exact absurd H (by simp)
                                    · rw [if_neg c30] at H
                                      have c30b0 : decide (x53_4 < ((rd_L2 t105 x14_1).length : Int)) = false := decide_eq_false c30
                                      clear c30
                                      by_cases c41 : x7_4 = true
                                      · subst c41
                                        have H1 : (if 0 ≤ x14_1 then (if x14_1 < (x4_2.length : Int) then (dom_Least.l0 k4 l0 t105 (x4_2.set (x14_1 : Int).toNat x32_2) (l0.length : Int) (wrap64 (x14_1 + 1))) else (none)) else (none)) = some r := by first | (rw [if_pos rfl] at H; exact H) | (rw [if_pos trivial] at H; exact H)
                                        clear H
                                        have H := H1
                                        clear H1
                                        by_cases c42 : 0 ≤ x14_1
                                        · rw [if_pos c42] at H
                                          have c42b0 : decide (0 ≤ x14_1) = true := decide_eq_true c42
                                          clear c42
                                          by_cases c43 : x14_1 < (x4_2.length : Int)
                                          · rw [if_pos c43] at H
                                            have c43b0 : decide (x14_1 < (x4_2.length : Int)) = true := decide_eq_true c43
                                            clear c43
                                            obtain ⟨y124, hy124⟩ : ∃ y_ : List Int, y_ = (x4_2.set (x14_1 : Int).toNat x32_2) := ⟨_, rfl⟩
                                            replace H : (dom_Least.l0 k4 l0 t105 y124 (l0.length : Int) (wrap64 (x14_1 + 1))) = some r := by first | (rw [hy124]; with_reducible exact H) | (have H2_ := (Option.bind_some _ _).symm.trans H; rw [hy124]; with_reducible exact H2_) | (have H2_ := (Option.bind_some _ _).symm.trans H; with_reducible exact H2_) | with_reducible exact H | (rw [hy124]; exact H) | exact H
                                            have Ny124 := Aside0.mk hy124
                                            clear hy124
                                            have H' := Aside0.mk H
                                            clear H
                                            have p44 : 0 ≤ (x14_1 : Int) := of_decide_eq_true (by first | (with_reducible assumption) | assumption)
                                            have q44 : (x14_1 : Int) < ((x4_2.length : Int) : Int) := of_decide_eq_true (by first | (with_reducible assumption) | assumption)
                                            obtain ⟨go44, co44, eo44, gb44, gl44, cl44, HG44⟩ := Kd.R_form HO_4.out (by omega)
                                            (first | cases eo44 | (injection eo44 with ea_ en_ ec_; (first | subst ea_ | (injection ea_ with ea_; subst ea_)); subst ec_; clear en_))
                                            have GB44 := Aside0.mk gb44
                                            have GG44 := Aside0.mk HG44
                                            clear gb44 gl44 HG44
                                            obtain ⟨hx44_0, hf44_0⟩ := Kd.R_celln 0 HO_4.out (x14_1 : Int) p44 q44
                                            replace p44 := eq_true p44
                                            replace q44 := eq_true q44
                                            have HP45 := Kd.R_putg HO_4.out (x14_1 : Int) x32_2
                                            go_wp2_with (first | ((with_reducible refine gate_store (t := 3) (p := 87) rfl ?_); refine store_event (t := 3) (p := 87) (v := ?vo_w46) (w1 := (wr.setCell ⟨go44, (x14_1 : Int).toNat, none⟩ (.int .i64 x32_2))) ?hg ?ho ?hn ?hr ?_; (case ho => rfl); (case hg => rfl); (case hn => rfl); (case hr => first | (go_simp; done) | (go_simp; rfl)); intro w46 hw; have hg : wr.grownBy w46 (some go44) := (by rw [hw]; exact HP45.2); have hp_ : Kd.R (Kd.int .i64) 3 w46 w.heap.size (fun _ => True) (.slice (some ⟨go44, 0, none⟩) x4_2.length co44) y124 := (by rw [hw, Ny124.out]; exact HP45.1); clear HP45; have n0_ := Aside0.mk (Kd.S_over' (v := (.slice (some ⟨go44, 0, none⟩) x4_2.length co44)) (by (with_reducible repeat (first | apply Kd.S_alloc | apply Kd.S_drewN | apply Kd.S_drew)); exact HO_3.out) (Kd.R_typed HO_4.out) (by decide) hg); have n1_ := Aside0.mk (hp_); have n2_ := Aside0.mk ((by rw [hw]; exact below_set (HB.out) GB44.out : Below w.heap.size w w46)); clear HO_3; clear HO_4; clear HB; have HO_3 := n0_; have HO_4 := n1_; have HB := n2_; clear n0_ n1_ n2_; clear hg hw hp_))
                                            go_roundg k4
                                            case measure => have := HK1.out; have := HK2.out; have := HJ18.out; have := HK4.out; omega
                                            case rel => exact ⟨(y124), (wrap64 (x14_1 + 1)), (by first | rfl | (simp; done) | (simp [*]; done)), H', ⟨by have := HK1.out; have := HK2.out; have := HJ18.out; have := HK4.out; omega⟩, ⟨by (with_reducible repeat (first | apply Kd.S_alloc | apply Kd.S_drewN | apply Kd.S_drew)); exact HO_3.out⟩, ⟨by (with_reducible repeat (first | apply Kd.R_alloc | apply Kd.R_drewN | apply Kd.R_drew)); exact HO_4.out⟩, ⟨by repeat (first | (with_reducible first | exact HB.out | apply below_alloc | apply pw_below_drewN | apply below_drew1) | exact HB.out)⟩⟩
                                          · rw [if_neg c43] at H
                                            exact absurd H (by simp)
                                        · rw [if_neg c42] at H
                                          exact absurd H (by simp)
                                      · replace c41 := Bool.eq_false_iff.mpr c41
                                        subst c41
                                        have H1 : (dom_Least.l1 k4 l0 t105 x4_2 x14_1 (l0.length : Int) x14_1 (l0.length : Int) (wrap64 (x32_2 + 1))) = some r := by rw [if_neg (show ¬ (false = true) by decide)] at H; exact H
                                        clear H
                                        have H := H1
                                        clear H1
                                        have H' := Aside0.mk H
                                        clear H
                                        go_wp2
                                        go_roundg k4
                                        case measure => have := HK1.out; have := HK2.out; have := HJ18.out; have := HK4.out; omega
                                        case rel => exact ⟨(x4_2), (wrap64 (x32_2 + 1)), (by first | rfl | (simp; done) | (simp [*]; done)), H', ⟨by have := HK1.out; have := HK2.out; have := HJ18.out; have := HK4.out; omega⟩, ⟨by (with_reducible repeat (first | apply Kd.S_alloc | apply Kd.S_drewN | apply Kd.S_drew)); exact HO_3.out⟩, ⟨by (with_reducible repeat (first | apply Kd.R_alloc | apply Kd.R_drewN | apply Kd.R_drew)); exact HO_4.out⟩, ⟨by repeat (first | (with_reducible first | exact HB.out | apply below_alloc | apply pw_below_drewN | apply below_drew1) | exact HB.out)⟩⟩
                              · rw [if_neg c28] at H
                                exact absurd H (by simp)
                            · rw [if_neg c27] at H
                              exact absurd H (by simp)
                    · rw [if_neg c18] at H
                      have c18b0 : decide (x32_2 < (l0.length : Int)) = false := decide_eq_false c18
                      clear c18
                      have H' := Aside0.mk H
                      clear H
                      go_wp2
                      go_roundg k2
                      case measure => have := HK1.out; have := HK2.out; omega
                      case rel => exact ⟨(x4_2), (wrap64 (x14_1 + 1)), (by first | rfl | (simp; done) | (simp [*]; done)), H', ⟨by have := HK1.out; have := HK2.out; omega⟩, ⟨by (with_reducible repeat (first | apply Kd.S_alloc | apply Kd.S_drewN | apply Kd.S_drew)); exact HO_3.out⟩, ⟨by (with_reducible repeat (first | apply Kd.R_alloc | apply Kd.R_drewN | apply Kd.R_drew)); exact HO_4.out⟩, ⟨by repeat (first | (with_reducible first | exact HB.out | apply below_alloc | apply pw_below_drewN | apply below_drew1) | exact HB.out)⟩⟩
              · replace c11 := Bool.eq_false_iff.mpr c11
                subst c11
                have H1 : (dom_Least.l0 k1 l0 t105 y108 (l0.length : Int) (wrap64 (x14_1 + 1))) = some r := by rw [if_neg (show ¬ (false = true) by decide)] at H; exact H
                clear H
                have H := H1
                clear H1
                have H' := Aside0.mk H
                clear H
                go_wp2_with (first | ((with_reducible refine gate_builtin (b := .append) (xs := #[.tmp 17, .tmp 18]) rfl ?_); at_builtin; refine Kd.R_append (Kd.int .i64) (w0 := w) w.heap.size rfl (.tmp 17) (.tmp 18) 54 3 (.int .i64 0) 8 rfl Try.underlying54 info3 rfl (by decide) (by omega) u4 x4_1 (-1) [.int .i64 (-1)] (fun _ => True) (fun _ => False) rfl rfl ?aP (fun _ hk => hk.elim) ?aF ?aO ?aB ?aS ?aL ?_; (case aP => first | exact rfl | exact ⟨_, rfl, Kd.R_nil _ _ _ _ _⟩); (case aB => exact (by repeat (first | (with_reducible first | exact HB.out | apply below_alloc | apply pw_below_drewN | apply below_drew1) | exact HB.out))); (case aF => exact (fun _ _ => trivial)); (case aO => exact (by (with_reducible repeat (first | apply Kd.R_alloc | apply Kd.R_drewN | apply Kd.R_drew)); exact HO_4.out)); (case aS => exact (below_size (by repeat (first | (with_reducible first | exact HB.out | apply below_alloc | apply pw_below_drewN | apply below_drew1) | exact HB.out)))); (case aL => have := LMc5.out; omega); intro v109 w47 ho hb hg hat; rw [← Ny108.out] at ho; have n0_ := Aside0.mk (Kd.S_over' (by (with_reducible repeat (first | apply Kd.S_alloc | apply Kd.S_drewN | apply Kd.S_drew)); exact HO_3.out) (Kd.R_typed (by (with_reducible repeat (first | apply Kd.R_alloc | apply Kd.R_drewN | apply Kd.R_drew)); exact HO_4.out)) (by decide) hg); have n1_ := Aside0.mk (hb); have n2_ := Aside0.mk (ho); clear HO_3; clear HB; clear HO_4; have HO_3 := n0_; have HB := n1_; have HO110 := n2_; clear n0_ n1_ n2_; clear ho hb hg hat) | ((with_reducible refine gate_dst (N := 22) rfl ?_); refine Kd.R_lit (Kd.int .i64) _ 3 ?hg (N := 22) ?hd (xs := ([x14_1] : List Int)) (inner := [.int .i64 x14_1]) (ok := fun _ => True) (okp := fun _ => True) ?hr ?hp (fun _ hk => hk) trivial (Below.refl _ _) (Nat.le_refl _) (by simp) ?_; (case hd => rfl); (case hg => rfl); (case hr => first | (go_simp; done) | (go_simp; rfl)); (case hp => exact (Reps.one (show Kd.M (Kd.int .i64) _ _ _ x14_1 [.int .i64 x14_1] from rfl) (Reps.none _ _))); intro v112 w48 ho49 hb hg_ hnew_; clear hg_ hnew_; (first | rw [← Ny111.out] at ho49 | (simp only [Int.reduceToNat] at ho49; rw [← Ny111.out] at ho49)); have n0_ := Aside0.mk (Kd.S_below (by (with_reducible repeat (first | apply Kd.S_alloc | apply Kd.S_drewN | apply Kd.S_drew)); exact HO_3.out) hb); have n1_ := Aside0.mk (Kd.R_elder' (by (with_reducible repeat (first | apply Kd.R_alloc | apply Kd.R_drewN | apply Kd.R_drew)); exact HO110.out) (Kd.R_base ho49) hb); have n2_ := Aside0.mk (Kd.R_lower (Kd.R_new' ho49 (Kd.R_lt (by (with_reducible repeat (first | apply Kd.R_alloc | apply Kd.R_drewN | apply Kd.R_drew)); exact HO110.out))) (below_size (by repeat (first | (with_reducible first | exact HB.out | apply below_alloc | apply pw_below_drewN | apply below_drew1) | exact HB.out)))); have n3_ := Aside0.mk (below_step (by repeat (first | (with_reducible first | exact HB.out | apply below_alloc | apply pw_below_drewN | apply below_drew1) | exact HB.out)) hb); clear HO_3; clear HO110; clear HB; have HO_3 := n0_; have HO110 := n1_; have HO113 := n2_; have HB := n3_; clear n0_ n1_ n2_ n3_; clear hb ho49; obtain ⟨Ao50, co50, eo50⟩ := Kd.R_slice HO113.out; subst eo50) | ((with_reducible refine gate_callee (f := 29) rfl ?_); refine goesL_ (some 23) rfl rfl Try.func29 (by kernel_rfl) rfl #[.slice A0 l0.length c0, .slice Ao50 y111.length co50] rfl (by (try simp only [List.map_toArray, List.map_cons, List.map_nil]); first | done | rfl | (simp only [List.length_drop, List.length_take]; rfl)) ?_; (with_reducible refine (dom_Reach.calls k1 _ _ l0 _ _ y111 t114 _ ?side1 ?side2 ?side3 ?side4 A6.out).mono ?_); (case side1 => repeat (first | exact (Kd.C_below HR0.out HB.out) | (with_reducible refine Kd.C_alloc ?_ _) | (with_reducible refine Kd.C_drewN ?_ _) | (with_reducible refine Kd.C_drew ?_))); (case side2 => exact HC0.out); (case side3 => repeat (first | exact (Kd.R_reads' HO113.out).2.2 | (with_reducible refine Kd.C_alloc ?_ _) | (with_reducible refine Kd.C_drewN ?_ _) | (with_reducible refine Kd.C_drew ?_))); (case side4 => exact (Kd.R_reads' HO113.out).2.1); rintro e w51 ⟨v115, rfl, ho0, hb⟩; refine ⟨_, rfl, ?_⟩; have n0_ := Aside0.mk (Kd.S_elder' (by (with_reducible repeat (first | apply Kd.S_alloc | apply Kd.S_drewN | apply Kd.S_drew)); exact HO_3.out) (Kd.R_base ho0) hb); have n1_ := Aside0.mk (Kd.R_below (by (with_reducible repeat (first | apply Kd.R_alloc | apply Kd.R_drewN | apply Kd.R_drew)); exact HO110.out) hb); have n2_ := Aside0.mk (Kd.R_below (by (with_reducible repeat (first | apply Kd.R_alloc | apply Kd.R_drewN | apply Kd.R_drew)); exact HO113.out) hb); have n3_ := Aside0.mk (Kd.R_lower ho0 (below_size (by repeat (first | (with_reducible first | exact HB.out | apply below_alloc | apply pw_below_drewN | apply below_drew1) | exact HB.out)))); have n4_ := Aside0.mk (below_step (by repeat (first | (with_reducible first | exact HB.out | apply below_alloc | apply pw_below_drewN | apply below_drew1) | exact HB.out)) hb); clear HO_3; clear HO110; clear HO113; clear HB; have HO_3 := n0_; have HO110 := n1_; have HO113 := n2_; have HO116 := n3_; have HB := n4_; clear n0_ n1_ n2_ n3_ n4_; (try clear hb); (try clear hb2); (try clear hk); (try clear hi); (try clear ho0); obtain ⟨Ao52, co52, eo52⟩ := Kd.R_slice HO116.out; subst eo52; have p117 : 0 ≤ ((ji7) : Int) := of_decide_eq_true (by first | (with_reducible assumption) | assumption); have q117 : (ji7) < (t114.length : Int) := of_decide_eq_true (by first | (with_reducible assumption) | assumption); obtain ⟨ad117, e117, hx117_0⟩ := Kd.at_bool (Kd.R_reads' HO116.out).2.2 (ji7) p117 q117; (try rw [← Nbq10.out] at hx117_0); cases e117; replace p117 := eq_true p117; replace q117 := eq_true q117))
                go_roundg k1
                case measure => have := HK1.out; omega
                case rel => exact ⟨(y108), (wrap64 (x14_1 + 1)), (by first | rfl | (simp; done) | (simp [*]; done)), H', ⟨by have := HK1.out; omega⟩, ⟨by (with_reducible repeat (first | apply Kd.S_alloc | apply Kd.S_drewN | apply Kd.S_drew)); exact Kd.S_mono HO_3.out (fun _ hk => trivial)⟩, ⟨by (with_reducible repeat (first | apply Kd.R_alloc | apply Kd.R_drewN | apply Kd.R_drew)); exact Kd.R_mono HO110.out (fun _ hk => trivial)⟩, ⟨by repeat (first | (with_reducible first | exact HB.out | apply below_alloc | apply pw_below_drewN | apply below_drew1) | exact HB.out)⟩⟩
            · rw [if_neg c9] at H
              exact absurd H (by simp)
          · rw [if_neg c8] at H
            exact absurd H (by simp)
        · rw [if_neg c5] at H
          exact absurd H (by simp)
      · rw [if_neg c4] at H
        have c4b0 : decide (x14_1 < (l0.length : Int)) = false := decide_eq_false c4
        clear c4
        obtain rfl := Option.some.inj H
        go_wp2
        go_ret
        exact ⟨_, by first | rfl | (simp [errW_none, errW_some] <;> rfl) | (simp [*, errW_none, errW_some] <;> rfl), by (with_reducible repeat (first | apply Kd.R_alloc | apply Kd.R_drewN | apply Kd.R_drew)); exact HO_4.out, by repeat (first | (with_reducible first | exact HB.out | apply below_alloc | apply pw_below_drewN | apply below_drew1) | exact HB.out)⟩

end Go.Proofs.Ytankppgafdcknaa.PDom

/- Graphs: Least; and that there is one. -/
set_option linter.unusedVariables false
set_option linter.unusedSimpArgs false
set_option linter.unusedSectionVars false
namespace Go.Proofs.Ytankppgafdcknaa.Gr
open Go Go.RowKit Go.Proofs.YtankppgafdcknaaW.PrintWords Go.Proofs.Ytankppgafdcknaa.PPost Go.Proofs.Ytankppgafdcknaa.PDom

/-- May k stand, where d is to be the first of i? -/
def okK (f : Nat → Nat → Bool) (i d k : Nat) : Bool := decide (k = i) || decide (k = d) || !(f i k) || f d k
def good (f : Nat → Nat → Bool) (n i d : Nat) : Bool := decide (d ≠ i) && f i d && (List.range n).all fun k => okK f i d k
def srch (f : Nat → Nat → Bool) (n i d : Nat) : Option Nat := ((List.range n).drop d).find? (good f n i)
def lval (f : Nat → Nat → Bool) (re : Nat → Bool) (n i : Nat) : Int := if re i = true then (match srch f n i 0 with
  | some d => (d : Int)
  | none => -1) else -1
theorem srch_step (f : Nat → Nat → Bool) (n i d : Nat) (hd : d < n) : srch f n i d = if good f n i d = true then some d else srch f n i (d + 1) := by
  unfold srch
  have : (List.range n).drop d = d :: (List.range n).drop (d + 1) := by
    rw [List.drop_eq_getElem_cons (by simpa using hd)]
    simp
  rw [this, List.find?_cons]
  cases good f n i d <;> simp
theorem srch_end (f : Nat → Nat → Bool) (n i : Nat) : srch f n i n = none := by
  unfold srch
  rw [List.drop_of_length_le (by simp)]
  rfl
def oval (o : Option Nat) : Int := match o with
  | some d => (d : Int)
  | none => -1
section
variable {xs : List (List Int)} {f : Nat → Nat → Bool} {re : Nat → Bool} {r : List Int} (hn : xs.length ≤ 1000000000000)
include hn
theorem ls_l2 (prev : List Int) (i d : Nat) (hp : prev.length = i) (hi : i < xs.length) (hd : d < xs.length)
    (K1 : (List.range xs.length).all (fun k => okK f i d k) = true → Ev (fun k => dom_Least.l0 k xs (Mx xs.length f) (prev ++ [(d : Int)]) (xs.length : Int) ((i + 1 : Nat) : Int)) r)
    (K2 : (List.range xs.length).all (fun k => okK f i d k) = false → Ev (fun k => dom_Least.l1 k xs (Mx xs.length f) (prev ++ [-1]) (i : Int) (xs.length : Int) (i : Int) (xs.length : Int) ((d + 1 : Nat) : Int)) r) :
    ∀ (q t : Nat), t + q = xs.length → Ev (fun k => dom_Least.l2 k xs (Mx xs.length f) (prev ++ [-1]) (i : Int) (d : Int) ((List.range t).all fun k => okK f i d k) (xs.length : Int) (i : Int) (xs.length : Int) (d : Int) ((List.range xs.length).map (f i)) (xs.length : Int) (t : Int)) r := by
  intro q
  induction q with
  | zero =>
    intro t ht
    have ht : t = xs.length := by omega
    subst ht
    cases hb : (List.range xs.length).all fun k => okK f i d k with
    | true =>
      refine Ev.step (fun k => ?_) (K1 hb)
      simp only [dom_Least.l2]
      rw [if_neg (by omega), if_pos trivial, if_pos (by omega), if_pos (by simp; omega), w_succ _ (by omega), nat_toNat]
      congr 1
      rw [← hp]
      simp
    | false =>
      refine Ev.step (fun k => ?_) (K2 hb)
      simp only [dom_Least.l2]
      rw [if_neg (by omega), if_neg (by simp), w_succ _ (by omega)]
  | succ q ih =>
    intro t ht
    have htl : t < xs.length := by omega
    refine Ev.step (fun k => ?_) (ih (t + 1) (by omega))
    have hs : ((List.range (t + 1)).all fun k => okK f i d k) = (((List.range t).all fun k => okK f i d k) && okK f i d t) := by
      simp only [List.range_succ, List.all_append, List.all_cons, List.all_nil, Bool.and_true]
    simp only [dom_Least.l2]
    rw [hs, if_pos (by omega), if_pos (by omega), if_pos (by simp; omega), w_succ _ (by omega), of_row _ _ _ htl]
    cases hb : (List.range t).all fun k => okK f i d k with
    | false => rw [if_neg (by simp)]; rfl
    | true =>
      rw [if_pos rfl]
      by_cases h1 : t = i
      · rw [if_pos (by omega)]; simp [okK, h1]
      · by_cases h2 : t = d
        · rw [if_neg (by omega), if_pos (by omega)]; simp [okK, h2]
        · rw [if_neg (by omega), if_neg (by omega)]
          cases h3 : f i t with
          | false => rw [if_neg (by simp)]; simp [okK, h3]
          | true =>
            rw [if_pos rfl, if_pos (by omega), if_pos (by rw [Mx_len]; omega), L2_row _ _ _ hd, if_pos (by simp; omega), of_row _ _ _ htl]
            simp [okK, h1, h2, h3]
theorem ls_l1 (prev : List Int) (i : Nat) (hp : prev.length = i) (hi : i < xs.length) (K : Ev (fun k => dom_Least.l0 k xs (Mx xs.length f) (prev ++ [oval (srch f xs.length i 0)]) (xs.length : Int) ((i + 1 : Nat) : Int)) r) :
    ∀ (q d : Nat), d + q = xs.length → srch f xs.length i d = srch f xs.length i 0 → Ev (fun k => dom_Least.l1 k xs (Mx xs.length f) (prev ++ [-1]) (i : Int) (xs.length : Int) (i : Int) (xs.length : Int) (d : Int)) r := by
  intro q
  induction q with
  | zero =>
    intro d hd hs
    have hd : d = xs.length := by omega
    subst hd
    rw [srch_end] at hs
    rw [← hs] at K
    refine Ev.step (fun k => ?_) K
    simp only [dom_Least.l1]
    rw [if_neg (by omega), w_succ _ (by omega)]
    rfl
  | succ q ih =>
    intro d hd hs
    have hdl : d < xs.length := by omega
    rw [srch_step _ _ _ _ hdl] at hs
    have skip : good f xs.length i d = false → Ev (fun k => dom_Least.l1 k xs (Mx xs.length f) (prev ++ [-1]) (i : Int) (xs.length : Int) (i : Int) (xs.length : Int) ((d + 1 : Nat) : Int)) r := fun hg => ih (d + 1) (by omega) (by
      rw [hg] at hs
      simpa using hs)
    have hj2t : good f xs.length i d = false → Ev (fun k => dom_Least.j2 k xs (Mx xs.length f) (prev ++ [-1]) (i : Int) (d : Int) (xs.length : Int) (i : Int) (xs.length : Int) (d : Int) true) r := fun hg => by
      refine Ev.step (fun k => ?_) (skip hg)
      simp only [dom_Least.j2]
      rw [if_pos trivial, w_succ _ (by omega)]
    by_cases hdi : d = i
    · refine Ev.step (fun k => ?_) (hj2t (by simp [good, hdi]))
      simp only [dom_Least.l1]
      rw [if_pos (by omega), if_pos (by omega)]
    · cases hfd : f i d with
      | false =>
        refine Ev.step (fun k => ?_) (hj2t (by simp [good, hfd]))
        simp only [dom_Least.l1]
        rw [if_pos (by omega), if_neg (by omega), if_pos (by omega), if_pos (by rw [Mx_len]; omega), if_pos (by omega), L2_row _ _ _ hi, if_pos (by simp; omega), of_row _ _ _ hdl, hfd]
        rfl
      | true =>
        have hgd : good f xs.length i d = (List.range xs.length).all fun k => okK f i d k := by simp [good, hfd, hdi]
        have h2 := ls_l2 hn (f := f) (r := r) prev i d hp hi hdl (fun h => by
          rw [hgd, h] at hs
          simp only [if_true] at hs
          rw [← hs] at K
          exact K) (fun h => skip (by rw [hgd, h])) xs.length 0 (by omega)
        refine Ev.step (f := fun k => dom_Least.j2 k xs (Mx xs.length f) (prev ++ [-1]) (i : Int) (d : Int) (xs.length : Int) (i : Int) (xs.length : Int) (d : Int) false) (fun k => ?_) (Ev.step (fun k => ?_) h2)
        · simp only [dom_Least.l1]
          rw [if_pos (by omega), if_neg (by omega), if_pos (by omega), if_pos (by rw [Mx_len]; omega), if_pos (by omega), L2_row _ _ _ hi, if_pos (by simp; omega), of_row _ _ _ hdl, hfd]
          rfl
        · simp only [dom_Least.j2]
          rw [if_neg (by simp), if_pos (by omega), if_pos (by rw [Mx_len]; omega), L2_row _ _ _ hi]
          simp only [List.length_map, List.length_range]
          rfl
theorem ls_l0 (hg : gsz xs < 17592186044415) (hre : ∀ i, i < xs.length → (re i = true ↔ Rc xs i (xs.length - 1))) : ∀ (q i : Nat), i + q = xs.length →
    Ev (fun k => dom_Least.l0 k xs (Mx xs.length f) ((List.range i).map (lval f re xs.length)) (xs.length : Int) (i : Int)) ((List.range xs.length).map (lval f re xs.length)) := by
  intro q
  induction q with
  | zero =>
    intro i hi
    have hi : i = xs.length := by omega
    subst hi
    refine Ev.step (fun k => ?_) (Ev.now _)
    simp only [dom_Least.l0]
    rw [if_neg (by omega)]
  | succ q ih =>
    intro i hi
    have hil : i < xs.length := by omega
    obtain ⟨met, hm, hml, hmr⟩ := Reach_ev xs [(i : Int)] hg (by simp)
    have hmi : mkd met (xs.length - 1) = re i := by
      rw [Bool.eq_iff_iff, hre i hil, hmr]
      constructor
      · rintro ⟨s, hs, hr⟩
        have : s = i := by have := List.mem_singleton.1 hs; omega
        rwa [this] at hr
      · exact fun hr => ⟨i, List.mem_singleton.2 rfl, hr⟩
    have hv : rdOf false met ((xs.length - 1 : Nat) : Int) = re i := by rw [← hmi]; unfold rdOf mkd; rw [nat_toNat]
    have hnext := ih (i + 1) (by omega)
    rw [List.range_succ, List.map_append] at hnext
    obtain ⟨K, hK⟩ := hm
    have hm : ∀ m, K ≤ m → dom_Reach.f m xs [(i : Int)] = some met := hK
    have base : ∀ m, K ≤ m → dom_Least.l0 (m + 1) xs (Mx xs.length f) ((List.range i).map (lval f re xs.length)) (xs.length : Int) (i : Int) =
        if re i = true then dom_Least.l1 m xs (Mx xs.length f) ((List.range i).map (lval f re xs.length) ++ [-1]) (i : Int) (xs.length : Int) (i : Int) (xs.length : Int) 0
        else dom_Least.l0 m xs (Mx xs.length f) ((List.range i).map (lval f re xs.length) ++ [-1]) (xs.length : Int) ((i + 1 : Nat) : Int) := by
      intro m hkm
      simp only [dom_Least.l0]
      rw [if_pos (by omega), if_pos (by simp; omega), Option.bind_some, hm m hkm, Option.bind_some, w_pred _ (by omega) (by omega), if_pos (by omega), if_pos (by rw [hml]; omega), hv, w_succ _ (by omega)]
    cases hrei : re i with
    | true =>
      have hl := ls_l1 hn (f := f) (r := (List.range xs.length).map (lval f re xs.length)) ((List.range i).map (lval f re xs.length)) i (by simp) hil (by
        have e : oval (srch f xs.length i 0) = lval f re xs.length i := by unfold lval oval; rw [hrei]; rfl
        rw [e]
        exact hnext) xs.length 0 (by omega) rfl
      obtain ⟨K2, h2⟩ := hl
      refine ⟨max K K2 + 1, fun k hk => ?_⟩
      obtain ⟨m, rfl⟩ : ∃ m, k = m + 1 := ⟨k - 1, by omega⟩
      show dom_Least.l0 (m + 1) _ _ _ _ _ = _
      rw [base m (by omega), hrei, if_pos rfl]
      exact h2 m (by omega)
    | false =>
      obtain ⟨K2, h2⟩ := hnext
      refine ⟨max K K2 + 1, fun k hk => ?_⟩
      obtain ⟨m, rfl⟩ : ∃ m, k = m + 1 := ⟨k - 1, by omega⟩
      show dom_Least.l0 (m + 1) _ _ _ _ _ = _
      rw [base m (by omega), hrei, if_neg (by simp)]
      have e : lval f re xs.length i = -1 := by unfold lval; rw [hrei]; rfl
      have := h2 m (by omega)
      simp only [List.map_cons, List.map_nil, e] at this
      exact this
end
/-- What each node is first postdominated by. -/
theorem Least_ev (xs : List (List Int)) (hg : gsz xs < 17592186044415) (hn : xs.length ≤ 1000000000000) : ∃ (f : Nat → Nat → Bool) (re : Nat → Bool), Ev (fun k => dom_Post.f k xs) (Mx xs.length f) ∧ (∀ i d, i < xs.length → d < xs.length → (f i d = true ↔ ¬ Av xs d i)) ∧
    (∀ i, i < xs.length → (re i = true ↔ Rc xs i (xs.length - 1))) ∧ Ev (fun k => dom_Least.f k xs) ((List.range xs.length).map (lval f re xs.length)) := by
  obtain ⟨f, hp, hf⟩ := Post_ev xs hg hn
  have hre : ∀ i, i < xs.length → ((by classical exact decide (Rc xs i (xs.length - 1)) : Bool) = true ↔ Rc xs i (xs.length - 1)) := fun i _ => by simp
  exact ⟨f, _, hp, hf, hre, Ev.bind hp (ls_l0 hn hg hre xs.length 0 (by omega))⟩
theorem srch_spec {f : Nat → Nat → Bool} {n i e : Nat} (h : srch f n i 0 = some e) : e < n ∧ good f n i e = true := by
  unfold srch at h
  rw [List.drop_zero] at h
  exact ⟨by simpa using List.mem_of_find?_eq_some h, List.find?_some h⟩
theorem srch_none {f : Nat → Nat → Bool} {n i : Nat} (h : srch f n i 0 = none) (e : Nat) (he : e < n) : good f n i e = false := by
  unfold srch at h
  rw [List.drop_zero, List.find?_eq_none] at h
  have := h e (by simpa using he)
  simpa using this
/-- Where Exit is come to from another node there is one that postdominates it first. -/
theorem first_one {xs : List (List Int)} {f : Nat → Nat → Bool} (hf : ∀ i d, i < xs.length → d < xs.length → (f i d = true ↔ ¬ Av xs d i)) (i : Nat) (hi : i < xs.length - 1) (hr : Rc xs i (xs.length - 1)) :
    ∃ e, e < xs.length ∧ good f xs.length i e = true := by
  have hil : i < xs.length := by omega
  -- what postdominates i, but itself
  have step : ∀ j, Rc xs j (xs.length - 1) → (j = i ∨ f i j = false) → (∀ k, k < xs.length → k ≠ i → f i k = true → Av xs k j → Av xs k i) → ∃ e, e < xs.length ∧ good f xs.length i e = true := by
    intro j hj
    have hend : ∃ l : List Nat, True := ⟨[], trivial⟩
    -- by the way's head
    have key : ∀ j, Rc xs j (xs.length - 1) → (j = i ∨ f i j = false) → (∀ k, k < xs.length → k ≠ i → f i k = true → Av xs k j → Av xs k i) → ∃ e, e < xs.length ∧ good f xs.length i e = true := by
      intro j hj
      -- a way from j to Exit, from its head on
      have heads : ∀ (P : Nat → Prop), P (xs.length - 1) → (∀ a b, Gr.Edge xs a b → P b → P a) → ∀ a, Rc xs a (xs.length - 1) → P a := by
        intro P hP hs a ha
        have gen : ∀ c, Rc xs a c → P c → P a := by
          intro c hc
          induction hc with
          | refl _ => exact id
          | tail k c _ e ih => exact fun hc => ih (hs k c e hc)
        exact gen _ ha hP
      refine heads (fun j => (j = i ∨ f i j = false) → (∀ k, k < xs.length → k ≠ i → f i k = true → Av xs k j → Av xs k i) → ∃ e, e < xs.length ∧ good f xs.length i e = true) ?_ ?_ j hj
      · intro h _
        rcases h with h | h
        · omega
        · rw [post_exit hf i hil] at h; cases h
      · intro a b e ih ha hk
        have hkb : ∀ k, k < xs.length → k ≠ i → f i k = true → Av xs k b → Av xs k i := fun k h1 h2 h3 h4 => by
          refine hk k h1 h2 h3 (.step a b ?_ e h4)
          rintro rfl
          rcases ha with rfl | ha
          · exact h2 rfl
          · rw [h3] at ha; cases ha
        by_cases hb : b = i ∨ f i b = false
        · exact ih hb hkb
        · have hbi : b ≠ i := fun h => hb (.inl h)
          have hfb : f i b = true := by
            cases h : f i b with
            | true => rfl
            | false => exact absurd (.inr h) hb
          refine ⟨b, e.2.1, ?_⟩
          unfold good
          rw [hfb]
          simp only [Bool.and_true, Bool.and_eq_true, decide_eq_true_eq, List.all_eq_true, List.mem_range]
          refine ⟨hbi, fun k hk1 => ?_⟩
          unfold okK
          simp only [Bool.or_eq_true, decide_eq_true_eq, Bool.not_eq_true']
          by_cases h1 : k = i
          · exact .inl (.inl (.inl h1))
          · cases h2 : f i k with
            | false => exact .inl (.inr rfl)
            | true =>
              refine .inr ((hf b k e.2.1 hk1).2 fun hav => ?_)
              exact (hf i k hil hk1).1 h2 (hkb k hk1 h1 h2 hav)
    exact key j hj
  exact step i hr (.inl rfl) (fun k _ _ _ h => h)
theorem exit_none {xs : List (List Int)} {f : Nat → Nat → Bool} (hf : ∀ i d, i < xs.length → d < xs.length → (f i d = true ↔ ¬ Av xs d i)) (h0 : 0 < xs.length) (e : Nat) (he : e < xs.length) : good f xs.length (xs.length - 1) e = false := by
  by_cases h1 : e = xs.length - 1
  · simp [good, h1]
  · have : f (xs.length - 1) e = false := by
      cases h : f (xs.length - 1) e with
      | false => rfl
      | true => exact absurd (.exit h0 (Ne.symm h1)) ((hf _ e (by omega) he).1 h)
    simp [good, this]
end Go.Proofs.Ytankppgafdcknaa.Gr

/- Printed for this claim by a program. -/
namespace Go.Proofs.Ytankppgafdcknaa.PDom
open Go.Proofs.Ytankppgafdcknaa.PPost
open Go.RowKit Go.Proofs.YtankppgafdcknaaW.PrintWords Go.Proofs.YtankppgafdcknaaW.PrintLast Go.Proofs.YtankppgafdcknaaW.PrintMore
attribute [local go_sem] max2_int min2_int max_two min_two max_three min_three max_four min_four   -- for this text's walks alone
set_option linter.unusedVariables false
set_option linter.unusedSimpArgs false

/-! ### billhooklaw10_DomLeast: function 7 -/
mutual
def billhooklaw10_DomLeast.j0 : Nat → Bool → List (List Int) → List (List Bool) → List Int → Int → Bool → Option (Bool)
  | 0, _, _, _, _, _, _ => none
  | k + 1, x5, x6, x7, x8, x9, x35 => if x35 = true then (some false) else (billhooklaw10_DomLeast.l0 k x5 x6 x7 x8 x9 0)
def billhooklaw10_DomLeast.l0 : Nat → Bool → List (List Int) → List (List Bool) → List Int → Int → Int → Option (Bool)
  | 0, _, _, _, _, _, _ => none
  | k + 1, x5, x6, x7, x8, x9, x10 => if x10 < x9 then (if 0 ≤ x10 then (if x10 < (x8.length : Int) then ((dom_Reach.f k x6 (([x10] : List Int))).bind fun t216 => (if (t216.length : Int) = x9 then (if x10 < (x7.length : Int) then (if ((rd_L2 x7 x10).length : Int) = x9 then (if x10 < (wrap64 (x9 - 1)) then (if 0 ≤ (wrap64 (x9 - 1)) then (if (wrap64 (x9 - 1)) < (t216.length : Int) then (billhooklaw10_DomLeast.j2 k x5 x6 x7 x8 x9 x10 (rd x8 x10) ((decide ((rd x8 x10) ≥ 0)) != (rdOf false t216 (wrap64 (x9 - 1))))) else (none)) else (none)) else (billhooklaw10_DomLeast.j2 k x5 x6 x7 x8 x9 x10 (rd x8 x10) ((decide ((rd x8 x10) ≥ 0)) != false))) else (billhooklaw10_DomLeast.j2 k x5 x6 x7 x8 x9 x10 (rd x8 x10) true)) else (none)) else (billhooklaw10_DomLeast.j2 k x5 x6 x7 x8 x9 x10 (rd x8 x10) true))) else (none)) else (none)) else (some x5)
def billhooklaw10_DomLeast.j2 : Nat → Bool → List (List Int) → List (List Bool) → List Int → Int → Int → Int → Bool → Option (Bool)
  | 0, _, _, _, _, _, _, _, _ => none
  | k + 1, x5, x6, x7, x8, x9, x10, x11, x77 => if x77 = true then (some false) else (if x11 < 0 then (billhooklaw10_DomLeast.l0 k x5 x6 x7 x8 x9 (wrap64 (x10 + 1))) else (if x11 ≥ x9 then (billhooklaw10_DomLeast.j3 k x5 x6 x7 x8 x9 x10 x11 true) else (if x11 = x10 then (billhooklaw10_DomLeast.j3 k x5 x6 x7 x8 x9 x10 x11 true) else (if 0 ≤ x10 then (if x10 < (x7.length : Int) then (if 0 ≤ x11 then (if x11 < ((rd_L2 x7 x10).length : Int) then (billhooklaw10_DomLeast.j3 k x5 x6 x7 x8 x9 x10 x11 (!(rdOf false (rd_L2 x7 x10) x11))) else (none)) else (none)) else (none)) else (none)))))
def billhooklaw10_DomLeast.j3 : Nat → Bool → List (List Int) → List (List Bool) → List Int → Int → Int → Int → Bool → Option (Bool)
  | 0, _, _, _, _, _, _, _, _ => none
  | k + 1, x5, x6, x7, x8, x9, x10, x11, x97 => if x97 = true then (some false) else (billhooklaw10_DomLeast.l1 k x5 x6 x7 x8 x9 x10 x11 0)
def billhooklaw10_DomLeast.l1 : Nat → Bool → List (List Int) → List (List Bool) → List Int → Int → Int → Int → Int → Option (Bool)
  | 0, _, _, _, _, _, _, _, _ => none
  | k + 1, x5, x6, x7, x8, x9, x10, x11, x13 => if x13 < x9 then (if x13 = x10 then (billhooklaw10_DomLeast.l1 k x5 x6 x7 x8 x9 x10 x11 (wrap64 (x13 + 1))) else (if x13 = x11 then (billhooklaw10_DomLeast.l1 k x5 x6 x7 x8 x9 x10 x11 (wrap64 (x13 + 1))) else (if 0 ≤ x10 then (if x10 < (x7.length : Int) then (if 0 ≤ x13 then (if x13 < ((rd_L2 x7 x10).length : Int) then (if rdOf false (rd_L2 x7 x10) x13 = true then (if 0 ≤ x11 then (if x11 < (x7.length : Int) then (if x13 < ((rd_L2 x7 x11).length : Int) then (if (rdOf false (rd_L2 x7 x11) x13 = true) then (billhooklaw10_DomLeast.l1 k x5 x6 x7 x8 x9 x10 x11 (wrap64 (x13 + 1))) else (some false)) else (none)) else (none)) else (none)) else (billhooklaw10_DomLeast.l1 k x5 x6 x7 x8 x9 x10 x11 (wrap64 (x13 + 1)))) else (none)) else (none)) else (none)) else (none)))) else (billhooklaw10_DomLeast.l0 k x5 x6 x7 x8 x9 (wrap64 (x10 + 1)))
end
def billhooklaw10_DomLeast.f (k : Nat) (l0 : List Int) (a1 : Int) : Option (Bool) := (billhooklaw10_examples.f).bind fun t202 => (if t202 = true then ((billhooklaw10_web.f k l0 a1).bind fun t203 => ((dom_Post.f k t203).bind fun t206 => ((dom_Least.f k t203).bind fun t209 => (if (t206.length : Int) = (t203.length : Int) then (billhooklaw10_DomLeast.j0 k t202 t203 t206 t209 (t203.length : Int) ((t209.length : Int) != (t203.length : Int))) else (billhooklaw10_DomLeast.j0 k t202 t203 t206 t209 (t203.length : Int) true))))) else (some false))
theorem billhooklaw10_DomLeast.mono_l : ∀ k, (∀ y0 y1 y2 y3 y4 y5, LeO (billhooklaw10_DomLeast.j0 k y0 y1 y2 y3 y4 y5) (billhooklaw10_DomLeast.j0 (k + 1) y0 y1 y2 y3 y4 y5)) ∧ (∀ y0 y1 y2 y3 y4 y5, LeO (billhooklaw10_DomLeast.l0 k y0 y1 y2 y3 y4 y5) (billhooklaw10_DomLeast.l0 (k + 1) y0 y1 y2 y3 y4 y5)) ∧ (∀ y0 y1 y2 y3 y4 y5 y6 y7, LeO (billhooklaw10_DomLeast.j2 k y0 y1 y2 y3 y4 y5 y6 y7) (billhooklaw10_DomLeast.j2 (k + 1) y0 y1 y2 y3 y4 y5 y6 y7)) ∧ (∀ y0 y1 y2 y3 y4 y5 y6 y7, LeO (billhooklaw10_DomLeast.j3 k y0 y1 y2 y3 y4 y5 y6 y7) (billhooklaw10_DomLeast.j3 (k + 1) y0 y1 y2 y3 y4 y5 y6 y7)) ∧ (∀ y0 y1 y2 y3 y4 y5 y6 y7, LeO (billhooklaw10_DomLeast.l1 k y0 y1 y2 y3 y4 y5 y6 y7) (billhooklaw10_DomLeast.l1 (k + 1) y0 y1 y2 y3 y4 y5 y6 y7))
  | 0 => ⟨fun _ _ _ _ _ _ r h => by simp [billhooklaw10_DomLeast.j0] at h, fun _ _ _ _ _ _ r h => by simp [billhooklaw10_DomLeast.l0] at h, fun _ _ _ _ _ _ _ _ r h => by simp [billhooklaw10_DomLeast.j2] at h, fun _ _ _ _ _ _ _ _ r h => by simp [billhooklaw10_DomLeast.j3] at h, fun _ _ _ _ _ _ _ _ r h => by simp [billhooklaw10_DomLeast.l1] at h⟩
  | k + 1 => by
    obtain ⟨ih0, ih1, ih2, ih3, ih4⟩ := billhooklaw10_DomLeast.mono_l k
    refine ⟨?_, ?_, ?_, ?_, ?_⟩
    · intro y0 y1 y2 y3 y4 y5
      unfold billhooklaw10_DomLeast.j0
      repeat' first
      | (with_reducible exact ih0 _ _ _ _ _ _)
      | (with_reducible exact ih1 _ _ _ _ _ _)
      | (with_reducible exact ih2 _ _ _ _ _ _ _ _)
      | (with_reducible exact ih3 _ _ _ _ _ _ _ _)
      | (with_reducible exact ih4 _ _ _ _ _ _ _ _)
      | (with_reducible exact billhooklaw10_web.mono _ _ _)
      | (with_reducible exact dom_Least.mono _ _)
      | (with_reducible exact dom_Post.mono _ _)
      | (with_reducible exact dom_Reach.mono _ _ _)
      | (with_reducible exact LeO.refl _)
      | (with_reducible exact LeO.none _)
      | (with_reducible refine LeO.ite ?_ ?_)
      | (with_reducible refine LeO.bind ?_ (fun _ => ?_))
      | exact ih0 _ _ _ _ _ _
      | exact ih1 _ _ _ _ _ _
      | exact ih2 _ _ _ _ _ _ _ _
      | exact ih3 _ _ _ _ _ _ _ _
      | exact ih4 _ _ _ _ _ _ _ _
      | exact billhooklaw10_web.mono _ _ _
      | exact dom_Least.mono _ _
      | exact dom_Post.mono _ _
      | exact dom_Reach.mono _ _ _
      | exact LeO.none _
      | refine LeO.ite ?_ ?_
      | refine LeO.bind ?_ (fun _ => ?_)
    · intro y0 y1 y2 y3 y4 y5
      unfold billhooklaw10_DomLeast.l0
      repeat' first
      | (with_reducible exact ih0 _ _ _ _ _ _)
      | (with_reducible exact ih1 _ _ _ _ _ _)
      | (with_reducible exact ih2 _ _ _ _ _ _ _ _)
      | (with_reducible exact ih3 _ _ _ _ _ _ _ _)
      | (with_reducible exact ih4 _ _ _ _ _ _ _ _)
      | (with_reducible exact billhooklaw10_web.mono _ _ _)
      | (with_reducible exact dom_Least.mono _ _)
      | (with_reducible exact dom_Post.mono _ _)
      | (with_reducible exact dom_Reach.mono _ _ _)
      | (with_reducible exact LeO.refl _)
      | (with_reducible exact LeO.none _)
      | (with_reducible refine LeO.ite ?_ ?_)
      | (with_reducible refine LeO.bind ?_ (fun _ => ?_))
      | exact ih0 _ _ _ _ _ _
      | exact ih1 _ _ _ _ _ _
      | exact ih2 _ _ _ _ _ _ _ _
      | exact ih3 _ _ _ _ _ _ _ _
      | exact ih4 _ _ _ _ _ _ _ _
      | exact billhooklaw10_web.mono _ _ _
      | exact dom_Least.mono _ _
      | exact dom_Post.mono _ _
      | exact dom_Reach.mono _ _ _
      | exact LeO.none _
      | refine LeO.ite ?_ ?_
      | refine LeO.bind ?_ (fun _ => ?_)
    · intro y0 y1 y2 y3 y4 y5 y6 y7
      unfold billhooklaw10_DomLeast.j2
      repeat' first
      | (with_reducible exact ih0 _ _ _ _ _ _)
      | (with_reducible exact ih1 _ _ _ _ _ _)
      | (with_reducible exact ih2 _ _ _ _ _ _ _ _)
      | (with_reducible exact ih3 _ _ _ _ _ _ _ _)
      | (with_reducible exact ih4 _ _ _ _ _ _ _ _)
      | (with_reducible exact billhooklaw10_web.mono _ _ _)
      | (with_reducible exact dom_Least.mono _ _)
      | (with_reducible exact dom_Post.mono _ _)
      | (with_reducible exact dom_Reach.mono _ _ _)
      | (with_reducible exact LeO.refl _)
      | (with_reducible exact LeO.none _)
      | (with_reducible refine LeO.ite ?_ ?_)
      | (with_reducible refine LeO.bind ?_ (fun _ => ?_))
      | exact ih0 _ _ _ _ _ _
      | exact ih1 _ _ _ _ _ _
      | exact ih2 _ _ _ _ _ _ _ _
      | exact ih3 _ _ _ _ _ _ _ _
      | exact ih4 _ _ _ _ _ _ _ _
      | exact billhooklaw10_web.mono _ _ _
      | exact dom_Least.mono _ _
      | exact dom_Post.mono _ _
      | exact dom_Reach.mono _ _ _
      | exact LeO.none _
      | refine LeO.ite ?_ ?_
      | refine LeO.bind ?_ (fun _ => ?_)
    · intro y0 y1 y2 y3 y4 y5 y6 y7
      unfold billhooklaw10_DomLeast.j3
      repeat' first
      | (with_reducible exact ih0 _ _ _ _ _ _)
      | (with_reducible exact ih1 _ _ _ _ _ _)
      | (with_reducible exact ih2 _ _ _ _ _ _ _ _)
      | (with_reducible exact ih3 _ _ _ _ _ _ _ _)
      | (with_reducible exact ih4 _ _ _ _ _ _ _ _)
      | (with_reducible exact billhooklaw10_web.mono _ _ _)
      | (with_reducible exact dom_Least.mono _ _)
      | (with_reducible exact dom_Post.mono _ _)
      | (with_reducible exact dom_Reach.mono _ _ _)
      | (with_reducible exact LeO.refl _)
      | (with_reducible exact LeO.none _)
      | (with_reducible refine LeO.ite ?_ ?_)
      | (with_reducible refine LeO.bind ?_ (fun _ => ?_))
      | exact ih0 _ _ _ _ _ _
      | exact ih1 _ _ _ _ _ _
      | exact ih2 _ _ _ _ _ _ _ _
      | exact ih3 _ _ _ _ _ _ _ _
      | exact ih4 _ _ _ _ _ _ _ _
      | exact billhooklaw10_web.mono _ _ _
      | exact dom_Least.mono _ _
      | exact dom_Post.mono _ _
      | exact dom_Reach.mono _ _ _
      | exact LeO.none _
      | refine LeO.ite ?_ ?_
      | refine LeO.bind ?_ (fun _ => ?_)
    · intro y0 y1 y2 y3 y4 y5 y6 y7
      unfold billhooklaw10_DomLeast.l1
      repeat' first
      | (with_reducible exact ih0 _ _ _ _ _ _)
      | (with_reducible exact ih1 _ _ _ _ _ _)
      | (with_reducible exact ih2 _ _ _ _ _ _ _ _)
      | (with_reducible exact ih3 _ _ _ _ _ _ _ _)
      | (with_reducible exact ih4 _ _ _ _ _ _ _ _)
      | (with_reducible exact billhooklaw10_web.mono _ _ _)
      | (with_reducible exact dom_Least.mono _ _)
      | (with_reducible exact dom_Post.mono _ _)
      | (with_reducible exact dom_Reach.mono _ _ _)
      | (with_reducible exact LeO.refl _)
      | (with_reducible exact LeO.none _)
      | (with_reducible refine LeO.ite ?_ ?_)
      | (with_reducible refine LeO.bind ?_ (fun _ => ?_))
      | exact ih0 _ _ _ _ _ _
      | exact ih1 _ _ _ _ _ _
      | exact ih2 _ _ _ _ _ _ _ _
      | exact ih3 _ _ _ _ _ _ _ _
      | exact ih4 _ _ _ _ _ _ _ _
      | exact billhooklaw10_web.mono _ _ _
      | exact dom_Least.mono _ _
      | exact dom_Post.mono _ _
      | exact dom_Reach.mono _ _ _
      | exact LeO.none _
      | refine LeO.ite ?_ ?_
      | refine LeO.bind ?_ (fun _ => ?_)
theorem billhooklaw10_DomLeast.mono : ∀ a0 a1 k, LeO (billhooklaw10_DomLeast.f k a0 a1) (billhooklaw10_DomLeast.f (k + 1) a0 a1) := by
  intro a0 a1 k
  obtain ⟨ih0, ih1, ih2, ih3, ih4⟩ := billhooklaw10_DomLeast.mono_l k
  unfold billhooklaw10_DomLeast.f
  repeat' first
      | (with_reducible exact ih0 _ _ _ _ _ _)
      | (with_reducible exact ih1 _ _ _ _ _ _)
      | (with_reducible exact ih2 _ _ _ _ _ _ _ _)
      | (with_reducible exact ih3 _ _ _ _ _ _ _ _)
      | (with_reducible exact ih4 _ _ _ _ _ _ _ _)
      | (with_reducible exact billhooklaw10_web.mono _ _ _)
      | (with_reducible exact dom_Least.mono _ _)
      | (with_reducible exact dom_Post.mono _ _)
      | (with_reducible exact dom_Reach.mono _ _ _)
      | (with_reducible exact LeO.refl _)
      | (with_reducible exact LeO.none _)
      | (with_reducible refine LeO.ite ?_ ?_)
      | (with_reducible refine LeO.bind ?_ (fun _ => ?_))
      | exact ih0 _ _ _ _ _ _
      | exact ih1 _ _ _ _ _ _
      | exact ih2 _ _ _ _ _ _ _ _
      | exact ih3 _ _ _ _ _ _ _ _
      | exact ih4 _ _ _ _ _ _ _ _
      | exact billhooklaw10_web.mono _ _ _
      | exact dom_Least.mono _ _
      | exact dom_Post.mono _ _
      | exact dom_Reach.mono _ _ _
      | exact LeO.none _
      | refine LeO.ite ?_ ?_
      | refine LeO.bind ?_ (fun _ => ?_)
set_option maxHeartbeats 8000000 in
set_option maxRecDepth 100000 in
theorem billhooklaw10_DomLeast.calls (k : Nat) (A0 : Option Addr) (c0 : Nat) (l0 : List Int) (a1 : Int) (r : Bool) (w : World) (hr0 : Kd.C (Kd.int .u8) w A0 l0.length l0) (hc0 : l0.length ≤ c0) (h : billhooklaw10_DomLeast.f k l0 a1 = some r) :
    Calls Try.prog 7 #[.slice A0 l0.length c0, .int .u8 a1] w fun e w' => e = .returned (.bool r) ∧ Below w.heap.size w w' := by
  have HR0 := Aside0.mk hr0
  have HC0 := Aside0.mk hc0
  clear hr0 hc0
  have HB := Aside0.mk (Below.refl w.heap.size w)
  have H : ((billhooklaw10_examples.f).bind fun t202 => (if t202 = true then ((billhooklaw10_web.f k l0 a1).bind fun t203 => ((dom_Post.f k t203).bind fun t206 => ((dom_Least.f k t203).bind fun t209 => (if (t206.length : Int) = (t203.length : Int) then (billhooklaw10_DomLeast.j0 k t202 t203 t206 t209 (t203.length : Int) ((t209.length : Int) != (t203.length : Int))) else (billhooklaw10_DomLeast.j0 k t202 t203 t206 t209 (t203.length : Int) true))))) else (some false))) = some r := h
  clear h
  replace H := Option.bind_eq_some_iff.mp H
  obtain ⟨t202, A30, H⟩ := H
  replace H : (if t202 = true then ((billhooklaw10_web.f k l0 a1).bind fun t203 => ((dom_Post.f k t203).bind fun t206 => ((dom_Least.f k t203).bind fun t209 => (if (t206.length : Int) = (t203.length : Int) then (billhooklaw10_DomLeast.j0 k t202 t203 t206 t209 (t203.length : Int) ((t209.length : Int) != (t203.length : Int))) else (billhooklaw10_DomLeast.j0 k t202 t203 t206 t209 (t203.length : Int) true))))) else (some false)) = some r := H
  have A3 := Aside0.mk A30
  clear A30
  by_cases c4 : t202 = true
  · subst c4
    have H1 : ((billhooklaw10_web.f k l0 a1).bind fun t203 => ((dom_Post.f k t203).bind fun t206 => ((dom_Least.f k t203).bind fun t209 => (if (t206.length : Int) = (t203.length : Int) then (billhooklaw10_DomLeast.j0 k true t203 t206 t209 (t203.length : Int) ((t209.length : Int) != (t203.length : Int))) else (billhooklaw10_DomLeast.j0 k true t203 t206 t209 (t203.length : Int) true))))) = some r := by first | (rw [if_pos rfl] at H; exact H) | (rw [if_pos trivial] at H; exact H)
    clear H
    have H := H1
    clear H1
    replace H := Option.bind_eq_some_iff.mp H
    obtain ⟨t203, A50, H⟩ := H
    replace H : ((dom_Post.f k t203).bind fun t206 => ((dom_Least.f k t203).bind fun t209 => (if (t206.length : Int) = (t203.length : Int) then (billhooklaw10_DomLeast.j0 k true t203 t206 t209 (t203.length : Int) ((t209.length : Int) != (t203.length : Int))) else (billhooklaw10_DomLeast.j0 k true t203 t206 t209 (t203.length : Int) true)))) = some r := H
    have A5 := Aside0.mk A50
    clear A50
    replace H := Option.bind_eq_some_iff.mp H
    obtain ⟨t206, A60, H⟩ := H
    replace H : ((dom_Least.f k t203).bind fun t209 => (if (t206.length : Int) = (t203.length : Int) then (billhooklaw10_DomLeast.j0 k true t203 t206 t209 (t203.length : Int) ((t209.length : Int) != (t203.length : Int))) else (billhooklaw10_DomLeast.j0 k true t203 t206 t209 (t203.length : Int) true))) = some r := H
    have A6 := Aside0.mk A60
    clear A60
    replace H := Option.bind_eq_some_iff.mp H
    obtain ⟨t209, A70, H⟩ := H
    replace H : (if (t206.length : Int) = (t203.length : Int) then (billhooklaw10_DomLeast.j0 k true t203 t206 t209 (t203.length : Int) ((t209.length : Int) != (t203.length : Int))) else (billhooklaw10_DomLeast.j0 k true t203 t206 t209 (t203.length : Int) true)) = some r := H
    have A7 := Aside0.mk A70
    clear A70
    have HC8 := Aside0.mk H
    clear H
    go_enter Try.func7, Try.ntmps7
    go_upto_region 8 with (first | ((with_reducible refine gate_callee (f := 26) rfl ?_); refine goesL_ (some 14) rfl rfl Try.func26 (by kernel_rfl) rfl #[] rfl (by (try simp only [List.map_toArray, List.map_cons, List.map_nil]); first | done | rfl | (simp only [List.length_drop, List.length_take]; rfl)) ?_; (with_reducible refine (billhooklaw10_examples.calls  true _ A3.out).mono ?_); rintro e w9 ⟨rfl, hb⟩; refine ⟨_, rfl, ?_⟩; have n0_ := Aside0.mk (below_step (by repeat (first | (with_reducible first | exact HB.out | apply below_alloc | apply pw_below_drewN | apply below_drew1) | exact HB.out)) hb); clear HB; have HB := n0_; clear n0_; (try clear hb); (try clear hb2); (try clear hk); (try clear hi)) | ((with_reducible refine gate_callee (f := 27) rfl ?_); refine goesL_ (some 19) rfl rfl Try.func27 (by kernel_rfl) rfl #[.slice A0 l0.length c0, .int .u8 a1] rfl (by (try simp only [List.map_toArray, List.map_cons, List.map_nil]); first | done | rfl | (simp only [List.length_drop, List.length_take]; rfl)) ?_; (with_reducible refine (billhooklaw10_web.calls k _ _ l0 a1 t203 _ ?side1 ?side2 A5.out).mono ?_); (case side1 => repeat (first | exact (Kd.C_below HR0.out HB.out) | (with_reducible refine Kd.C_alloc ?_ _) | (with_reducible refine Kd.C_drewN ?_ _) | (with_reducible refine Kd.C_drew ?_))); (case side2 => exact HC0.out); rintro e w10 ⟨v204, rfl, ho0, hb⟩; refine ⟨_, rfl, ?_⟩; have n0_ := Aside0.mk (Kd.S_lower ho0 (below_size (by repeat (first | (with_reducible first | exact HB.out | apply below_alloc | apply pw_below_drewN | apply below_drew1) | exact HB.out)))); have n1_ := Aside0.mk (below_step (by repeat (first | (with_reducible first | exact HB.out | apply below_alloc | apply pw_below_drewN | apply below_drew1) | exact HB.out)) hb); clear HB; have HO205 := n0_; have HB := n1_; clear n0_ n1_; (try clear hb); (try clear hb2); (try clear hk); (try clear hi); (try clear ho0); obtain ⟨Ao11, co11, eo11⟩ := Kd.S_slice HO205.out; subst eo11) | ((with_reducible refine gate_callee (f := 31) rfl ?_); refine goesL_ (some 21) rfl rfl Try.func31 (by kernel_rfl) rfl #[.slice Ao11 t203.length co11] rfl (by (try simp only [List.map_toArray, List.map_cons, List.map_nil]); first | done | rfl | (simp only [List.length_drop, List.length_take]; rfl)) ?_; (with_reducible refine (dom_Post.calls k _ _ t203 t206 _ ?side1 ?side2 A6.out).mono ?_); (case side1 => repeat (first | exact (Kd.S_reads' HO205.out).2.2 | (with_reducible refine Kd.C_alloc ?_ _) | (with_reducible refine Kd.C_drewN ?_ _) | (with_reducible refine Kd.C_drew ?_))); (case side2 => exact (Kd.S_reads' HO205.out).2.1); rintro e w12 ⟨v207, rfl, ho0, hb⟩; refine ⟨_, rfl, ?_⟩; have n0_ := Aside0.mk (Kd.S_below (by (with_reducible repeat (first | apply Kd.S_alloc | apply Kd.S_drewN | apply Kd.S_drew)); exact HO205.out) hb); have n1_ := Aside0.mk (Kd.S_lower ho0 (below_size (by repeat (first | (with_reducible first | exact HB.out | apply below_alloc | apply pw_below_drewN | apply below_drew1) | exact HB.out)))); have n2_ := Aside0.mk (below_step (by repeat (first | (with_reducible first | exact HB.out | apply below_alloc | apply pw_below_drewN | apply below_drew1) | exact HB.out)) hb); clear HO205; clear HB; have HO205 := n0_; have HO208 := n1_; have HB := n2_; clear n0_ n1_ n2_; (try clear hb); (try clear hb2); (try clear hk); (try clear hi); (try clear ho0)) | ((with_reducible refine gate_callee (f := 34) rfl ?_); refine goesL_ (some 23) rfl rfl Try.func34 (by kernel_rfl) rfl #[.slice Ao11 t203.length co11] rfl (by (try simp only [List.map_toArray, List.map_cons, List.map_nil]); first | done | rfl | (simp only [List.length_drop, List.length_take]; rfl)) ?_; (with_reducible refine (dom_Least.calls k _ _ t203 t209 _ ?side1 ?side2 A7.out).mono ?_); (case side1 => repeat (first | exact (Kd.S_reads' HO205.out).2.2 | (with_reducible refine Kd.C_alloc ?_ _) | (with_reducible refine Kd.C_drewN ?_ _) | (with_reducible refine Kd.C_drew ?_))); (case side2 => exact (Kd.S_reads' HO205.out).2.1); rintro e w13 ⟨v210, rfl, ho0, hb⟩; refine ⟨_, rfl, ?_⟩; have n0_ := Aside0.mk (Kd.S_elder' (by (with_reducible repeat (first | apply Kd.S_alloc | apply Kd.S_drewN | apply Kd.S_drew)); exact HO205.out) (Kd.R_base ho0) hb); have n1_ := Aside0.mk (Kd.S_below (by (with_reducible repeat (first | apply Kd.S_alloc | apply Kd.S_drewN | apply Kd.S_drew)); exact HO208.out) hb); have n2_ := Aside0.mk (Kd.R_lower ho0 (below_size (by repeat (first | (with_reducible first | exact HB.out | apply below_alloc | apply pw_below_drewN | apply below_drew1) | exact HB.out)))); have n3_ := Aside0.mk (below_step (by repeat (first | (with_reducible first | exact HB.out | apply below_alloc | apply pw_below_drewN | apply below_drew1) | exact HB.out)) hb); clear HO205; clear HO208; clear HB; have HO205 := n0_; have HO208 := n1_; have HO211 := n2_; have HB := n3_; clear n0_ n1_ n2_ n3_; (try clear hb); (try clear hb2); (try clear hk); (try clear hi); (try clear ho0)))
    (try simp only [Act.put, List.setIfInBounds_toArray, List.set_cons_zero, List.set_cons_succ])
    go_cut [35] (fun v35 wc => ∃ (kq : Nat) (x35_7 : Bool), v35 = .bool x35_7 ∧ Aside0 (billhooklaw10_DomLeast.j0 kq true t203 t206 t209 (t203.length : Int) x35_7 = some r) ∧ Aside0 (kq ≤ k) ∧ Aside0 (Kd.S (Kd.slice 3 (Kd.int .i64)) 54 wc w.heap.size (fun k_ => some k_ ≠ (v210 : Value).ownBlock) (.slice Ao11 t203.length co11) t203) ∧ Aside0 (Kd.S (Kd.slice 4 Kd.bool) 57 wc w.heap.size (fun _ => True) v207 t206) ∧ Aside0 (Kd.R (Kd.int .i64) 3 wc w.heap.size (fun _ => True) v210 t209) ∧ Aside0 (Below w.heap.size w wc))
    case first =>
      have H := HC8.out
      clear HC8
      by_cases c14 : (t206.length : Int) = (t203.length : Int)
      · rw [if_pos c14] at H
        have c14b0 : ((t206.length : Int) == (t203.length : Int)) = true := beq_iff_eq.mpr c14
        have c14b1 : ((t206.length : Int) != (t203.length : Int)) = false := bne_eq_false_iff_eq.mpr c14
        have c14b2 : (t206.length == t203.length) = true := by first | simpa using c14 | (simp at c14 ⊢; omega)
        clear c14
        (first | rw [c14b0] | (simp only [i64_w, i32_w]; rw [c14b0]) | skip)
        have H' := Aside0.mk H
        clear H
        obtain ⟨Ao15, co15, eo15⟩ := Kd.S_slice HO208.out
        subst eo15
        obtain ⟨Ao16, co16, eo16⟩ := Kd.R_slice HO211.out
        subst eo16
        go_wp2
        go_meet
        case rel => exact ⟨_, (((t209.length : Int) != (t203.length : Int))), (by first | rfl | (simp; done) | (simp [*]; done)), H', ⟨by first | omega | exact Nat.le_refl _⟩, ⟨by (with_reducible repeat (first | apply Kd.S_alloc | apply Kd.S_drewN | apply Kd.S_drew)); exact Kd.S_mono HO205.out (fun _ hk => hk.2)⟩, ⟨by (with_reducible repeat (first | apply Kd.S_alloc | apply Kd.S_drewN | apply Kd.S_drew)); exact HO208.out⟩, ⟨by (with_reducible repeat (first | apply Kd.R_alloc | apply Kd.R_drewN | apply Kd.R_drew)); exact HO211.out⟩, ⟨by repeat (first | (with_reducible first | exact HB.out | apply below_alloc | apply pw_below_drewN | apply below_drew1) | exact HB.out)⟩⟩
      · rw [if_neg c14] at H
        have c14b0 : ((t206.length : Int) == (t203.length : Int)) = false := beq_eq_false_iff_ne.mpr c14
        have c14b1 : ((t206.length : Int) != (t203.length : Int)) = true := bne_iff_ne.mpr c14
        have c14b2 : (t206.length == t203.length) = false := by first | simpa using c14 | (simp at c14 ⊢; omega)
        (first | rw [c14b0] | (simp only [i64_w, i32_w]; rw [c14b0]) | skip)
        have H' := Aside0.mk H
        clear H
        obtain ⟨Ao17, co17, eo17⟩ := Kd.S_slice HO208.out
        subst eo17
        go_wp2
        go_meet
        case rel => exact ⟨_, (true), (by first | rfl | (simp; done) | (simp [*]; done)), H', ⟨by first | omega | exact Nat.le_refl _⟩, ⟨by (with_reducible repeat (first | apply Kd.S_alloc | apply Kd.S_drewN | apply Kd.S_drew)); exact Kd.S_mono HO205.out (fun _ hk => hk.2)⟩, ⟨by (with_reducible repeat (first | apply Kd.S_alloc | apply Kd.S_drewN | apply Kd.S_drew)); exact HO208.out⟩, ⟨by (with_reducible repeat (first | apply Kd.R_alloc | apply Kd.R_drewN | apply Kd.R_drew)); exact HO211.out⟩, ⟨by repeat (first | (with_reducible first | exact HB.out | apply below_alloc | apply pw_below_drewN | apply below_drew1) | exact HB.out)⟩⟩
    case rest =>
      clear HC8
      try clear c1
      try clear c2
      try clear p2
      try clear c3
      try clear c4
      try clear c7
      try clear c14
      try clear c14b0
      try clear c14b1
      try clear c14b2
      obtain ⟨kq, x35_7, rfl, HA, HJ7, HO_6, HO_7, HO_8, HB⟩ := hcut
      cases kq with
      | zero => exact absurd HA.out (by simp [billhooklaw10_DomLeast.j0])
      | succ kj7 =>
        have H := HA.out
        clear HA
        simp only [billhooklaw10_DomLeast.j0] at H
        by_cases c18 : x35_7 = true
        · subst c18
          have H1 : (some false) = some r := by first | (rw [if_pos rfl] at H; exact H) | (rw [if_pos trivial] at H; exact H)
          clear H
          have H := H1
          clear H1
          obtain rfl := Option.some.inj H
          go_wp2
          go_ret
          exact ⟨by first | rfl | (simp [errW_none, errW_some] <;> rfl) | (simp [*, errW_none, errW_some] <;> rfl), by repeat (first | (with_reducible first | exact HB.out | apply below_alloc | apply pw_below_drewN | apply below_drew1) | exact HB.out)⟩
        · replace c18 := Bool.eq_false_iff.mpr c18
          subst c18
          have H1 : (billhooklaw10_DomLeast.l0 kj7 true t203 t206 t209 (t203.length : Int) 0) = some r := by rw [if_neg (show ¬ (false = true) by decide)] at H; exact H
          clear H
          have H := H1
          clear H1
          have H' := Aside0.mk H
          clear H
          go_wp2
          go_loopg [10] kj7 (fun kq v10 w' => ∃ (x10_2 : Int), v10 = .int .i64 x10_2 ∧ Aside0 (billhooklaw10_DomLeast.l0 kq true t203 t206 t209 (t203.length : Int) x10_2 = some r) ∧ Aside0 (kq ≤ kj7) ∧ Aside0 (Kd.S (Kd.slice 3 (Kd.int .i64)) 54 w' w.heap.size (fun k_ => some k_ ≠ (v210 : Value).ownBlock) (.slice Ao11 t203.length co11) t203) ∧ Aside0 (Kd.S (Kd.slice 4 Kd.bool) 57 w' w.heap.size (fun _ => True) v207 t206) ∧ Aside0 (Kd.R (Kd.int .i64) 3 w' w.heap.size (fun _ => True) v210 t209) ∧ Aside0 (Below w.heap.size w w'))
          case atStart => exact ⟨(0), (by first | rfl | (simp; done) | (simp [*]; done)), H', ⟨Nat.le_refl _⟩, ⟨by (with_reducible repeat (first | apply Kd.S_alloc | apply Kd.S_drewN | apply Kd.S_drew)); exact HO_6.out⟩, ⟨by (with_reducible repeat (first | apply Kd.S_alloc | apply Kd.S_drewN | apply Kd.S_drew)); exact HO_7.out⟩, ⟨by (with_reducible repeat (first | apply Kd.R_alloc | apply Kd.R_drewN | apply Kd.R_drew)); exact HO_8.out⟩, ⟨by repeat (first | (with_reducible first | exact HB.out | apply below_alloc | apply pw_below_drewN | apply below_drew1) | exact HB.out)⟩⟩
          case round =>
            clear H'
            try clear c1
            try clear c2
            try clear p2
            try clear c3
            try clear c4
            try clear c7
            try clear c14
            try clear c14b0
            try clear c14b1
            try clear c14b2
            try clear c18
            try clear p2
            obtain ⟨x10_2, rfl, HA, HK2, HO_6, HO_7, HO_8, HB⟩ := hrel
            cases gk with
            | zero => exact absurd HA.out (by simp [billhooklaw10_DomLeast.l0])
            | succ k2 =>
              have H := HA.out
              clear HA
              simp only [billhooklaw10_DomLeast.l0] at H
              by_cases c19 : x10_2 < (t203.length : Int)
              · rw [if_pos c19] at H
                have c19b0 : decide (x10_2 < (t203.length : Int)) = true := decide_eq_true c19
                clear c19
                by_cases c20 : 0 ≤ x10_2
                · rw [if_pos c20] at H
                  have c20b0 : decide (0 ≤ x10_2) = true := decide_eq_true c20
                  clear c20
                  by_cases c21 : x10_2 < (t209.length : Int)
                  · rw [if_pos c21] at H
                    have c21b0 : decide (x10_2 < (t209.length : Int)) = true := decide_eq_true c21
                    clear c21
                    obtain ⟨y213, hy213⟩ : ∃ y_ : List Int, y_ = (([x10_2] : List Int)) := ⟨_, rfl⟩
                    replace H : ((dom_Reach.f k2 t203 y213).bind fun t216 => (if (t216.length : Int) = (t203.length : Int) then (if x10_2 < (t206.length : Int) then (if ((rd_L2 t206 x10_2).length : Int) = (t203.length : Int) then (if x10_2 < (wrap64 ((t203.length : Int) - 1)) then (if 0 ≤ (wrap64 ((t203.length : Int) - 1)) then (if (wrap64 ((t203.length : Int) - 1)) < (t216.length : Int) then (billhooklaw10_DomLeast.j2 k2 true t203 t206 t209 (t203.length : Int) x10_2 (rd t209 x10_2) ((decide ((rd t209 x10_2) ≥ 0)) != (rdOf false t216 (wrap64 ((t203.length : Int) - 1))))) else (none)) else (none)) else (billhooklaw10_DomLeast.j2 k2 true t203 t206 t209 (t203.length : Int) x10_2 (rd t209 x10_2) ((decide ((rd t209 x10_2) ≥ 0)) != false))) else (billhooklaw10_DomLeast.j2 k2 true t203 t206 t209 (t203.length : Int) x10_2 (rd t209 x10_2) true)) else (none)) else (billhooklaw10_DomLeast.j2 k2 true t203 t206 t209 (t203.length : Int) x10_2 (rd t209 x10_2) true))) = some r := by first | (rw [hy213]; with_reducible exact H) | (have H2_ := (Option.bind_some _ _).symm.trans H; rw [hy213]; with_reducible exact H2_) | (have H2_ := (Option.bind_some _ _).symm.trans H; with_reducible exact H2_) | with_reducible exact H | (rw [hy213]; exact H) | exact H
                    have Ny213 := Aside0.mk hy213
                    clear hy213
                    replace H := Option.bind_eq_some_iff.mp H
                    obtain ⟨t216, A220, H⟩ := H
                    replace H : (if (t216.length : Int) = (t203.length : Int) then (if x10_2 < (t206.length : Int) then (if ((rd_L2 t206 x10_2).length : Int) = (t203.length : Int) then (if x10_2 < (wrap64 ((t203.length : Int) - 1)) then (if 0 ≤ (wrap64 ((t203.length : Int) - 1)) then (if (wrap64 ((t203.length : Int) - 1)) < (t216.length : Int) then (billhooklaw10_DomLeast.j2 k2 true t203 t206 t209 (t203.length : Int) x10_2 (rd t209 x10_2) ((decide ((rd t209 x10_2) ≥ 0)) != (rdOf false t216 (wrap64 ((t203.length : Int) - 1))))) else (none)) else (none)) else (billhooklaw10_DomLeast.j2 k2 true t203 t206 t209 (t203.length : Int) x10_2 (rd t209 x10_2) ((decide ((rd t209 x10_2) ≥ 0)) != false))) else (billhooklaw10_DomLeast.j2 k2 true t203 t206 t209 (t203.length : Int) x10_2 (rd t209 x10_2) true)) else (none)) else (billhooklaw10_DomLeast.j2 k2 true t203 t206 t209 (t203.length : Int) x10_2 (rd t209 x10_2) true)) = some r := H
                    have A22 := Aside0.mk A220
                    clear A220
                    have HC23 := Aside0.mk H
                    clear H
                    obtain ⟨Ao24, co24, eo24⟩ := Kd.R_slice HO_8.out
                    subst eo24
                    have p212 : 0 ≤ (x10_2 : Int) := of_decide_eq_true (by first | (with_reducible assumption) | assumption)
                    have q212 : x10_2 < (t209.length : Int) := of_decide_eq_true (by first | (with_reducible assumption) | assumption)
                    obtain ⟨ad212, e212, hx212_0⟩ := Kd.at_int (Kd.R_reads' HO_8.out).2.2 x10_2 p212 q212
                    cases e212
                    replace p212 := eq_true p212
                    replace q212 := eq_true q212
                    go_upto_region 15 with (first | ((with_reducible refine gate_dst (N := 47) rfl ?_); (try (refine gate_guard (by rfl) ?_; dsimp only)); refine Kd.R_lit (Kd.int .i64) _ 3 ?hg (N := 47) ?hd (xs := ([x10_2] : List Int)) (inner := [.int .i64 x10_2]) (ok := fun _ => True) (okp := fun _ => True) ?hr ?hp (fun _ hk => hk) trivial (Below.refl _ _) (Nat.le_refl _) (by simp) ?_; (case hd => rfl); (case hg => rfl); (case hr => first | (go_simp; done) | (go_simp; rfl)); (case hp => exact (Reps.one (show Kd.M (Kd.int .i64) _ _ _ x10_2 [.int .i64 x10_2] from rfl) (Reps.none _ _))); intro v214 w25 ho26 hb hg_ hnew_; clear hg_ hnew_; (first | rw [← Ny213.out] at ho26 | (simp only [Int.reduceToNat] at ho26; rw [← Ny213.out] at ho26)); have n0_ := Aside0.mk (Kd.S_elder' (by (with_reducible repeat (first | apply Kd.S_alloc | apply Kd.S_drewN | apply Kd.S_drew)); exact HO_6.out) (Kd.R_base ho26) hb); have n1_ := Aside0.mk (Kd.S_below (by (with_reducible repeat (first | apply Kd.S_alloc | apply Kd.S_drewN | apply Kd.S_drew)); exact HO_7.out) hb); have n2_ := Aside0.mk (Kd.R_elder' (by (with_reducible repeat (first | apply Kd.R_alloc | apply Kd.R_drewN | apply Kd.R_drew)); exact HO_8.out) (Kd.R_base ho26) hb); have n3_ := Aside0.mk (Kd.R_lower (Kd.R_new' ho26 (Kd.R_lt (by (with_reducible repeat (first | apply Kd.R_alloc | apply Kd.R_drewN | apply Kd.R_drew)); exact HO_8.out))) (below_size (by repeat (first | (with_reducible first | exact HB.out | apply below_alloc | apply pw_below_drewN | apply below_drew1) | exact HB.out)))); have n4_ := Aside0.mk (below_step (by repeat (first | (with_reducible first | exact HB.out | apply below_alloc | apply pw_below_drewN | apply below_drew1) | exact HB.out)) hb); clear HO_6; clear HO_7; clear HO_8; clear HB; have HO_6 := n0_; have HO_7 := n1_; have HO_8 := n2_; have HO215 := n3_; have HB := n4_; clear n0_ n1_ n2_ n3_ n4_; clear hb ho26; obtain ⟨Ao27, co27, eo27⟩ := Kd.R_slice HO215.out; subst eo27) | ((with_reducible refine gate_callee (f := 29) rfl ?_); refine goesL_ (some 48) rfl rfl Try.func29 (by kernel_rfl) rfl #[.slice Ao11 t203.length co11, .slice Ao27 y213.length co27] rfl (by (try simp only [List.map_toArray, List.map_cons, List.map_nil]); first | done | rfl | (simp only [List.length_drop, List.length_take]; rfl)) ?_; (with_reducible refine (dom_Reach.calls k2 _ _ t203 _ _ y213 t216 _ ?side1 ?side2 ?side3 ?side4 A22.out).mono ?_); (case side1 => repeat (first | exact (Kd.S_reads' HO_6.out).2.2 | (with_reducible refine Kd.C_alloc ?_ _) | (with_reducible refine Kd.C_drewN ?_ _) | (with_reducible refine Kd.C_drew ?_))); (case side2 => exact (Kd.S_reads' HO_6.out).2.1); (case side3 => repeat (first | exact (Kd.R_reads' HO215.out).2.2 | (with_reducible refine Kd.C_alloc ?_ _) | (with_reducible refine Kd.C_drewN ?_ _) | (with_reducible refine Kd.C_drew ?_))); (case side4 => exact (Kd.R_reads' HO215.out).2.1); rintro e w28 ⟨v217, rfl, ho0, hb⟩; refine ⟨_, rfl, ?_⟩; have n0_ := Aside0.mk (Kd.S_below (by (with_reducible repeat (first | apply Kd.S_alloc | apply Kd.S_drewN | apply Kd.S_drew)); exact HO_6.out) hb); have n1_ := Aside0.mk (Kd.S_elder' (by (with_reducible repeat (first | apply Kd.S_alloc | apply Kd.S_drewN | apply Kd.S_drew)); exact HO_7.out) (Kd.R_base ho0) hb); have n2_ := Aside0.mk (Kd.R_below (by (with_reducible repeat (first | apply Kd.R_alloc | apply Kd.R_drewN | apply Kd.R_drew)); exact HO_8.out) hb); have n3_ := Aside0.mk (Kd.R_below (by (with_reducible repeat (first | apply Kd.R_alloc | apply Kd.R_drewN | apply Kd.R_drew)); exact HO215.out) hb); have n4_ := Aside0.mk (Kd.R_lower ho0 (below_size (by repeat (first | (with_reducible first | exact HB.out | apply below_alloc | apply pw_below_drewN | apply below_drew1) | exact HB.out)))); have n5_ := Aside0.mk (below_step (by repeat (first | (with_reducible first | exact HB.out | apply below_alloc | apply pw_below_drewN | apply below_drew1) | exact HB.out)) hb); clear HO_6; clear HO_7; clear HO_8; clear HO215; clear HB; have HO_6 := n0_; have HO_7 := n1_; have HO_8 := n2_; have HO215 := n3_; have HO218 := n4_; have HB := n5_; clear n0_ n1_ n2_ n3_ n4_ n5_; (try clear hb); (try clear hb2); (try clear hk); (try clear hi); (try clear ho0)))
                    (try simp only [Act.put, List.setIfInBounds_toArray, List.set_cons_zero, List.set_cons_succ])
                    go_cut [77] (fun v77 wc => ∃ (kq : Nat) (x77_22 : Bool), v77 = .bool x77_22 ∧ Aside0 (billhooklaw10_DomLeast.j2 kq true t203 t206 t209 (t203.length : Int) x10_2 (rd t209 x10_2) x77_22 = some r) ∧ Aside0 (kq ≤ k2) ∧ Aside0 (Kd.S (Kd.slice 3 (Kd.int .i64)) 54 wc w.heap.size (fun k_ => some k_ ≠ ((.slice (some ad212) t209.length co24) : Value).ownBlock) (.slice Ao11 t203.length co11) t203) ∧ Aside0 (Kd.S (Kd.slice 4 Kd.bool) 57 wc w.heap.size (fun _ => True) v207 t206) ∧ Aside0 (Kd.R (Kd.int .i64) 3 wc w.heap.size (fun _ => True) (.slice (some ad212) t209.length co24) t209) ∧ Aside0 (Below w.heap.size w wc))
                    case first =>
                      have H := HC23.out
                      clear HC23
                      by_cases c29 : (t216.length : Int) = (t203.length : Int)
                      · rw [if_pos c29] at H
                        have c29b0 : ((t216.length : Int) == (t203.length : Int)) = true := beq_iff_eq.mpr c29
                        have c29b1 : ((t216.length : Int) != (t203.length : Int)) = false := bne_eq_false_iff_eq.mpr c29
                        have c29b2 : (t216.length == t203.length) = true := by first | simpa using c29 | (simp at c29 ⊢; omega)
                        clear c29
                        (first | rw [c29b0] | (simp only [i64_w, i32_w]; rw [c29b0]) | skip)
                        by_cases c30 : x10_2 < (t206.length : Int)
                        · rw [if_pos c30] at H
                          have c30b0 : decide (x10_2 < (t206.length : Int)) = true := decide_eq_true c30
                          clear c30
                          by_cases c31 : ((rd_L2 t206 x10_2).length : Int) = (t203.length : Int)
                          · rw [if_pos c31] at H
                            have c31b0 : (((rd_L2 t206 x10_2).length : Int) == (t203.length : Int)) = true := beq_iff_eq.mpr c31
                            have c31b1 : (((rd_L2 t206 x10_2).length : Int) != (t203.length : Int)) = false := bne_eq_false_iff_eq.mpr c31
                            have c31b2 : ((rd_L2 t206 x10_2).length == t203.length) = true := by first | simpa using c31 | (simp at c31 ⊢; omega)
                            clear c31
                            by_cases c32 : x10_2 < (wrap64 ((t203.length : Int) - 1))
                            · rw [if_pos c32] at H
                              have c32b0 : decide (x10_2 < (wrap64 ((t203.length : Int) - 1))) = true := decide_eq_true c32
                              clear c32
                              obtain ⟨ji33, hji33⟩ : ∃ j_ : Int, (wrap64 ((t203.length : Int) - 1)) = j_ := ⟨_, rfl⟩
                              replace H : (if 0 ≤ (ji33) then (if (ji33) < (t216.length : Int) then (billhooklaw10_DomLeast.j2 k2 true t203 t206 t209 (t203.length : Int) x10_2 (rd t209 x10_2) ((decide ((rd t209 x10_2) ≥ 0)) != (rdOf false t216 (ji33)))) else (none)) else (none)) = some r := by first | (rw [hji33] at H; exact H) | (simp only [hji33] at H ⊢; exact H)
                              (try rw [hji33] at c32b0)
                              have hji33w : (IntKind.i64.wrap ((t203.length : Int) - 1)) = ji33 := (i64_w _).trans hji33
                              by_cases c34 : 0 ≤ (ji33)
                              · rw [if_pos c34] at H
                                have c34b0 : decide (0 ≤ (ji33)) = true := decide_eq_true c34
                                clear c34
                                by_cases c35 : (ji33) < (t216.length : Int)
                                · rw [if_pos c35] at H
                                  have c35b0 : decide ((ji33) < (t216.length : Int)) = true := decide_eq_true c35
                                  clear c35
                                  have H' := Aside0.mk H
                                  clear H
                                  obtain ⟨Ao36, co36, eo36⟩ := Kd.R_slice HO218.out
                                  subst eo36
                                  obtain ⟨Ao37, co37, eo37⟩ := Kd.S_slice HO_7.out
                                  subst eo37
                                  have p219 : 0 ≤ (x10_2 : Int) := of_decide_eq_true (by first | (with_reducible assumption) | assumption)
                                  have q219 : x10_2 < (t206.length : Int) := of_decide_eq_true (by first | (with_reducible assumption) | assumption)
                                  obtain ⟨ad219, A219_0, c219_0, e219, hx219_0, hl219_0, hi219_0⟩ := at_L2 (Kd.S_reads' HO_7.out).2.2 x10_2 p219 q219
                                  cases e219
                                  obtain ⟨ce219, hce219, hMe219, hcc219⟩ := Kd.S_get HO_7.out [] x10_2 p219 (by first | exact q219 | exact of_decide_eq_true (by first | (with_reducible assumption) | assumption) | (have e_ := (Kd.S_reads' HO_7.out).1; omega))
                                  obtain ⟨ve219_0, rfl, ge219_0⟩ := hMe219
                                  have hv219_0 := hcc219 0 _ rfl
                                  rw [Nat.add_zero, show ((Kd.slice 4 Kd.bool)).sz = 1 from rfl, Nat.mul_one] at hv219_0
                                  replace hv219_0 := Option.some.inj (hv219_0.symm.trans hx219_0)
                                  rw [hv219_0] at ge219_0
                                  have HL219_0 := Aside0.mk (show Kd.R Kd.bool 4 _ _ _ _ (rd_L2 t206 x10_2) from ge219_0)
                                  clear hv219_0 ge219_0
                                  clear hcc219 hce219
                                  have HR219_0 := Aside0.mk hi219_0
                                  have HC219_0 := Aside0.mk hl219_0
                                  clear hi219_0 hl219_0
                                  replace p219 := eq_true p219
                                  replace q219 := eq_true q219
                                  have p220 : 0 ≤ ((ji33) : Int) := of_decide_eq_true (by first | (with_reducible assumption) | assumption)
                                  have q220 : (ji33) < (t216.length : Int) := of_decide_eq_true (by first | (with_reducible assumption) | assumption)
                                  obtain ⟨ad220, e220, hx220_0⟩ := Kd.at_bool (Kd.R_reads' HO218.out).2.2 (ji33) p220 q220
                                  cases e220
                                  replace p220 := eq_true p220
                                  replace q220 := eq_true q220
                                  go_wp2
                                  go_meet
                                  case rel => exact ⟨_, (((decide ((rd t209 x10_2) ≥ 0)) != (rdOf false t216 (ji33)))), (by first | rfl | (simp; done) | (simp only [← hji33] <;> (first | rfl | simp)) | (simp [*]; done)), H', ⟨by have := HJ7.out; have := HK2.out; first | omega | exact Nat.le_refl _⟩, ⟨by (with_reducible repeat (first | apply Kd.S_alloc | apply Kd.S_drewN | apply Kd.S_drew)); exact Kd.S_mono HO_6.out (fun _ hk => hk.1)⟩, ⟨by (with_reducible repeat (first | apply Kd.S_alloc | apply Kd.S_drewN | apply Kd.S_drew)); exact Kd.S_mono HO_7.out (fun _ hk => trivial)⟩, ⟨by (with_reducible repeat (first | apply Kd.R_alloc | apply Kd.R_drewN | apply Kd.R_drew)); exact Kd.R_mono HO_8.out (fun _ hk => trivial)⟩, ⟨by repeat (first | (with_reducible first | exact HB.out | apply below_alloc | apply pw_below_drewN | apply below_drew1) | exact HB.out)⟩⟩
                                · rw [if_neg c35] at H
                                  exact absurd H (by simp)
                              · rw [if_neg c34] at H
                                exact absurd H (by simp)
                            · rw [if_neg c32] at H
                              have c32b0 : decide (x10_2 < (wrap64 ((t203.length : Int) - 1))) = false := decide_eq_false c32
                              clear c32
                              have H' := Aside0.mk H
                              clear H
                              obtain ⟨Ao38, co38, eo38⟩ := Kd.R_slice HO218.out
                              subst eo38
                              obtain ⟨Ao39, co39, eo39⟩ := Kd.S_slice HO_7.out
                              subst eo39
                              have p219 : 0 ≤ (x10_2 : Int) := of_decide_eq_true (by first | (with_reducible assumption) | assumption)
                              have q219 : x10_2 < (t206.length : Int) := of_decide_eq_true (by first | (with_reducible assumption) | assumption)
                              obtain ⟨ad219, A219_0, c219_0, e219, hx219_0, hl219_0, hi219_0⟩ := at_L2 (Kd.S_reads' HO_7.out).2.2 x10_2 p219 q219
                              cases e219
                              obtain ⟨ce219, hce219, hMe219, hcc219⟩ := Kd.S_get HO_7.out [] x10_2 p219 (by first | exact q219 | exact of_decide_eq_true (by first | (with_reducible assumption) | assumption) | (have e_ := (Kd.S_reads' HO_7.out).1; omega))
                              obtain ⟨ve219_0, rfl, ge219_0⟩ := hMe219
                              have hv219_0 := hcc219 0 _ rfl
                              rw [Nat.add_zero, show ((Kd.slice 4 Kd.bool)).sz = 1 from rfl, Nat.mul_one] at hv219_0
                              replace hv219_0 := Option.some.inj (hv219_0.symm.trans hx219_0)
                              rw [hv219_0] at ge219_0
                              have HL219_0 := Aside0.mk (show Kd.R Kd.bool 4 _ _ _ _ (rd_L2 t206 x10_2) from ge219_0)
                              clear hv219_0 ge219_0
                              clear hcc219 hce219
                              have HR219_0 := Aside0.mk hi219_0
                              have HC219_0 := Aside0.mk hl219_0
                              clear hi219_0 hl219_0
                              replace p219 := eq_true p219
                              replace q219 := eq_true q219
                              go_wp2
                              go_meet
                              case rel => exact ⟨_, (((decide ((rd t209 x10_2) ≥ 0)) != false)), (by first | rfl | (simp; done) | (simp [*]; done)), H', ⟨by have := HJ7.out; have := HK2.out; first | omega | exact Nat.le_refl _⟩, ⟨by (with_reducible repeat (first | apply Kd.S_alloc | apply Kd.S_drewN | apply Kd.S_drew)); exact Kd.S_mono HO_6.out (fun _ hk => hk.1)⟩, ⟨by (with_reducible repeat (first | apply Kd.S_alloc | apply Kd.S_drewN | apply Kd.S_drew)); exact Kd.S_mono HO_7.out (fun _ hk => trivial)⟩, ⟨by (with_reducible repeat (first | apply Kd.R_alloc | apply Kd.R_drewN | apply Kd.R_drew)); exact Kd.R_mono HO_8.out (fun _ hk => trivial)⟩, ⟨by repeat (first | (with_reducible first | exact HB.out | apply below_alloc | apply pw_below_drewN | apply below_drew1) | exact HB.out)⟩⟩
                          · rw [if_neg c31] at H
                            have c31b0 : (((rd_L2 t206 x10_2).length : Int) == (t203.length : Int)) = false := beq_eq_false_iff_ne.mpr c31
                            have c31b1 : (((rd_L2 t206 x10_2).length : Int) != (t203.length : Int)) = true := bne_iff_ne.mpr c31
                            have c31b2 : ((rd_L2 t206 x10_2).length == t203.length) = false := by first | simpa using c31 | (simp at c31 ⊢; omega)
                            have H' := Aside0.mk H
                            clear H
                            obtain ⟨Ao40, co40, eo40⟩ := Kd.R_slice HO218.out
                            subst eo40
                            obtain ⟨Ao41, co41, eo41⟩ := Kd.S_slice HO_7.out
                            subst eo41
                            have p219 : 0 ≤ (x10_2 : Int) := of_decide_eq_true (by first | (with_reducible assumption) | assumption)
                            have q219 : x10_2 < (t206.length : Int) := of_decide_eq_true (by first | (with_reducible assumption) | assumption)
                            obtain ⟨ad219, A219_0, c219_0, e219, hx219_0, hl219_0, hi219_0⟩ := at_L2 (Kd.S_reads' HO_7.out).2.2 x10_2 p219 q219
                            cases e219
                            obtain ⟨ce219, hce219, hMe219, hcc219⟩ := Kd.S_get HO_7.out [] x10_2 p219 (by first | exact q219 | exact of_decide_eq_true (by first | (with_reducible assumption) | assumption) | (have e_ := (Kd.S_reads' HO_7.out).1; omega))
                            obtain ⟨ve219_0, rfl, ge219_0⟩ := hMe219
                            have hv219_0 := hcc219 0 _ rfl
                            rw [Nat.add_zero, show ((Kd.slice 4 Kd.bool)).sz = 1 from rfl, Nat.mul_one] at hv219_0
                            replace hv219_0 := Option.some.inj (hv219_0.symm.trans hx219_0)
                            rw [hv219_0] at ge219_0
                            have HL219_0 := Aside0.mk (show Kd.R Kd.bool 4 _ _ _ _ (rd_L2 t206 x10_2) from ge219_0)
                            clear hv219_0 ge219_0
                            clear hcc219 hce219
                            have HR219_0 := Aside0.mk hi219_0
                            have HC219_0 := Aside0.mk hl219_0
                            clear hi219_0 hl219_0
                            replace p219 := eq_true p219
                            replace q219 := eq_true q219
                            go_wp2
                            go_meet
                            case rel => exact ⟨_, (true), (by first | rfl | (simp; done) | (simp [*]; done)), H', ⟨by have := HJ7.out; have := HK2.out; first | omega | exact Nat.le_refl _⟩, ⟨by (with_reducible repeat (first | apply Kd.S_alloc | apply Kd.S_drewN | apply Kd.S_drew)); exact Kd.S_mono HO_6.out (fun _ hk => hk.1)⟩, ⟨by (with_reducible repeat (first | apply Kd.S_alloc | apply Kd.S_drewN | apply Kd.S_drew)); exact Kd.S_mono HO_7.out (fun _ hk => trivial)⟩, ⟨by (with_reducible repeat (first | apply Kd.R_alloc | apply Kd.R_drewN | apply Kd.R_drew)); exact Kd.R_mono HO_8.out (fun _ hk => trivial)⟩, ⟨by repeat (first | (with_reducible first | exact HB.out | apply below_alloc | apply pw_below_drewN | apply below_drew1) | exact HB.out)⟩⟩
                        · rw [if_neg c30] at H
                          exact absurd H (by simp)
                      · rw [if_neg c29] at H
                        have c29b0 : ((t216.length : Int) == (t203.length : Int)) = false := beq_eq_false_iff_ne.mpr c29
                        have c29b1 : ((t216.length : Int) != (t203.length : Int)) = true := bne_iff_ne.mpr c29
                        have c29b2 : (t216.length == t203.length) = false := by first | simpa using c29 | (simp at c29 ⊢; omega)
                        (first | rw [c29b0] | (simp only [i64_w, i32_w]; rw [c29b0]) | skip)
                        have H' := Aside0.mk H
                        clear H
                        obtain ⟨Ao42, co42, eo42⟩ := Kd.R_slice HO218.out
                        subst eo42
                        go_wp2
                        go_meet
                        case rel => exact ⟨_, (true), (by first | rfl | (simp; done) | (simp [*]; done)), H', ⟨by have := HJ7.out; have := HK2.out; first | omega | exact Nat.le_refl _⟩, ⟨by (with_reducible repeat (first | apply Kd.S_alloc | apply Kd.S_drewN | apply Kd.S_drew)); exact Kd.S_mono HO_6.out (fun _ hk => hk.1)⟩, ⟨by (with_reducible repeat (first | apply Kd.S_alloc | apply Kd.S_drewN | apply Kd.S_drew)); exact Kd.S_mono HO_7.out (fun _ hk => trivial)⟩, ⟨by (with_reducible repeat (first | apply Kd.R_alloc | apply Kd.R_drewN | apply Kd.R_drew)); exact Kd.R_mono HO_8.out (fun _ hk => trivial)⟩, ⟨by repeat (first | (with_reducible first | exact HB.out | apply below_alloc | apply pw_below_drewN | apply below_drew1) | exact HB.out)⟩⟩
                    case rest =>
                      clear HC23
                      try clear c1
                      try clear c2
                      try clear p2
                      try clear q2
                      try clear hx2
                      try clear c3
                      try clear c4
                      try clear p6
                      try clear c7
                      try clear c14
                      try clear c14b0
                      try clear c14b1
                      try clear c14b2
                      try clear c18
                      try clear c19
                      try clear c19b0
                      try clear c20
                      try clear c20b0
                      try clear c21
                      try clear c21b0
                      try clear p21
                      try clear q21
                      try clear hx21
                      try clear p22
                      try clear q22
                      try clear hx22
                      try clear c26
                      try clear c27
                      try clear c29
                      try clear c29b0
                      try clear c29b1
                      try clear c29b2
                      try clear c30
                      try clear c30b0
                      try clear c31
                      try clear c31b0
                      try clear c31b1
                      try clear c31b2
                      try clear c32
                      try clear c32b0
                      try clear c34
                      try clear c34b0
                      try clear c35
                      try clear c35b0
                      try clear hx212_0
                      try clear hx219_0
                      try clear hx220_0
                      try clear p2
                      try clear p212
                      try clear p219
                      try clear p220
                      try clear q212
                      try clear q219
                      try clear q220
                      obtain ⟨kq, x77_22, rfl, HA, HJ22, HO_6, HO_7, HO_8, HB⟩ := hcut
                      cases kq with
                      | zero => exact absurd HA.out (by simp [billhooklaw10_DomLeast.j2])
                      | succ kj22 =>
                        have H := HA.out
                        clear HA
                        simp only [billhooklaw10_DomLeast.j2] at H
                        by_cases c43 : x77_22 = true
                        · subst c43
                          have H1 : (some false) = some r := by first | (rw [if_pos rfl] at H; exact H) | (rw [if_pos trivial] at H; exact H)
                          clear H
                          have H := H1
                          clear H1
                          obtain rfl := Option.some.inj H
                          go_wp2
                          go_ret
                          exact ⟨by first | rfl | (simp [errW_none, errW_some] <;> rfl) | (simp [*, errW_none, errW_some] <;> rfl), by repeat (first | (with_reducible first | exact HB.out | apply below_alloc | apply pw_below_drewN | apply below_drew1) | exact HB.out)⟩
                        · replace c43 := Bool.eq_false_iff.mpr c43
                          subst c43
                          have H1 : (if (rd t209 x10_2) < 0 then (billhooklaw10_DomLeast.l0 kj22 true t203 t206 t209 (t203.length : Int) (wrap64 (x10_2 + 1))) else (if (rd t209 x10_2) ≥ (t203.length : Int) then (billhooklaw10_DomLeast.j3 kj22 true t203 t206 t209 (t203.length : Int) x10_2 (rd t209 x10_2) true) else (if (rd t209 x10_2) = x10_2 then (billhooklaw10_DomLeast.j3 kj22 true t203 t206 t209 (t203.length : Int) x10_2 (rd t209 x10_2) true) else (if 0 ≤ x10_2 then (if x10_2 < (t206.length : Int) then (if 0 ≤ (rd t209 x10_2) then (if (rd t209 x10_2) < ((rd_L2 t206 x10_2).length : Int) then (billhooklaw10_DomLeast.j3 kj22 true t203 t206 t209 (t203.length : Int) x10_2 (rd t209 x10_2) (!(rdOf false (rd_L2 t206 x10_2) (rd t209 x10_2)))) else (none)) else (none)) else (none)) else (none))))) = some r := by rw [if_neg (show ¬ (false = true) by decide)] at H; exact H
                          clear H
                          have H := H1
                          clear H1
                          by_cases c44 : (rd t209 x10_2) < 0
                          · rw [if_pos c44] at H
                            have c44b0 : decide ((rd t209 x10_2) < 0) = true := decide_eq_true c44
                            clear c44
                            have H' := Aside0.mk H
                            clear H
                            go_wp2
                            go_roundg kj22
                            case measure => have := HJ7.out; have := HK2.out; have := HJ22.out; omega
                            case rel => exact ⟨(wrap64 (x10_2 + 1)), (by first | rfl | (simp; done) | (simp [*]; done)), H', ⟨by have := HJ7.out; have := HK2.out; have := HJ22.out; omega⟩, ⟨by (with_reducible repeat (first | apply Kd.S_alloc | apply Kd.S_drewN | apply Kd.S_drew)); exact HO_6.out⟩, ⟨by (with_reducible repeat (first | apply Kd.S_alloc | apply Kd.S_drewN | apply Kd.S_drew)); exact HO_7.out⟩, ⟨by (with_reducible repeat (first | apply Kd.R_alloc | apply Kd.R_drewN | apply Kd.R_drew)); exact HO_8.out⟩, ⟨by repeat (first | (with_reducible first | exact HB.out | apply below_alloc | apply pw_below_drewN | apply below_drew1) | exact HB.out)⟩⟩
                          · rw [if_neg c44] at H
                            have c44b0 : decide ((rd t209 x10_2) < 0) = false := decide_eq_false c44
                            clear c44
                            have HC45 := Aside0.mk H
                            clear H
                            go_upto_region 18 with (fail)
                            go_cut [97] (fun v97 wc => ∃ (kq : Nat) (x97_44 : Bool), v97 = .bool x97_44 ∧ Aside0 (billhooklaw10_DomLeast.j3 kq true t203 t206 t209 (t203.length : Int) x10_2 (rd t209 x10_2) x97_44 = some r) ∧ Aside0 (kq ≤ kj22) ∧ Aside0 (Kd.S (Kd.slice 3 (Kd.int .i64)) 54 wc w.heap.size (fun k_ => some k_ ≠ ((.slice (some ad212) t209.length co24) : Value).ownBlock) (.slice Ao11 t203.length co11) t203) ∧ Aside0 (Kd.S (Kd.slice 4 Kd.bool) 57 wc w.heap.size (fun _ => True) v207 t206) ∧ Aside0 (Kd.R (Kd.int .i64) 3 wc w.heap.size (fun _ => True) (.slice (some ad212) t209.length co24) t209) ∧ Aside0 (Below w.heap.size w wc))
                            case first =>
                              have H := HC45.out
                              clear HC45
                              by_cases c46 : (rd t209 x10_2) ≥ (t203.length : Int)
                              · rw [if_pos c46] at H
                                have c46b0 : decide ((t203.length : Int) ≤ (rd t209 x10_2)) = true := decide_eq_true c46
                                clear c46
                                (first | rw [c46b0] | (simp only [i64_w, i32_w]; rw [c46b0]) | skip)
                                have H' := Aside0.mk H
                                clear H
                                go_wp2
                                go_meet
                                case rel => exact ⟨_, (true), (by first | rfl | (simp; done) | (simp [*]; done)), H', ⟨by have := HJ7.out; have := HK2.out; have := HJ22.out; first | omega | exact Nat.le_refl _⟩, ⟨by (with_reducible repeat (first | apply Kd.S_alloc | apply Kd.S_drewN | apply Kd.S_drew)); exact HO_6.out⟩, ⟨by (with_reducible repeat (first | apply Kd.S_alloc | apply Kd.S_drewN | apply Kd.S_drew)); exact HO_7.out⟩, ⟨by (with_reducible repeat (first | apply Kd.R_alloc | apply Kd.R_drewN | apply Kd.R_drew)); exact HO_8.out⟩, ⟨by repeat (first | (with_reducible first | exact HB.out | apply below_alloc | apply pw_below_drewN | apply below_drew1) | exact HB.out)⟩⟩
                              · rw [if_neg c46] at H
                                have c46b0 : decide ((t203.length : Int) ≤ (rd t209 x10_2)) = false := decide_eq_false c46
                                clear c46
                                (first | rw [c46b0] | (simp only [i64_w, i32_w]; rw [c46b0]) | skip)
                                by_cases c47 : (rd t209 x10_2) = x10_2
                                · rw [if_pos c47] at H
                                  have c47b0 : ((rd t209 x10_2) == x10_2) = true := beq_iff_eq.mpr c47
                                  have c47b1 : ((rd t209 x10_2) != x10_2) = false := bne_eq_false_iff_eq.mpr c47
                                  clear c47
                                  have H' := Aside0.mk H
                                  clear H
                                  go_wp2
                                  go_meet
                                  case rel => exact ⟨_, (true), (by first | rfl | (simp; done) | (simp [*]; done)), H', ⟨by have := HJ7.out; have := HK2.out; have := HJ22.out; first | omega | exact Nat.le_refl _⟩, ⟨by (with_reducible repeat (first | apply Kd.S_alloc | apply Kd.S_drewN | apply Kd.S_drew)); exact HO_6.out⟩, ⟨by (with_reducible repeat (first | apply Kd.S_alloc | apply Kd.S_drewN | apply Kd.S_drew)); exact HO_7.out⟩, ⟨by (with_reducible repeat (first | apply Kd.R_alloc | apply Kd.R_drewN | apply Kd.R_drew)); exact HO_8.out⟩, ⟨by repeat (first | (with_reducible first | exact HB.out | apply below_alloc | apply pw_below_drewN | apply below_drew1) | exact HB.out)⟩⟩
                                · rw [if_neg c47] at H
                                  have c47b0 : ((rd t209 x10_2) == x10_2) = false := beq_eq_false_iff_ne.mpr c47
                                  have c47b1 : ((rd t209 x10_2) != x10_2) = true := bne_iff_ne.mpr c47
                                  by_cases c48 : 0 ≤ x10_2
                                  · rw [if_pos c48] at H
                                    have c48b0 : decide (0 ≤ x10_2) = true := decide_eq_true c48
                                    clear c48
                                    by_cases c49 : x10_2 < (t206.length : Int)
                                    · rw [if_pos c49] at H
                                      have c49b0 : decide (x10_2 < (t206.length : Int)) = true := decide_eq_true c49
                                      clear c49
                                      by_cases c50 : 0 ≤ (rd t209 x10_2)
                                      · rw [if_pos c50] at H
                                        have c50b0 : decide (0 ≤ (rd t209 x10_2)) = true := decide_eq_true c50
                                        clear c50
                                        by_cases c51 : (rd t209 x10_2) < ((rd_L2 t206 x10_2).length : Int)
                                        · rw [if_pos c51] at H
                                          have c51b0 : decide ((rd t209 x10_2) < ((rd_L2 t206 x10_2).length : Int)) = true := decide_eq_true c51
                                          clear c51
                                          have H' := Aside0.mk H
                                          clear H
                                          obtain ⟨Ao52, co52, eo52⟩ := Kd.S_slice HO_7.out
                                          subst eo52
                                          have p221 : 0 ≤ (x10_2 : Int) := of_decide_eq_true (by first | (with_reducible assumption) | assumption)
                                          have q221 : x10_2 < (t206.length : Int) := of_decide_eq_true (by first | (with_reducible assumption) | assumption)
                                          obtain ⟨ad221, A221_0, c221_0, e221, hx221_0, hl221_0, hi221_0⟩ := at_L2 (Kd.S_reads' HO_7.out).2.2 x10_2 p221 q221
                                          cases e221
                                          obtain ⟨ce221, hce221, hMe221, hcc221⟩ := Kd.S_get HO_7.out [] x10_2 p221 (by first | exact q221 | exact of_decide_eq_true (by first | (with_reducible assumption) | assumption) | (have e_ := (Kd.S_reads' HO_7.out).1; omega))
                                          obtain ⟨ve221_0, rfl, ge221_0⟩ := hMe221
                                          have hv221_0 := hcc221 0 _ rfl
                                          rw [Nat.add_zero, show ((Kd.slice 4 Kd.bool)).sz = 1 from rfl, Nat.mul_one] at hv221_0
                                          replace hv221_0 := Option.some.inj (hv221_0.symm.trans hx221_0)
                                          rw [hv221_0] at ge221_0
                                          have HL221_0 := Aside0.mk (show Kd.R Kd.bool 4 _ _ _ _ (rd_L2 t206 x10_2) from ge221_0)
                                          clear hv221_0 ge221_0
                                          clear hcc221 hce221
                                          have HR221_0 := Aside0.mk hi221_0
                                          have HC221_0 := Aside0.mk hl221_0
                                          clear hi221_0 hl221_0
                                          replace p221 := eq_true p221
                                          replace q221 := eq_true q221
                                          have p222 : 0 ≤ ((rd t209 x10_2) : Int) := of_decide_eq_true (by first | (with_reducible assumption) | assumption)
                                          have q222 : (rd t209 x10_2) < ((rd_L2 t206 x10_2).length : Int) := of_decide_eq_true (by first | (with_reducible assumption) | assumption)
                                          obtain ⟨ad222, e222, hx222_0⟩ := Kd.at_bool (by repeat (first | (with_reducible exact HR221_0.out) | (with_reducible refine Kd.C_alloc ?_ _) | (with_reducible refine Kd.C_drewN ?_ _) | (with_reducible refine Kd.C_drew ?_) | exact HR221_0.out)) (rd t209 x10_2) p222 q222
                                          cases e222
                                          replace p222 := eq_true p222
                                          replace q222 := eq_true q222
                                          go_wp2
                                          go_meet
                                          case rel => exact ⟨_, (!(rdOf false (rd_L2 t206 x10_2) (rd t209 x10_2))), (by first | rfl | (simp; done) | (simp [*]; done)), H', ⟨by have := HJ7.out; have := HK2.out; have := HJ22.out; first | omega | exact Nat.le_refl _⟩, ⟨by (with_reducible repeat (first | apply Kd.S_alloc | apply Kd.S_drewN | apply Kd.S_drew)); exact HO_6.out⟩, ⟨by (with_reducible repeat (first | apply Kd.S_alloc | apply Kd.S_drewN | apply Kd.S_drew)); exact HO_7.out⟩, ⟨by (with_reducible repeat (first | apply Kd.R_alloc | apply Kd.R_drewN | apply Kd.R_drew)); exact HO_8.out⟩, ⟨by repeat (first | (with_reducible first | exact HB.out | apply below_alloc | apply pw_below_drewN | apply below_drew1) | exact HB.out)⟩⟩
                                        · rw [if_neg c51] at H
                                          exact absurd H (by simp)
                                      · rw [if_neg c50] at H
                                        exact absurd H (by simp)
                                    · rw [if_neg c49] at H
                                      exact absurd H (by simp)
                                  · rw [if_neg c48] at H
                                    exact absurd H (by simp)
                            case rest =>
                              clear HC45
                              try clear c1
                              try clear c2
                              try clear p2
                              try clear q2
                              try clear hx2
                              try clear c3
                              try clear c4
                              try clear c5
                              try clear p6
                              try clear c7
                              try clear c14
                              try clear c14b0
                              try clear c14b1
                              try clear c14b2
                              try clear c18
                              try clear c19
                              try clear c19b0
                              try clear c20
                              try clear c20b0
                              try clear c21
                              try clear c21b0
                              try clear p21
                              try clear q21
                              try clear hx21
                              try clear c22
                              try clear p22
                              try clear q22
                              try clear hx22
                              try clear c26
                              try clear c27
                              try clear c29
                              try clear c29b0
                              try clear c29b1
                              try clear c29b2
                              try clear c30
                              try clear c30b0
                              try clear c31
                              try clear c31b0
                              try clear c31b1
                              try clear c31b2
                              try clear c32
                              try clear c32b0
                              try clear c34
                              try clear c34b0
                              try clear c35
                              try clear c35b0
                              try clear c43
                              try clear c44
                              try clear c44b0
                              try clear c46
                              try clear c46b0
                              try clear c47
                              try clear c47b0
                              try clear c47b1
                              try clear c48
                              try clear c48b0
                              try clear c49
                              try clear c49b0
                              try clear c50
                              try clear c50b0
                              try clear c51
                              try clear c51b0
                              try clear hx212_0
                              try clear hx219_0
                              try clear hx220_0
                              try clear hx221_0
                              try clear hx222_0
                              try clear p2
                              try clear p21
                              try clear p212
                              try clear p219
                              try clear p22
                              try clear p220
                              try clear p221
                              try clear p222
                              try clear p6
                              try clear q2
                              try clear q21
                              try clear q212
                              try clear q219
                              try clear q22
                              try clear q220
                              try clear q221
                              try clear q222
                              obtain ⟨kq, x97_44, rfl, HA, HJ44, HO_6, HO_7, HO_8, HB⟩ := hcut
                              cases kq with
                              | zero => exact absurd HA.out (by simp [billhooklaw10_DomLeast.j3])
                              | succ kj44 =>
                                have H := HA.out
                                clear HA
                                simp only [billhooklaw10_DomLeast.j3] at H
                                by_cases c53 : x97_44 = true
                                · subst c53
                                  have H1 : (some false) = some r := by first | (rw [if_pos rfl] at H; exact H) | (rw [if_pos trivial] at H; exact H)
                                  clear H
                                  have H := H1
                                  clear H1
                                  obtain rfl := Option.some.inj H
                                  go_wp2
                                  go_ret
                                  exact ⟨by first | rfl | (simp [errW_none, errW_some] <;> rfl) | (simp [*, errW_none, errW_some] <;> rfl), by repeat (first | (with_reducible first | exact HB.out | apply below_alloc | apply pw_below_drewN | apply below_drew1) | exact HB.out)⟩
                                · replace c53 := Bool.eq_false_iff.mpr c53
                                  subst c53
                                  have H1 : (billhooklaw10_DomLeast.l1 kj44 true t203 t206 t209 (t203.length : Int) x10_2 (rd t209 x10_2) 0) = some r := by rw [if_neg (show ¬ (false = true) by decide)] at H; exact H
                                  clear H
                                  have H := H1
                                  clear H1
                                  have H' := Aside0.mk H
                                  clear H
                                  go_wp2
                                  go_loopg [13] kj44 (fun kq v13 w' => ∃ (x13_5 : Int), v13 = .int .i64 x13_5 ∧ Aside0 (billhooklaw10_DomLeast.l1 kq true t203 t206 t209 (t203.length : Int) x10_2 (rd t209 x10_2) x13_5 = some r) ∧ Aside0 (kq ≤ kj44) ∧ Aside0 (Kd.S (Kd.slice 3 (Kd.int .i64)) 54 w' w.heap.size (fun k_ => some k_ ≠ ((.slice (some ad212) t209.length co24) : Value).ownBlock) (.slice Ao11 t203.length co11) t203) ∧ Aside0 (Kd.S (Kd.slice 4 Kd.bool) 57 w' w.heap.size (fun _ => True) v207 t206) ∧ Aside0 (Kd.R (Kd.int .i64) 3 w' w.heap.size (fun _ => True) (.slice (some ad212) t209.length co24) t209) ∧ Aside0 (Below w.heap.size w w'))
                                  case atStart => exact ⟨(0), (by first | rfl | (simp; done) | (simp [*]; done)), H', ⟨Nat.le_refl _⟩, ⟨by (with_reducible repeat (first | apply Kd.S_alloc | apply Kd.S_drewN | apply Kd.S_drew)); exact HO_6.out⟩, ⟨by (with_reducible repeat (first | apply Kd.S_alloc | apply Kd.S_drewN | apply Kd.S_drew)); exact HO_7.out⟩, ⟨by (with_reducible repeat (first | apply Kd.R_alloc | apply Kd.R_drewN | apply Kd.R_drew)); exact HO_8.out⟩, ⟨by repeat (first | (with_reducible first | exact HB.out | apply below_alloc | apply pw_below_drewN | apply below_drew1) | exact HB.out)⟩⟩
                                  case round =>
                                    clear H'
                                    try clear c1
                                    try clear c2
                                    try clear p2
                                    try clear q2
                                    try clear hx2
                                    try clear c3
                                    try clear c4
                                    try clear c5
                                    try clear p6
                                    try clear c7
                                    try clear c14
                                    try clear c14b0
                                    try clear c14b1
                                    try clear c14b2
                                    try clear c18
                                    try clear c19
                                    try clear c19b0
                                    try clear c20
                                    try clear c20b0
                                    try clear c21
                                    try clear c21b0
                                    try clear p21
                                    try clear q21
                                    try clear hx21
                                    try clear c22
                                    try clear p22
                                    try clear q22
                                    try clear hx22
                                    try clear c26
                                    try clear c27
                                    try clear c29
                                    try clear c29b0
                                    try clear c29b1
                                    try clear c29b2
                                    try clear c30
                                    try clear c30b0
                                    try clear c31
                                    try clear c31b0
                                    try clear c31b1
                                    try clear c31b2
                                    try clear c32
                                    try clear c32b0
                                    try clear c34
                                    try clear c34b0
                                    try clear c35
                                    try clear c35b0
                                    try clear c43
                                    try clear c44
                                    try clear c44b0
                                    try clear c46
                                    try clear c46b0
                                    try clear c47
                                    try clear c47b0
                                    try clear c47b1
                                    try clear c48
                                    try clear c48b0
                                    try clear c49
                                    try clear c49b0
                                    try clear c50
                                    try clear c50b0
                                    try clear c51
                                    try clear c51b0
                                    try clear c53
                                    try clear hx212_0
                                    try clear hx219_0
                                    try clear hx220_0
                                    try clear hx221_0
                                    try clear hx222_0
                                    try clear p2
                                    try clear p21
                                    try clear p212
                                    try clear p219
                                    try clear p22
                                    try clear p220
                                    try clear p221
                                    try clear p222
                                    try clear p6
                                    try clear q2
                                    try clear q21
                                    try clear q212
                                    try clear q219
                                    try clear q22
                                    try clear q220
                                    try clear q221
                                    try clear q222
                                    obtain ⟨x13_5, rfl, HA, HK5, HO_6, HO_7, HO_8, HB⟩ := hrel
                                    cases gk with
                                    | zero => exact absurd HA.out (by simp [billhooklaw10_DomLeast.l1])
                                    | succ k5 =>
                                      have H := HA.out
                                      clear HA
                                      simp only [billhooklaw10_DomLeast.l1] at H
                                      by_cases c54 : x13_5 < (t203.length : Int)
                                      · rw [if_pos c54] at H
                                        have c54b0 : decide (x13_5 < (t203.length : Int)) = true := decide_eq_true c54
                                        clear c54
                                        by_cases c55 : x13_5 = x10_2
                                        · rw [if_pos c55] at H
                                          have c55b0 : (x13_5 == x10_2) = true := beq_iff_eq.mpr c55
                                          have c55b1 : (x13_5 != x10_2) = false := bne_eq_false_iff_eq.mpr c55
                                          clear c55
                                          have H' := Aside0.mk H
                                          clear H
                                          go_wp2
                                          go_roundg k5
                                          case measure => have := HJ7.out; have := HK2.out; have := HJ22.out; have := HJ44.out; have := HK5.out; omega
                                          case rel => exact ⟨(wrap64 (x13_5 + 1)), (by first | rfl | (simp; done) | (simp [*]; done)), H', ⟨by have := HJ7.out; have := HK2.out; have := HJ22.out; have := HJ44.out; have := HK5.out; omega⟩, ⟨by (with_reducible repeat (first | apply Kd.S_alloc | apply Kd.S_drewN | apply Kd.S_drew)); exact HO_6.out⟩, ⟨by (with_reducible repeat (first | apply Kd.S_alloc | apply Kd.S_drewN | apply Kd.S_drew)); exact HO_7.out⟩, ⟨by (with_reducible repeat (first | apply Kd.R_alloc | apply Kd.R_drewN | apply Kd.R_drew)); exact HO_8.out⟩, ⟨by repeat (first | (with_reducible first | exact HB.out | apply below_alloc | apply pw_below_drewN | apply below_drew1) | exact HB.out)⟩⟩
                                        · rw [if_neg c55] at H
                                          have c55b0 : (x13_5 == x10_2) = false := beq_eq_false_iff_ne.mpr c55
                                          have c55b1 : (x13_5 != x10_2) = true := bne_iff_ne.mpr c55
                                          by_cases c56 : x13_5 = (rd t209 x10_2)
                                          · rw [if_pos c56] at H
                                            have c56b0 : (x13_5 == (rd t209 x10_2)) = true := beq_iff_eq.mpr c56
                                            have c56b1 : (x13_5 != (rd t209 x10_2)) = false := bne_eq_false_iff_eq.mpr c56
                                            clear c56
                                            have H' := Aside0.mk H
                                            clear H
                                            go_wp2
                                            go_roundg k5
                                            case measure => have := HJ7.out; have := HK2.out; have := HJ22.out; have := HJ44.out; have := HK5.out; omega
                                            case rel => exact ⟨(wrap64 (x13_5 + 1)), (by first | rfl | (simp; done) | (simp [*]; done)), H', ⟨by have := HJ7.out; have := HK2.out; have := HJ22.out; have := HJ44.out; have := HK5.out; omega⟩, ⟨by (with_reducible repeat (first | apply Kd.S_alloc | apply Kd.S_drewN | apply Kd.S_drew)); exact HO_6.out⟩, ⟨by (with_reducible repeat (first | apply Kd.S_alloc | apply Kd.S_drewN | apply Kd.S_drew)); exact HO_7.out⟩, ⟨by (with_reducible repeat (first | apply Kd.R_alloc | apply Kd.R_drewN | apply Kd.R_drew)); exact HO_8.out⟩, ⟨by repeat (first | (with_reducible first | exact HB.out | apply below_alloc | apply pw_below_drewN | apply below_drew1) | exact HB.out)⟩⟩
                                          · rw [if_neg c56] at H
                                            have c56b0 : (x13_5 == (rd t209 x10_2)) = false := beq_eq_false_iff_ne.mpr c56
                                            have c56b1 : (x13_5 != (rd t209 x10_2)) = true := bne_iff_ne.mpr c56
                                            by_cases c57 : 0 ≤ x10_2
                                            · rw [if_pos c57] at H
                                              have c57b0 : decide (0 ≤ x10_2) = true := decide_eq_true c57
                                              clear c57
                                              by_cases c58 : x10_2 < (t206.length : Int)
                                              · rw [if_pos c58] at H
                                                have c58b0 : decide (x10_2 < (t206.length : Int)) = true := decide_eq_true c58
                                                clear c58
                                                by_cases c59 : 0 ≤ x13_5
                                                · rw [if_pos c59] at H
                                                  have c59b0 : decide (0 ≤ x13_5) = true := decide_eq_true c59
                                                  clear c59
                                                  by_cases c60 : x13_5 < ((rd_L2 t206 x10_2).length : Int)
                                                  · rw [if_pos c60] at H
                                                    have c60b0 : decide (x13_5 < ((rd_L2 t206 x10_2).length : Int)) = true := decide_eq_true c60
                                                    clear c60
                                                    obtain ⟨bq61, hbq61⟩ : ∃ b_ : Bool, b_ = (rdOf false (rd_L2 t206 x10_2) x13_5) := ⟨_, rfl⟩
                                                    replace H : (if bq61 = true then (if 0 ≤ (rd t209 x10_2) then (if (rd t209 x10_2) < (t206.length : Int) then (if x13_5 < ((rd_L2 t206 (rd t209 x10_2)).length : Int) then (if (rdOf false (rd_L2 t206 (rd t209 x10_2)) x13_5 = true) then (billhooklaw10_DomLeast.l1 k5 true t203 t206 t209 (t203.length : Int) x10_2 (rd t209 x10_2) (wrap64 (x13_5 + 1))) else (some false)) else (none)) else (none)) else (none)) else (billhooklaw10_DomLeast.l1 k5 true t203 t206 t209 (t203.length : Int) x10_2 (rd t209 x10_2) (wrap64 (x13_5 + 1)))) = some r := by rw [← hbq61] at H; exact H
                                                    have Nbq61 := Aside0.mk hbq61
                                                    clear hbq61
                                                    by_cases c62 : bq61 = true
                                                    · subst c62
                                                      have H1 : (if 0 ≤ (rd t209 x10_2) then (if (rd t209 x10_2) < (t206.length : Int) then (if x13_5 < ((rd_L2 t206 (rd t209 x10_2)).length : Int) then (if (rdOf false (rd_L2 t206 (rd t209 x10_2)) x13_5 = true) then (billhooklaw10_DomLeast.l1 k5 true t203 t206 t209 (t203.length : Int) x10_2 (rd t209 x10_2) (wrap64 (x13_5 + 1))) else (some false)) else (none)) else (none)) else (none)) = some r := by first | (rw [if_pos rfl] at H; exact H) | (rw [if_pos trivial] at H; exact H)
                                                      clear H
                                                      have H := H1
                                                      clear H1
                                                      by_cases c63 : 0 ≤ (rd t209 x10_2)
                                                      · rw [if_pos c63] at H
                                                        have c63b0 : decide (0 ≤ (rd t209 x10_2)) = true := decide_eq_true c63
                                                        clear c63
                                                        by_cases c64 : (rd t209 x10_2) < (t206.length : Int)
                                                        · rw [if_pos c64] at H
                                                          have c64b0 : decide ((rd t209 x10_2) < (t206.length : Int)) = true := decide_eq_true c64
                                                          clear c64
                                                          by_cases c65 : x13_5 < ((rd_L2 t206 (rd t209 x10_2)).length : Int)
                                                          · rw [if_pos c65] at H
                                                            have c65b0 : decide (x13_5 < ((rd_L2 t206 (rd t209 x10_2)).length : Int)) = true := decide_eq_true c65
                                                            clear c65
                                                            obtain ⟨bq66, hbq66⟩ : ∃ b_ : Bool, b_ = (rdOf false (rd_L2 t206 (rd t209 x10_2)) x13_5) := ⟨_, rfl⟩
                                                            replace H : (if (bq66 = true) then (billhooklaw10_DomLeast.l1 k5 true t203 t206 t209 (t203.length : Int) x10_2 (rd t209 x10_2) (wrap64 (x13_5 + 1))) else (some false)) = some r := by rw [← hbq66] at H; exact H
                                                            have Nbq66 := Aside0.mk hbq66
                                                            clear hbq66
                                                            by_cases c67 : (bq66 = true)
                                                            · subst c67
                                                              have H1 : (billhooklaw10_DomLeast.l1 k5 true t203 t206 t209 (t203.length : Int) x10_2 (rd t209 x10_2) (wrap64 (x13_5 + 1))) = some r := by first | (rw [if_pos rfl] at H; exact H) | (rw [if_pos trivial] at H; exact H)
                                                              clear H
                                                              have H := H1
                                                              clear H1
                                                              have H' := Aside0.mk H
                                                              clear H
                                                              obtain ⟨Ao68, co68, eo68⟩ := Kd.S_slice HO_7.out
                                                              subst eo68
                                                              have p223 : 0 ≤ (x10_2 : Int) := of_decide_eq_true (by first | (with_reducible assumption) | assumption)
                                                              have q223 : x10_2 < (t206.length : Int) := of_decide_eq_true (by first | (with_reducible assumption) | assumption)
                                                              obtain ⟨ad223, A223_0, c223_0, e223, hx223_0, hl223_0, hi223_0⟩ := at_L2 (Kd.S_reads' HO_7.out).2.2 x10_2 p223 q223
                                                              cases e223
                                                              obtain ⟨ce223, hce223, hMe223, hcc223⟩ := Kd.S_get HO_7.out [] x10_2 p223 (by first | exact q223 | exact of_decide_eq_true (by first | (with_reducible assumption) | assumption) | (have e_ := (Kd.S_reads' HO_7.out).1; omega))
                                                              obtain ⟨ve223_0, rfl, ge223_0⟩ := hMe223
                                                              have hv223_0 := hcc223 0 _ rfl
                                                              rw [Nat.add_zero, show ((Kd.slice 4 Kd.bool)).sz = 1 from rfl, Nat.mul_one] at hv223_0
                                                              replace hv223_0 := Option.some.inj (hv223_0.symm.trans hx223_0)
                                                              rw [hv223_0] at ge223_0
                                                              have HL223_0 := Aside0.mk (show Kd.R Kd.bool 4 _ _ _ _ (rd_L2 t206 x10_2) from ge223_0)
                                                              clear hv223_0 ge223_0
                                                              clear hcc223 hce223
                                                              have HR223_0 := Aside0.mk hi223_0
                                                              have HC223_0 := Aside0.mk hl223_0
                                                              clear hi223_0 hl223_0
                                                              replace p223 := eq_true p223
                                                              replace q223 := eq_true q223
                                                              have p224 : 0 ≤ (x13_5 : Int) := of_decide_eq_true (by first | (with_reducible assumption) | assumption)
                                                              have q224 : x13_5 < ((rd_L2 t206 x10_2).length : Int) := of_decide_eq_true (by first | (with_reducible assumption) | assumption)
                                                              obtain ⟨ad224, e224, hx224_0⟩ := Kd.at_bool (by repeat (first | (with_reducible exact HR223_0.out) | (with_reducible refine Kd.C_alloc ?_ _) | (with_reducible refine Kd.C_drewN ?_ _) | (with_reducible refine Kd.C_drew ?_) | exact HR223_0.out)) x13_5 p224 q224
                                                              (try rw [← Nbq61.out] at hx224_0)
                                                              (try rw [← Nbq66.out] at hx224_0)
                                                              cases e224
                                                              replace p224 := eq_true p224
                                                              replace q224 := eq_true q224
                                                              have p225 : 0 ≤ ((rd t209 x10_2) : Int) := of_decide_eq_true (by first | (with_reducible assumption) | assumption)
                                                              have q225 : (rd t209 x10_2) < (t206.length : Int) := of_decide_eq_true (by first | (with_reducible assumption) | assumption)
                                                              obtain ⟨ad225, A225_0, c225_0, e225, hx225_0, hl225_0, hi225_0⟩ := at_L2 (Kd.S_reads' HO_7.out).2.2 (rd t209 x10_2) p225 q225
                                                              obtain rfl : ad223 = ad225 := (by injection e225)
                                                              obtain ⟨ce225, hce225, hMe225, hcc225⟩ := Kd.S_get HO_7.out [] (rd t209 x10_2) p225 (by first | exact q225 | exact of_decide_eq_true (by first | (with_reducible assumption) | assumption) | (have e_ := (Kd.S_reads' HO_7.out).1; omega))
                                                              obtain ⟨ve225_0, rfl, ge225_0⟩ := hMe225
                                                              have hv225_0 := hcc225 0 _ rfl
                                                              rw [Nat.add_zero, show ((Kd.slice 4 Kd.bool)).sz = 1 from rfl, Nat.mul_one] at hv225_0
                                                              replace hv225_0 := Option.some.inj (hv225_0.symm.trans hx225_0)
                                                              rw [hv225_0] at ge225_0
                                                              have HL225_0 := Aside0.mk (show Kd.R Kd.bool 4 _ _ _ _ (rd_L2 t206 (rd t209 x10_2)) from ge225_0)
                                                              clear hv225_0 ge225_0
                                                              clear hcc225 hce225
                                                              have HR225_0 := Aside0.mk hi225_0
                                                              have HC225_0 := Aside0.mk hl225_0
                                                              clear hi225_0 hl225_0
                                                              (try (have hz_ := Option.some.inj (hx223_0.symm.trans hx225_0); injection hz_ with za_ zn_ zc_; subst za_; subst zc_; clear zn_))
                                                              replace p225 := eq_true p225
                                                              replace q225 := eq_true q225
                                                              have p226 : 0 ≤ (x13_5 : Int) := of_decide_eq_true (by first | (with_reducible assumption) | assumption)
                                                              have q226 : x13_5 < ((rd_L2 t206 (rd t209 x10_2)).length : Int) := of_decide_eq_true (by first | (with_reducible assumption) | assumption)
                                                              obtain ⟨ad226, e226, hx226_0⟩ := Kd.at_bool (by repeat (first | (with_reducible exact HR225_0.out) | (with_reducible refine Kd.C_alloc ?_ _) | (with_reducible refine Kd.C_drewN ?_ _) | (with_reducible refine Kd.C_drew ?_) | exact HR225_0.out)) x13_5 p226 q226
                                                              (try rw [← Nbq61.out] at hx226_0)
                                                              (try rw [← Nbq66.out] at hx226_0)
                                                              cases e226
                                                              replace p226 := eq_true p226
                                                              replace q226 := eq_true q226
                                                              go_wp2
                                                              go_roundg k5
                                                              case measure => have := HJ7.out; have := HK2.out; have := HJ22.out; have := HJ44.out; have := HK5.out; omega
                                                              case rel => exact ⟨(wrap64 (x13_5 + 1)), (by first | rfl | (simp; done) | (simp [*]; done)), H', ⟨by have := HJ7.out; have := HK2.out; have := HJ22.out; have := HJ44.out; have := HK5.out; omega⟩, ⟨by (with_reducible repeat (first | apply Kd.S_alloc | apply Kd.S_drewN | apply Kd.S_drew)); exact HO_6.out⟩, ⟨by (with_reducible repeat (first | apply Kd.S_alloc | apply Kd.S_drewN | apply Kd.S_drew)); exact HO_7.out⟩, ⟨by (with_reducible repeat (first | apply Kd.R_alloc | apply Kd.R_drewN | apply Kd.R_drew)); exact HO_8.out⟩, ⟨by repeat (first | (with_reducible first | exact HB.out | apply below_alloc | apply pw_below_drewN | apply below_drew1) | exact HB.out)⟩⟩
                                                            · replace c67 := Bool.eq_false_iff.mpr c67
                                                              subst c67
                                                              have H1 : (some false) = some r := by rw [if_neg (show ¬ (false = true) by decide)] at H; exact H
                                                              clear H
                                                              have H := H1
                                                              clear H1
                                                              obtain rfl := Option.some.inj H
                                                              obtain ⟨Ao69, co69, eo69⟩ := Kd.S_slice HO_7.out
                                                              subst eo69
                                                              have p223 : 0 ≤ (x10_2 : Int) := of_decide_eq_true (by first | (with_reducible assumption) | assumption)
                                                              have q223 : x10_2 < (t206.length : Int) := of_decide_eq_true (by first | (with_reducible assumption) | assumption)
                                                              obtain ⟨ad223, A223_0, c223_0, e223, hx223_0, hl223_0, hi223_0⟩ := at_L2 (Kd.S_reads' HO_7.out).2.2 x10_2 p223 q223
                                                              cases e223
                                                              obtain ⟨ce223, hce223, hMe223, hcc223⟩ := Kd.S_get HO_7.out [] x10_2 p223 (by first | exact q223 | exact of_decide_eq_true (by first | (with_reducible assumption) | assumption) | (have e_ := (Kd.S_reads' HO_7.out).1; omega))
                                                              obtain ⟨ve223_0, rfl, ge223_0⟩ := hMe223
                                                              have hv223_0 := hcc223 0 _ rfl
                                                              rw [Nat.add_zero, show ((Kd.slice 4 Kd.bool)).sz = 1 from rfl, Nat.mul_one] at hv223_0
                                                              replace hv223_0 := Option.some.inj (hv223_0.symm.trans hx223_0)
                                                              rw [hv223_0] at ge223_0
                                                              have HL223_0 := Aside0.mk (show Kd.R Kd.bool 4 _ _ _ _ (rd_L2 t206 x10_2) from ge223_0)
                                                              clear hv223_0 ge223_0
                                                              clear hcc223 hce223
                                                              have HR223_0 := Aside0.mk hi223_0
                                                              have HC223_0 := Aside0.mk hl223_0
                                                              clear hi223_0 hl223_0
                                                              replace p223 := eq_true p223
                                                              replace q223 := eq_true q223
                                                              have p224 : 0 ≤ (x13_5 : Int) := of_decide_eq_true (by first | (with_reducible assumption) | assumption)
                                                              have q224 : x13_5 < ((rd_L2 t206 x10_2).length : Int) := of_decide_eq_true (by first | (with_reducible assumption) | assumption)
                                                              obtain ⟨ad224, e224, hx224_0⟩ := Kd.at_bool (by repeat (first | (with_reducible exact HR223_0.out) | (with_reducible refine Kd.C_alloc ?_ _) | (with_reducible refine Kd.C_drewN ?_ _) | (with_reducible refine Kd.C_drew ?_) | exact HR223_0.out)) x13_5 p224 q224
                                                              (try rw [← Nbq61.out] at hx224_0)
                                                              (try rw [← Nbq66.out] at hx224_0)
                                                              cases e224
                                                              replace p224 := eq_true p224
                                                              replace q224 := eq_true q224
                                                              have p225 : 0 ≤ ((rd t209 x10_2) : Int) := of_decide_eq_true (by first | (with_reducible assumption) | assumption)
                                                              have q225 : (rd t209 x10_2) < (t206.length : Int) := of_decide_eq_true (by first | (with_reducible assumption) | assumption)
                                                              obtain ⟨ad225, A225_0, c225_0, e225, hx225_0, hl225_0, hi225_0⟩ := at_L2 (Kd.S_reads' HO_7.out).2.2 (rd t209 x10_2) p225 q225
                                                              obtain rfl : ad223 = ad225 := (by injection e225)
                                                              obtain ⟨ce225, hce225, hMe225, hcc225⟩ := Kd.S_get HO_7.out [] (rd t209 x10_2) p225 (by first | exact q225 | exact of_decide_eq_true (by first | (with_reducible assumption) | assumption) | (have e_ := (Kd.S_reads' HO_7.out).1; omega))
                                                              obtain ⟨ve225_0, rfl, ge225_0⟩ := hMe225
                                                              have hv225_0 := hcc225 0 _ rfl
                                                              rw [Nat.add_zero, show ((Kd.slice 4 Kd.bool)).sz = 1 from rfl, Nat.mul_one] at hv225_0
                                                              replace hv225_0 := Option.some.inj (hv225_0.symm.trans hx225_0)
                                                              rw [hv225_0] at ge225_0
                                                              have HL225_0 := Aside0.mk (show Kd.R Kd.bool 4 _ _ _ _ (rd_L2 t206 (rd t209 x10_2)) from ge225_0)
                                                              clear hv225_0 ge225_0
                                                              clear hcc225 hce225
                                                              have HR225_0 := Aside0.mk hi225_0
                                                              have HC225_0 := Aside0.mk hl225_0
                                                              clear hi225_0 hl225_0
                                                              (try (have hz_ := Option.some.inj (hx223_0.symm.trans hx225_0); injection hz_ with za_ zn_ zc_; subst za_; subst zc_; clear zn_))
                                                              replace p225 := eq_true p225
                                                              replace q225 := eq_true q225
                                                              have p226 : 0 ≤ (x13_5 : Int) := of_decide_eq_true (by first | (with_reducible assumption) | assumption)
                                                              have q226 : x13_5 < ((rd_L2 t206 (rd t209 x10_2)).length : Int) := of_decide_eq_true (by first | (with_reducible assumption) | assumption)
                                                              obtain ⟨ad226, e226, hx226_0⟩ := Kd.at_bool (by repeat (first | (with_reducible exact HR225_0.out) | (with_reducible refine Kd.C_alloc ?_ _) | (with_reducible refine Kd.C_drewN ?_ _) | (with_reducible refine Kd.C_drew ?_) | exact HR225_0.out)) x13_5 p226 q226
                                                              (try rw [← Nbq61.out] at hx226_0)
                                                              (try rw [← Nbq66.out] at hx226_0)
                                                              cases e226
                                                              replace p226 := eq_true p226
                                                              replace q226 := eq_true q226
                                                              go_wp2
                                                              go_ret
                                                              exact ⟨by first | rfl | (simp [errW_none, errW_some] <;> rfl) | (simp [*, errW_none, errW_some] <;> rfl), by repeat (first | (with_reducible first | exact HB.out | apply below_alloc | apply pw_below_drewN | apply below_drew1) | exact HB.out)⟩
                                                          · rw [if_neg c65] at H
                                                            exact absurd H (by simp)
                                                        · rw [if_neg c64] at H
                                                          exact absurd H (by simp)
                                                      · rw [if_neg c63] at H
                                                        exact absurd H (by simp)
                                                    · replace c62 := Bool.eq_false_iff.mpr c62
                                                      subst c62
                                                      have H1 : (billhooklaw10_DomLeast.l1 k5 true t203 t206 t209 (t203.length : Int) x10_2 (rd t209 x10_2) (wrap64 (x13_5 + 1))) = some r := by rw [if_neg (show ¬ (false = true) by decide)] at H; exact H
                                                      clear H
                                                      have H := H1
                                                      clear H1
                                                      have H' := Aside0.mk H
                                                      clear H
                                                      obtain ⟨Ao70, co70, eo70⟩ := Kd.S_slice HO_7.out
                                                      subst eo70
                                                      have p223 : 0 ≤ (x10_2 : Int) := of_decide_eq_true (by first | (with_reducible assumption) | assumption)
                                                      have q223 : x10_2 < (t206.length : Int) := of_decide_eq_true (by first | (with_reducible assumption) | assumption)
                                                      obtain ⟨ad223, A223_0, c223_0, e223, hx223_0, hl223_0, hi223_0⟩ := at_L2 (Kd.S_reads' HO_7.out).2.2 x10_2 p223 q223
                                                      cases e223
                                                      obtain ⟨ce223, hce223, hMe223, hcc223⟩ := Kd.S_get HO_7.out [] x10_2 p223 (by first | exact q223 | exact of_decide_eq_true (by first | (with_reducible assumption) | assumption) | (have e_ := (Kd.S_reads' HO_7.out).1; omega))
                                                      obtain ⟨ve223_0, rfl, ge223_0⟩ := hMe223
                                                      have hv223_0 := hcc223 0 _ rfl
                                                      rw [Nat.add_zero, show ((Kd.slice 4 Kd.bool)).sz = 1 from rfl, Nat.mul_one] at hv223_0
                                                      replace hv223_0 := Option.some.inj (hv223_0.symm.trans hx223_0)
                                                      rw [hv223_0] at ge223_0
                                                      have HL223_0 := Aside0.mk (show Kd.R Kd.bool 4 _ _ _ _ (rd_L2 t206 x10_2) from ge223_0)
                                                      clear hv223_0 ge223_0
                                                      clear hcc223 hce223
                                                      have HR223_0 := Aside0.mk hi223_0
                                                      have HC223_0 := Aside0.mk hl223_0
                                                      clear hi223_0 hl223_0
                                                      replace p223 := eq_true p223
                                                      replace q223 := eq_true q223
                                                      have p224 : 0 ≤ (x13_5 : Int) := of_decide_eq_true (by first | (with_reducible assumption) | assumption)
                                                      have q224 : x13_5 < ((rd_L2 t206 x10_2).length : Int) := of_decide_eq_true (by first | (with_reducible assumption) | assumption)
                                                      obtain ⟨ad224, e224, hx224_0⟩ := Kd.at_bool (by repeat (first | (with_reducible exact HR223_0.out) | (with_reducible refine Kd.C_alloc ?_ _) | (with_reducible refine Kd.C_drewN ?_ _) | (with_reducible refine Kd.C_drew ?_) | exact HR223_0.out)) x13_5 p224 q224
                                                      (try rw [← Nbq61.out] at hx224_0)
                                                      cases e224
                                                      replace p224 := eq_true p224
                                                      replace q224 := eq_true q224
                                                      go_wp2
                                                      go_roundg k5
                                                      case measure => have := HJ7.out; have := HK2.out; have := HJ22.out; have := HJ44.out; have := HK5.out; omega
                                                      case rel => exact ⟨(wrap64 (x13_5 + 1)), (by first | rfl | (simp; done) | (simp [*]; done)), H', ⟨by have := HJ7.out; have := HK2.out; have := HJ22.out; have := HJ44.out; have := HK5.out; omega⟩, ⟨by (with_reducible repeat (first | apply Kd.S_alloc | apply Kd.S_drewN | apply Kd.S_drew)); exact HO_6.out⟩, ⟨by (with_reducible repeat (first | apply Kd.S_alloc | apply Kd.S_drewN | apply Kd.S_drew)); exact HO_7.out⟩, ⟨by (with_reducible repeat (first | apply Kd.R_alloc | apply Kd.R_drewN | apply Kd.R_drew)); exact HO_8.out⟩, ⟨by repeat (first | (with_reducible first | exact HB.out | apply below_alloc | apply pw_below_drewN | apply below_drew1) | exact HB.out)⟩⟩
                                                  · rw [if_neg c60] at H
                                                    exact absurd H (by simp)
                                                · rw [if_neg c59] at H
                                                  exact absurd H (by simp)
                                              · rw [if_neg c58] at H
                                                exact absurd H (by simp)
                                            · rw [if_neg c57] at H
                                              exact absurd H (by simp)
                                      · rw [if_neg c54] at H
                                        have c54b0 : decide (x13_5 < (t203.length : Int)) = false := decide_eq_false c54
                                        clear c54
                                        have H' := Aside0.mk H
                                        clear H
                                        go_wp2
                                        go_roundg k5
                                        case measure => have := HJ7.out; have := HK2.out; have := HJ22.out; have := HJ44.out; have := HK5.out; omega
                                        case rel => exact ⟨(wrap64 (x10_2 + 1)), (by first | rfl | (simp; done) | (simp [*]; done)), H', ⟨by have := HJ7.out; have := HK2.out; have := HJ22.out; have := HJ44.out; have := HK5.out; omega⟩, ⟨by (with_reducible repeat (first | apply Kd.S_alloc | apply Kd.S_drewN | apply Kd.S_drew)); exact HO_6.out⟩, ⟨by (with_reducible repeat (first | apply Kd.S_alloc | apply Kd.S_drewN | apply Kd.S_drew)); exact HO_7.out⟩, ⟨by (with_reducible repeat (first | apply Kd.R_alloc | apply Kd.R_drewN | apply Kd.R_drew)); exact HO_8.out⟩, ⟨by repeat (first | (with_reducible first | exact HB.out | apply below_alloc | apply pw_below_drewN | apply below_drew1) | exact HB.out)⟩⟩
                  · rw [if_neg c21] at H
                    exact absurd H (by simp)
                · rw [if_neg c20] at H
                  exact absurd H (by simp)
              · rw [if_neg c19] at H
                have c19b0 : decide (x10_2 < (t203.length : Int)) = false := decide_eq_false c19
                clear c19
                obtain rfl := Option.some.inj H
                go_wp2
                go_ret
                exact ⟨by first | rfl | (simp [errW_none, errW_some] <;> rfl) | (simp [*, errW_none, errW_some] <;> rfl), by repeat (first | (with_reducible first | exact HB.out | apply below_alloc | apply pw_below_drewN | apply below_drew1) | exact HB.out)⟩
  · replace c4 := Bool.eq_false_iff.mpr c4
    subst c4
    have H1 : (some false) = some r := by rw [if_neg (show ¬ (false = true) by decide)] at H; exact H
    clear H
    have H := H1
    clear H1
    obtain rfl := Option.some.inj H
    go_enter Try.func7, Try.ntmps7
    go_wp2_with (first | ((with_reducible refine gate_callee (f := 26) rfl ?_); refine goesL_ (some 14) rfl rfl Try.func26 (by kernel_rfl) rfl #[] rfl (by (try simp only [List.map_toArray, List.map_cons, List.map_nil]); first | done | rfl | (simp only [List.length_drop, List.length_take]; rfl)) ?_; (with_reducible refine (billhooklaw10_examples.calls  false _ A3.out).mono ?_); rintro e w71 ⟨rfl, hb⟩; refine ⟨_, rfl, ?_⟩; have n0_ := Aside0.mk (below_step (by repeat (first | (with_reducible first | exact HB.out | apply below_alloc | apply pw_below_drewN | apply below_drew1) | exact HB.out)) hb); clear HB; have HB := n0_; clear n0_; (try clear hb); (try clear hb2); (try clear hk); (try clear hi)))
    go_ret
    exact ⟨by first | rfl | (simp [errW_none, errW_some] <;> rfl) | (simp [*, errW_none, errW_some] <;> rfl), by repeat (first | (with_reducible first | exact HB.out | apply below_alloc | apply pw_below_drewN | apply below_drew1) | exact HB.out)⟩

/-- THE ONE PURE STATEMENT of billhooklaw10_DomLeast: yours. -/
def billhooklaw10_DomLeast.Pure : Prop := ∀ (l0 : List Int) (a1 : Int), l0.length ≤ maxLen → l0.length * 1 ≤ 140737488351232 → (∀ x ∈ l0, (Lit.int .u8 x).wf = true) → (Lit.int .u8 a1).wf = true → ∃ k, billhooklaw10_DomLeast.f k l0 a1 = some true
theorem billhooklaw10_DomLeast.walk (P : billhooklaw10_DomLeast.Pure) (a0 : Option Addr) (len0 cap0 : Nat) (z0 : List Int) (a1 : Int) (w : World) (w0 : (a0 = none ∧ len0 = 0 ∧ cap0 = 0 ∧ z0 = []) ∨ ∃ x, a0 = some x ∧ len0 ≤ cap0 ∧ cap0 ≤ maxLen ∧ z0.length = cap0 ∧ (∀ i, i < z0.length → w.cell? (x.add i) = some (.int .u8 (z0.getD i 0))) ∧ ∀ n ∈ z0, (Lit.int .u8 n).wf = true) (y0 : len0 * 1 ≤ 140737488351232) (w1 : (Lit.int .u8 a1).wf = true) :
    Calls Try.prog 7 #[.slice a0 len0 cap0, .int .u8 a1] w fun e w' => e = .returned (.bool true) ∧ Below w.heap.size w w' := by
  obtain ⟨l0, rfl, hr0, hm0, hw0, hc0⟩ := ReadsInt.ofRowC w0
  obtain ⟨k, h⟩ := P l0 a1 hm0 y0 hw0 w1
  refine (billhooklaw10_DomLeast.calls k _ _ l0 a1 true w (Kd.C_of_reads (d := (0 : Int)) (h1 := fun _ => rfl) hr0) hc0 h).mono ?_
  rintro e w' ⟨rfl, hd⟩
  exact ⟨rfl, hd⟩

end Go.Proofs.Ytankppgafdcknaa.PDom

/- Of any web: what postdominates a node first is another one that does; each other one that does postdominates that; there is one just if Exit is come to from another node. -/
set_option linter.unusedVariables false
set_option linter.unusedSimpArgs false
set_option linter.unusedSectionVars false
namespace Go.Proofs.Ytankppgafdcknaa.Pure
open Go Go.RowKit Go.Proofs.YtankppgafdcknaaW.PrintWords Go.Proofs.Ytankppgafdcknaa.PPost Go.Proofs.Ytankppgafdcknaa.PDom Go.Proofs.Ytankppgafdcknaa.Gr

section
variable {xs : List (List Int)} {f : Nat → Nat → Bool} {re : Nat → Bool} (hw : Web xs) (hf : ∀ i d, i < xs.length → d < xs.length → (f i d = true ↔ ¬ Av xs d i)) (hre : ∀ i, i < xs.length → (re i = true ↔ Rc xs i (xs.length - 1)))
include hw hf hre
theorem dl_l1 (L : List Int) (i e : Nat) (hi : i < xs.length) (he : e < xs.length) (hg : good f xs.length i e = true) (K : Ev (fun k => billhooklaw10_DomLeast.l0 k true xs (Mx xs.length f) L (xs.length : Int) ((i + 1 : Nat) : Int)) true) :
    ∀ (q t : Nat), t + q = xs.length → Ev (fun k => billhooklaw10_DomLeast.l1 k true xs (Mx xs.length f) L (xs.length : Int) (i : Int) (e : Int) (t : Int)) true := by
  have hle := hw.le
  intro q
  induction q with
  | zero =>
    intro t ht
    refine Ev.step (fun k => ?_) K
    simp only [billhooklaw10_DomLeast.l1]
    rw [if_neg (by omega), w_succ _ (by omega)]
  | succ q ih =>
    intro t ht
    have htl : t < xs.length := by omega
    refine Ev.step (fun k => ?_) (ih (t + 1) (by omega))
    simp only [billhooklaw10_DomLeast.l1]
    rw [if_pos (by omega), w_succ _ (by omega)]
    by_cases h1 : t = i
    · rw [if_pos (by omega)]
    · by_cases h2 : t = e
      · rw [if_neg (by omega), if_pos (by omega)]
      · rw [if_neg (by omega), if_neg (by omega), if_pos (by omega), if_pos (by rw [Mx_len]; omega), if_pos (by omega), L2_row _ _ _ hi, if_pos (by simp; omega), of_row _ _ _ htl]
        cases h3 : f i t with
        | false => rw [if_neg (by simp)]
        | true =>
          have hok : okK f i e t = true := by
            unfold good at hg
            simp only [Bool.and_eq_true, List.all_eq_true, List.mem_range] at hg
            exact hg.2 t htl
          have h4 : f e t = true := by simpa [okK, h1, h2, h3] using hok
          rw [if_pos rfl, if_pos (by omega), if_pos (by rw [Mx_len]; omega), L2_row _ _ _ he, if_pos (by simp; omega), of_row _ _ _ htl, h4, if_pos rfl]
theorem dl_j2 (L : List Int) (i : Nat) (hi : i < xs.length) (K : Ev (fun k => billhooklaw10_DomLeast.l0 k true xs (Mx xs.length f) L (xs.length : Int) ((i + 1 : Nat) : Int)) true) :
    Ev (fun k => billhooklaw10_DomLeast.j2 k true xs (Mx xs.length f) L (xs.length : Int) (i : Int) (lval f re xs.length i) false) true := by
  have hle := hw.le
  have neg : lval f re xs.length i = -1 → Ev (fun k => billhooklaw10_DomLeast.j2 k true xs (Mx xs.length f) L (xs.length : Int) (i : Int) (lval f re xs.length i) false) true := fun h => by
    refine Ev.step (fun k => ?_) K
    simp only [billhooklaw10_DomLeast.j2]
    rw [h, if_neg (by simp), if_pos (by omega), w_succ _ (by omega)]
  cases hr : re i with
  | false => exact neg (by unfold lval; rw [hr]; rfl)
  | true =>
    cases hs : srch f xs.length i 0 with
    | none => exact neg (by unfold lval; rw [hr, hs]; rfl)
    | some e =>
      obtain ⟨he, hg⟩ := srch_spec hs
      have hlv : lval f re xs.length i = (e : Int) := by unfold lval; rw [hr, hs]; rfl
      have hg2 := hg
      unfold good at hg2
      simp only [Bool.and_eq_true, decide_eq_true_eq] at hg2
      refine Ev.step (f := fun k => billhooklaw10_DomLeast.j3 k true xs (Mx xs.length f) L (xs.length : Int) (i : Int) (e : Int) false) (fun k => ?_) (Ev.step (fun k => ?_) (dl_l1 hw hf hre L i e hi he hg K xs.length 0 (by omega)))
      · simp only [billhooklaw10_DomLeast.j2]
        rw [hlv, if_neg (by simp), if_neg (by omega), if_neg (by omega), if_neg (by have := hg2.1.1; omega), if_pos (by omega), if_pos (by rw [Mx_len]; omega), if_pos (by omega), L2_row _ _ _ hi, if_pos (by simp; omega), of_row _ _ _ he, hg2.1.2]
        rfl
      · simp only [billhooklaw10_DomLeast.j3]
        rw [if_neg (by simp)]
        rfl
theorem dl_l0 : ∀ (q i : Nat), i + q = xs.length → Ev (fun k => billhooklaw10_DomLeast.l0 k true xs (Mx xs.length f) ((List.range xs.length).map (lval f re xs.length)) (xs.length : Int) (i : Int)) true := by
  have hle := hw.le
  have h0 := hw.pos
  intro q
  induction q with
  | zero =>
    intro i hi
    refine Ev.step (fun k => ?_) (Ev.now true)
    simp only [billhooklaw10_DomLeast.l0]
    rw [if_neg (by omega)]
  | succ q ih =>
    intro i hi
    have hil : i < xs.length := by omega
    obtain ⟨met, hm, hml, hmr⟩ := hw.reach [(i : Int)] (by simp)
    have hv : rdOf false met ((xs.length - 1 : Nat) : Int) = re i := by
      have : rdOf false met ((xs.length - 1 : Nat) : Int) = mkd met (xs.length - 1) := by unfold rdOf mkd; rw [nat_toNat]
      rw [this, Bool.eq_iff_iff, hre i hil, hmr]
      constructor
      · rintro ⟨s, hs, hr⟩
        have : s = i := by have := List.mem_singleton.1 hs; omega
        rwa [this] at hr
      · exact fun hr => ⟨i, List.mem_singleton.2 rfl, hr⟩
    have hrd : rd ((List.range xs.length).map (lval f re xs.length)) (i : Int) = lval f re xs.length i := by
      rw [rd_at _ _ (by simpa using hil)]
      simp
    obtain ⟨K, hK⟩ := hm
    obtain ⟨K2, h2⟩ := dl_j2 hw hf hre ((List.range xs.length).map (lval f re xs.length)) i hil (ih (i + 1) (by omega))
    refine ⟨max K K2 + 1, fun k hk => ?_⟩
    obtain ⟨m, rfl⟩ : ∃ m, k = m + 1 := ⟨k - 1, by omega⟩
    have hm : dom_Reach.f m xs [(i : Int)] = some met := hK m (by omega)
    have h2 : billhooklaw10_DomLeast.j2 m true xs (Mx xs.length f) ((List.range xs.length).map (lval f re xs.length)) (xs.length : Int) (i : Int) (lval f re xs.length i) false = some true := h2 m (by omega)
    show billhooklaw10_DomLeast.l0 (m + 1) true xs (Mx xs.length f) ((List.range xs.length).map (lval f re xs.length)) (xs.length : Int) (i : Int) = some true
    simp only [billhooklaw10_DomLeast.l0, hrd]
    rw [if_pos (by omega), if_pos (by omega), if_pos (by simp; omega), hm, Option.bind_some, hml, if_pos rfl, if_pos (by rw [Mx_len]; omega), L2_row _ _ _ hil, if_pos (by simp), w_pred _ (by omega) h0]
    by_cases hlast : i < xs.length - 1
    · rw [if_pos (by omega), if_pos (by omega), if_pos (by omega), hv]
      have hd : decide (lval f re xs.length i ≥ 0) = re i := by
        unfold lval
        cases hr : re i with
        | false => rfl
        | true =>
          rw [if_pos rfl]
          cases hs : srch f xs.length i 0 with
          | some e => simp
          | none =>
            obtain ⟨e, he, hg⟩ := first_one hf i hlast ((hre i hil).1 hr)
            rw [srch_none hs e he] at hg
            cases hg
      rw [hd]
      have : (re i != re i) = false := by cases re i <;> rfl
      rw [this]
      exact h2
    · have hie : i = xs.length - 1 := by omega
      rw [if_neg (by omega)]
      have hlv : lval f re xs.length i = -1 := by
        unfold lval
        cases hr : re i with
        | false => rfl
        | true =>
          rw [if_pos rfl]
          cases hs : srch f xs.length i 0 with
          | none => rfl
          | some e =>
            obtain ⟨he, hg⟩ := srch_spec hs
            rw [hie, exit_none hf h0 e he] at hg
            cases hg
      rw [hlv] at h2 ⊢
      exact h2
end
theorem DomLeast : billhooklaw10_DomLeast.Pure := by
  intro l a _ _ hl ha
  obtain ⟨xs, hx, hw⟩ := web_ev l a hl ha
  have hle := hw.le
  obtain ⟨f, re, hp, hf, hre, hL⟩ := Least_ev xs (by have := hw.gsz; omega) (by omega)
  refine Ev.rounds (g := fun k => billhooklaw10_DomLeast.f k l a) ?_
  refine Ev.congr (f := fun k => (billhooklaw10_web.f k l a).bind fun t203 => ((dom_Post.f k t203).bind fun t206 => ((dom_Least.f k t203).bind fun t209 => (if (t206.length : Int) = (t203.length : Int) then (billhooklaw10_DomLeast.j0 k true t203 t206 t209 (t203.length : Int) ((t209.length : Int) != (t203.length : Int))) else (billhooklaw10_DomLeast.j0 k true t203 t206 t209 (t203.length : Int) true))))) (fun k => ?_)
    (Ev.bind hx (Ev.bind hp (Ev.bind hL (Ev.congr (f := fun k => billhooklaw10_DomLeast.j0 k true xs (Mx xs.length f) ((List.range xs.length).map (lval f re xs.length)) (xs.length : Int) false) (fun k => ?_) (Ev.step (fun k => ?_) (dl_l0 hw hf hre xs.length 0 (by omega)))))))
  · unfold billhooklaw10_DomLeast.f
    rw [ex_f]
    simp
  · rw [if_pos (by rw [Mx_len])]
    congr 1
    simp
  · simp only [billhooklaw10_DomLeast.j0]
    rw [if_neg (by simp)]
    rfl
end Go.Proofs.Ytankppgafdcknaa.Pure

/- Printed for this claim by a program. -/
namespace Go.Proofs.Ytankppgafdcknaa.domLeast
open Go.ChangeShapes Go.WideShapes Go.ChangeAt Go.RowKit
open Go.ChangeMaps (open_string shut_string)
set_option linter.unusedVariables false
theorem own : ownKnob Try.prog.godebug = none := by kernel_rfl
theorem laidOut : laidOutB Try.prog = true := by kernel_rfl
def IsRow (k : IntKind) (w : World) (a : Option Addr) (len cap : Nat) (zs : List Int) : Prop :=
  (a = none ∧ len = 0 ∧ cap = 0 ∧ zs = []) ∨
  ∃ x, a = some x ∧ len ≤ cap ∧ cap ≤ maxLen ∧ zs.length = cap ∧ (∀ i, i < zs.length → w.cell? (x.add i) = some (.int k (zs.getD i 0))) ∧ ∀ n ∈ zs, (Lit.int k n).wf = true
set_option maxRecDepth 100000 in
theorem lifted (os : Os) (started : os.Started) (H : Type) (enc : TypeId × Value → H) :
    ReturnsInHanded {} Try.checked os 7 .any (Rows.domLeastSpec.pre6 enc Try.prog Try.f7 Rows.domLeastRow.domain false) (Rows.domLeastSpec.post enc Try.prog Try.f7 false true false false) := by
  refine returnsInHanded_of_change_sized (C := Try.checked) own started (by kernel_rfl) Try.func7
    (ChangeSpec.witness6 (enc := enc) (C := Try.checked) false ⟨#[], #[.slice none 0 0, .int .u8 0], []⟩ 8 (by kernel_rfl) (by kernel_rfl) (by kernel_rfl) (by kernel_rfl)) ?_
  intro W base args ds gs before hval0 hW hcnd hsz0 _
  have hsz : (DataW.weightsEach Try.prog (Try.f7.params.toList ++ Rows.domLeastSpec.plain.varTypes Try.prog) (ds ++ gs)).all (· ≤ reachBytes) = true := hsz0
  have hval : ∀ (j : Nat) t v, Try.f7.params[j]? = some t → args[j]? = some v → Value.okWide Try.prog W .any base t v := hval0
  have hW' := hW
  obtain ⟨p, q, hA0, hV, rfl, hfz, hnd⟩ := hW
  have hA : DataW.TrodAll enc Try.prog W 0 (fun _ => true) true Try.f7.params.toList args.toList ds p := hA0
  rw [Try.params7] at hA hval hsz
  obtain ⟨v0, vs0, d0, ds0, p0, q0, hargs, rfl, rfl, h0, r0⟩ := trodAll_cons hA
  obtain ⟨v1, vs1, d1, ds1, p1, q1, rfl, rfl, rfl, h1, r1⟩ := trodAll_cons r0
  obtain ⟨rfl, rfl, rfl⟩ := trodAll_nil r1
  obtain rfl : args = #[v0, v1] := by cases args; simp_all
  obtain ⟨rfl, rfl⟩ := trodVars_none hV
  obtain ⟨a0, len0, cap0, rfl⟩ := okWide_slice Try.underlying46 (hval 0 46 v0 rfl rfl)
  have k0 := h0
  have lt0 : ∀ x ∈ p0, x.block < W.heap.size := by obtain ⟨m, hm⟩ := k0; exact DataW.trod_lt m _ _ _ hm
  obtain ⟨z0, w0⟩ : ∃ zs, IsRow .u8 W a0 len0 cap0 zs := by
    obtain ⟨fuel, hf⟩ := h0
    rcases open_ints Try.underlying46 Try.underlying5 (by kernel_rfl) hf with ⟨hcs, _⟩ | ⟨x, l, c, zs, hcs, _, hl, hm, hz, _, hcell, hwz⟩
    · simp [Value.cells] at hcs
      obtain ⟨rfl, rfl, rfl⟩ := hcs
      exact ⟨[], .inl ⟨rfl, rfl, rfl, rfl⟩⟩
    · simp [Value.cells] at hcs
      obtain ⟨rfl, rfl, rfl⟩ := hcs
      exact ⟨zs, .inr ⟨_, rfl, hl, hm, by simpa using hz, hcell, hwz⟩⟩
  have y0 : len0 * 1 ≤ 140737488351232 := Go.Proofs.YtankppgafdcknaaW.PrintWords.sized_ints hsz (j := 0) (t := 46) rfl rfl Try.underlying46 Try.underlying5 (by kernel_rfl) (by kernel_rfl) h0
  obtain ⟨a1, rfl, rfl, rfl, w1⟩ := open_int Try.underlying5 (hval 1 5 v1 rfl rfl) h1
  clear hA0 hval0 hsz0 hsz
  refine (PDom.billhooklaw10_DomLeast.walk Pure.DomLeast a0 len0 cap0 z0 a1 W w0 y0 w1).mono fun e W' ⟨he, bel⟩ => ?_
  subst he
  exact ⟨_, rfl, _, _, _, [], _, [], hW', trodAll_mk1 (shut_bool Try.underlying4 _), (trodAll_cons_mk (Below.trod laidOut (by kernel_rfl) (of_decide_eq_true (by kernel_rfl)) k0 bel lt0) (trodAll_cons_mk (shut_int Try.underlying5 w1) trodAll_mk0)), rfl, bel.frame _, fun h => by cases h⟩
theorem over : Rows.domLeastRow.holds Try.pinned (OpenSpec.ofChange Rows.domLeastSpec) :=
  OpenClaim.holds_of_wide 7 Try.f7 rfl rfl rfl rfl rfl rfl rfl ⟨rfl, rfl, rfl, rfl, rfl⟩ rfl rfl rfl rfl rfl (by kernel_rfl) Try.func7 (by kernel_rfl)
    (of_decide_eq_true (by kernel_rfl)) (by unfold Func.isWrapper; first | (rw [if_pos (by decide +kernel)]; kernel_rfl) | (rw [if_neg (by decide +kernel)]; exact ⟨rfl, rfl⟩))
    (fun os started H enc _ => lifted os started H enc)
theorem proved : Rows.DomLeastSaid := over
#print axioms proved
end Go.Proofs.Ytankppgafdcknaa.domLeast
namespace Go.Proofs.Ytankppgafdcknaa
/-- The row, under a short name, for the claim. -/
theorem domLeast_holds : Rows.DomLeastSaid := domLeast.proved
end Go.Proofs.Ytankppgafdcknaa
