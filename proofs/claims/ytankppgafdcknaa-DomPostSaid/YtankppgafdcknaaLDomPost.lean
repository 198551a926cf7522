/- Texts joined into one: PDomx5 PureDomPost LawDomPost. -/
import Derived.Test.YtankppgafdcknaaKg
import Derived.Test.YtankppgafdcknaaRows
import Derived.WalkKit
import Derived.ProofKit
import Derived.OpenShut
import Derived.ShutString
import Derived.ChangeOld
import Derived.Below
import Derived.SizedLaws
import Derived.Test.YtankppgafdcknaaKw
/- Printed for this claim by a program. -/
namespace Go.Proofs.Ytankppgafdcknaa.PDom
open Go.Proofs.Ytankppgafdcknaa.PPost
open Go.RowKit Go.Proofs.YtankppgafdcknaaW.PrintWords Go.Proofs.YtankppgafdcknaaW.PrintLast Go.Proofs.YtankppgafdcknaaW.PrintMore
attribute [local go_sem] max2_int min2_int max_two min_two max_three min_three max_four min_four   -- for this text's walks alone
set_option linter.unusedVariables false
set_option linter.unusedSimpArgs false

/-! ### billhooklaw10_DomPost: function 6 -/
mutual
def billhooklaw10_DomPost.l0 : Nat → Bool → List (List Int) → List (List Bool) → Int → Int → Option (Bool)
  | 0, _, _, _, _, _ => none
  | k + 1, x5, x6, x7, x8, x9 => if x9 < x8 then (if 0 ≤ x9 then (if x9 < (x7.length : Int) then (if ((rd_L2 x7 x9).length : Int) = x8 then (if x9 < ((rd_L2 x7 x9).length : Int) then (if (rdOf false (rd_L2 x7 x9) x9 = true) then (if 0 ≤ (wrap64 (x8 - 1)) then (if (wrap64 (x8 - 1)) < ((rd_L2 x7 x9).length : Int) then (if (rdOf false (rd_L2 x7 x9) (wrap64 (x8 - 1)) = true) then (billhooklaw10_DomPost.l0 k x5 x6 x7 x8 (wrap64 (x9 + 1))) else (some false)) else (none)) else (none)) else (some false)) else (none)) else (some false)) else (none)) else (none)) else (billhooklaw10_DomPost.l1 k x5 x6 x7 x8 0)
def billhooklaw10_DomPost.l1 : Nat → Bool → List (List Int) → List (List Bool) → Int → Int → Option (Bool)
  | 0, _, _, _, _, _ => none
  | k + 1, x5, x6, x7, x8, x10 => if x10 < (wrap64 (x8 - 1)) then (billhooklaw10_DomPost.l2 k x5 x6 x7 x8 x10 0) else (some x5)
def billhooklaw10_DomPost.l2 : Nat → Bool → List (List Int) → List (List Bool) → Int → Int → Int → Option (Bool)
  | 0, _, _, _, _, _, _ => none
  | k + 1, x5, x6, x7, x8, x10, x11 => if x11 < x8 then (if 0 ≤ x10 then (if x10 < (x6.length : Int) then (billhooklaw10_DomPost.l3 k x5 x6 x7 x8 x10 x11 (decide (((rd_L3 x6 x10).length : Int) > 0)) 0) else (none)) else (none)) else (billhooklaw10_DomPost.l1 k x5 x6 x7 x8 (wrap64 (x10 + 1)))
def billhooklaw10_DomPost.l3 : Nat → Bool → List (List Int) → List (List Bool) → Int → Int → Int → Bool → Int → Option (Bool)
  | 0, _, _, _, _, _, _, _, _ => none
  | k + 1, x5, x6, x7, x8, x10, x11, x12, x13 => if 0 ≤ x10 then (if x10 < (x6.length : Int) then (if x13 < ((rd_L3 x6 x10).length : Int) then (if x12 = true then (if 0 ≤ x13 then (if 0 ≤ (rd (rd_L3 x6 x10) x13) then (if (rd (rd_L3 x6 x10) x13) < (x7.length : Int) then (if 0 ≤ x11 then (if x11 < ((rd_L2 x7 (rd (rd_L3 x6 x10) x13)).length : Int) then (billhooklaw10_DomPost.l3 k x5 x6 x7 x8 x10 x11 (rdOf false (rd_L2 x7 (rd (rd_L3 x6 x10) x13)) x11) (wrap64 (x13 + 1))) else (none)) else (none)) else (none)) else (none)) else (none)) else (billhooklaw10_DomPost.l3 k x5 x6 x7 x8 x10 x11 false (wrap64 (x13 + 1)))) else (if x11 = x10 then (billhooklaw10_DomPost.l2 k x5 x6 x7 x8 x10 (wrap64 (x11 + 1))) else (if x10 < (x7.length : Int) then (if 0 ≤ x11 then (if x11 < ((rd_L2 x7 x10).length : Int) then (if ((rdOf false (rd_L2 x7 x10) x11) != x12) = true then (some false) else (billhooklaw10_DomPost.l2 k x5 x6 x7 x8 x10 (wrap64 (x11 + 1)))) else (none)) else (none)) else (none)))) else (none)) else (none)
end
def billhooklaw10_DomPost.f (k : Nat) (l0 : List Int) (a1 : Int) : Option (Bool) := (billhooklaw10_examples.f).bind fun t182 => (if t182 = true then ((billhooklaw10_web.f k l0 a1).bind fun t183 => ((dom_Post.f k t183).bind fun t186 => (if (t186.length : Int) = (t183.length : Int) then (billhooklaw10_DomPost.l0 k t182 t183 t186 (t183.length : Int) 0) else (some false)))) else (some false))
theorem billhooklaw10_DomPost.mono_l : ∀ k, (∀ y0 y1 y2 y3 y4, LeO (billhooklaw10_DomPost.l0 k y0 y1 y2 y3 y4) (billhooklaw10_DomPost.l0 (k + 1) y0 y1 y2 y3 y4)) ∧ (∀ y0 y1 y2 y3 y4, LeO (billhooklaw10_DomPost.l1 k y0 y1 y2 y3 y4) (billhooklaw10_DomPost.l1 (k + 1) y0 y1 y2 y3 y4)) ∧ (∀ y0 y1 y2 y3 y4 y5, LeO (billhooklaw10_DomPost.l2 k y0 y1 y2 y3 y4 y5) (billhooklaw10_DomPost.l2 (k + 1) y0 y1 y2 y3 y4 y5)) ∧ (∀ y0 y1 y2 y3 y4 y5 y6 y7, LeO (billhooklaw10_DomPost.l3 k y0 y1 y2 y3 y4 y5 y6 y7) (billhooklaw10_DomPost.l3 (k + 1) y0 y1 y2 y3 y4 y5 y6 y7))
  | 0 => ⟨fun _ _ _ _ _ r h => by simp [billhooklaw10_DomPost.l0] at h, fun _ _ _ _ _ r h => by simp [billhooklaw10_DomPost.l1] at h, fun _ _ _ _ _ _ r h => by simp [billhooklaw10_DomPost.l2] at h, fun _ _ _ _ _ _ _ _ r h => by simp [billhooklaw10_DomPost.l3] at h⟩
  | k + 1 => by
    obtain ⟨ih0, ih1, ih2, ih3⟩ := billhooklaw10_DomPost.mono_l k
    refine ⟨?_, ?_, ?_, ?_⟩
    · intro y0 y1 y2 y3 y4
      unfold billhooklaw10_DomPost.l0
      repeat' first
      | (with_reducible exact ih0 _ _ _ _ _)
      | (with_reducible exact ih1 _ _ _ _ _)
      | (with_reducible exact ih2 _ _ _ _ _ _)
      | (with_reducible exact ih3 _ _ _ _ _ _ _ _)
      | (with_reducible exact billhooklaw10_web.mono _ _ _)
      | (with_reducible exact dom_Post.mono _ _)
      | (with_reducible exact LeO.refl _)
      | (with_reducible exact LeO.none _)
      | (with_reducible refine LeO.ite ?_ ?_)
      | (with_reducible refine LeO.bind ?_ (fun _ => ?_))
      | exact ih0 _ _ _ _ _
      | exact ih1 _ _ _ _ _
      | exact ih2 _ _ _ _ _ _
      | exact ih3 _ _ _ _ _ _ _ _
      | exact billhooklaw10_web.mono _ _ _
      | exact dom_Post.mono _ _
      | exact LeO.none _
      | refine LeO.ite ?_ ?_
      | refine LeO.bind ?_ (fun _ => ?_)
    · intro y0 y1 y2 y3 y4
      unfold billhooklaw10_DomPost.l1
      repeat' first
      | (with_reducible exact ih0 _ _ _ _ _)
      | (with_reducible exact ih1 _ _ _ _ _)
      | (with_reducible exact ih2 _ _ _ _ _ _)
      | (with_reducible exact ih3 _ _ _ _ _ _ _ _)
      | (with_reducible exact billhooklaw10_web.mono _ _ _)
      | (with_reducible exact dom_Post.mono _ _)
      | (with_reducible exact LeO.refl _)
      | (with_reducible exact LeO.none _)
      | (with_reducible refine LeO.ite ?_ ?_)
      | (with_reducible refine LeO.bind ?_ (fun _ => ?_))
      | exact ih0 _ _ _ _ _
      | exact ih1 _ _ _ _ _
      | exact ih2 _ _ _ _ _ _
      | exact ih3 _ _ _ _ _ _ _ _
      | exact billhooklaw10_web.mono _ _ _
      | exact dom_Post.mono _ _
      | exact LeO.none _
      | refine LeO.ite ?_ ?_
      | refine LeO.bind ?_ (fun _ => ?_)
    · intro y0 y1 y2 y3 y4 y5
      unfold billhooklaw10_DomPost.l2
      repeat' first
      | (with_reducible exact ih0 _ _ _ _ _)
      | (with_reducible exact ih1 _ _ _ _ _)
      | (with_reducible exact ih2 _ _ _ _ _ _)
      | (with_reducible exact ih3 _ _ _ _ _ _ _ _)
      | (with_reducible exact billhooklaw10_web.mono _ _ _)
      | (with_reducible exact dom_Post.mono _ _)
      | (with_reducible exact LeO.refl _)
      | (with_reducible exact LeO.none _)
      | (with_reducible refine LeO.ite ?_ ?_)
      | (with_reducible refine LeO.bind ?_ (fun _ => ?_))
      | exact ih0 _ _ _ _ _
      | exact ih1 _ _ _ _ _
      | exact ih2 _ _ _ _ _ _
      | exact ih3 _ _ _ _ _ _ _ _
      | exact billhooklaw10_web.mono _ _ _
      | exact dom_Post.mono _ _
      | exact LeO.none _
      | refine LeO.ite ?_ ?_
      | refine LeO.bind ?_ (fun _ => ?_)
    · intro y0 y1 y2 y3 y4 y5 y6 y7
      unfold billhooklaw10_DomPost.l3
      repeat' first
      | (with_reducible exact ih0 _ _ _ _ _)
      | (with_reducible exact ih1 _ _ _ _ _)
      | (with_reducible exact ih2 _ _ _ _ _ _)
      | (with_reducible exact ih3 _ _ _ _ _ _ _ _)
      | (with_reducible exact billhooklaw10_web.mono _ _ _)
      | (with_reducible exact dom_Post.mono _ _)
      | (with_reducible exact LeO.refl _)
      | (with_reducible exact LeO.none _)
      | (with_reducible refine LeO.ite ?_ ?_)
      | (with_reducible refine LeO.bind ?_ (fun _ => ?_))
      | exact ih0 _ _ _ _ _
      | exact ih1 _ _ _ _ _
      | exact ih2 _ _ _ _ _ _
      | exact ih3 _ _ _ _ _ _ _ _
      | exact billhooklaw10_web.mono _ _ _
      | exact dom_Post.mono _ _
      | exact LeO.none _
      | refine LeO.ite ?_ ?_
      | refine LeO.bind ?_ (fun _ => ?_)
theorem billhooklaw10_DomPost.mono : ∀ a0 a1 k, LeO (billhooklaw10_DomPost.f k a0 a1) (billhooklaw10_DomPost.f (k + 1) a0 a1) := by
  intro a0 a1 k
  obtain ⟨ih0, ih1, ih2, ih3⟩ := billhooklaw10_DomPost.mono_l k
  unfold billhooklaw10_DomPost.f
  repeat' first
      | (with_reducible exact ih0 _ _ _ _ _)
      | (with_reducible exact ih1 _ _ _ _ _)
      | (with_reducible exact ih2 _ _ _ _ _ _)
      | (with_reducible exact ih3 _ _ _ _ _ _ _ _)
      | (with_reducible exact billhooklaw10_web.mono _ _ _)
      | (with_reducible exact dom_Post.mono _ _)
      | (with_reducible exact LeO.refl _)
      | (with_reducible exact LeO.none _)
      | (with_reducible refine LeO.ite ?_ ?_)
      | (with_reducible refine LeO.bind ?_ (fun _ => ?_))
      | exact ih0 _ _ _ _ _
      | exact ih1 _ _ _ _ _
      | exact ih2 _ _ _ _ _ _
      | exact ih3 _ _ _ _ _ _ _ _
      | exact billhooklaw10_web.mono _ _ _
      | exact dom_Post.mono _ _
      | exact LeO.none _
      | refine LeO.ite ?_ ?_
      | refine LeO.bind ?_ (fun _ => ?_)
set_option maxHeartbeats 8000000 in
set_option maxRecDepth 100000 in
theorem billhooklaw10_DomPost.calls (k : Nat) (A0 : Option Addr) (c0 : Nat) (l0 : List Int) (a1 : Int) (r : Bool) (w : World) (hr0 : Kd.C (Kd.int .u8) w A0 l0.length l0) (hc0 : l0.length ≤ c0) (h : billhooklaw10_DomPost.f k l0 a1 = some r) :
    Calls Try.prog 6 #[.slice A0 l0.length c0, .int .u8 a1] w fun e w' => e = .returned (.bool r) ∧ Below w.heap.size w w' := by
  have HR0 := Aside0.mk hr0
  have HC0 := Aside0.mk hc0
  clear hr0 hc0
  have HB := Aside0.mk (Below.refl w.heap.size w)
  have H : ((billhooklaw10_examples.f).bind fun t182 => (if t182 = true then ((billhooklaw10_web.f k l0 a1).bind fun t183 => ((dom_Post.f k t183).bind fun t186 => (if (t186.length : Int) = (t183.length : Int) then (billhooklaw10_DomPost.l0 k t182 t183 t186 (t183.length : Int) 0) else (some false)))) else (some false))) = some r := h
  clear h
  replace H := Option.bind_eq_some_iff.mp H
  obtain ⟨t182, A30, H⟩ := H
  replace H : (if t182 = true then ((billhooklaw10_web.f k l0 a1).bind fun t183 => ((dom_Post.f k t183).bind fun t186 => (if (t186.length : Int) = (t183.length : Int) then (billhooklaw10_DomPost.l0 k t182 t183 t186 (t183.length : Int) 0) else (some false)))) else (some false)) = some r := H
  have A3 := Aside0.mk A30
  clear A30
  by_cases c4 : t182 = true
  · subst c4
    have H1 : ((billhooklaw10_web.f k l0 a1).bind fun t183 => ((dom_Post.f k t183).bind fun t186 => (if (t186.length : Int) = (t183.length : Int) then (billhooklaw10_DomPost.l0 k true t183 t186 (t183.length : Int) 0) else (some false)))) = some r := by first | (rw [if_pos rfl] at H; exact H) | (rw [if_pos trivial] at H; exact H)
    clear H
    have H := H1
    clear H1
    replace H := Option.bind_eq_some_iff.mp H
    obtain ⟨t183, A50, H⟩ := H
    replace H : ((dom_Post.f k t183).bind fun t186 => (if (t186.length : Int) = (t183.length : Int) then (billhooklaw10_DomPost.l0 k true t183 t186 (t183.length : Int) 0) else (some false))) = some r := H
    have A5 := Aside0.mk A50
    clear A50
    replace H := Option.bind_eq_some_iff.mp H
    obtain ⟨t186, A60, H⟩ := H
    replace H : (if (t186.length : Int) = (t183.length : Int) then (billhooklaw10_DomPost.l0 k true t183 t186 (t183.length : Int) 0) else (some false)) = some r := H
    have A6 := Aside0.mk A60
    clear A60
    by_cases c7 : (t186.length : Int) = (t183.length : Int)
    · rw [if_pos c7] at H
      have c7b0 : ((t186.length : Int) == (t183.length : Int)) = true := beq_iff_eq.mpr c7
      have c7b1 : ((t186.length : Int) != (t183.length : Int)) = false := bne_eq_false_iff_eq.mpr c7
      have c7b2 : (t186.length == t183.length) = true := by first | simpa using c7 | (simp at c7 ⊢; omega)
      clear c7
      have H' := Aside0.mk H
      clear H
      go_enter Try.func6, Try.ntmps6
      go_wp2_with (first | ((with_reducible refine gate_callee (f := 26) rfl ?_); refine goesL_ (some 14) rfl rfl Try.func26 (by kernel_rfl) rfl #[] rfl (by (try simp only [List.map_toArray, List.map_cons, List.map_nil]); first | done | rfl | (simp only [List.length_drop, List.length_take]; rfl)) ?_; (with_reducible refine (billhooklaw10_examples.calls  true _ A3.out).mono ?_); rintro e w8 ⟨rfl, hb⟩; refine ⟨_, rfl, ?_⟩; have n0_ := Aside0.mk (below_step (by repeat (first | (with_reducible first | exact HB.out | apply below_alloc | apply pw_below_drewN | apply below_drew1) | exact HB.out)) hb); clear HB; have HB := n0_; clear n0_; (try clear hb); (try clear hb2); (try clear hk); (try clear hi)) | ((with_reducible refine gate_callee (f := 27) rfl ?_); refine goesL_ (some 19) rfl rfl Try.func27 (by kernel_rfl) rfl #[.slice A0 l0.length c0, .int .u8 a1] rfl (by (try simp only [List.map_toArray, List.map_cons, List.map_nil]); first | done | rfl | (simp only [List.length_drop, List.length_take]; rfl)) ?_; (with_reducible refine (billhooklaw10_web.calls k _ _ l0 a1 t183 _ ?side1 ?side2 A5.out).mono ?_); (case side1 => repeat (first | exact (Kd.C_below HR0.out HB.out) | (with_reducible refine Kd.C_alloc ?_ _) | (with_reducible refine Kd.C_drewN ?_ _) | (with_reducible refine Kd.C_drew ?_))); (case side2 => exact HC0.out); rintro e w9 ⟨v184, rfl, ho0, hb⟩; refine ⟨_, rfl, ?_⟩; have n0_ := Aside0.mk (Kd.S_lower ho0 (below_size (by repeat (first | (with_reducible first | exact HB.out | apply below_alloc | apply pw_below_drewN | apply below_drew1) | exact HB.out)))); have n1_ := Aside0.mk (below_step (by repeat (first | (with_reducible first | exact HB.out | apply below_alloc | apply pw_below_drewN | apply below_drew1) | exact HB.out)) hb); clear HB; have HO185 := n0_; have HB := n1_; clear n0_ n1_; (try clear hb); (try clear hb2); (try clear hk); (try clear hi); (try clear ho0); obtain ⟨Ao10, co10, eo10⟩ := Kd.S_slice HO185.out; subst eo10) | ((with_reducible refine gate_callee (f := 31) rfl ?_); refine goesL_ (some 21) rfl rfl Try.func31 (by kernel_rfl) rfl #[.slice Ao10 t183.length co10] rfl (by (try simp only [List.map_toArray, List.map_cons, List.map_nil]); first | done | rfl | (simp only [List.length_drop, List.length_take]; rfl)) ?_; (with_reducible refine (dom_Post.calls k _ _ t183 t186 _ ?side1 ?side2 A6.out).mono ?_); (case side1 => repeat (first | exact (Kd.S_reads' HO185.out).2.2 | (with_reducible refine Kd.C_alloc ?_ _) | (with_reducible refine Kd.C_drewN ?_ _) | (with_reducible refine Kd.C_drew ?_))); (case side2 => exact (Kd.S_reads' HO185.out).2.1); rintro e w11 ⟨v187, rfl, ho0, hb⟩; refine ⟨_, rfl, ?_⟩; have n0_ := Aside0.mk (Kd.S_below (by (with_reducible repeat (first | apply Kd.S_alloc | apply Kd.S_drewN | apply Kd.S_drew)); exact HO185.out) hb); have n1_ := Aside0.mk (Kd.S_lower ho0 (below_size (by repeat (first | (with_reducible first | exact HB.out | apply below_alloc | apply pw_below_drewN | apply below_drew1) | exact HB.out)))); have n2_ := Aside0.mk (below_step (by repeat (first | (with_reducible first | exact HB.out | apply below_alloc | apply pw_below_drewN | apply below_drew1) | exact HB.out)) hb); clear HO185; clear HB; have HO185 := n0_; have HO188 := n1_; have HB := n2_; clear n0_ n1_ n2_; (try clear hb); (try clear hb2); (try clear hk); (try clear hi); (try clear ho0); obtain ⟨Ao12, co12, eo12⟩ := Kd.S_slice HO188.out; subst eo12))
      go_loopg [9] k (fun kq v9 w' => ∃ (x9_1 : Int), v9 = .int .i64 x9_1 ∧ Aside0 (billhooklaw10_DomPost.l0 kq true t183 t186 (t183.length : Int) x9_1 = some r) ∧ Aside0 (kq ≤ k) ∧ Aside0 (Kd.S (Kd.slice 3 (Kd.int .i64)) 54 w' w.heap.size (fun _ => True) (.slice Ao10 t183.length co10) t183) ∧ Aside0 (Kd.S (Kd.slice 4 Kd.bool) 57 w' w.heap.size (fun _ => True) (.slice Ao12 t186.length co12) t186) ∧ Aside0 (Below w.heap.size w w'))
      case atStart => exact ⟨(0), (by first | rfl | (simp; done) | (simp [*]; done)), H', ⟨Nat.le_refl _⟩, ⟨by (with_reducible repeat (first | apply Kd.S_alloc | apply Kd.S_drewN | apply Kd.S_drew)); exact HO185.out⟩, ⟨by (with_reducible repeat (first | apply Kd.S_alloc | apply Kd.S_drewN | apply Kd.S_drew)); exact HO188.out⟩, ⟨by repeat (first | (with_reducible first | exact HB.out | apply below_alloc | apply pw_below_drewN | apply below_drew1) | exact HB.out)⟩⟩
      case round =>
        clear H'
        try clear c2
        try clear p2
        try clear c3
        try clear c4
        try clear c6
        try clear c7
        try clear c7b0
        try clear c7b1
        try clear c7b2
        obtain ⟨x9_1, rfl, HA, HK1, HO_6, HO_7, HB⟩ := hrel
        cases gk with
        | zero => exact absurd HA.out (by simp [billhooklaw10_DomPost.l0])
        | succ k1 =>
          have H := HA.out
          clear HA
          simp only [billhooklaw10_DomPost.l0] at H
          by_cases c13 : x9_1 < (t183.length : Int)
          · rw [if_pos c13] at H
            have c13b0 : decide (x9_1 < (t183.length : Int)) = true := decide_eq_true c13
            clear c13
            by_cases c14 : 0 ≤ x9_1
            · rw [if_pos c14] at H
              have c14b0 : decide (0 ≤ x9_1) = true := decide_eq_true c14
              clear c14
              by_cases c15 : x9_1 < (t186.length : Int)
              · rw [if_pos c15] at H
                have c15b0 : decide (x9_1 < (t186.length : Int)) = true := decide_eq_true c15
                clear c15
                by_cases c16 : ((rd_L2 t186 x9_1).length : Int) = (t183.length : Int)
                · rw [if_pos c16] at H
                  have c16b0 : (((rd_L2 t186 x9_1).length : Int) == (t183.length : Int)) = true := beq_iff_eq.mpr c16
                  have c16b1 : (((rd_L2 t186 x9_1).length : Int) != (t183.length : Int)) = false := bne_eq_false_iff_eq.mpr c16
                  have c16b2 : ((rd_L2 t186 x9_1).length == t183.length) = true := by first | simpa using c16 | (simp at c16 ⊢; omega)
                  clear c16
                  by_cases c17 : x9_1 < ((rd_L2 t186 x9_1).length : Int)
                  · rw [if_pos c17] at H
                    have c17b0 : decide (x9_1 < ((rd_L2 t186 x9_1).length : Int)) = true := decide_eq_true c17
                    clear c17
                    obtain ⟨bq18, hbq18⟩ : ∃ b_ : Bool, b_ = (rdOf false (rd_L2 t186 x9_1) x9_1) := ⟨_, rfl⟩
                    replace H : (if (bq18 = true) then (if 0 ≤ (wrap64 ((t183.length : Int) - 1)) then (if (wrap64 ((t183.length : Int) - 1)) < ((rd_L2 t186 x9_1).length : Int) then (if (rdOf false (rd_L2 t186 x9_1) (wrap64 ((t183.length : Int) - 1)) = true) then (billhooklaw10_DomPost.l0 k1 true t183 t186 (t183.length : Int) (wrap64 (x9_1 + 1))) else (some false)) else (none)) else (none)) else (some false)) = some r := by rw [← hbq18] at H; exact H
                    have Nbq18 := Aside0.mk hbq18
                    clear hbq18
                    by_cases c19 : (bq18 = true)
                    · subst c19
                      have H1 : (if 0 ≤ (wrap64 ((t183.length : Int) - 1)) then (if (wrap64 ((t183.length : Int) - 1)) < ((rd_L2 t186 x9_1).length : Int) then (if (rdOf false (rd_L2 t186 x9_1) (wrap64 ((t183.length : Int) - 1)) = true) then (billhooklaw10_DomPost.l0 k1 true t183 t186 (t183.length : Int) (wrap64 (x9_1 + 1))) else (some false)) else (none)) else (none)) = some r := by first | (rw [if_pos rfl] at H; exact H) | (rw [if_pos trivial] at H; exact H)
                      clear H
                      have H := H1
                      clear H1
                      obtain ⟨ji20, hji20⟩ : ∃ j_ : Int, (wrap64 ((t183.length : Int) - 1)) = j_ := ⟨_, rfl⟩
                      replace H : (if 0 ≤ (ji20) then (if (ji20) < ((rd_L2 t186 x9_1).length : Int) then (if (rdOf false (rd_L2 t186 x9_1) (ji20) = true) then (billhooklaw10_DomPost.l0 k1 true t183 t186 (t183.length : Int) (wrap64 (x9_1 + 1))) else (some false)) else (none)) else (none)) = some r := by first | (rw [hji20] at H; exact H) | (simp only [hji20] at H ⊢; exact H)
                      have hji20w : (IntKind.i64.wrap ((t183.length : Int) - 1)) = ji20 := (i64_w _).trans hji20
                      by_cases c21 : 0 ≤ (ji20)
                      · rw [if_pos c21] at H
                        have c21b0 : decide (0 ≤ (ji20)) = true := decide_eq_true c21
                        clear c21
                        by_cases c22 : (ji20) < ((rd_L2 t186 x9_1).length : Int)
                        · rw [if_pos c22] at H
                          have c22b0 : decide ((ji20) < ((rd_L2 t186 x9_1).length : Int)) = true := decide_eq_true c22
                          clear c22
                          obtain ⟨bq23, hbq23⟩ : ∃ b_ : Bool, b_ = (rdOf false (rd_L2 t186 x9_1) (ji20)) := ⟨_, rfl⟩
                          replace H : (if (bq23 = true) then (billhooklaw10_DomPost.l0 k1 true t183 t186 (t183.length : Int) (wrap64 (x9_1 + 1))) else (some false)) = some r := by rw [← hbq23] at H; exact H
                          have Nbq23 := Aside0.mk hbq23
                          clear hbq23
                          by_cases c24 : (bq23 = true)
                          · subst c24
                            have H1 : (billhooklaw10_DomPost.l0 k1 true t183 t186 (t183.length : Int) (wrap64 (x9_1 + 1))) = some r := by first | (rw [if_pos rfl] at H; exact H) | (rw [if_pos trivial] at H; exact H)
                            clear H
                            have H := H1
                            clear H1
                            have H' := Aside0.mk H
                            clear H
                            have p189 : 0 ≤ (x9_1 : Int) := of_decide_eq_true (by first | (with_reducible assumption) | assumption)
                            have q189 : x9_1 < (t186.length : Int) := of_decide_eq_true (by first | (with_reducible assumption) | assumption)
                            obtain ⟨ad189, A189_0, c189_0, e189, hx189_0, hl189_0, hi189_0⟩ := at_L2 (Kd.S_reads' HO_7.out).2.2 x9_1 p189 q189
                            cases e189
                            obtain ⟨ce189, hce189, hMe189, hcc189⟩ := Kd.S_get HO_7.out [] x9_1 p189 (by first | exact q189 | exact of_decide_eq_true (by first | (with_reducible assumption) | assumption) | (have e_ := (Kd.S_reads' HO_7.out).1; omega))
                            obtain ⟨ve189_0, rfl, ge189_0⟩ := hMe189
                            have hv189_0 := hcc189 0 _ rfl
                            rw [Nat.add_zero, show ((Kd.slice 4 Kd.bool)).sz = 1 from rfl, Nat.mul_one] at hv189_0
                            replace hv189_0 := Option.some.inj (hv189_0.symm.trans hx189_0)
                            rw [hv189_0] at ge189_0
                            have HL189_0 := Aside0.mk (show Kd.R Kd.bool 4 _ _ _ _ (rd_L2 t186 x9_1) from ge189_0)
                            clear hv189_0 ge189_0
                            clear hcc189 hce189
                            have HR189_0 := Aside0.mk hi189_0
                            have HC189_0 := Aside0.mk hl189_0
                            clear hi189_0 hl189_0
                            replace p189 := eq_true p189
                            replace q189 := eq_true q189
                            have p190 : 0 ≤ (x9_1 : Int) := of_decide_eq_true (by first | (with_reducible assumption) | assumption)
                            have q190 : x9_1 < (t186.length : Int) := of_decide_eq_true (by first | (with_reducible assumption) | assumption)
                            obtain ⟨ad190, A190_0, c190_0, e190, hx190_0, hl190_0, hi190_0⟩ := at_L2 (Kd.S_reads' HO_7.out).2.2 x9_1 p190 q190
                            obtain rfl : ad189 = ad190 := (by injection e190)
                            obtain ⟨ce190, hce190, hMe190, hcc190⟩ := Kd.S_get HO_7.out [] x9_1 p190 (by first | exact q190 | exact of_decide_eq_true (by first | (with_reducible assumption) | assumption) | (have e_ := (Kd.S_reads' HO_7.out).1; omega))
                            obtain ⟨ve190_0, rfl, ge190_0⟩ := hMe190
                            have hv190_0 := hcc190 0 _ rfl
                            rw [Nat.add_zero, show ((Kd.slice 4 Kd.bool)).sz = 1 from rfl, Nat.mul_one] at hv190_0
                            replace hv190_0 := Option.some.inj (hv190_0.symm.trans hx190_0)
                            rw [hv190_0] at ge190_0
                            have HL190_0 := Aside0.mk (show Kd.R Kd.bool 4 _ _ _ _ (rd_L2 t186 x9_1) from ge190_0)
                            clear hv190_0 ge190_0
                            clear hcc190 hce190
                            have HR190_0 := Aside0.mk hi190_0
                            have HC190_0 := Aside0.mk hl190_0
                            clear hi190_0 hl190_0
                            replace p190 := eq_true p190
                            replace q190 := eq_true q190
                            have ea_ := Option.some.inj (hx189_0.symm.trans hx190_0)
                            injection ea_ with ea_ en_ ec_
                            subst ea_
                            subst ec_
                            clear en_
                            have p191 : 0 ≤ (x9_1 : Int) := of_decide_eq_true (by first | (with_reducible assumption) | assumption)
                            have q191 : x9_1 < ((rd_L2 t186 x9_1).length : Int) := of_decide_eq_true (by first | (with_reducible assumption) | assumption)
                            obtain ⟨ad191, e191, hx191_0⟩ := Kd.at_bool (by repeat (first | (with_reducible exact HR190_0.out) | (with_reducible refine Kd.C_alloc ?_ _) | (with_reducible refine Kd.C_drewN ?_ _) | (with_reducible refine Kd.C_drew ?_) | exact HR190_0.out)) x9_1 p191 q191
                            (try rw [← Nbq18.out] at hx191_0)
                            (try rw [← Nbq23.out] at hx191_0)
                            cases e191
                            replace p191 := eq_true p191
                            replace q191 := eq_true q191
                            have p192 : 0 ≤ (x9_1 : Int) := of_decide_eq_true (by first | (with_reducible assumption) | assumption)
                            have q192 : x9_1 < (t186.length : Int) := of_decide_eq_true (by first | (with_reducible assumption) | assumption)
                            obtain ⟨ad192, A192_0, c192_0, e192, hx192_0, hl192_0, hi192_0⟩ := at_L2 (Kd.S_reads' HO_7.out).2.2 x9_1 p192 q192
                            obtain rfl : ad189 = ad192 := (by injection e192)
                            obtain ⟨ce192, hce192, hMe192, hcc192⟩ := Kd.S_get HO_7.out [] x9_1 p192 (by first | exact q192 | exact of_decide_eq_true (by first | (with_reducible assumption) | assumption) | (have e_ := (Kd.S_reads' HO_7.out).1; omega))
                            obtain ⟨ve192_0, rfl, ge192_0⟩ := hMe192
                            have hv192_0 := hcc192 0 _ rfl
                            rw [Nat.add_zero, show ((Kd.slice 4 Kd.bool)).sz = 1 from rfl, Nat.mul_one] at hv192_0
                            replace hv192_0 := Option.some.inj (hv192_0.symm.trans hx192_0)
                            rw [hv192_0] at ge192_0
                            have HL192_0 := Aside0.mk (show Kd.R Kd.bool 4 _ _ _ _ (rd_L2 t186 x9_1) from ge192_0)
                            clear hv192_0 ge192_0
                            clear hcc192 hce192
                            have HR192_0 := Aside0.mk hi192_0
                            have HC192_0 := Aside0.mk hl192_0
                            clear hi192_0 hl192_0
                            replace p192 := eq_true p192
                            replace q192 := eq_true q192
                            have ea_ := Option.some.inj (hx189_0.symm.trans hx192_0)
                            injection ea_ with ea_ en_ ec_
                            subst ea_
                            subst ec_
                            clear en_
                            have p193 : 0 ≤ ((ji20) : Int) := of_decide_eq_true (by first | (with_reducible assumption) | assumption)
                            have q193 : (ji20) < ((rd_L2 t186 x9_1).length : Int) := of_decide_eq_true (by first | (with_reducible assumption) | assumption)
                            obtain ⟨ad193, e193, hx193_0⟩ := Kd.at_bool (by repeat (first | (with_reducible exact HR192_0.out) | (with_reducible refine Kd.C_alloc ?_ _) | (with_reducible refine Kd.C_drewN ?_ _) | (with_reducible refine Kd.C_drew ?_) | exact HR192_0.out)) (ji20) p193 q193
                            (try rw [← Nbq18.out] at hx193_0)
                            (try rw [← Nbq23.out] at hx193_0)
                            cases e193
                            replace p193 := eq_true p193
                            replace q193 := eq_true q193
                            go_wp2
                            go_roundg k1
                            case measure => have := HK1.out; omega
                            case rel => exact ⟨(wrap64 (x9_1 + 1)), (by first | rfl | (simp; done) | (simp [*]; done)), H', ⟨by have := HK1.out; omega⟩, ⟨by (with_reducible repeat (first | apply Kd.S_alloc | apply Kd.S_drewN | apply Kd.S_drew)); exact HO_6.out⟩, ⟨by (with_reducible repeat (first | apply Kd.S_alloc | apply Kd.S_drewN | apply Kd.S_drew)); exact HO_7.out⟩, ⟨by repeat (first | (with_reducible first | exact HB.out | apply below_alloc | apply pw_below_drewN | apply below_drew1) | exact HB.out)⟩⟩
                          · replace c24 := Bool.eq_false_iff.mpr c24
                            subst c24
                            have H1 : (some false) = some r := by rw [if_neg (show ¬ (false = true) by decide)] at H; exact H
                            clear H
                            have H := H1
                            clear H1
                            obtain rfl := Option.some.inj H
                            have p189 : 0 ≤ (x9_1 : Int) := of_decide_eq_true (by first | (with_reducible assumption) | assumption)
                            have q189 : x9_1 < (t186.length : Int) := of_decide_eq_true (by first | (with_reducible assumption) | assumption)
                            obtain ⟨ad189, A189_0, c189_0, e189, hx189_0, hl189_0, hi189_0⟩ := at_L2 (Kd.S_reads' HO_7.out).2.2 x9_1 p189 q189
                            cases e189
                            obtain ⟨ce189, hce189, hMe189, hcc189⟩ := Kd.S_get HO_7.out [] x9_1 p189 (by first | exact q189 | exact of_decide_eq_true (by first | (with_reducible assumption) | assumption) | (have e_ := (Kd.S_reads' HO_7.out).1; omega))
                            obtain ⟨ve189_0, rfl, ge189_0⟩ := hMe189
                            have hv189_0 := hcc189 0 _ rfl
                            rw [Nat.add_zero, show ((Kd.slice 4 Kd.bool)).sz = 1 from rfl, Nat.mul_one] at hv189_0
                            replace hv189_0 := Option.some.inj (hv189_0.symm.trans hx189_0)
                            rw [hv189_0] at ge189_0
                            have HL189_0 := Aside0.mk (show Kd.R Kd.bool 4 _ _ _ _ (rd_L2 t186 x9_1) from ge189_0)
                            clear hv189_0 ge189_0
                            clear hcc189 hce189
                            have HR189_0 := Aside0.mk hi189_0
                            have HC189_0 := Aside0.mk hl189_0
                            clear hi189_0 hl189_0
                            replace p189 := eq_true p189
                            replace q189 := eq_true q189
                            have p190 : 0 ≤ (x9_1 : Int) := of_decide_eq_true (by first | (with_reducible assumption) | assumption)
                            have q190 : x9_1 < (t186.length : Int) := of_decide_eq_true (by first | (with_reducible assumption) | assumption)
                            obtain ⟨ad190, A190_0, c190_0, e190, hx190_0, hl190_0, hi190_0⟩ := at_L2 (Kd.S_reads' HO_7.out).2.2 x9_1 p190 q190
                            obtain rfl : ad189 = ad190 := (by injection e190)
                            obtain ⟨ce190, hce190, hMe190, hcc190⟩ := Kd.S_get HO_7.out [] x9_1 p190 (by first | exact q190 | exact of_decide_eq_true (by first | (with_reducible assumption) | assumption) | (have e_ := (Kd.S_reads' HO_7.out).1; omega))
                            obtain ⟨ve190_0, rfl, ge190_0⟩ := hMe190
                            have hv190_0 := hcc190 0 _ rfl
                            rw [Nat.add_zero, show ((Kd.slice 4 Kd.bool)).sz = 1 from rfl, Nat.mul_one] at hv190_0
                            replace hv190_0 := Option.some.inj (hv190_0.symm.trans hx190_0)
                            rw [hv190_0] at ge190_0
                            have HL190_0 := Aside0.mk (show Kd.R Kd.bool 4 _ _ _ _ (rd_L2 t186 x9_1) from ge190_0)
                            clear hv190_0 ge190_0
                            clear hcc190 hce190
                            have HR190_0 := Aside0.mk hi190_0
                            have HC190_0 := Aside0.mk hl190_0
                            clear hi190_0 hl190_0
                            replace p190 := eq_true p190
                            replace q190 := eq_true q190
                            have ea_ := Option.some.inj (hx189_0.symm.trans hx190_0)
                            injection ea_ with ea_ en_ ec_
                            subst ea_
                            subst ec_
                            clear en_
                            have p191 : 0 ≤ (x9_1 : Int) := of_decide_eq_true (by first | (with_reducible assumption) | assumption)
                            have q191 : x9_1 < ((rd_L2 t186 x9_1).length : Int) := of_decide_eq_true (by first | (with_reducible assumption) | assumption)
                            obtain ⟨ad191, e191, hx191_0⟩ := Kd.at_bool (by repeat (first | (with_reducible exact HR190_0.out) | (with_reducible refine Kd.C_alloc ?_ _) | (with_reducible refine Kd.C_drewN ?_ _) | (with_reducible refine Kd.C_drew ?_) | exact HR190_0.out)) x9_1 p191 q191
                            (try rw [← Nbq18.out] at hx191_0)
                            (try rw [← Nbq23.out] at hx191_0)
                            cases e191
                            replace p191 := eq_true p191
                            replace q191 := eq_true q191
                            have p192 : 0 ≤ (x9_1 : Int) := of_decide_eq_true (by first | (with_reducible assumption) | assumption)
                            have q192 : x9_1 < (t186.length : Int) := of_decide_eq_true (by first | (with_reducible assumption) | assumption)
                            obtain ⟨ad192, A192_0, c192_0, e192, hx192_0, hl192_0, hi192_0⟩ := at_L2 (Kd.S_reads' HO_7.out).2.2 x9_1 p192 q192
                            obtain rfl : ad189 = ad192 := (by injection e192)
                            obtain ⟨ce192, hce192, hMe192, hcc192⟩ := Kd.S_get HO_7.out [] x9_1 p192 (by first | exact q192 | exact of_decide_eq_true (by first | (with_reducible assumption) | assumption) | (have e_ := (Kd.S_reads' HO_7.out).1; omega))
                            obtain ⟨ve192_0, rfl, ge192_0⟩ := hMe192
                            have hv192_0 := hcc192 0 _ rfl
                            rw [Nat.add_zero, show ((Kd.slice 4 Kd.bool)).sz = 1 from rfl, Nat.mul_one] at hv192_0
                            replace hv192_0 := Option.some.inj (hv192_0.symm.trans hx192_0)
                            rw [hv192_0] at ge192_0
                            have HL192_0 := Aside0.mk (show Kd.R Kd.bool 4 _ _ _ _ (rd_L2 t186 x9_1) from ge192_0)
                            clear hv192_0 ge192_0
                            clear hcc192 hce192
                            have HR192_0 := Aside0.mk hi192_0
                            have HC192_0 := Aside0.mk hl192_0
                            clear hi192_0 hl192_0
                            replace p192 := eq_true p192
                            replace q192 := eq_true q192
                            have ea_ := Option.some.inj (hx189_0.symm.trans hx192_0)
                            injection ea_ with ea_ en_ ec_
                            subst ea_
                            subst ec_
                            clear en_
                            have p193 : 0 ≤ ((ji20) : Int) := of_decide_eq_true (by first | (with_reducible assumption) | assumption)
                            have q193 : (ji20) < ((rd_L2 t186 x9_1).length : Int) := of_decide_eq_true (by first | (with_reducible assumption) | assumption)
                            obtain ⟨ad193, e193, hx193_0⟩ := Kd.at_bool (by repeat (first | (with_reducible exact HR192_0.out) | (with_reducible refine Kd.C_alloc ?_ _) | (with_reducible refine Kd.C_drewN ?_ _) | (with_reducible refine Kd.C_drew ?_) | exact HR192_0.out)) (ji20) p193 q193
                            (try rw [← Nbq18.out] at hx193_0)
                            (try rw [← Nbq23.out] at hx193_0)
                            cases e193
                            replace p193 := eq_true p193
                            replace q193 := eq_true q193
                            go_wp2
                            go_ret
                            exact ⟨by first | rfl | (simp [errW_none, errW_some] <;> rfl) | (simp only [← hji20]; first | rfl | (simp [errW_none, errW_some] <;> rfl)) | (simp [*, errW_none, errW_some] <;> rfl), by repeat (first | (with_reducible first | exact HB.out | apply below_alloc | apply pw_below_drewN | apply below_drew1) | exact HB.out)⟩
                        · rw [if_neg c22] at H
                          exact absurd H (by simp)
                      · rw [if_neg c21] at H
                        exact absurd H (by simp)
                    · replace c19 := Bool.eq_false_iff.mpr c19
                      subst c19
                      have H1 : (some false) = some r := by rw [if_neg (show ¬ (false = true) by decide)] at H; exact H
                      clear H
                      have H := H1
                      clear H1
                      obtain rfl := Option.some.inj H
                      have p189 : 0 ≤ (x9_1 : Int) := of_decide_eq_true (by first | (with_reducible assumption) | assumption)
                      have q189 : x9_1 < (t186.length : Int) := of_decide_eq_true (by first | (with_reducible assumption) | assumption)
                      obtain ⟨ad189, A189_0, c189_0, e189, hx189_0, hl189_0, hi189_0⟩ := at_L2 (Kd.S_reads' HO_7.out).2.2 x9_1 p189 q189
                      cases e189
                      obtain ⟨ce189, hce189, hMe189, hcc189⟩ := Kd.S_get HO_7.out [] x9_1 p189 (by first | exact q189 | exact of_decide_eq_true (by first | (with_reducible assumption) | assumption) | (have e_ := (Kd.S_reads' HO_7.out).1; omega))
                      obtain ⟨ve189_0, rfl, ge189_0⟩ := hMe189
                      have hv189_0 := hcc189 0 _ rfl
                      rw [Nat.add_zero, show ((Kd.slice 4 Kd.bool)).sz = 1 from rfl, Nat.mul_one] at hv189_0
                      replace hv189_0 := Option.some.inj (hv189_0.symm.trans hx189_0)
                      rw [hv189_0] at ge189_0
                      have HL189_0 := Aside0.mk (show Kd.R Kd.bool 4 _ _ _ _ (rd_L2 t186 x9_1) from ge189_0)
                      clear hv189_0 ge189_0
                      clear hcc189 hce189
                      have HR189_0 := Aside0.mk hi189_0
                      have HC189_0 := Aside0.mk hl189_0
                      clear hi189_0 hl189_0
                      replace p189 := eq_true p189
                      replace q189 := eq_true q189
                      have p190 : 0 ≤ (x9_1 : Int) := of_decide_eq_true (by first | (with_reducible assumption) | assumption)
                      have q190 : x9_1 < (t186.length : Int) := of_decide_eq_true (by first | (with_reducible assumption) | assumption)
                      obtain ⟨ad190, A190_0, c190_0, e190, hx190_0, hl190_0, hi190_0⟩ := at_L2 (Kd.S_reads' HO_7.out).2.2 x9_1 p190 q190
                      obtain rfl : ad189 = ad190 := (by injection e190)
                      obtain ⟨ce190, hce190, hMe190, hcc190⟩ := Kd.S_get HO_7.out [] x9_1 p190 (by first | exact q190 | exact of_decide_eq_true (by first | (with_reducible assumption) | assumption) | (have e_ := (Kd.S_reads' HO_7.out).1; omega))
                      obtain ⟨ve190_0, rfl, ge190_0⟩ := hMe190
                      have hv190_0 := hcc190 0 _ rfl
                      rw [Nat.add_zero, show ((Kd.slice 4 Kd.bool)).sz = 1 from rfl, Nat.mul_one] at hv190_0
                      replace hv190_0 := Option.some.inj (hv190_0.symm.trans hx190_0)
                      rw [hv190_0] at ge190_0
                      have HL190_0 := Aside0.mk (show Kd.R Kd.bool 4 _ _ _ _ (rd_L2 t186 x9_1) from ge190_0)
                      clear hv190_0 ge190_0
                      clear hcc190 hce190
                      have HR190_0 := Aside0.mk hi190_0
                      have HC190_0 := Aside0.mk hl190_0
                      clear hi190_0 hl190_0
                      replace p190 := eq_true p190
                      replace q190 := eq_true q190
                      have ea_ := Option.some.inj (hx189_0.symm.trans hx190_0)
                      injection ea_ with ea_ en_ ec_
                      subst ea_
                      subst ec_
                      clear en_
                      have p191 : 0 ≤ (x9_1 : Int) := of_decide_eq_true (by first | (with_reducible assumption) | assumption)
                      have q191 : x9_1 < ((rd_L2 t186 x9_1).length : Int) := of_decide_eq_true (by first | (with_reducible assumption) | assumption)
                      obtain ⟨ad191, e191, hx191_0⟩ := Kd.at_bool (by repeat (first | (with_reducible exact HR190_0.out) | (with_reducible refine Kd.C_alloc ?_ _) | (with_reducible refine Kd.C_drewN ?_ _) | (with_reducible refine Kd.C_drew ?_) | exact HR190_0.out)) x9_1 p191 q191
                      (try rw [← Nbq18.out] at hx191_0)
                      cases e191
                      replace p191 := eq_true p191
                      replace q191 := eq_true q191
                      go_wp2
                      go_ret
                      exact ⟨by first | rfl | (simp [errW_none, errW_some] <;> rfl) | (simp [*, errW_none, errW_some] <;> rfl), by repeat (first | (with_reducible first | exact HB.out | apply below_alloc | apply pw_below_drewN | apply below_drew1) | exact HB.out)⟩
                  · rw [if_neg c17] at H
                    exact absurd H (by simp)
                · rw [if_neg c16] at H
                  have c16b0 : (((rd_L2 t186 x9_1).length : Int) == (t183.length : Int)) = false := beq_eq_false_iff_ne.mpr c16
                  have c16b1 : (((rd_L2 t186 x9_1).length : Int) != (t183.length : Int)) = true := bne_iff_ne.mpr c16
                  have c16b2 : ((rd_L2 t186 x9_1).length == t183.length) = false := by first | simpa using c16 | (simp at c16 ⊢; omega)
                  obtain rfl := Option.some.inj H
                  have p189 : 0 ≤ (x9_1 : Int) := of_decide_eq_true (by first | (with_reducible assumption) | assumption)
                  have q189 : x9_1 < (t186.length : Int) := of_decide_eq_true (by first | (with_reducible assumption) | assumption)
                  obtain ⟨ad189, A189_0, c189_0, e189, hx189_0, hl189_0, hi189_0⟩ := at_L2 (Kd.S_reads' HO_7.out).2.2 x9_1 p189 q189
                  cases e189
                  obtain ⟨ce189, hce189, hMe189, hcc189⟩ := Kd.S_get HO_7.out [] x9_1 p189 (by first | exact q189 | exact of_decide_eq_true (by first | (with_reducible assumption) | assumption) | (have e_ := (Kd.S_reads' HO_7.out).1; omega))
                  obtain ⟨ve189_0, rfl, ge189_0⟩ := hMe189
                  have hv189_0 := hcc189 0 _ rfl
                  rw [Nat.add_zero, show ((Kd.slice 4 Kd.bool)).sz = 1 from rfl, Nat.mul_one] at hv189_0
                  replace hv189_0 := Option.some.inj (hv189_0.symm.trans hx189_0)
                  rw [hv189_0] at ge189_0
                  have HL189_0 := Aside0.mk (show Kd.R Kd.bool 4 _ _ _ _ (rd_L2 t186 x9_1) from ge189_0)
                  clear hv189_0 ge189_0
                  clear hcc189 hce189
                  have HR189_0 := Aside0.mk hi189_0
                  have HC189_0 := Aside0.mk hl189_0
                  clear hi189_0 hl189_0
                  replace p189 := eq_true p189
                  replace q189 := eq_true q189
                  go_wp2
                  go_ret
                  exact ⟨by first | rfl | (simp [errW_none, errW_some] <;> rfl) | (simp [*, errW_none, errW_some] <;> rfl), by repeat (first | (with_reducible first | exact HB.out | apply below_alloc | apply pw_below_drewN | apply below_drew1) | exact HB.out)⟩
              · rw [if_neg c15] at H
                exact absurd H (by simp)
            · rw [if_neg c14] at H
              exact absurd H (by simp)
          · rw [if_neg c13] at H
            have c13b0 : decide (x9_1 < (t183.length : Int)) = false := decide_eq_false c13
            clear c13
            have H' := Aside0.mk H
            clear H
            go_wp2
            go_loopg [10] k1 (fun kq v10 w' => ∃ (x10_2 : Int), v10 = .int .i64 x10_2 ∧ Aside0 (billhooklaw10_DomPost.l1 kq true t183 t186 (t183.length : Int) x10_2 = some r) ∧ Aside0 (kq ≤ k1) ∧ Aside0 (Kd.S (Kd.slice 3 (Kd.int .i64)) 54 w' w.heap.size (fun _ => True) (.slice Ao10 t183.length co10) t183) ∧ Aside0 (Kd.S (Kd.slice 4 Kd.bool) 57 w' w.heap.size (fun _ => True) (.slice Ao12 t186.length co12) t186) ∧ Aside0 (Below w.heap.size w w'))
            case atStart => exact ⟨(0), (by first | rfl | (simp; done) | (simp [*]; done)), H', ⟨Nat.le_refl _⟩, ⟨by (with_reducible repeat (first | apply Kd.S_alloc | apply Kd.S_drewN | apply Kd.S_drew)); exact HO_6.out⟩, ⟨by (with_reducible repeat (first | apply Kd.S_alloc | apply Kd.S_drewN | apply Kd.S_drew)); exact HO_7.out⟩, ⟨by repeat (first | (with_reducible first | exact HB.out | apply below_alloc | apply pw_below_drewN | apply below_drew1) | exact HB.out)⟩⟩
            case round =>
              clear H'
              try clear c1
              try clear p1
              try clear q1
              try clear hx1
              try clear c2
              try clear p2
              try clear q2
              try clear c3
              try clear c4
              try clear c6
              try clear p6
              try clear c7
              try clear c7b0
              try clear c7b1
              try clear c7b2
              try clear c13
              try clear c13b0
              try clear c14
              try clear c14b0
              try clear c15
              try clear c15b0
              try clear c16
              try clear c16b0
              try clear c16b1
              try clear c16b2
              try clear c17
              try clear c17b0
              try clear c18
              try clear p18
              try clear q18
              try clear hx18
              try clear c19
              try clear p19
              try clear q19
              try clear hx19
              try clear c21
              try clear c21b0
              try clear c22
              try clear c22b0
              try clear q23
              try clear c24
              try clear hx189_0
              try clear hx190_0
              try clear hx191_0
              try clear hx192_0
              try clear hx193_0
              try clear p189
              try clear p190
              try clear p191
              try clear p192
              try clear p193
              try clear p2
              try clear q189
              try clear q190
              try clear q191
              try clear q192
              try clear q193
              obtain ⟨x10_2, rfl, HA, HK2, HO_6, HO_7, HB⟩ := hrel
              cases gk with
              | zero => exact absurd HA.out (by simp [billhooklaw10_DomPost.l1])
              | succ k2 =>
                have H := HA.out
                clear HA
                simp only [billhooklaw10_DomPost.l1] at H
                by_cases c25 : x10_2 < (wrap64 ((t183.length : Int) - 1))
                · rw [if_pos c25] at H
                  have c25b0 : decide (x10_2 < (wrap64 ((t183.length : Int) - 1))) = true := decide_eq_true c25
                  clear c25
                  have H' := Aside0.mk H
                  clear H
                  go_wp2
                  go_loopg [11] k2 (fun kq v11 w' => ∃ (x11_3 : Int), v11 = .int .i64 x11_3 ∧ Aside0 (billhooklaw10_DomPost.l2 kq true t183 t186 (t183.length : Int) x10_2 x11_3 = some r) ∧ Aside0 (kq ≤ k2) ∧ Aside0 (Kd.S (Kd.slice 3 (Kd.int .i64)) 54 w' w.heap.size (fun _ => True) (.slice Ao10 t183.length co10) t183) ∧ Aside0 (Kd.S (Kd.slice 4 Kd.bool) 57 w' w.heap.size (fun _ => True) (.slice Ao12 t186.length co12) t186) ∧ Aside0 (Below w.heap.size w w'))
                  case atStart => exact ⟨(0), (by first | rfl | (simp; done) | (simp [*]; done)), H', ⟨Nat.le_refl _⟩, ⟨by (with_reducible repeat (first | apply Kd.S_alloc | apply Kd.S_drewN | apply Kd.S_drew)); exact HO_6.out⟩, ⟨by (with_reducible repeat (first | apply Kd.S_alloc | apply Kd.S_drewN | apply Kd.S_drew)); exact HO_7.out⟩, ⟨by repeat (first | (with_reducible first | exact HB.out | apply below_alloc | apply pw_below_drewN | apply below_drew1) | exact HB.out)⟩⟩
                  case round =>
                    clear H'
                    try clear c1
                    try clear p1
                    try clear q1
                    try clear hx1
                    try clear c2
                    try clear p2
                    try clear q2
                    try clear c3
                    try clear c4
                    try clear c6
                    try clear p6
                    try clear c7
                    try clear c7b0
                    try clear c7b1
                    try clear c7b2
                    try clear c13
                    try clear c13b0
                    try clear c14
                    try clear c14b0
                    try clear c15
                    try clear c15b0
                    try clear c16
                    try clear c16b0
                    try clear c16b1
                    try clear c16b2
                    try clear c17
                    try clear c17b0
                    try clear c18
                    try clear p18
                    try clear q18
                    try clear hx18
                    try clear c19
                    try clear p19
                    try clear q19
                    try clear hx19
                    try clear c21
                    try clear c21b0
                    try clear c22
                    try clear c22b0
                    try clear q23
                    try clear c24
                    try clear c25
                    try clear c25b0
                    try clear hx189_0
                    try clear hx190_0
                    try clear hx191_0
                    try clear hx192_0
                    try clear hx193_0
                    try clear p1
                    try clear p18
                    try clear p189
                    try clear p19
                    try clear p190
                    try clear p191
                    try clear p192
                    try clear p193
                    try clear p2
                    try clear p6
                    try clear q1
                    try clear q18
                    try clear q189
                    try clear q19
                    try clear q190
                    try clear q191
                    try clear q192
                    try clear q193
                    try clear q2
                    try clear q23
                    obtain ⟨x11_3, rfl, HA, HK3, HO_6, HO_7, HB⟩ := hrel
                    cases gk with
                    | zero => exact absurd HA.out (by simp [billhooklaw10_DomPost.l2])
                    | succ k3 =>
                      have H := HA.out
                      clear HA
                      simp only [billhooklaw10_DomPost.l2] at H
                      by_cases c26 : x11_3 < (t183.length : Int)
                      · rw [if_pos c26] at H
                        have c26b0 : decide (x11_3 < (t183.length : Int)) = true := decide_eq_true c26
                        clear c26
                        by_cases c27 : 0 ≤ x10_2
                        · rw [if_pos c27] at H
                          have c27b0 : decide (0 ≤ x10_2) = true := decide_eq_true c27
                          clear c27
                          by_cases c28 : x10_2 < (t183.length : Int)
                          · rw [if_pos c28] at H
                            have c28b0 : decide (x10_2 < (t183.length : Int)) = true := decide_eq_true c28
                            clear c28
                            have H' := Aside0.mk H
                            clear H
                            have p194 : 0 ≤ (x10_2 : Int) := of_decide_eq_true (by first | (with_reducible assumption) | assumption)
                            have q194 : x10_2 < (t183.length : Int) := of_decide_eq_true (by first | (with_reducible assumption) | assumption)
                            obtain ⟨ad194, A194_0, c194_0, e194, hx194_0, hl194_0, hi194_0⟩ := at_L3 (Kd.S_reads' HO_6.out).2.2 x10_2 p194 q194
                            cases e194
                            obtain ⟨ce194, hce194, hMe194, hcc194⟩ := Kd.S_get HO_6.out [] x10_2 p194 (by first | exact q194 | exact of_decide_eq_true (by first | (with_reducible assumption) | assumption) | (have e_ := (Kd.S_reads' HO_6.out).1; omega))
                            obtain ⟨ve194_0, rfl, ge194_0⟩ := hMe194
                            have hv194_0 := hcc194 0 _ rfl
                            rw [Nat.add_zero, show ((Kd.slice 3 (Kd.int .i64))).sz = 1 from rfl, Nat.mul_one] at hv194_0
                            replace hv194_0 := Option.some.inj (hv194_0.symm.trans hx194_0)
                            rw [hv194_0] at ge194_0
                            have HL194_0 := Aside0.mk (show Kd.R (Kd.int .i64) 3 _ _ _ _ (rd_L3 t183 x10_2) from ge194_0)
                            clear hv194_0 ge194_0
                            clear hcc194 hce194
                            have HR194_0 := Aside0.mk hi194_0
                            have HC194_0 := Aside0.mk hl194_0
                            clear hi194_0 hl194_0
                            replace p194 := eq_true p194
                            replace q194 := eq_true q194
                            go_wp2
                            go_loopg [12, 13] k3 (fun kq v12 v13 w' => ∃ (x12_4 : Bool) (x13_4 : Int), v12 = .bool x12_4 ∧ v13 = .int .i64 x13_4 ∧ Aside0 (billhooklaw10_DomPost.l3 kq true t183 t186 (t183.length : Int) x10_2 x11_3 x12_4 x13_4 = some r) ∧ Aside0 (kq ≤ k3) ∧ Aside0 (Kd.S (Kd.slice 3 (Kd.int .i64)) 54 w' w.heap.size (fun _ => True) (.slice (some ad194) t183.length co10) t183) ∧ Aside0 (Kd.S (Kd.slice 4 Kd.bool) 57 w' w.heap.size (fun _ => True) (.slice Ao12 t186.length co12) t186) ∧ Aside0 (Kd.C (Kd.int .i64) w' A194_0 (rd_L3 t183 x10_2).length (rd_L3 t183 x10_2)) ∧ Aside0 (Below w.heap.size w w'))
                            case atStart => exact ⟨(decide (((rd_L3 t183 x10_2).length : Int) > 0)), (0), (by first | rfl | (simp; done) | (simp [*]; done)), (by first | rfl | (simp; done) | (simp [*]; done)), H', ⟨Nat.le_refl _⟩, ⟨by (with_reducible repeat (first | apply Kd.S_alloc | apply Kd.S_drewN | apply Kd.S_drew)); exact HO_6.out⟩, ⟨by (with_reducible repeat (first | apply Kd.S_alloc | apply Kd.S_drewN | apply Kd.S_drew)); exact HO_7.out⟩, ⟨by repeat (first | (with_reducible exact HR194_0.out) | (with_reducible refine Kd.C_alloc ?_ _) | (with_reducible refine Kd.C_drewN ?_ _) | (with_reducible refine Kd.C_drew ?_) | exact HR194_0.out)⟩, ⟨by repeat (first | (with_reducible first | exact HB.out | apply below_alloc | apply pw_below_drewN | apply below_drew1) | exact HB.out)⟩⟩
                            case round =>
                              clear H'
                              try clear c1
                              try clear p1
                              try clear q1
                              try clear hx1
                              try clear c2
                              try clear p2
                              try clear q2
                              try clear c3
                              try clear c4
                              try clear c6
                              try clear p6
                              try clear c7
                              try clear c7b0
                              try clear c7b1
                              try clear c7b2
                              try clear c13
                              try clear c13b0
                              try clear c14
                              try clear c14b0
                              try clear c15
                              try clear c15b0
                              try clear c16
                              try clear c16b0
                              try clear c16b1
                              try clear c16b2
                              try clear c17
                              try clear c17b0
                              try clear c18
                              try clear p18
                              try clear q18
                              try clear hx18
                              try clear c19
                              try clear p19
                              try clear q19
                              try clear hx19
                              try clear c21
                              try clear c21b0
                              try clear c22
                              try clear c22b0
                              try clear q23
                              try clear c24
                              try clear c25
                              try clear c25b0
                              try clear c26
                              try clear c26b0
                              try clear c27
                              try clear c27b0
                              try clear c28
                              try clear c28b0
                              try clear hx189_0
                              try clear hx190_0
                              try clear hx191_0
                              try clear hx192_0
                              try clear hx193_0
                              try clear hx194_0
                              try clear p1
                              try clear p18
                              try clear p189
                              try clear p19
                              try clear p190
                              try clear p191
                              try clear p192
                              try clear p193
                              try clear p194
                              try clear p2
                              try clear p6
                              try clear q1
                              try clear q18
                              try clear q189
                              try clear q19
                              try clear q190
                              try clear q191
                              try clear q192
                              try clear q193
                              try clear q194
                              try clear q2
                              try clear q23
                              obtain ⟨x12_4, x13_4, rfl, rfl, HA, HK4, HO_6, HO_7, HR194_0, HB⟩ := hrel
                              cases gk with
                              | zero => exact absurd HA.out (by simp [billhooklaw10_DomPost.l3])
                              | succ k4 =>
                                have H := HA.out
                                clear HA
                                simp only [billhooklaw10_DomPost.l3] at H
                                by_cases c29 : 0 ≤ x10_2
                                · rw [if_pos c29] at H
                                  have c29b0 : decide (0 ≤ x10_2) = true := decide_eq_true c29
                                  clear c29
                                  by_cases c30 : x10_2 < (t183.length : Int)
                                  · rw [if_pos c30] at H
                                    have c30b0 : decide (x10_2 < (t183.length : Int)) = true := decide_eq_true c30
                                    clear c30
                                    by_cases c31 : x13_4 < ((rd_L3 t183 x10_2).length : Int)
                                    · rw [if_pos c31] at H
                                      have c31b0 : decide (x13_4 < ((rd_L3 t183 x10_2).length : Int)) = true := decide_eq_true c31
                                      clear c31
                                      by_cases c32 : x12_4 = true
                                      · subst c32
                                        have H1 : (if 0 ≤ x13_4 then (if 0 ≤ (rd (rd_L3 t183 x10_2) x13_4) then (if (rd (rd_L3 t183 x10_2) x13_4) < (t186.length : Int) then (if 0 ≤ x11_3 then (if x11_3 < ((rd_L2 t186 (rd (rd_L3 t183 x10_2) x13_4)).length : Int) then (billhooklaw10_DomPost.l3 k4 true t183 t186 (t183.length : Int) x10_2 x11_3 (rdOf false (rd_L2 t186 (rd (rd_L3 t183 x10_2) x13_4)) x11_3) (wrap64 (x13_4 + 1))) else (none)) else (none)) else (none)) else (none)) else (none)) = some r := by first | (rw [if_pos rfl] at H; exact H) | (rw [if_pos trivial] at H; exact H)
                                        clear H
                                        have H := H1
                                        clear H1
                                        by_cases c33 : 0 ≤ x13_4
                                        · rw [if_pos c33] at H
                                          have c33b0 : decide (0 ≤ x13_4) = true := decide_eq_true c33
                                          clear c33
                                          by_cases c34 : 0 ≤ (rd (rd_L3 t183 x10_2) x13_4)
                                          · rw [if_pos c34] at H
                                            have c34b0 : decide (0 ≤ (rd (rd_L3 t183 x10_2) x13_4)) = true := decide_eq_true c34
                                            clear c34
                                            by_cases c35 : (rd (rd_L3 t183 x10_2) x13_4) < (t186.length : Int)
                                            · rw [if_pos c35] at H
                                              have c35b0 : decide ((rd (rd_L3 t183 x10_2) x13_4) < (t186.length : Int)) = true := decide_eq_true c35
                                              clear c35
                                              by_cases c36 : 0 ≤ x11_3
                                              · rw [if_pos c36] at H
                                                have c36b0 : decide (0 ≤ x11_3) = true := decide_eq_true c36
                                                clear c36
                                                by_cases c37 : x11_3 < ((rd_L2 t186 (rd (rd_L3 t183 x10_2) x13_4)).length : Int)
                                                · rw [if_pos c37] at H
                                                  have c37b0 : decide (x11_3 < ((rd_L2 t186 (rd (rd_L3 t183 x10_2) x13_4)).length : Int)) = true := decide_eq_true c37
                                                  clear c37
                                                  have H' := Aside0.mk H
                                                  clear H
                                                  have p195 : 0 ≤ (x10_2 : Int) := of_decide_eq_true (by first | (with_reducible assumption) | assumption)
                                                  have q195 : x10_2 < (t183.length : Int) := of_decide_eq_true (by first | (with_reducible assumption) | assumption)
                                                  obtain ⟨ad195, A195_0, c195_0, e195, hx195_0, hl195_0, hi195_0⟩ := at_L3 (Kd.S_reads' HO_6.out).2.2 x10_2 p195 q195
                                                  obtain rfl : ad194 = ad195 := (by injection e195)
                                                  obtain ⟨ce195, hce195, hMe195, hcc195⟩ := Kd.S_get HO_6.out [] x10_2 p195 (by first | exact q195 | exact of_decide_eq_true (by first | (with_reducible assumption) | assumption) | (have e_ := (Kd.S_reads' HO_6.out).1; omega))
                                                  obtain ⟨ve195_0, rfl, ge195_0⟩ := hMe195
                                                  have hv195_0 := hcc195 0 _ rfl
                                                  rw [Nat.add_zero, show ((Kd.slice 3 (Kd.int .i64))).sz = 1 from rfl, Nat.mul_one] at hv195_0
                                                  replace hv195_0 := Option.some.inj (hv195_0.symm.trans hx195_0)
                                                  rw [hv195_0] at ge195_0
                                                  have HL195_0 := Aside0.mk (show Kd.R (Kd.int .i64) 3 _ _ _ _ (rd_L3 t183 x10_2) from ge195_0)
                                                  clear hv195_0 ge195_0
                                                  clear hcc195 hce195
                                                  have HR195_0 := Aside0.mk hi195_0
                                                  have HC195_0 := Aside0.mk hl195_0
                                                  clear hi195_0 hl195_0
                                                  (try (have hz_ := Option.some.inj (hx194_0.symm.trans hx195_0); injection hz_ with za_ zn_ zc_; subst za_; subst zc_; clear zn_))
                                                  replace p195 := eq_true p195
                                                  replace q195 := eq_true q195
                                                  have p196 : 0 ≤ (x10_2 : Int) := of_decide_eq_true (by first | (with_reducible assumption) | assumption)
                                                  have q196 : x10_2 < (t183.length : Int) := of_decide_eq_true (by first | (with_reducible assumption) | assumption)
                                                  obtain ⟨ad196, A196_0, c196_0, e196, hx196_0, hl196_0, hi196_0⟩ := at_L3 (Kd.S_reads' HO_6.out).2.2 x10_2 p196 q196
                                                  obtain rfl : ad194 = ad196 := (by injection e196)
                                                  obtain ⟨ce196, hce196, hMe196, hcc196⟩ := Kd.S_get HO_6.out [] x10_2 p196 (by first | exact q196 | exact of_decide_eq_true (by first | (with_reducible assumption) | assumption) | (have e_ := (Kd.S_reads' HO_6.out).1; omega))
                                                  obtain ⟨ve196_0, rfl, ge196_0⟩ := hMe196
                                                  have hv196_0 := hcc196 0 _ rfl
                                                  rw [Nat.add_zero, show ((Kd.slice 3 (Kd.int .i64))).sz = 1 from rfl, Nat.mul_one] at hv196_0
                                                  replace hv196_0 := Option.some.inj (hv196_0.symm.trans hx196_0)
                                                  rw [hv196_0] at ge196_0
                                                  have HL196_0 := Aside0.mk (show Kd.R (Kd.int .i64) 3 _ _ _ _ (rd_L3 t183 x10_2) from ge196_0)
                                                  clear hv196_0 ge196_0
                                                  clear hcc196 hce196
                                                  have HR196_0 := Aside0.mk hi196_0
                                                  have HC196_0 := Aside0.mk hl196_0
                                                  clear hi196_0 hl196_0
                                                  replace p196 := eq_true p196
                                                  replace q196 := eq_true q196
                                                  have ea_ := Option.some.inj (hx195_0.symm.trans hx196_0)
                                                  injection ea_ with ea_ en_ ec_
                                                  subst ea_
                                                  subst ec_
                                                  clear en_
                                                  have p197 : 0 ≤ (x13_4 : Int) := of_decide_eq_true (by first | (with_reducible assumption) | assumption)
                                                  have q197 : x13_4 < ((rd_L3 t183 x10_2).length : Int) := of_decide_eq_true (by first | (with_reducible assumption) | assumption)
                                                  obtain ⟨ad197, e197, hx197_0⟩ := Kd.at_int (by repeat (first | (with_reducible exact HR196_0.out) | (with_reducible refine Kd.C_alloc ?_ _) | (with_reducible refine Kd.C_drewN ?_ _) | (with_reducible refine Kd.C_drew ?_) | exact HR196_0.out)) x13_4 p197 q197
                                                  cases e197
                                                  replace p197 := eq_true p197
                                                  replace q197 := eq_true q197
                                                  have p198 : 0 ≤ ((rd (rd_L3 t183 x10_2) x13_4) : Int) := of_decide_eq_true (by first | (with_reducible assumption) | assumption)
                                                  have q198 : (rd (rd_L3 t183 x10_2) x13_4) < (t186.length : Int) := of_decide_eq_true (by first | (with_reducible assumption) | assumption)
                                                  obtain ⟨ad198, A198_0, c198_0, e198, hx198_0, hl198_0, hi198_0⟩ := at_L2 (Kd.S_reads' HO_7.out).2.2 (rd (rd_L3 t183 x10_2) x13_4) p198 q198
                                                  cases e198
                                                  obtain ⟨ce198, hce198, hMe198, hcc198⟩ := Kd.S_get HO_7.out [] (rd (rd_L3 t183 x10_2) x13_4) p198 (by first | exact q198 | exact of_decide_eq_true (by first | (with_reducible assumption) | assumption) | (have e_ := (Kd.S_reads' HO_7.out).1; omega))
                                                  obtain ⟨ve198_0, rfl, ge198_0⟩ := hMe198
                                                  have hv198_0 := hcc198 0 _ rfl
                                                  rw [Nat.add_zero, show ((Kd.slice 4 Kd.bool)).sz = 1 from rfl, Nat.mul_one] at hv198_0
                                                  replace hv198_0 := Option.some.inj (hv198_0.symm.trans hx198_0)
                                                  rw [hv198_0] at ge198_0
                                                  have HL198_0 := Aside0.mk (show Kd.R Kd.bool 4 _ _ _ _ (rd_L2 t186 (rd (rd_L3 t183 x10_2) x13_4)) from ge198_0)
                                                  clear hv198_0 ge198_0
                                                  clear hcc198 hce198
                                                  have HR198_0 := Aside0.mk hi198_0
                                                  have HC198_0 := Aside0.mk hl198_0
                                                  clear hi198_0 hl198_0
                                                  (try (have hz_ := Option.some.inj (hx194_0.symm.trans hx198_0); injection hz_ with za_ zn_ zc_; subst za_; subst zc_; clear zn_))
                                                  (try (have hz_ := Option.some.inj (hx195_0.symm.trans hx198_0); injection hz_ with za_ zn_ zc_; subst za_; subst zc_; clear zn_))
                                                  (try (have hz_ := Option.some.inj (hx196_0.symm.trans hx198_0); injection hz_ with za_ zn_ zc_; subst za_; subst zc_; clear zn_))
                                                  replace p198 := eq_true p198
                                                  replace q198 := eq_true q198
                                                  have p199 : 0 ≤ (x11_3 : Int) := of_decide_eq_true (by first | (with_reducible assumption) | assumption)
                                                  have q199 : x11_3 < ((rd_L2 t186 (rd (rd_L3 t183 x10_2) x13_4)).length : Int) := of_decide_eq_true (by first | (with_reducible assumption) | assumption)
                                                  obtain ⟨ad199, e199, hx199_0⟩ := Kd.at_bool (by repeat (first | (with_reducible exact HR198_0.out) | (with_reducible refine Kd.C_alloc ?_ _) | (with_reducible refine Kd.C_drewN ?_ _) | (with_reducible refine Kd.C_drew ?_) | exact HR198_0.out)) x11_3 p199 q199
                                                  cases e199
                                                  replace p199 := eq_true p199
                                                  replace q199 := eq_true q199
                                                  go_wp2
                                                  go_roundg k4
                                                  case measure => have := HK1.out; have := HK2.out; have := HK3.out; have := HK4.out; omega
                                                  case rel => exact ⟨(rdOf false (rd_L2 t186 (rd (rd_L3 t183 x10_2) x13_4)) x11_3), (wrap64 (x13_4 + 1)), (by first | rfl | (simp; done) | (simp [*]; done)), (by first | rfl | (simp; done) | (simp [*]; done)), H', ⟨by have := HK1.out; have := HK2.out; have := HK3.out; have := HK4.out; omega⟩, ⟨by (with_reducible repeat (first | apply Kd.S_alloc | apply Kd.S_drewN | apply Kd.S_drew)); exact HO_6.out⟩, ⟨by (with_reducible repeat (first | apply Kd.S_alloc | apply Kd.S_drewN | apply Kd.S_drew)); exact HO_7.out⟩, ⟨by repeat (first | (with_reducible exact HR194_0.out) | (with_reducible refine Kd.C_alloc ?_ _) | (with_reducible refine Kd.C_drewN ?_ _) | (with_reducible refine Kd.C_drew ?_) | exact HR194_0.out)⟩, ⟨by repeat (first | (with_reducible first | exact HB.out | apply below_alloc | apply pw_below_drewN | apply below_drew1) | exact HB.out)⟩⟩
                                                · rw [if_neg c37] at H
                                                  exact absurd H (by simp)
                                              · rw [if_neg c36] at H
                                                exact absurd H (by simp)
                                            · rw [if_neg c35] at H
                                              exact absurd H (by simp)
                                          · rw [if_neg c34] at H
                                            exact absurd H (by simp)
                                        · rw [if_neg c33] at H
                                          exact absurd H (by simp)
                                      · replace c32 := Bool.eq_false_iff.mpr c32
                                        subst c32
                                        have H1 : (billhooklaw10_DomPost.l3 k4 true t183 t186 (t183.length : Int) x10_2 x11_3 false (wrap64 (x13_4 + 1))) = some r := by rw [if_neg (show ¬ (false = true) by decide)] at H; exact H
                                        clear H
                                        have H := H1
                                        clear H1
                                        have H' := Aside0.mk H
                                        clear H
                                        have p195 : 0 ≤ (x10_2 : Int) := of_decide_eq_true (by first | (with_reducible assumption) | assumption)
                                        have q195 : x10_2 < (t183.length : Int) := of_decide_eq_true (by first | (with_reducible assumption) | assumption)
                                        obtain ⟨ad195, A195_0, c195_0, e195, hx195_0, hl195_0, hi195_0⟩ := at_L3 (Kd.S_reads' HO_6.out).2.2 x10_2 p195 q195
                                        obtain rfl : ad194 = ad195 := (by injection e195)
                                        obtain ⟨ce195, hce195, hMe195, hcc195⟩ := Kd.S_get HO_6.out [] x10_2 p195 (by first | exact q195 | exact of_decide_eq_true (by first | (with_reducible assumption) | assumption) | (have e_ := (Kd.S_reads' HO_6.out).1; omega))
                                        obtain ⟨ve195_0, rfl, ge195_0⟩ := hMe195
                                        have hv195_0 := hcc195 0 _ rfl
                                        rw [Nat.add_zero, show ((Kd.slice 3 (Kd.int .i64))).sz = 1 from rfl, Nat.mul_one] at hv195_0
                                        replace hv195_0 := Option.some.inj (hv195_0.symm.trans hx195_0)
                                        rw [hv195_0] at ge195_0
                                        have HL195_0 := Aside0.mk (show Kd.R (Kd.int .i64) 3 _ _ _ _ (rd_L3 t183 x10_2) from ge195_0)
                                        clear hv195_0 ge195_0
                                        clear hcc195 hce195
                                        have HR195_0 := Aside0.mk hi195_0
                                        have HC195_0 := Aside0.mk hl195_0
                                        clear hi195_0 hl195_0
                                        (try (have hz_ := Option.some.inj (hx194_0.symm.trans hx195_0); injection hz_ with za_ zn_ zc_; subst za_; subst zc_; clear zn_))
                                        replace p195 := eq_true p195
                                        replace q195 := eq_true q195
                                        go_wp2
                                        go_roundg k4
                                        case measure => have := HK1.out; have := HK2.out; have := HK3.out; have := HK4.out; omega
                                        case rel => exact ⟨(false), (wrap64 (x13_4 + 1)), (by first | rfl | (simp; done) | (simp [*]; done)), (by first | rfl | (simp; done) | (simp [*]; done)), H', ⟨by have := HK1.out; have := HK2.out; have := HK3.out; have := HK4.out; omega⟩, ⟨by (with_reducible repeat (first | apply Kd.S_alloc | apply Kd.S_drewN | apply Kd.S_drew)); exact HO_6.out⟩, ⟨by (with_reducible repeat (first | apply Kd.S_alloc | apply Kd.S_drewN | apply Kd.S_drew)); exact HO_7.out⟩, ⟨by repeat (first | (with_reducible exact HR194_0.out) | (with_reducible refine Kd.C_alloc ?_ _) | (with_reducible refine Kd.C_drewN ?_ _) | (with_reducible refine Kd.C_drew ?_) | exact HR194_0.out)⟩, ⟨by repeat (first | (with_reducible first | exact HB.out | apply below_alloc | apply pw_below_drewN | apply below_drew1) | exact HB.out)⟩⟩
                                    · rw [if_neg c31] at H
                                      have c31b0 : decide (x13_4 < ((rd_L3 t183 x10_2).length : Int)) = false := decide_eq_false c31
                                      clear c31
                                      by_cases c38 : x11_3 = x10_2
                                      · rw [if_pos c38] at H
                                        have c38b0 : (x11_3 == x10_2) = true := beq_iff_eq.mpr c38
                                        have c38b1 : (x11_3 != x10_2) = false := bne_eq_false_iff_eq.mpr c38
                                        clear c38
                                        have H' := Aside0.mk H
                                        clear H
                                        have p195 : 0 ≤ (x10_2 : Int) := of_decide_eq_true (by first | (with_reducible assumption) | assumption)
                                        have q195 : x10_2 < (t183.length : Int) := of_decide_eq_true (by first | (with_reducible assumption) | assumption)
                                        obtain ⟨ad195, A195_0, c195_0, e195, hx195_0, hl195_0, hi195_0⟩ := at_L3 (Kd.S_reads' HO_6.out).2.2 x10_2 p195 q195
                                        obtain rfl : ad194 = ad195 := (by injection e195)
                                        obtain ⟨ce195, hce195, hMe195, hcc195⟩ := Kd.S_get HO_6.out [] x10_2 p195 (by first | exact q195 | exact of_decide_eq_true (by first | (with_reducible assumption) | assumption) | (have e_ := (Kd.S_reads' HO_6.out).1; omega))
                                        obtain ⟨ve195_0, rfl, ge195_0⟩ := hMe195
                                        have hv195_0 := hcc195 0 _ rfl
                                        rw [Nat.add_zero, show ((Kd.slice 3 (Kd.int .i64))).sz = 1 from rfl, Nat.mul_one] at hv195_0
                                        replace hv195_0 := Option.some.inj (hv195_0.symm.trans hx195_0)
                                        rw [hv195_0] at ge195_0
                                        have HL195_0 := Aside0.mk (show Kd.R (Kd.int .i64) 3 _ _ _ _ (rd_L3 t183 x10_2) from ge195_0)
                                        clear hv195_0 ge195_0
                                        clear hcc195 hce195
                                        have HR195_0 := Aside0.mk hi195_0
                                        have HC195_0 := Aside0.mk hl195_0
                                        clear hi195_0 hl195_0
                                        (try (have hz_ := Option.some.inj (hx194_0.symm.trans hx195_0); injection hz_ with za_ zn_ zc_; subst za_; subst zc_; clear zn_))
                                        replace p195 := eq_true p195
                                        replace q195 := eq_true q195
                                        go_wp2
                                        go_roundg k4
                                        case measure => have := HK1.out; have := HK2.out; have := HK3.out; have := HK4.out; omega
                                        case rel => exact ⟨(wrap64 (x11_3 + 1)), (by first | rfl | (simp; done) | (simp [*]; done)), H', ⟨by have := HK1.out; have := HK2.out; have := HK3.out; have := HK4.out; omega⟩, ⟨by (with_reducible repeat (first | apply Kd.S_alloc | apply Kd.S_drewN | apply Kd.S_drew)); exact HO_6.out⟩, ⟨by (with_reducible repeat (first | apply Kd.S_alloc | apply Kd.S_drewN | apply Kd.S_drew)); exact HO_7.out⟩, ⟨by repeat (first | (with_reducible first | exact HB.out | apply below_alloc | apply pw_below_drewN | apply below_drew1) | exact HB.out)⟩⟩
                                      · rw [if_neg c38] at H
                                        have c38b0 : (x11_3 == x10_2) = false := beq_eq_false_iff_ne.mpr c38
                                        have c38b1 : (x11_3 != x10_2) = true := bne_iff_ne.mpr c38
                                        by_cases c39 : x10_2 < (t186.length : Int)
                                        · rw [if_pos c39] at H
                                          have c39b0 : decide (x10_2 < (t186.length : Int)) = true := decide_eq_true c39
                                          clear c39
                                          by_cases c40 : 0 ≤ x11_3
                                          · rw [if_pos c40] at H
                                            have c40b0 : decide (0 ≤ x11_3) = true := decide_eq_true c40
                                            clear c40
                                            by_cases c41 : x11_3 < ((rd_L2 t186 x10_2).length : Int)
                                            · rw [if_pos c41] at H
                                              have c41b0 : decide (x11_3 < ((rd_L2 t186 x10_2).length : Int)) = true := decide_eq_true c41
                                              clear c41
                                              by_cases c42 : ((rdOf false (rd_L2 t186 x10_2) x11_3) != x12_4) = true
                                              · rw [if_pos c42] at H
                                                have c42b0 : ((rdOf false (rd_L2 t186 x10_2) x11_3) != x12_4) = true := c42
                                                (try (have c42b1 : decide ((rdOf false (rd_L2 t186 x10_2) x11_3) = x12_4) = false := by simpa using c42))
                                                (try (have c42b2 : ((rdOf false (rd_L2 t186 x10_2) x11_3) == x12_4) = false := by simpa using c42))
                                                (try (have c42b3 : ¬ ((rdOf false (rd_L2 t186 x10_2) x11_3) = x12_4) := by simpa using c42))
                                                clear c42
                                                obtain rfl := Option.some.inj H
                                                have p195 : 0 ≤ (x10_2 : Int) := of_decide_eq_true (by first | (with_reducible assumption) | assumption)
                                                have q195 : x10_2 < (t183.length : Int) := of_decide_eq_true (by first | (with_reducible assumption) | assumption)
                                                obtain ⟨ad195, A195_0, c195_0, e195, hx195_0, hl195_0, hi195_0⟩ := at_L3 (Kd.S_reads' HO_6.out).2.2 x10_2 p195 q195
                                                obtain rfl : ad194 = ad195 := (by injection e195)
                                                obtain ⟨ce195, hce195, hMe195, hcc195⟩ := Kd.S_get HO_6.out [] x10_2 p195 (by first | exact q195 | exact of_decide_eq_true (by first | (with_reducible assumption) | assumption) | (have e_ := (Kd.S_reads' HO_6.out).1; omega))
                                                obtain ⟨ve195_0, rfl, ge195_0⟩ := hMe195
                                                have hv195_0 := hcc195 0 _ rfl
                                                rw [Nat.add_zero, show ((Kd.slice 3 (Kd.int .i64))).sz = 1 from rfl, Nat.mul_one] at hv195_0
                                                replace hv195_0 := Option.some.inj (hv195_0.symm.trans hx195_0)
                                                rw [hv195_0] at ge195_0
                                                have HL195_0 := Aside0.mk (show Kd.R (Kd.int .i64) 3 _ _ _ _ (rd_L3 t183 x10_2) from ge195_0)
                                                clear hv195_0 ge195_0
                                                clear hcc195 hce195
                                                have HR195_0 := Aside0.mk hi195_0
                                                have HC195_0 := Aside0.mk hl195_0
                                                clear hi195_0 hl195_0
                                                (try (have hz_ := Option.some.inj (hx194_0.symm.trans hx195_0); injection hz_ with za_ zn_ zc_; subst za_; subst zc_; clear zn_))
                                                replace p195 := eq_true p195
                                                replace q195 := eq_true q195
                                                have p200 : 0 ≤ (x10_2 : Int) := of_decide_eq_true (by first | (with_reducible assumption) | assumption)
                                                have q200 : x10_2 < (t186.length : Int) := of_decide_eq_true (by first | (with_reducible assumption) | assumption)
                                                obtain ⟨ad200, A200_0, c200_0, e200, hx200_0, hl200_0, hi200_0⟩ := at_L2 (Kd.S_reads' HO_7.out).2.2 x10_2 p200 q200
                                                cases e200
                                                obtain ⟨ce200, hce200, hMe200, hcc200⟩ := Kd.S_get HO_7.out [] x10_2 p200 (by first | exact q200 | exact of_decide_eq_true (by first | (with_reducible assumption) | assumption) | (have e_ := (Kd.S_reads' HO_7.out).1; omega))
                                                obtain ⟨ve200_0, rfl, ge200_0⟩ := hMe200
                                                have hv200_0 := hcc200 0 _ rfl
                                                rw [Nat.add_zero, show ((Kd.slice 4 Kd.bool)).sz = 1 from rfl, Nat.mul_one] at hv200_0
                                                replace hv200_0 := Option.some.inj (hv200_0.symm.trans hx200_0)
                                                rw [hv200_0] at ge200_0
                                                have HL200_0 := Aside0.mk (show Kd.R Kd.bool 4 _ _ _ _ (rd_L2 t186 x10_2) from ge200_0)
                                                clear hv200_0 ge200_0
                                                clear hcc200 hce200
                                                have HR200_0 := Aside0.mk hi200_0
                                                have HC200_0 := Aside0.mk hl200_0
                                                clear hi200_0 hl200_0
                                                (try (have hz_ := Option.some.inj (hx194_0.symm.trans hx200_0); injection hz_ with za_ zn_ zc_; subst za_; subst zc_; clear zn_))
                                                (try (have hz_ := Option.some.inj (hx195_0.symm.trans hx200_0); injection hz_ with za_ zn_ zc_; subst za_; subst zc_; clear zn_))
                                                replace p200 := eq_true p200
                                                replace q200 := eq_true q200
                                                have p201 : 0 ≤ (x11_3 : Int) := of_decide_eq_true (by first | (with_reducible assumption) | assumption)
                                                have q201 : x11_3 < ((rd_L2 t186 x10_2).length : Int) := of_decide_eq_true (by first | (with_reducible assumption) | assumption)
                                                obtain ⟨ad201, e201, hx201_0⟩ := Kd.at_bool (by repeat (first | (with_reducible exact HR200_0.out) | (with_reducible refine Kd.C_alloc ?_ _) | (with_reducible refine Kd.C_drewN ?_ _) | (with_reducible refine Kd.C_drew ?_) | exact HR200_0.out)) x11_3 p201 q201
                                                cases e201
                                                replace p201 := eq_true p201
                                                replace q201 := eq_true q201
                                                go_wp2
                                                go_ret
                                                exact ⟨by first | rfl | (simp [errW_none, errW_some] <;> rfl) | (simp [*, errW_none, errW_some] <;> rfl), by repeat (first | (with_reducible first | exact HB.out | apply below_alloc | apply pw_below_drewN | apply below_drew1) | exact HB.out)⟩
                                              · rw [if_neg c42] at H
                                                have c42b0 : ((rdOf false (rd_L2 t186 x10_2) x11_3) != x12_4) = false := by simpa using c42
                                                (try (have c42b1 : decide ((rdOf false (rd_L2 t186 x10_2) x11_3) = x12_4) = true := by simpa using c42))
                                                (try (have c42b2 : ((rdOf false (rd_L2 t186 x10_2) x11_3) == x12_4) = true := by simpa using c42))
                                                clear c42
                                                have H' := Aside0.mk H
                                                clear H
                                                have p195 : 0 ≤ (x10_2 : Int) := of_decide_eq_true (by first | (with_reducible assumption) | assumption)
                                                have q195 : x10_2 < (t183.length : Int) := of_decide_eq_true (by first | (with_reducible assumption) | assumption)
                                                obtain ⟨ad195, A195_0, c195_0, e195, hx195_0, hl195_0, hi195_0⟩ := at_L3 (Kd.S_reads' HO_6.out).2.2 x10_2 p195 q195
                                                obtain rfl : ad194 = ad195 := (by injection e195)
                                                obtain ⟨ce195, hce195, hMe195, hcc195⟩ := Kd.S_get HO_6.out [] x10_2 p195 (by first | exact q195 | exact of_decide_eq_true (by first | (with_reducible assumption) | assumption) | (have e_ := (Kd.S_reads' HO_6.out).1; omega))
                                                obtain ⟨ve195_0, rfl, ge195_0⟩ := hMe195
                                                have hv195_0 := hcc195 0 _ rfl
                                                rw [Nat.add_zero, show ((Kd.slice 3 (Kd.int .i64))).sz = 1 from rfl, Nat.mul_one] at hv195_0
                                                replace hv195_0 := Option.some.inj (hv195_0.symm.trans hx195_0)
                                                rw [hv195_0] at ge195_0
                                                have HL195_0 := Aside0.mk (show Kd.R (Kd.int .i64) 3 _ _ _ _ (rd_L3 t183 x10_2) from ge195_0)
                                                clear hv195_0 ge195_0
                                                clear hcc195 hce195
                                                have HR195_0 := Aside0.mk hi195_0
                                                have HC195_0 := Aside0.mk hl195_0
                                                clear hi195_0 hl195_0
                                                (try (have hz_ := Option.some.inj (hx194_0.symm.trans hx195_0); injection hz_ with za_ zn_ zc_; subst za_; subst zc_; clear zn_))
                                                replace p195 := eq_true p195
                                                replace q195 := eq_true q195
                                                have p200 : 0 ≤ (x10_2 : Int) := of_decide_eq_true (by first | (with_reducible assumption) | assumption)
                                                have q200 : x10_2 < (t186.length : Int) := of_decide_eq_true (by first | (with_reducible assumption) | assumption)
                                                obtain ⟨ad200, A200_0, c200_0, e200, hx200_0, hl200_0, hi200_0⟩ := at_L2 (Kd.S_reads' HO_7.out).2.2 x10_2 p200 q200
                                                cases e200
                                                obtain ⟨ce200, hce200, hMe200, hcc200⟩ := Kd.S_get HO_7.out [] x10_2 p200 (by first | exact q200 | exact of_decide_eq_true (by first | (with_reducible assumption) | assumption) | (have e_ := (Kd.S_reads' HO_7.out).1; omega))
                                                obtain ⟨ve200_0, rfl, ge200_0⟩ := hMe200
                                                have hv200_0 := hcc200 0 _ rfl
                                                rw [Nat.add_zero, show ((Kd.slice 4 Kd.bool)).sz = 1 from rfl, Nat.mul_one] at hv200_0
                                                replace hv200_0 := Option.some.inj (hv200_0.symm.trans hx200_0)
                                                rw [hv200_0] at ge200_0
                                                have HL200_0 := Aside0.mk (show Kd.R Kd.bool 4 _ _ _ _ (rd_L2 t186 x10_2) from ge200_0)
                                                clear hv200_0 ge200_0
                                                clear hcc200 hce200
                                                have HR200_0 := Aside0.mk hi200_0
                                                have HC200_0 := Aside0.mk hl200_0
                                                clear hi200_0 hl200_0
                                                (try (have hz_ := Option.some.inj (hx194_0.symm.trans hx200_0); injection hz_ with za_ zn_ zc_; subst za_; subst zc_; clear zn_))
                                                (try (have hz_ := Option.some.inj (hx195_0.symm.trans hx200_0); injection hz_ with za_ zn_ zc_; subst za_; subst zc_; clear zn_))
                                                replace p200 := eq_true p200
                                                replace q200 := eq_true q200
                                                have p201 : 0 ≤ (x11_3 : Int) := of_decide_eq_true (by first | (with_reducible assumption) | assumption)
                                                have q201 : x11_3 < ((rd_L2 t186 x10_2).length : Int) := of_decide_eq_true (by first | (with_reducible assumption) | assumption)
                                                obtain ⟨ad201, e201, hx201_0⟩ := Kd.at_bool (by repeat (first | (with_reducible exact HR200_0.out) | (with_reducible refine Kd.C_alloc ?_ _) | (with_reducible refine Kd.C_drewN ?_ _) | (with_reducible refine Kd.C_drew ?_) | exact HR200_0.out)) x11_3 p201 q201
                                                cases e201
                                                replace p201 := eq_true p201
                                                replace q201 := eq_true q201
                                                go_wp2
                                                go_roundg k4
                                                case measure => have := HK1.out; have := HK2.out; have := HK3.out; have := HK4.out; omega
                                                case rel => exact ⟨(wrap64 (x11_3 + 1)), (by first | rfl | (simp; done) | (simp [*]; done)), H', ⟨by have := HK1.out; have := HK2.out; have := HK3.out; have := HK4.out; omega⟩, ⟨by (with_reducible repeat (first | apply Kd.S_alloc | apply Kd.S_drewN | apply Kd.S_drew)); exact HO_6.out⟩, ⟨by (with_reducible repeat (first | apply Kd.S_alloc | apply Kd.S_drewN | apply Kd.S_drew)); exact HO_7.out⟩, ⟨by repeat (first | (with_reducible first | exact HB.out | apply below_alloc | apply pw_below_drewN | apply below_drew1) | exact HB.out)⟩⟩
                                            · rw [if_neg c41] at H
                                              exact absurd H (by simp)
                                          · rw [if_neg c40] at H
                                            exact absurd H (by simp)
                                        · rw [if_neg c39] at H
                                          exact absurd H (by simp)
                                  · rw [if_neg c30] at H
                                    exact absurd H (by simp)
                                · rw [if_neg c29] at H
                                  exact absurd H (by simp)
                          · rw [if_neg c28] at H
                            exact absurd H (by simp)
                        · rw [if_neg c27] at H
                          exact absurd H (by simp)
                      · rw [if_neg c26] at H
                        have c26b0 : decide (x11_3 < (t183.length : Int)) = false := decide_eq_false c26
                        clear c26
                        have H' := Aside0.mk H
                        clear H
                        go_wp2
                        go_roundg k3
                        case measure => have := HK1.out; have := HK2.out; have := HK3.out; omega
                        case rel => exact ⟨(wrap64 (x10_2 + 1)), (by first | rfl | (simp; done) | (simp [*]; done)), H', ⟨by have := HK1.out; have := HK2.out; have := HK3.out; omega⟩, ⟨by (with_reducible repeat (first | apply Kd.S_alloc | apply Kd.S_drewN | apply Kd.S_drew)); exact HO_6.out⟩, ⟨by (with_reducible repeat (first | apply Kd.S_alloc | apply Kd.S_drewN | apply Kd.S_drew)); exact HO_7.out⟩, ⟨by repeat (first | (with_reducible first | exact HB.out | apply below_alloc | apply pw_below_drewN | apply below_drew1) | exact HB.out)⟩⟩
                · rw [if_neg c25] at H
                  have c25b0 : decide (x10_2 < (wrap64 ((t183.length : Int) - 1))) = false := decide_eq_false c25
                  clear c25
                  obtain rfl := Option.some.inj H
                  go_wp2
                  go_ret
                  exact ⟨by first | rfl | (simp [errW_none, errW_some] <;> rfl) | (simp [*, errW_none, errW_some] <;> rfl), by repeat (first | (with_reducible first | exact HB.out | apply below_alloc | apply pw_below_drewN | apply below_drew1) | exact HB.out)⟩
    · rw [if_neg c7] at H
      have c7b0 : ((t186.length : Int) == (t183.length : Int)) = false := beq_eq_false_iff_ne.mpr c7
      have c7b1 : ((t186.length : Int) != (t183.length : Int)) = true := bne_iff_ne.mpr c7
      have c7b2 : (t186.length == t183.length) = false := by first | simpa using c7 | (simp at c7 ⊢; omega)
      obtain rfl := Option.some.inj H
      go_enter Try.func6, Try.ntmps6
      go_wp2_with (first | ((with_reducible refine gate_callee (f := 26) rfl ?_); refine goesL_ (some 14) rfl rfl Try.func26 (by kernel_rfl) rfl #[] rfl (by (try simp only [List.map_toArray, List.map_cons, List.map_nil]); first | done | rfl | (simp only [List.length_drop, List.length_take]; rfl)) ?_; (with_reducible refine (billhooklaw10_examples.calls  true _ A3.out).mono ?_); rintro e w43 ⟨rfl, hb⟩; refine ⟨_, rfl, ?_⟩; have n0_ := Aside0.mk (below_step (by repeat (first | (with_reducible first | exact HB.out | apply below_alloc | apply pw_below_drewN | apply below_drew1) | exact HB.out)) hb); clear HB; have HB := n0_; clear n0_; (try clear hb); (try clear hb2); (try clear hk); (try clear hi)) | ((with_reducible refine gate_callee (f := 27) rfl ?_); refine goesL_ (some 19) rfl rfl Try.func27 (by kernel_rfl) rfl #[.slice A0 l0.length c0, .int .u8 a1] rfl (by (try simp only [List.map_toArray, List.map_cons, List.map_nil]); first | done | rfl | (simp only [List.length_drop, List.length_take]; rfl)) ?_; (with_reducible refine (billhooklaw10_web.calls k _ _ l0 a1 t183 _ ?side1 ?side2 A5.out).mono ?_); (case side1 => repeat (first | exact (Kd.C_below HR0.out HB.out) | (with_reducible refine Kd.C_alloc ?_ _) | (with_reducible refine Kd.C_drewN ?_ _) | (with_reducible refine Kd.C_drew ?_))); (case side2 => exact HC0.out); rintro e w44 ⟨v184, rfl, ho0, hb⟩; refine ⟨_, rfl, ?_⟩; have n0_ := Aside0.mk (Kd.S_lower ho0 (below_size (by repeat (first | (with_reducible first | exact HB.out | apply below_alloc | apply pw_below_drewN | apply below_drew1) | exact HB.out)))); have n1_ := Aside0.mk (below_step (by repeat (first | (with_reducible first | exact HB.out | apply below_alloc | apply pw_below_drewN | apply below_drew1) | exact HB.out)) hb); clear HB; have HO185 := n0_; have HB := n1_; clear n0_ n1_; (try clear hb); (try clear hb2); (try clear hk); (try clear hi); (try clear ho0); obtain ⟨Ao45, co45, eo45⟩ := Kd.S_slice HO185.out; subst eo45) | ((with_reducible refine gate_callee (f := 31) rfl ?_); refine goesL_ (some 21) rfl rfl Try.func31 (by kernel_rfl) rfl #[.slice Ao45 t183.length co45] rfl (by (try simp only [List.map_toArray, List.map_cons, List.map_nil]); first | done | rfl | (simp only [List.length_drop, List.length_take]; rfl)) ?_; (with_reducible refine (dom_Post.calls k _ _ t183 t186 _ ?side1 ?side2 A6.out).mono ?_); (case side1 => repeat (first | exact (Kd.S_reads' HO185.out).2.2 | (with_reducible refine Kd.C_alloc ?_ _) | (with_reducible refine Kd.C_drewN ?_ _) | (with_reducible refine Kd.C_drew ?_))); (case side2 => exact (Kd.S_reads' HO185.out).2.1); rintro e w46 ⟨v187, rfl, ho0, hb⟩; refine ⟨_, rfl, ?_⟩; have n0_ := Aside0.mk (Kd.S_below (by (with_reducible repeat (first | apply Kd.S_alloc | apply Kd.S_drewN | apply Kd.S_drew)); exact HO185.out) hb); have n1_ := Aside0.mk (Kd.S_lower ho0 (below_size (by repeat (first | (with_reducible first | exact HB.out | apply below_alloc | apply pw_below_drewN | apply below_drew1) | exact HB.out)))); have n2_ := Aside0.mk (below_step (by repeat (first | (with_reducible first | exact HB.out | apply below_alloc | apply pw_below_drewN | apply below_drew1) | exact HB.out)) hb); clear HO185; clear HB; have HO185 := n0_; have HO188 := n1_; have HB := n2_; clear n0_ n1_ n2_; (try clear hb); (try clear hb2); (try clear hk); (try clear hi); (try clear ho0); obtain ⟨Ao47, co47, eo47⟩ := Kd.S_slice HO188.out; subst eo47))
      go_ret
      exact ⟨by first | rfl | (simp [errW_none, errW_some] <;> rfl) | (simp [*, errW_none, errW_some] <;> rfl), by repeat (first | (with_reducible first | exact HB.out | apply below_alloc | apply pw_below_drewN | apply below_drew1) | exact HB.out)⟩
  · replace c4 := Bool.eq_false_iff.mpr c4
    subst c4
    have H1 : (some false) = some r := by rw [if_neg (show ¬ (false = true) by decide)] at H; exact H
    clear H
    have H := H1
    clear H1
    obtain rfl := Option.some.inj H
    go_enter Try.func6, Try.ntmps6
    go_wp2_with (first | ((with_reducible refine gate_callee (f := 26) rfl ?_); refine goesL_ (some 14) rfl rfl Try.func26 (by kernel_rfl) rfl #[] rfl (by (try simp only [List.map_toArray, List.map_cons, List.map_nil]); first | done | rfl | (simp only [List.length_drop, List.length_take]; rfl)) ?_; (with_reducible refine (billhooklaw10_examples.calls  false _ A3.out).mono ?_); rintro e w48 ⟨rfl, hb⟩; refine ⟨_, rfl, ?_⟩; have n0_ := Aside0.mk (below_step (by repeat (first | (with_reducible first | exact HB.out | apply below_alloc | apply pw_below_drewN | apply below_drew1) | exact HB.out)) hb); clear HB; have HB := n0_; clear n0_; (try clear hb); (try clear hb2); (try clear hk); (try clear hi)))
    go_ret
    exact ⟨by first | rfl | (simp [errW_none, errW_some] <;> rfl) | (simp [*, errW_none, errW_some] <;> rfl), by repeat (first | (with_reducible first | exact HB.out | apply below_alloc | apply pw_below_drewN | apply below_drew1) | exact HB.out)⟩

/-- THE ONE PURE STATEMENT of billhooklaw10_DomPost: yours. -/
def billhooklaw10_DomPost.Pure : Prop := ∀ (l0 : List Int) (a1 : Int), l0.length ≤ maxLen → l0.length * 1 ≤ 140737488351232 → (∀ x ∈ l0, (Lit.int .u8 x).wf = true) → (Lit.int .u8 a1).wf = true → ∃ k, billhooklaw10_DomPost.f k l0 a1 = some true
theorem billhooklaw10_DomPost.walk (P : billhooklaw10_DomPost.Pure) (a0 : Option Addr) (len0 cap0 : Nat) (z0 : List Int) (a1 : Int) (w : World) (w0 : (a0 = none ∧ len0 = 0 ∧ cap0 = 0 ∧ z0 = []) ∨ ∃ x, a0 = some x ∧ len0 ≤ cap0 ∧ cap0 ≤ maxLen ∧ z0.length = cap0 ∧ (∀ i, i < z0.length → w.cell? (x.add i) = some (.int .u8 (z0.getD i 0))) ∧ ∀ n ∈ z0, (Lit.int .u8 n).wf = true) (y0 : len0 * 1 ≤ 140737488351232) (w1 : (Lit.int .u8 a1).wf = true) :
    Calls Try.prog 6 #[.slice a0 len0 cap0, .int .u8 a1] w fun e w' => e = .returned (.bool true) ∧ Below w.heap.size w w' := by
  obtain ⟨l0, rfl, hr0, hm0, hw0, hc0⟩ := ReadsInt.ofRowC w0
  obtain ⟨k, h⟩ := P l0 a1 hm0 y0 hw0 w1
  refine (billhooklaw10_DomPost.calls k _ _ l0 a1 true w (Kd.C_of_reads (d := (0 : Int)) (h1 := fun _ => rfl) hr0) hc0 h).mono ?_
  rintro e w' ⟨rfl, hd⟩
  exact ⟨rfl, hd⟩

end Go.Proofs.Ytankppgafdcknaa.PDom

/- Of any web: each node postdominates itself, and Exit all; what postdominates a node postdominates what it goes to, but itself. -/
set_option linter.unusedVariables false
set_option linter.unusedSimpArgs false
namespace Go.Proofs.Ytankppgafdcknaa.Pure
open Go Go.RowKit Go.Proofs.YtankppgafdcknaaW.PrintWords Go.Proofs.Ytankppgafdcknaa.PPost Go.Proofs.Ytankppgafdcknaa.PDom Go.Proofs.Ytankppgafdcknaa.Gr

section
variable {xs : List (List Int)} {f : Nat → Nat → Bool} (hw : Web xs) (hf : ∀ i d, i < xs.length → d < xs.length → (f i d = true ↔ ¬ Av xs d i))
include hw hf
theorem dp_l3 (i d : Nat) (hi : i < xs.length - 1) (hd : d < xs.length) (K : Ev (fun k => billhooklaw10_DomPost.l2 k true xs (Mx xs.length f) (xs.length : Int) (i : Int) ((d + 1 : Nat) : Int)) true) :
    ∀ (q t : Nat), t + q = (row xs i).length → ∀ b, b = (decide (0 < (row xs i).length) && ((row xs i).take t).all fun s => f s.toNat d) → Ev (fun k => billhooklaw10_DomPost.l3 k true xs (Mx xs.length f) (xs.length : Int) (i : Int) (d : Int) b (t : Int)) true := by
  have hle := hw.le
  have hrw := hw.rw_ i (by omega)
  have hne := hw.some_ i (by omega)
  have hpos : 0 < (row xs i).length := List.length_pos_iff.2 hne
  intro q
  induction q with
  | zero =>
    intro t ht b hb
    refine Ev.step (fun k => ?_) K
    have ht : t = (row xs i).length := by omega
    simp only [billhooklaw10_DomPost.l3, L3_row]
    rw [if_pos (by omega), if_pos (by omega), if_neg (by omega), Mx_len]
    by_cases hdi : d = i
    · rw [if_pos (by omega), w_succ _ (by omega)]
    · rw [if_neg (by omega), if_pos (by omega), if_pos (by omega), L2_row _ _ _ (by omega), if_pos (by simp; omega), of_row _ _ _ hd]
      have hb2 : b = f i d := by
        rw [post_next hf i d hi hd hdi hrw.2, hb, ht, List.take_length]
        simp [hpos]
      rw [hb2, if_neg (by simp), w_succ _ (by omega)]
  | succ q ih =>
    intro t ht b hb
    have htl : t < (row xs i).length := by omega
    have hs := hrw.2 _ (List.getElem_mem htl)
    have hs2 := hs
    simp only [isN, Bool.and_eq_true, decide_eq_true_eq] at hs2
    have htk : ((row xs i).take (t + 1)).all (fun s => f s.toNat d) = (((row xs i).take t).all (fun s => f s.toNat d) && f (row xs i)[t].toNat d) := by
      rw [List.take_succ_eq_append_getElem htl, List.all_append]
      simp only [List.all_cons, List.all_nil, Bool.and_true]
    have hrl := hrw.1
    cases hbt : b with
    | true =>
      rw [hbt] at hb
      refine Ev.step (fun k => ?_) (ih (t + 1) (by omega) (f (row xs i)[t].toNat d) (by
        rw [htk]
        have := hb.symm
        simp only [Bool.and_eq_true] at this
        rw [this.1, this.2]
        simp))
      simp only [billhooklaw10_DomPost.l3, L3_row, rd_at _ _ htl, Mx_len]
      have e : ((row xs i)[t] : Int) = (((row xs i)[t].toNat : Nat) : Int) := by omega
      rw [if_pos (by omega), if_pos (by omega), if_pos (by omega), if_pos trivial, if_pos (by omega), if_pos hs2.1, if_pos hs2.2, if_pos (by omega), e, L2_row _ _ _ (by omega), if_pos (by simp; omega), of_row _ _ _ hd, w_succ _ (by omega), nat_toNat]
    | false =>
      rw [hbt] at hb
      refine Ev.step (fun k => ?_) (ih (t + 1) (by omega) false (by
        rw [htk]
        have := hb.symm
        simp only [hpos, decide_true, Bool.true_and] at this ⊢
        rw [this]
        rfl))
      simp only [billhooklaw10_DomPost.l3, L3_row]
      rw [if_pos (by omega), if_pos (by omega), if_pos (by omega), if_neg (by simp), w_succ _ (by omega)]
theorem dp_l2 (i : Nat) (hi : i < xs.length - 1) (K : Ev (fun k => billhooklaw10_DomPost.l1 k true xs (Mx xs.length f) (xs.length : Int) ((i + 1 : Nat) : Int)) true) :
    ∀ (q d : Nat), d + q = xs.length → Ev (fun k => billhooklaw10_DomPost.l2 k true xs (Mx xs.length f) (xs.length : Int) (i : Int) (d : Int)) true := by
  have hle := hw.le
  intro q
  induction q with
  | zero =>
    intro d hd
    refine Ev.step (fun k => ?_) K
    simp only [billhooklaw10_DomPost.l2]
    rw [if_neg (by omega), w_succ _ (by omega)]
  | succ q ih =>
    intro d hd
    refine Ev.step (fun k => ?_) (dp_l3 hw hf i d hi (by omega) (ih (d + 1) (by omega)) (row xs i).length 0 (by omega) _ rfl)
    simp only [billhooklaw10_DomPost.l2, L3_row]
    rw [if_pos (by omega), if_pos (by omega), if_pos (by omega)]
    congr 1
    simp
theorem dp_l1 : ∀ (q i : Nat), i + q = xs.length - 1 → Ev (fun k => billhooklaw10_DomPost.l1 k true xs (Mx xs.length f) (xs.length : Int) (i : Int)) true := by
  have hle := hw.le
  have h0 := hw.pos
  intro q
  induction q with
  | zero =>
    intro i hi
    refine Ev.step (fun k => ?_) (Ev.now true)
    simp only [billhooklaw10_DomPost.l1]
    rw [w_pred _ (by omega) h0, if_neg (by omega)]
  | succ q ih =>
    intro i hi
    refine Ev.step (fun k => ?_) (dp_l2 hw hf i (by omega) (ih (i + 1) (by omega)) xs.length 0 (by omega))
    simp only [billhooklaw10_DomPost.l1]
    rw [w_pred _ (by omega) h0, if_pos (by omega)]
    rfl
theorem dp_l0 : ∀ (q i : Nat), i + q = xs.length → Ev (fun k => billhooklaw10_DomPost.l0 k true xs (Mx xs.length f) (xs.length : Int) (i : Int)) true := by
  have hle := hw.le
  have h0 := hw.pos
  intro q
  induction q with
  | zero =>
    intro i hi
    refine Ev.step (fun k => ?_) (dp_l1 hw hf (xs.length - 1) 0 (by omega))
    simp only [billhooklaw10_DomPost.l0]
    rw [if_neg (by omega)]
    rfl
  | succ q ih =>
    intro i hi
    refine Ev.step (fun k => ?_) (ih (i + 1) (by omega))
    simp only [billhooklaw10_DomPost.l0, Mx_len]
    rw [if_pos (by omega), if_pos (by omega), if_pos (by omega), L2_row _ _ _ (by omega), w_pred _ (by omega) h0, if_pos (by simp), if_pos (by simp; omega), of_row _ _ _ (by omega), if_pos (post_self hf i (by omega)), if_pos (by omega), if_pos (by simp; omega), of_row _ _ _ (by omega), if_pos (post_exit hf i (by omega)), w_succ _ (by omega)]
end
theorem DomPost : billhooklaw10_DomPost.Pure := by
  intro l a _ _ hl ha
  obtain ⟨xs, hx, hw⟩ := web_ev l a hl ha
  obtain ⟨f, hp, hf⟩ := hw.post
  refine Ev.rounds (g := fun k => billhooklaw10_DomPost.f k l a) ?_
  have hle := hw.le
  refine Ev.congr (f := fun k => (billhooklaw10_web.f k l a).bind fun t183 => ((dom_Post.f k t183).bind fun t186 => (if (t186.length : Int) = (t183.length : Int) then (billhooklaw10_DomPost.l0 k true t183 t186 (t183.length : Int) 0) else (some false)))) (fun k => ?_) (Ev.bind hx (Ev.bind hp (Ev.congr (fun k => ?_) (dp_l0 hw hf xs.length 0 (by omega)))))
  · unfold billhooklaw10_DomPost.f
    rw [ex_f]
    simp
  · rw [if_pos (by rw [Mx_len])]
    rfl
end Go.Proofs.Ytankppgafdcknaa.Pure

/- Printed for this claim by a program. -/
namespace Go.Proofs.Ytankppgafdcknaa.domPost
open Go.ChangeShapes Go.WideShapes Go.ChangeAt Go.RowKit
open Go.ChangeMaps (open_string shut_string)
set_option linter.unusedVariables false
theorem own : ownKnob Try.prog.godebug = none := by kernel_rfl
theorem laidOut : laidOutB Try.prog = true := by kernel_rfl
def IsRow (k : IntKind) (w : World) (a : Option Addr) (len cap : Nat) (zs : List Int) : Prop :=
  (a = none ∧ len = 0 ∧ cap = 0 ∧ zs = []) ∨
  ∃ x, a = some x ∧ len ≤ cap ∧ cap ≤ maxLen ∧ zs.length = cap ∧ (∀ i, i < zs.length → w.cell? (x.add i) = some (.int k (zs.getD i 0))) ∧ ∀ n ∈ zs, (Lit.int k n).wf = true
set_option maxRecDepth 100000 in
theorem lifted (os : Os) (started : os.Started) (H : Type) (enc : TypeId × Value → H) :
    ReturnsInHanded {} Try.checked os 6 .any (Rows.domPostSpec.pre6 enc Try.prog Try.f6 Rows.domPostRow.domain false) (Rows.domPostSpec.post enc Try.prog Try.f6 false true false false) := by
  refine returnsInHanded_of_change_sized (C := Try.checked) own started (by kernel_rfl) Try.func6
    (ChangeSpec.witness6 (enc := enc) (C := Try.checked) false ⟨#[], #[.slice none 0 0, .int .u8 0], []⟩ 8 (by kernel_rfl) (by kernel_rfl) (by kernel_rfl) (by kernel_rfl)) ?_
  intro W base args ds gs before hval0 hW hcnd hsz0 _
  have hsz : (DataW.weightsEach Try.prog (Try.f6.params.toList ++ Rows.domPostSpec.plain.varTypes Try.prog) (ds ++ gs)).all (· ≤ reachBytes) = true := hsz0
  have hval : ∀ (j : Nat) t v, Try.f6.params[j]? = some t → args[j]? = some v → Value.okWide Try.prog W .any base t v := hval0
  have hW' := hW
  obtain ⟨p, q, hA0, hV, rfl, hfz, hnd⟩ := hW
  have hA : DataW.TrodAll enc Try.prog W 0 (fun _ => true) true Try.f6.params.toList args.toList ds p := hA0
  rw [Try.params6] at hA hval hsz
  obtain ⟨v0, vs0, d0, ds0, p0, q0, hargs, rfl, rfl, h0, r0⟩ := trodAll_cons hA
  obtain ⟨v1, vs1, d1, ds1, p1, q1, rfl, rfl, rfl, h1, r1⟩ := trodAll_cons r0
  obtain ⟨rfl, rfl, rfl⟩ := trodAll_nil r1
  obtain rfl : args = #[v0, v1] := by cases args; simp_all
  obtain ⟨rfl, rfl⟩ := trodVars_none hV
  obtain ⟨a0, len0, cap0, rfl⟩ := okWide_slice Try.underlying46 (hval 0 46 v0 rfl rfl)
  have k0 := h0
  have lt0 : ∀ x ∈ p0, x.block < W.heap.size := by obtain ⟨m, hm⟩ := k0; exact DataW.trod_lt m _ _ _ hm
  obtain ⟨z0, w0⟩ : ∃ zs, IsRow .u8 W a0 len0 cap0 zs := by
    obtain ⟨fuel, hf⟩ := h0
    rcases open_ints Try.underlying46 Try.underlying5 (by kernel_rfl) hf with ⟨hcs, _⟩ | ⟨x, l, c, zs, hcs, _, hl, hm, hz, _, hcell, hwz⟩
    · simp [Value.cells] at hcs
      obtain ⟨rfl, rfl, rfl⟩ := hcs
      exact ⟨[], .inl ⟨rfl, rfl, rfl, rfl⟩⟩
    · simp [Value.cells] at hcs
      obtain ⟨rfl, rfl, rfl⟩ := hcs
      exact ⟨zs, .inr ⟨_, rfl, hl, hm, by simpa using hz, hcell, hwz⟩⟩
  have y0 : len0 * 1 ≤ 140737488351232 := Go.Proofs.YtankppgafdcknaaW.PrintWords.sized_ints hsz (j := 0) (t := 46) rfl rfl Try.underlying46 Try.underlying5 (by kernel_rfl) (by kernel_rfl) h0
  obtain ⟨a1, rfl, rfl, rfl, w1⟩ := open_int Try.underlying5 (hval 1 5 v1 rfl rfl) h1
  clear hA0 hval0 hsz0 hsz
  refine (PDom.billhooklaw10_DomPost.walk Pure.DomPost a0 len0 cap0 z0 a1 W w0 y0 w1).mono fun e W' ⟨he, bel⟩ => ?_
  subst he
  exact ⟨_, rfl, _, _, _, [], _, [], hW', trodAll_mk1 (shut_bool Try.underlying4 _), (trodAll_cons_mk (Below.trod laidOut (by kernel_rfl) (of_decide_eq_true (by kernel_rfl)) k0 bel lt0) (trodAll_cons_mk (shut_int Try.underlying5 w1) trodAll_mk0)), rfl, bel.frame _, fun h => by cases h⟩
theorem over : Rows.domPostRow.holds Try.pinned (OpenSpec.ofChange Rows.domPostSpec) :=
  OpenClaim.holds_of_wide 6 Try.f6 rfl rfl rfl rfl rfl rfl rfl ⟨rfl, rfl, rfl, rfl, rfl⟩ rfl rfl rfl rfl rfl (by kernel_rfl) Try.func6 (by kernel_rfl)
    (of_decide_eq_true (by kernel_rfl)) (by unfold Func.isWrapper; first | (rw [if_pos (by decide +kernel)]; kernel_rfl) | (rw [if_neg (by decide +kernel)]; exact ⟨rfl, rfl⟩))
    (fun os started H enc _ => lifted os started H enc)
theorem proved : Rows.DomPostSaid := over
#print axioms proved
end Go.Proofs.Ytankppgafdcknaa.domPost
namespace Go.Proofs.Ytankppgafdcknaa
/-- The row, under a short name, for the claim. -/
theorem domPost_holds : Rows.DomPostSaid := domPost.proved
end Go.Proofs.Ytankppgafdcknaa
