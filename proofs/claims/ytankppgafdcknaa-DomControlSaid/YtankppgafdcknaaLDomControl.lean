/- Texts joined into one: PDomx7 PureDomControl LawDomControl. -/
import Derived.Test.YtankppgafdcknaaKg
import Derived.Test.YtankppgafdcknaaRows
import Derived.WalkKit
import Derived.ProofKit
import Derived.OpenShut
import Derived.ShutString
import Derived.ChangeOld
import Derived.Below
import Derived.SizedLaws
import Derived.Test.YtankppgafdcknaaKw
/- Printed for this claim by a program. -/
namespace Go.Proofs.Ytankppgafdcknaa.PDom
open Go.Proofs.Ytankppgafdcknaa.PPost
open Go.RowKit Go.Proofs.YtankppgafdcknaaW.PrintWords Go.Proofs.YtankppgafdcknaaW.PrintLast Go.Proofs.YtankppgafdcknaaW.PrintMore
attribute [local go_sem] max2_int min2_int max_two min_two max_three min_three max_four min_four   -- for this text's walks alone
set_option linter.unusedVariables false
set_option linter.unusedSimpArgs false

/-! ### billhooklaw10_DomControl: function 8 -/
mutual
def billhooklaw10_DomControl.j0 : Nat → Bool → List (List Int) → List (List Bool) → List (List Int) → Int → Bool → Option (Bool)
  | 0, _, _, _, _, _, _ => none
  | k + 1, x5, x6, x7, x8, x9, x40 => if x40 = true then (some false) else (billhooklaw10_DomControl.l0 k x5 x6 x7 x8 x9 0)
def billhooklaw10_DomControl.l0 : Nat → Bool → List (List Int) → List (List Bool) → List (List Int) → Int → Int → Option (Bool)
  | 0, _, _, _, _, _, _ => none
  | k + 1, x5, x6, x7, x8, x9, x10 => if x10 < x9 then (billhooklaw10_DomControl.l1 k x5 x6 x7 x8 x9 x10 0) else (billhooklaw10_DomControl.l3 k x5 x9 ([] : List (List Int)) 0)
def billhooklaw10_DomControl.l1 : Nat → Bool → List (List Int) → List (List Bool) → List (List Int) → Int → Int → Int → Option (Bool)
  | 0, _, _, _, _, _, _, _ => none
  | k + 1, x5, x6, x7, x8, x9, x10, x11 => if 0 ≤ x10 then (if x10 < (x8.length : Int) then (if x11 < ((rd_L3 x8 x10).length : Int) then (if 0 ≤ x11 then (if (rd (rd_L3 x8 x10) x11) < 0 then (billhooklaw10_DomControl.j3 k x5 x6 x7 x8 x9 x10 x11 (rd (rd_L3 x8 x10) x11) true) else (if (rd (rd_L3 x8 x10) x11) ≥ x9 then (billhooklaw10_DomControl.j3 k x5 x6 x7 x8 x9 x10 x11 (rd (rd_L3 x8 x10) x11) true) else (if x11 > 0 then (if 0 ≤ (wrap64 (x11 - 1)) then (if (wrap64 (x11 - 1)) < ((rd_L3 x8 x10).length : Int) then (if (rd (rd_L3 x8 x10) x11) ≤ (rd (rd_L3 x8 x10) (wrap64 (x11 - 1))) then (billhooklaw10_DomControl.j3 k x5 x6 x7 x8 x9 x10 x11 (rd (rd_L3 x8 x10) x11) true) else (if 0 ≤ (rd (rd_L3 x8 x10) x11) then (if (rd (rd_L3 x8 x10) x11) < (x6.length : Int) then (billhooklaw10_DomControl.j3 k x5 x6 x7 x8 x9 x10 x11 (rd (rd_L3 x8 x10) x11) (decide (((rd_L3 x6 (rd (rd_L3 x8 x10) x11)).length : Int) < 1))) else (none)) else (none))) else (none)) else (none)) else (if 0 ≤ (rd (rd_L3 x8 x10) x11) then (if (rd (rd_L3 x8 x10) x11) < (x6.length : Int) then (billhooklaw10_DomControl.j3 k x5 x6 x7 x8 x9 x10 x11 (rd (rd_L3 x8 x10) x11) (decide (((rd_L3 x6 (rd (rd_L3 x8 x10) x11)).length : Int) < 1))) else (none)) else (none))))) else (none)) else (billhooklaw10_DomControl.l0 k x5 x6 x7 x8 x9 (wrap64 (x10 + 1)))) else (none)) else (none)
def billhooklaw10_DomControl.j3 : Nat → Bool → List (List Int) → List (List Bool) → List (List Int) → Int → Int → Int → Int → Bool → Option (Bool)
  | 0, _, _, _, _, _, _, _, _, _ => none
  | k + 1, x5, x6, x7, x8, x9, x10, x11, x12, x92 => if x92 = true then (some false) else (billhooklaw10_DomControl.l2 k x5 x6 x7 x8 x9 x10 x11 x12 false 0)
def billhooklaw10_DomControl.l2 : Nat → Bool → List (List Int) → List (List Bool) → List (List Int) → Int → Int → Int → Int → Bool → Int → Option (Bool)
  | 0, _, _, _, _, _, _, _, _, _, _ => none
  | k + 1, x5, x6, x7, x8, x9, x10, x11, x12, x13, x14 => if 0 ≤ x12 then (if x12 < (x6.length : Int) then (if x14 < ((rd_L3 x6 x12).length : Int) then (if x13 = true then (billhooklaw10_DomControl.l2 k x5 x6 x7 x8 x9 x10 x11 x12 true (wrap64 (x14 + 1))) else (if 0 ≤ x14 then (if 0 ≤ (rd (rd_L3 x6 x12) x14) then (if (rd (rd_L3 x6 x12) x14) < (x7.length : Int) then (if 0 ≤ x10 then (if x10 < ((rd_L2 x7 (rd (rd_L3 x6 x12) x14)).length : Int) then (billhooklaw10_DomControl.l2 k x5 x6 x7 x8 x9 x10 x11 x12 (rdOf false (rd_L2 x7 (rd (rd_L3 x6 x12) x14)) x10) (wrap64 (x14 + 1))) else (none)) else (none)) else (none)) else (none)) else (none))) else (if x13 = true then (if x12 = x10 then (billhooklaw10_DomControl.l1 k x5 x6 x7 x8 x9 x10 (wrap64 (x11 + 1))) else (if x12 < (x7.length : Int) then (if 0 ≤ x10 then (if x10 < ((rd_L2 x7 x12).length : Int) then (if rdOf false (rd_L2 x7 x12) x10 = true then (some false) else (billhooklaw10_DomControl.l1 k x5 x6 x7 x8 x9 x10 (wrap64 (x11 + 1)))) else (none)) else (none)) else (none))) else (some false))) else (none)) else (none)
def billhooklaw10_DomControl.l3 : Nat → Bool → Int → List (List Int) → Int → Option (Bool)
  | 0, _, _, _, _ => none
  | k + 1, x5, x9, x15, x16 => if x16 < x9 then (if x15.length < 5864062014805 then (billhooklaw10_DomControl.l3 k x5 x9 (x15 ++ [(([wrap64 (x16 + 1)] : List Int))]) (wrap64 (x16 + 1))) else (none)) else (if x15.length < 5864062014805 then ((dom_Control.f k (x15 ++ [[]])).bind fun t260 => (billhooklaw10_DomControl.l4 k x5 x9 t260 0)) else (none))
def billhooklaw10_DomControl.l4 : Nat → Bool → Int → List (List Int) → Int → Option (Bool)
  | 0, _, _, _, _ => none
  | k + 1, x5, x9, x17, x18 => if x18 < (x17.length : Int) then (if 0 ≤ x18 then (if ((rd_L3 x17 x18).length : Int) > 0 then (some false) else (billhooklaw10_DomControl.l4 k x5 x9 x17 (wrap64 (x18 + 1)))) else (none)) else (if x5 = true then (some ((x17.length : Int) == (wrap64 (x9 + 1)))) else (some false))
end
def billhooklaw10_DomControl.f (k : Nat) (l0 : List Int) (a1 : Int) : Option (Bool) := (billhooklaw10_examples.f).bind fun t227 => (if t227 = true then ((billhooklaw10_web.f k l0 a1).bind fun t228 => ((dom_Post.f k t228).bind fun t231 => ((dom_Control.f k t228).bind fun t234 => (if (t231.length : Int) = (t228.length : Int) then (billhooklaw10_DomControl.j0 k t227 t228 t231 t234 (t228.length : Int) ((t234.length : Int) != (t228.length : Int))) else (billhooklaw10_DomControl.j0 k t227 t228 t231 t234 (t228.length : Int) true))))) else (some false))
theorem billhooklaw10_DomControl.mono_l : ∀ k, (∀ y0 y1 y2 y3 y4 y5, LeO (billhooklaw10_DomControl.j0 k y0 y1 y2 y3 y4 y5) (billhooklaw10_DomControl.j0 (k + 1) y0 y1 y2 y3 y4 y5)) ∧ (∀ y0 y1 y2 y3 y4 y5, LeO (billhooklaw10_DomControl.l0 k y0 y1 y2 y3 y4 y5) (billhooklaw10_DomControl.l0 (k + 1) y0 y1 y2 y3 y4 y5)) ∧ (∀ y0 y1 y2 y3 y4 y5 y6, LeO (billhooklaw10_DomControl.l1 k y0 y1 y2 y3 y4 y5 y6) (billhooklaw10_DomControl.l1 (k + 1) y0 y1 y2 y3 y4 y5 y6)) ∧ (∀ y0 y1 y2 y3 y4 y5 y6 y7 y8, LeO (billhooklaw10_DomControl.j3 k y0 y1 y2 y3 y4 y5 y6 y7 y8) (billhooklaw10_DomControl.j3 (k + 1) y0 y1 y2 y3 y4 y5 y6 y7 y8)) ∧ (∀ y0 y1 y2 y3 y4 y5 y6 y7 y8 y9, LeO (billhooklaw10_DomControl.l2 k y0 y1 y2 y3 y4 y5 y6 y7 y8 y9) (billhooklaw10_DomControl.l2 (k + 1) y0 y1 y2 y3 y4 y5 y6 y7 y8 y9)) ∧ (∀ y0 y1 y2 y3, LeO (billhooklaw10_DomControl.l3 k y0 y1 y2 y3) (billhooklaw10_DomControl.l3 (k + 1) y0 y1 y2 y3)) ∧ (∀ y0 y1 y2 y3, LeO (billhooklaw10_DomControl.l4 k y0 y1 y2 y3) (billhooklaw10_DomControl.l4 (k + 1) y0 y1 y2 y3))
  | 0 => ⟨fun _ _ _ _ _ _ r h => by simp [billhooklaw10_DomControl.j0] at h, fun _ _ _ _ _ _ r h => by simp [billhooklaw10_DomControl.l0] at h, fun _ _ _ _ _ _ _ r h => by simp [billhooklaw10_DomControl.l1] at h, fun _ _ _ _ _ _ _ _ _ r h => by simp [billhooklaw10_DomControl.j3] at h, fun _ _ _ _ _ _ _ _ _ _ r h => by simp [billhooklaw10_DomControl.l2] at h, fun _ _ _ _ r h => by simp [billhooklaw10_DomControl.l3] at h, fun _ _ _ _ r h => by simp [billhooklaw10_DomControl.l4] at h⟩
  | k + 1 => by
    obtain ⟨ih0, ih1, ih2, ih3, ih4, ih5, ih6⟩ := billhooklaw10_DomControl.mono_l k
    refine ⟨?_, ?_, ?_, ?_, ?_, ?_, ?_⟩
    · intro y0 y1 y2 y3 y4 y5
      unfold billhooklaw10_DomControl.j0
      repeat' first
      | (with_reducible exact ih0 _ _ _ _ _ _)
      | (with_reducible exact ih1 _ _ _ _ _ _)
      | (with_reducible exact ih2 _ _ _ _ _ _ _)
      | (with_reducible exact ih3 _ _ _ _ _ _ _ _ _)
      | (with_reducible exact ih4 _ _ _ _ _ _ _ _ _ _)
      | (with_reducible exact ih5 _ _ _ _)
      | (with_reducible exact ih6 _ _ _ _)
      | (with_reducible exact billhooklaw10_web.mono _ _ _)
      | (with_reducible exact dom_Control.mono _ _)
      | (with_reducible exact dom_Post.mono _ _)
      | (with_reducible exact LeO.refl _)
      | (with_reducible exact LeO.none _)
      | (with_reducible refine LeO.ite ?_ ?_)
      | (with_reducible refine LeO.bind ?_ (fun _ => ?_))
      | exact ih0 _ _ _ _ _ _
      | exact ih1 _ _ _ _ _ _
      | exact ih2 _ _ _ _ _ _ _
      | exact ih3 _ _ _ _ _ _ _ _ _
      | exact ih4 _ _ _ _ _ _ _ _ _ _
      | exact ih5 _ _ _ _
      | exact ih6 _ _ _ _
      | exact billhooklaw10_web.mono _ _ _
      | exact dom_Control.mono _ _
      | exact dom_Post.mono _ _
      | exact LeO.none _
      | refine LeO.ite ?_ ?_
      | refine LeO.bind ?_ (fun _ => ?_)
    · intro y0 y1 y2 y3 y4 y5
      unfold billhooklaw10_DomControl.l0
      repeat' first
      | (with_reducible exact ih0 _ _ _ _ _ _)
      | (with_reducible exact ih1 _ _ _ _ _ _)
      | (with_reducible exact ih2 _ _ _ _ _ _ _)
      | (with_reducible exact ih3 _ _ _ _ _ _ _ _ _)
      | (with_reducible exact ih4 _ _ _ _ _ _ _ _ _ _)
      | (with_reducible exact ih5 _ _ _ _)
      | (with_reducible exact ih6 _ _ _ _)
      | (with_reducible exact billhooklaw10_web.mono _ _ _)
      | (with_reducible exact dom_Control.mono _ _)
      | (with_reducible exact dom_Post.mono _ _)
      | (with_reducible exact LeO.refl _)
      | (with_reducible exact LeO.none _)
      | (with_reducible refine LeO.ite ?_ ?_)
      | (with_reducible refine LeO.bind ?_ (fun _ => ?_))
      | exact ih0 _ _ _ _ _ _
      | exact ih1 _ _ _ _ _ _
      | exact ih2 _ _ _ _ _ _ _
      | exact ih3 _ _ _ _ _ _ _ _ _
      | exact ih4 _ _ _ _ _ _ _ _ _ _
      | exact ih5 _ _ _ _
      | exact ih6 _ _ _ _
      | exact billhooklaw10_web.mono _ _ _
      | exact dom_Control.mono _ _
      | exact dom_Post.mono _ _
      | exact LeO.none _
      | refine LeO.ite ?_ ?_
      | refine LeO.bind ?_ (fun _ => ?_)
    · intro y0 y1 y2 y3 y4 y5 y6
      unfold billhooklaw10_DomControl.l1
      repeat' first
      | (with_reducible exact ih0 _ _ _ _ _ _)
      | (with_reducible exact ih1 _ _ _ _ _ _)
      | (with_reducible exact ih2 _ _ _ _ _ _ _)
      | (with_reducible exact ih3 _ _ _ _ _ _ _ _ _)
      | (with_reducible exact ih4 _ _ _ _ _ _ _ _ _ _)
      | (with_reducible exact ih5 _ _ _ _)
      | (with_reducible exact ih6 _ _ _ _)
      | (with_reducible exact billhooklaw10_web.mono _ _ _)
      | (with_reducible exact dom_Control.mono _ _)
      | (with_reducible exact dom_Post.mono _ _)
      | (with_reducible exact LeO.refl _)
      | (with_reducible exact LeO.none _)
      | (with_reducible refine LeO.ite ?_ ?_)
      | (with_reducible refine LeO.bind ?_ (fun _ => ?_))
      | exact ih0 _ _ _ _ _ _
      | exact ih1 _ _ _ _ _ _
      | exact ih2 _ _ _ _ _ _ _
      | exact ih3 _ _ _ _ _ _ _ _ _
      | exact ih4 _ _ _ _ _ _ _ _ _ _
      | exact ih5 _ _ _ _
      | exact ih6 _ _ _ _
      | exact billhooklaw10_web.mono _ _ _
      | exact dom_Control.mono _ _
      | exact dom_Post.mono _ _
      | exact LeO.none _
      | refine LeO.ite ?_ ?_
      | refine LeO.bind ?_ (fun _ => ?_)
    · intro y0 y1 y2 y3 y4 y5 y6 y7 y8
      unfold billhooklaw10_DomControl.j3
      repeat' first
      | (with_reducible exact ih0 _ _ _ _ _ _)
      | (with_reducible exact ih1 _ _ _ _ _ _)
      | (with_reducible exact ih2 _ _ _ _ _ _ _)
      | (with_reducible exact ih3 _ _ _ _ _ _ _ _ _)
      | (with_reducible exact ih4 _ _ _ _ _ _ _ _ _ _)
      | (with_reducible exact ih5 _ _ _ _)
      | (with_reducible exact ih6 _ _ _ _)
      | (with_reducible exact billhooklaw10_web.mono _ _ _)
      | (with_reducible exact dom_Control.mono _ _)
      | (with_reducible exact dom_Post.mono _ _)
      | (with_reducible exact LeO.refl _)
      | (with_reducible exact LeO.none _)
      | (with_reducible refine LeO.ite ?_ ?_)
      | (with_reducible refine LeO.bind ?_ (fun _ => ?_))
      | exact ih0 _ _ _ _ _ _
      | exact ih1 _ _ _ _ _ _
      | exact ih2 _ _ _ _ _ _ _
      | exact ih3 _ _ _ _ _ _ _ _ _
      | exact ih4 _ _ _ _ _ _ _ _ _ _
      | exact ih5 _ _ _ _
      | exact ih6 _ _ _ _
      | exact billhooklaw10_web.mono _ _ _
      | exact dom_Control.mono _ _
      | exact dom_Post.mono _ _
      | exact LeO.none _
      | refine LeO.ite ?_ ?_
      | refine LeO.bind ?_ (fun _ => ?_)
    · intro y0 y1 y2 y3 y4 y5 y6 y7 y8 y9
      unfold billhooklaw10_DomControl.l2
      repeat' first
      | (with_reducible exact ih0 _ _ _ _ _ _)
      | (with_reducible exact ih1 _ _ _ _ _ _)
      | (with_reducible exact ih2 _ _ _ _ _ _ _)
      | (with_reducible exact ih3 _ _ _ _ _ _ _ _ _)
      | (with_reducible exact ih4 _ _ _ _ _ _ _ _ _ _)
      | (with_reducible exact ih5 _ _ _ _)
      | (with_reducible exact ih6 _ _ _ _)
      | (with_reducible exact billhooklaw10_web.mono _ _ _)
      | (with_reducible exact dom_Control.mono _ _)
      | (with_reducible exact dom_Post.mono _ _)
      | (with_reducible exact LeO.refl _)
      | (with_reducible exact LeO.none _)
      | (with_reducible refine LeO.ite ?_ ?_)
      | (with_reducible refine LeO.bind ?_ (fun _ => ?_))
      | exact ih0 _ _ _ _ _ _
      | exact ih1 _ _ _ _ _ _
      | exact ih2 _ _ _ _ _ _ _
      | exact ih3 _ _ _ _ _ _ _ _ _
      | exact ih4 _ _ _ _ _ _ _ _ _ _
      | exact ih5 _ _ _ _
      | exact ih6 _ _ _ _
      | exact billhooklaw10_web.mono _ _ _
      | exact dom_Control.mono _ _
      | exact dom_Post.mono _ _
      | exact LeO.none _
      | refine LeO.ite ?_ ?_
      | refine LeO.bind ?_ (fun _ => ?_)
    · intro y0 y1 y2 y3
      unfold billhooklaw10_DomControl.l3
      repeat' first
      | (with_reducible exact ih0 _ _ _ _ _ _)
      | (with_reducible exact ih1 _ _ _ _ _ _)
      | (with_reducible exact ih2 _ _ _ _ _ _ _)
      | (with_reducible exact ih3 _ _ _ _ _ _ _ _ _)
      | (with_reducible exact ih4 _ _ _ _ _ _ _ _ _ _)
      | (with_reducible exact ih5 _ _ _ _)
      | (with_reducible exact ih6 _ _ _ _)
      | (with_reducible exact billhooklaw10_web.mono _ _ _)
      | (with_reducible exact dom_Control.mono _ _)
      | (with_reducible exact dom_Post.mono _ _)
      | (with_reducible exact LeO.refl _)
      | (with_reducible exact LeO.none _)
      | (with_reducible refine LeO.ite ?_ ?_)
      | (with_reducible refine LeO.bind ?_ (fun _ => ?_))
      | exact ih0 _ _ _ _ _ _
      | exact ih1 _ _ _ _ _ _
      | exact ih2 _ _ _ _ _ _ _
      | exact ih3 _ _ _ _ _ _ _ _ _
      | exact ih4 _ _ _ _ _ _ _ _ _ _
      | exact ih5 _ _ _ _
      | exact ih6 _ _ _ _
      | exact billhooklaw10_web.mono _ _ _
      | exact dom_Control.mono _ _
      | exact dom_Post.mono _ _
      | exact LeO.none _
      | refine LeO.ite ?_ ?_
      | refine LeO.bind ?_ (fun _ => ?_)
    · intro y0 y1 y2 y3
      unfold billhooklaw10_DomControl.l4
      repeat' first
      | (with_reducible exact ih0 _ _ _ _ _ _)
      | (with_reducible exact ih1 _ _ _ _ _ _)
      | (with_reducible exact ih2 _ _ _ _ _ _ _)
      | (with_reducible exact ih3 _ _ _ _ _ _ _ _ _)
      | (with_reducible exact ih4 _ _ _ _ _ _ _ _ _ _)
      | (with_reducible exact ih5 _ _ _ _)
      | (with_reducible exact ih6 _ _ _ _)
      | (with_reducible exact billhooklaw10_web.mono _ _ _)
      | (with_reducible exact dom_Control.mono _ _)
      | (with_reducible exact dom_Post.mono _ _)
      | (with_reducible exact LeO.refl _)
      | (with_reducible exact LeO.none _)
      | (with_reducible refine LeO.ite ?_ ?_)
      | (with_reducible refine LeO.bind ?_ (fun _ => ?_))
      | exact ih0 _ _ _ _ _ _
      | exact ih1 _ _ _ _ _ _
      | exact ih2 _ _ _ _ _ _ _
      | exact ih3 _ _ _ _ _ _ _ _ _
      | exact ih4 _ _ _ _ _ _ _ _ _ _
      | exact ih5 _ _ _ _
      | exact ih6 _ _ _ _
      | exact billhooklaw10_web.mono _ _ _
      | exact dom_Control.mono _ _
      | exact dom_Post.mono _ _
      | exact LeO.none _
      | refine LeO.ite ?_ ?_
      | refine LeO.bind ?_ (fun _ => ?_)
theorem billhooklaw10_DomControl.mono : ∀ a0 a1 k, LeO (billhooklaw10_DomControl.f k a0 a1) (billhooklaw10_DomControl.f (k + 1) a0 a1) := by
  intro a0 a1 k
  obtain ⟨ih0, ih1, ih2, ih3, ih4, ih5, ih6⟩ := billhooklaw10_DomControl.mono_l k
  unfold billhooklaw10_DomControl.f
  repeat' first
      | (with_reducible exact ih0 _ _ _ _ _ _)
      | (with_reducible exact ih1 _ _ _ _ _ _)
      | (with_reducible exact ih2 _ _ _ _ _ _ _)
      | (with_reducible exact ih3 _ _ _ _ _ _ _ _ _)
      | (with_reducible exact ih4 _ _ _ _ _ _ _ _ _ _)
      | (with_reducible exact ih5 _ _ _ _)
      | (with_reducible exact ih6 _ _ _ _)
      | (with_reducible exact billhooklaw10_web.mono _ _ _)
      | (with_reducible exact dom_Control.mono _ _)
      | (with_reducible exact dom_Post.mono _ _)
      | (with_reducible exact LeO.refl _)
      | (with_reducible exact LeO.none _)
      | (with_reducible refine LeO.ite ?_ ?_)
      | (with_reducible refine LeO.bind ?_ (fun _ => ?_))
      | exact ih0 _ _ _ _ _ _
      | exact ih1 _ _ _ _ _ _
      | exact ih2 _ _ _ _ _ _ _
      | exact ih3 _ _ _ _ _ _ _ _ _
      | exact ih4 _ _ _ _ _ _ _ _ _ _
      | exact ih5 _ _ _ _
      | exact ih6 _ _ _ _
      | exact billhooklaw10_web.mono _ _ _
      | exact dom_Control.mono _ _
      | exact dom_Post.mono _ _
      | exact LeO.none _
      | refine LeO.ite ?_ ?_
      | refine LeO.bind ?_ (fun _ => ?_)
set_option maxHeartbeats 8000000 in
set_option maxRecDepth 100000 in
theorem billhooklaw10_DomControl.calls (k : Nat) (A0 : Option Addr) (c0 : Nat) (l0 : List Int) (a1 : Int) (r : Bool) (w : World) (hr0 : Kd.C (Kd.int .u8) w A0 l0.length l0) (hc0 : l0.length ≤ c0) (h : billhooklaw10_DomControl.f k l0 a1 = some r) :
    Calls Try.prog 8 #[.slice A0 l0.length c0, .int .u8 a1] w fun e w' => e = .returned (.bool r) ∧ Below w.heap.size w w' := by
  have HR0 := Aside0.mk hr0
  have HC0 := Aside0.mk hc0
  clear hr0 hc0
  have HB := Aside0.mk (Below.refl w.heap.size w)
  have H : ((billhooklaw10_examples.f).bind fun t227 => (if t227 = true then ((billhooklaw10_web.f k l0 a1).bind fun t228 => ((dom_Post.f k t228).bind fun t231 => ((dom_Control.f k t228).bind fun t234 => (if (t231.length : Int) = (t228.length : Int) then (billhooklaw10_DomControl.j0 k t227 t228 t231 t234 (t228.length : Int) ((t234.length : Int) != (t228.length : Int))) else (billhooklaw10_DomControl.j0 k t227 t228 t231 t234 (t228.length : Int) true))))) else (some false))) = some r := h
  clear h
  replace H := Option.bind_eq_some_iff.mp H
  obtain ⟨t227, A30, H⟩ := H
  replace H : (if t227 = true then ((billhooklaw10_web.f k l0 a1).bind fun t228 => ((dom_Post.f k t228).bind fun t231 => ((dom_Control.f k t228).bind fun t234 => (if (t231.length : Int) = (t228.length : Int) then (billhooklaw10_DomControl.j0 k t227 t228 t231 t234 (t228.length : Int) ((t234.length : Int) != (t228.length : Int))) else (billhooklaw10_DomControl.j0 k t227 t228 t231 t234 (t228.length : Int) true))))) else (some false)) = some r := H
  have A3 := Aside0.mk A30
  clear A30
  by_cases c4 : t227 = true
  · subst c4
    have H1 : ((billhooklaw10_web.f k l0 a1).bind fun t228 => ((dom_Post.f k t228).bind fun t231 => ((dom_Control.f k t228).bind fun t234 => (if (t231.length : Int) = (t228.length : Int) then (billhooklaw10_DomControl.j0 k true t228 t231 t234 (t228.length : Int) ((t234.length : Int) != (t228.length : Int))) else (billhooklaw10_DomControl.j0 k true t228 t231 t234 (t228.length : Int) true))))) = some r := by first | (rw [if_pos rfl] at H; exact H) | (rw [if_pos trivial] at H; exact H)
    clear H
    have H := H1
    clear H1
    replace H := Option.bind_eq_some_iff.mp H
    obtain ⟨t228, A50, H⟩ := H
    replace H : ((dom_Post.f k t228).bind fun t231 => ((dom_Control.f k t228).bind fun t234 => (if (t231.length : Int) = (t228.length : Int) then (billhooklaw10_DomControl.j0 k true t228 t231 t234 (t228.length : Int) ((t234.length : Int) != (t228.length : Int))) else (billhooklaw10_DomControl.j0 k true t228 t231 t234 (t228.length : Int) true)))) = some r := H
    have A5 := Aside0.mk A50
    clear A50
    replace H := Option.bind_eq_some_iff.mp H
    obtain ⟨t231, A60, H⟩ := H
    replace H : ((dom_Control.f k t228).bind fun t234 => (if (t231.length : Int) = (t228.length : Int) then (billhooklaw10_DomControl.j0 k true t228 t231 t234 (t228.length : Int) ((t234.length : Int) != (t228.length : Int))) else (billhooklaw10_DomControl.j0 k true t228 t231 t234 (t228.length : Int) true))) = some r := H
    have A6 := Aside0.mk A60
    clear A60
    replace H := Option.bind_eq_some_iff.mp H
    obtain ⟨t234, A70, H⟩ := H
    replace H : (if (t231.length : Int) = (t228.length : Int) then (billhooklaw10_DomControl.j0 k true t228 t231 t234 (t228.length : Int) ((t234.length : Int) != (t228.length : Int))) else (billhooklaw10_DomControl.j0 k true t228 t231 t234 (t228.length : Int) true)) = some r := H
    have A7 := Aside0.mk A70
    clear A70
    have HC8 := Aside0.mk H
    clear H
    go_enter Try.func8, Try.ntmps8
    go_upto_region 8 with (first | ((with_reducible refine gate_callee (f := 26) rfl ?_); refine goesL_ (some 19) rfl rfl Try.func26 (by kernel_rfl) rfl #[] rfl (by (try simp only [List.map_toArray, List.map_cons, List.map_nil]); first | done | rfl | (simp only [List.length_drop, List.length_take]; rfl)) ?_; (with_reducible refine (billhooklaw10_examples.calls  true _ A3.out).mono ?_); rintro e w9 ⟨rfl, hb⟩; refine ⟨_, rfl, ?_⟩; have n0_ := Aside0.mk (below_step (by repeat (first | (with_reducible first | exact HB.out | apply below_alloc | apply pw_below_drewN | apply below_drew1) | exact HB.out)) hb); clear HB; have HB := n0_; clear n0_; (try clear hb); (try clear hb2); (try clear hk); (try clear hi)) | ((with_reducible refine gate_callee (f := 27) rfl ?_); refine goesL_ (some 24) rfl rfl Try.func27 (by kernel_rfl) rfl #[.slice A0 l0.length c0, .int .u8 a1] rfl (by (try simp only [List.map_toArray, List.map_cons, List.map_nil]); first | done | rfl | (simp only [List.length_drop, List.length_take]; rfl)) ?_; (with_reducible refine (billhooklaw10_web.calls k _ _ l0 a1 t228 _ ?side1 ?side2 A5.out).mono ?_); (case side1 => repeat (first | exact (Kd.C_below HR0.out HB.out) | (with_reducible refine Kd.C_alloc ?_ _) | (with_reducible refine Kd.C_drewN ?_ _) | (with_reducible refine Kd.C_drew ?_))); (case side2 => exact HC0.out); rintro e w10 ⟨v229, rfl, ho0, hb⟩; refine ⟨_, rfl, ?_⟩; have n0_ := Aside0.mk (Kd.S_lower ho0 (below_size (by repeat (first | (with_reducible first | exact HB.out | apply below_alloc | apply pw_below_drewN | apply below_drew1) | exact HB.out)))); have n1_ := Aside0.mk (below_step (by repeat (first | (with_reducible first | exact HB.out | apply below_alloc | apply pw_below_drewN | apply below_drew1) | exact HB.out)) hb); clear HB; have HO230 := n0_; have HB := n1_; clear n0_ n1_; (try clear hb); (try clear hb2); (try clear hk); (try clear hi); (try clear ho0); obtain ⟨Ao11, co11, eo11⟩ := Kd.S_slice HO230.out; subst eo11) | ((with_reducible refine gate_callee (f := 31) rfl ?_); refine goesL_ (some 26) rfl rfl Try.func31 (by kernel_rfl) rfl #[.slice Ao11 t228.length co11] rfl (by (try simp only [List.map_toArray, List.map_cons, List.map_nil]); first | done | rfl | (simp only [List.length_drop, List.length_take]; rfl)) ?_; (with_reducible refine (dom_Post.calls k _ _ t228 t231 _ ?side1 ?side2 A6.out).mono ?_); (case side1 => repeat (first | exact (Kd.S_reads' HO230.out).2.2 | (with_reducible refine Kd.C_alloc ?_ _) | (with_reducible refine Kd.C_drewN ?_ _) | (with_reducible refine Kd.C_drew ?_))); (case side2 => exact (Kd.S_reads' HO230.out).2.1); rintro e w12 ⟨v232, rfl, ho0, hb⟩; refine ⟨_, rfl, ?_⟩; have n0_ := Aside0.mk (Kd.S_below (by (with_reducible repeat (first | apply Kd.S_alloc | apply Kd.S_drewN | apply Kd.S_drew)); exact HO230.out) hb); have n1_ := Aside0.mk (Kd.S_lower ho0 (below_size (by repeat (first | (with_reducible first | exact HB.out | apply below_alloc | apply pw_below_drewN | apply below_drew1) | exact HB.out)))); have n2_ := Aside0.mk (below_step (by repeat (first | (with_reducible first | exact HB.out | apply below_alloc | apply pw_below_drewN | apply below_drew1) | exact HB.out)) hb); clear HO230; clear HB; have HO230 := n0_; have HO233 := n1_; have HB := n2_; clear n0_ n1_ n2_; (try clear hb); (try clear hb2); (try clear hk); (try clear hi); (try clear ho0)) | ((with_reducible refine gate_callee (f := 37) rfl ?_); refine goesL_ (some 28) rfl rfl Try.func37 (by kernel_rfl) rfl #[.slice Ao11 t228.length co11] rfl (by (try simp only [List.map_toArray, List.map_cons, List.map_nil]); first | done | rfl | (simp only [List.length_drop, List.length_take]; rfl)) ?_; (with_reducible refine (dom_Control.calls k (fun k_ => (True ∧ some k_ ≠ (v232 : Value).ownBlock)) _ _ t228 t234 _ ?side1 A7.out).mono ?_); (case side1 => exact Kd.S_V (Kd.S_apart' (HO230.out) (Kd.S_typed HO233.out) (by decide))); rintro e w13 ⟨v235, rfl, ho0, hb⟩; refine ⟨_, rfl, ?_⟩; have n0_ := Aside0.mk (Kd.S_below (by (with_reducible repeat (first | apply Kd.S_alloc | apply Kd.S_drewN | apply Kd.S_drew)); exact HO230.out) hb); have n1_ := Aside0.mk (Kd.S_below (by (with_reducible repeat (first | apply Kd.S_alloc | apply Kd.S_drewN | apply Kd.S_drew)); exact HO233.out) hb); have n2_ := Aside0.mk (Kd.V_lower (Kd.V_mono (ok' := fun k_ => some k_ ≠ (v232 : Value).ownBlock) ho0 (fun k_ hk_ => Or.elim hk_ (fun hs_ => hs_.2) (fun hn_ => (Kd.fresh' (Kd.S_lt (by (with_reducible repeat (first | apply Kd.S_alloc | apply Kd.S_drewN | apply Kd.S_drew)); exact HO233.out)) k_ hn_)))) (below_size (by repeat (first | (with_reducible first | exact HB.out | apply below_alloc | apply pw_below_drewN | apply below_drew1) | exact HB.out)))); have n3_ := Aside0.mk (below_step (by repeat (first | (with_reducible first | exact HB.out | apply below_alloc | apply pw_below_drewN | apply below_drew1) | exact HB.out)) hb); clear HO230; clear HO233; clear HB; have HO230 := n0_; have HO233 := n1_; have HO236 := n2_; have HB := n3_; clear n0_ n1_ n2_ n3_; (try clear hb); (try clear hb2); (try clear hk); (try clear hi); (try clear ho0)))
    (try simp only [Act.put, List.setIfInBounds_toArray, List.set_cons_zero, List.set_cons_succ])
    go_cut [40] (fun v40 wc => ∃ (kq : Nat) (x40_7 : Bool), v40 = .bool x40_7 ∧ Aside0 (billhooklaw10_DomControl.j0 kq true t228 t231 t234 (t228.length : Int) x40_7 = some r) ∧ Aside0 (kq ≤ k) ∧ Aside0 (Kd.S (Kd.slice 3 (Kd.int .i64)) 54 wc w.heap.size (fun _ => True) (.slice Ao11 t228.length co11) t228) ∧ Aside0 (Kd.S (Kd.slice 4 Kd.bool) 57 wc w.heap.size (fun _ => True) v232 t231) ∧ Aside0 (Kd.V (Kd.slice 3 (Kd.int .i64)) 54 wc w.heap.size (fun k_ => some k_ ≠ (v232 : Value).ownBlock) v235 t234) ∧ Aside0 (Below w.heap.size w wc))
    case first =>
      have H := HC8.out
      clear HC8
      by_cases c14 : (t231.length : Int) = (t228.length : Int)
      · rw [if_pos c14] at H
        have c14b0 : ((t231.length : Int) == (t228.length : Int)) = true := beq_iff_eq.mpr c14
        have c14b1 : ((t231.length : Int) != (t228.length : Int)) = false := bne_eq_false_iff_eq.mpr c14
        have c14b2 : (t231.length == t228.length) = true := by first | simpa using c14 | (simp at c14 ⊢; omega)
        clear c14
        (first | rw [c14b0] | (simp only [i64_w, i32_w]; rw [c14b0]) | skip)
        have H' := Aside0.mk H
        clear H
        obtain ⟨Ao15, co15, eo15⟩ := Kd.S_slice HO233.out
        subst eo15
        obtain ⟨Ao16, co16, eo16⟩ := Kd.V_slice HO236.out
        subst eo16
        go_wp2
        go_meet
        case rel => exact ⟨_, (((t234.length : Int) != (t228.length : Int))), (by first | rfl | (simp; done) | (simp [*]; done)), H', ⟨by first | omega | exact Nat.le_refl _⟩, ⟨by (with_reducible repeat (first | apply Kd.S_alloc | apply Kd.S_drewN | apply Kd.S_drew)); exact HO230.out⟩, ⟨by (with_reducible repeat (first | apply Kd.S_alloc | apply Kd.S_drewN | apply Kd.S_drew)); exact HO233.out⟩, ⟨by (with_reducible repeat (first | apply Kd.V_alloc | apply Kd.V_drewN | apply Kd.V_drew)); exact HO236.out⟩, ⟨by repeat (first | (with_reducible first | exact HB.out | apply below_alloc | apply pw_below_drewN | apply below_drew1) | exact HB.out)⟩⟩
      · rw [if_neg c14] at H
        have c14b0 : ((t231.length : Int) == (t228.length : Int)) = false := beq_eq_false_iff_ne.mpr c14
        have c14b1 : ((t231.length : Int) != (t228.length : Int)) = true := bne_iff_ne.mpr c14
        have c14b2 : (t231.length == t228.length) = false := by first | simpa using c14 | (simp at c14 ⊢; omega)
        (first | rw [c14b0] | (simp only [i64_w, i32_w]; rw [c14b0]) | skip)
        have H' := Aside0.mk H
        clear H
        obtain ⟨Ao17, co17, eo17⟩ := Kd.S_slice HO233.out
        subst eo17
        go_wp2
        go_meet
        case rel => exact ⟨_, (true), (by first | rfl | (simp; done) | (simp [*]; done)), H', ⟨by first | omega | exact Nat.le_refl _⟩, ⟨by (with_reducible repeat (first | apply Kd.S_alloc | apply Kd.S_drewN | apply Kd.S_drew)); exact HO230.out⟩, ⟨by (with_reducible repeat (first | apply Kd.S_alloc | apply Kd.S_drewN | apply Kd.S_drew)); exact HO233.out⟩, ⟨by (with_reducible repeat (first | apply Kd.V_alloc | apply Kd.V_drewN | apply Kd.V_drew)); exact HO236.out⟩, ⟨by repeat (first | (with_reducible first | exact HB.out | apply below_alloc | apply pw_below_drewN | apply below_drew1) | exact HB.out)⟩⟩
    case rest =>
      clear HC8
      try clear c1
      try clear c2
      try clear p2
      try clear c3
      try clear c4
      try clear c8
      try clear c14
      try clear c14b0
      try clear c14b1
      try clear c14b2
      obtain ⟨kq, x40_7, rfl, HA, HJ7, HO_6, HO_7, HO_8, HB⟩ := hcut
      cases kq with
      | zero => exact absurd HA.out (by simp [billhooklaw10_DomControl.j0])
      | succ kj7 =>
        have H := HA.out
        clear HA
        simp only [billhooklaw10_DomControl.j0] at H
        by_cases c18 : x40_7 = true
        · subst c18
          have H1 : (some false) = some r := by first | (rw [if_pos rfl] at H; exact H) | (rw [if_pos trivial] at H; exact H)
          clear H
          have H := H1
          clear H1
          obtain rfl := Option.some.inj H
          go_wp2
          go_ret
          exact ⟨by first | rfl | (simp [errW_none, errW_some] <;> rfl) | (simp [*, errW_none, errW_some] <;> rfl), by repeat (first | (with_reducible first | exact HB.out | apply below_alloc | apply pw_below_drewN | apply below_drew1) | exact HB.out)⟩
        · replace c18 := Bool.eq_false_iff.mpr c18
          subst c18
          have H1 : (billhooklaw10_DomControl.l0 kj7 true t228 t231 t234 (t228.length : Int) 0) = some r := by rw [if_neg (show ¬ (false = true) by decide)] at H; exact H
          clear H
          have H := H1
          clear H1
          have H' := Aside0.mk H
          clear H
          go_wp2
          go_loopg [10] kj7 (fun kq v10 w' => ∃ (x10_2 : Int), v10 = .int .i64 x10_2 ∧ Aside0 (billhooklaw10_DomControl.l0 kq true t228 t231 t234 (t228.length : Int) x10_2 = some r) ∧ Aside0 (kq ≤ kj7) ∧ Aside0 (Kd.S (Kd.slice 3 (Kd.int .i64)) 54 w' w.heap.size (fun _ => True) (.slice Ao11 t228.length co11) t228) ∧ Aside0 (Kd.S (Kd.slice 4 Kd.bool) 57 w' w.heap.size (fun _ => True) v232 t231) ∧ Aside0 (Kd.V (Kd.slice 3 (Kd.int .i64)) 54 w' w.heap.size (fun k_ => some k_ ≠ (v232 : Value).ownBlock) v235 t234) ∧ Aside0 (Below w.heap.size w w'))
          case atStart => exact ⟨(0), (by first | rfl | (simp; done) | (simp [*]; done)), H', ⟨Nat.le_refl _⟩, ⟨by (with_reducible repeat (first | apply Kd.S_alloc | apply Kd.S_drewN | apply Kd.S_drew)); exact HO_6.out⟩, ⟨by (with_reducible repeat (first | apply Kd.S_alloc | apply Kd.S_drewN | apply Kd.S_drew)); exact HO_7.out⟩, ⟨by (with_reducible repeat (first | apply Kd.V_alloc | apply Kd.V_drewN | apply Kd.V_drew)); exact HO_8.out⟩, ⟨by repeat (first | (with_reducible first | exact HB.out | apply below_alloc | apply pw_below_drewN | apply below_drew1) | exact HB.out)⟩⟩
          case round =>
            clear H'
            try clear c1
            try clear c2
            try clear p2
            try clear c3
            try clear c4
            try clear c8
            try clear c14
            try clear c14b0
            try clear c14b1
            try clear c14b2
            try clear c18
            try clear p2
            obtain ⟨x10_2, rfl, HA, HK2, HO_6, HO_7, HO_8, HB⟩ := hrel
            cases gk with
            | zero => exact absurd HA.out (by simp [billhooklaw10_DomControl.l0])
            | succ k2 =>
              have H := HA.out
              clear HA
              simp only [billhooklaw10_DomControl.l0] at H
              by_cases c19 : x10_2 < (t228.length : Int)
              · rw [if_pos c19] at H
                have c19b0 : decide (x10_2 < (t228.length : Int)) = true := decide_eq_true c19
                clear c19
                have H' := Aside0.mk H
                clear H
                go_wp2
                go_loopg [11] k2 (fun kq v11 w' => ∃ (x11_3 : Int), v11 = .int .i64 x11_3 ∧ Aside0 (billhooklaw10_DomControl.l1 kq true t228 t231 t234 (t228.length : Int) x10_2 x11_3 = some r) ∧ Aside0 (kq ≤ k2) ∧ Aside0 (Kd.S (Kd.slice 3 (Kd.int .i64)) 54 w' w.heap.size (fun _ => True) (.slice Ao11 t228.length co11) t228) ∧ Aside0 (Kd.S (Kd.slice 4 Kd.bool) 57 w' w.heap.size (fun _ => True) v232 t231) ∧ Aside0 (Kd.V (Kd.slice 3 (Kd.int .i64)) 54 w' w.heap.size (fun k_ => some k_ ≠ (v232 : Value).ownBlock) v235 t234) ∧ Aside0 (Below w.heap.size w w'))
                case atStart => exact ⟨(0), (by first | rfl | (simp; done) | (simp [*]; done)), H', ⟨Nat.le_refl _⟩, ⟨by (with_reducible repeat (first | apply Kd.S_alloc | apply Kd.S_drewN | apply Kd.S_drew)); exact HO_6.out⟩, ⟨by (with_reducible repeat (first | apply Kd.S_alloc | apply Kd.S_drewN | apply Kd.S_drew)); exact HO_7.out⟩, ⟨by (with_reducible repeat (first | apply Kd.V_alloc | apply Kd.V_drewN | apply Kd.V_drew)); exact HO_8.out⟩, ⟨by repeat (first | (with_reducible first | exact HB.out | apply below_alloc | apply pw_below_drewN | apply below_drew1) | exact HB.out)⟩⟩
                case round =>
                  clear H'
                  try clear c1
                  try clear c2
                  try clear p2
                  try clear c3
                  try clear c4
                  try clear c8
                  try clear c14
                  try clear c14b0
                  try clear c14b1
                  try clear c14b2
                  try clear c18
                  try clear c19
                  try clear c19b0
                  try clear p2
                  obtain ⟨x11_3, rfl, HA, HK3, HO_6, HO_7, HO_8, HB⟩ := hrel
                  cases gk with
                  | zero => exact absurd HA.out (by simp [billhooklaw10_DomControl.l1])
                  | succ k3 =>
                    have H := HA.out
                    clear HA
                    simp only [billhooklaw10_DomControl.l1] at H
                    by_cases c20 : 0 ≤ x10_2
                    · rw [if_pos c20] at H
                      have c20b0 : decide (0 ≤ x10_2) = true := decide_eq_true c20
                      clear c20
                      by_cases c21 : x10_2 < (t234.length : Int)
                      · rw [if_pos c21] at H
                        have c21b0 : decide (x10_2 < (t234.length : Int)) = true := decide_eq_true c21
                        clear c21
                        by_cases c22 : x11_3 < ((rd_L3 t234 x10_2).length : Int)
                        · rw [if_pos c22] at H
                          have c22b0 : decide (x11_3 < ((rd_L3 t234 x10_2).length : Int)) = true := decide_eq_true c22
                          clear c22
                          by_cases c23 : 0 ≤ x11_3
                          · rw [if_pos c23] at H
                            have c23b0 : decide (0 ≤ x11_3) = true := decide_eq_true c23
                            clear c23
                            have HC24 := Aside0.mk H
                            clear H
                            obtain ⟨Ao25, co25, eo25⟩ := Kd.V_slice HO_8.out
                            subst eo25
                            have p237 : 0 ≤ (x10_2 : Int) := of_decide_eq_true (by first | (with_reducible assumption) | assumption)
                            have q237 : x10_2 < (t234.length : Int) := of_decide_eq_true (by first | (with_reducible assumption) | assumption)
                            obtain ⟨ad237, A237_0, c237_0, e237, hx237_0, hl237_0, hi237_0⟩ := at_L3 (Kd.V_reads' HO_8.out).2.2 x10_2 p237 q237
                            cases e237
                            obtain ⟨ce237, hce237, hMe237, hcc237⟩ := Kd.V_get HO_8.out [] x10_2 p237 (by first | exact q237 | exact of_decide_eq_true (by first | (with_reducible assumption) | assumption) | (have e_ := (Kd.V_reads' HO_8.out).1; omega))
                            obtain ⟨ua237_0, uc237_0, rfl, ul237_0, ge237_0⟩ := Kd.FK_slice_open hMe237
                            have hv237_0 := hcc237 0 _ rfl
                            rw [Nat.add_zero, show ((Kd.slice 3 (Kd.int .i64))).sz = 1 from rfl, Nat.mul_one] at hv237_0
                            replace hv237_0 := Option.some.inj (hv237_0.symm.trans hx237_0)
                            injection hv237_0 with hva_ hvn_ hvc_
                            rw [hva_] at ge237_0
                            rw [hvc_] at ul237_0
                            have HL237_0 := Aside0.mk (show Kd.V (Kd.int .i64) 3 _ w.heap.size _ _ (rd_L3 t234 x10_2) from Kd.V_mk ul237_0 ge237_0)
                            clear hva_ hvn_ hvc_ ge237_0 ul237_0
                            clear hcc237 hce237
                            have HR237_0 := Aside0.mk hi237_0
                            have HC237_0 := Aside0.mk hl237_0
                            clear hi237_0 hl237_0
                            replace p237 := eq_true p237
                            replace q237 := eq_true q237
                            have p238 : 0 ≤ (x10_2 : Int) := of_decide_eq_true (by first | (with_reducible assumption) | assumption)
                            have q238 : x10_2 < (t234.length : Int) := of_decide_eq_true (by first | (with_reducible assumption) | assumption)
                            obtain ⟨ad238, A238_0, c238_0, e238, hx238_0, hl238_0, hi238_0⟩ := at_L3 (Kd.V_reads' HO_8.out).2.2 x10_2 p238 q238
                            obtain rfl : ad237 = ad238 := (by injection e238)
                            obtain ⟨ce238, hce238, hMe238, hcc238⟩ := Kd.V_get HO_8.out [] x10_2 p238 (by first | exact q238 | exact of_decide_eq_true (by first | (with_reducible assumption) | assumption) | (have e_ := (Kd.V_reads' HO_8.out).1; omega))
                            obtain ⟨ua238_0, uc238_0, rfl, ul238_0, ge238_0⟩ := Kd.FK_slice_open hMe238
                            have hv238_0 := hcc238 0 _ rfl
                            rw [Nat.add_zero, show ((Kd.slice 3 (Kd.int .i64))).sz = 1 from rfl, Nat.mul_one] at hv238_0
                            replace hv238_0 := Option.some.inj (hv238_0.symm.trans hx238_0)
                            injection hv238_0 with hva_ hvn_ hvc_
                            rw [hva_] at ge238_0
                            rw [hvc_] at ul238_0
                            have HL238_0 := Aside0.mk (show Kd.V (Kd.int .i64) 3 _ w.heap.size _ _ (rd_L3 t234 x10_2) from Kd.V_mk ul238_0 ge238_0)
                            clear hva_ hvn_ hvc_ ge238_0 ul238_0
                            clear hcc238 hce238
                            have HR238_0 := Aside0.mk hi238_0
                            have HC238_0 := Aside0.mk hl238_0
                            clear hi238_0 hl238_0
                            replace p238 := eq_true p238
                            replace q238 := eq_true q238
                            have ea_ := Option.some.inj (hx237_0.symm.trans hx238_0)
                            injection ea_ with ea_ en_ ec_
                            subst ea_
                            subst ec_
                            clear en_
                            have p239 : 0 ≤ (x11_3 : Int) := of_decide_eq_true (by first | (with_reducible assumption) | assumption)
                            have q239 : x11_3 < ((rd_L3 t234 x10_2).length : Int) := of_decide_eq_true (by first | (with_reducible assumption) | assumption)
                            obtain ⟨ad239, e239, hx239_0⟩ := Kd.at_int (by repeat (first | (with_reducible exact HR238_0.out) | (with_reducible refine Kd.C_alloc ?_ _) | (with_reducible refine Kd.C_drewN ?_ _) | (with_reducible refine Kd.C_drew ?_) | exact HR238_0.out)) x11_3 p239 q239
                            cases e239
                            replace p239 := eq_true p239
                            replace q239 := eq_true q239
                            go_upto_region 17 with (fail)
                            go_cut [92] (fun v92 wc => ∃ (kq : Nat) (x92_23 : Bool), v92 = .bool x92_23 ∧ Aside0 (billhooklaw10_DomControl.j3 kq true t228 t231 t234 (t228.length : Int) x10_2 x11_3 (rd (rd_L3 t234 x10_2) x11_3) x92_23 = some r) ∧ Aside0 (kq ≤ k3) ∧ Aside0 (Kd.S (Kd.slice 3 (Kd.int .i64)) 54 wc w.heap.size (fun _ => True) (.slice Ao11 t228.length co11) t228) ∧ Aside0 (Kd.S (Kd.slice 4 Kd.bool) 57 wc w.heap.size (fun _ => True) v232 t231) ∧ Aside0 (Kd.V (Kd.slice 3 (Kd.int .i64)) 54 wc w.heap.size (fun k_ => some k_ ≠ (v232 : Value).ownBlock) (.slice (some ad237) t234.length co25) t234) ∧ Aside0 (Kd.C (Kd.int .i64) wc (some ad239) (rd_L3 t234 x10_2).length (rd_L3 t234 x10_2)) ∧ Aside0 (Kd.C (Kd.int .i64) wc (some ad239) (rd_L3 t234 x10_2).length (rd_L3 t234 x10_2)) ∧ Aside0 (Below w.heap.size w wc))
                            case first =>
                              have H := HC24.out
                              clear HC24
                              by_cases c26 : (rd (rd_L3 t234 x10_2) x11_3) < 0
                              · rw [if_pos c26] at H
                                have c26b0 : decide ((rd (rd_L3 t234 x10_2) x11_3) < 0) = true := decide_eq_true c26
                                clear c26
                                (first | rw [c26b0] | (simp only [i64_w, i32_w]; rw [c26b0]) | skip)
                                have H' := Aside0.mk H
                                clear H
                                go_wp2
                                go_meet
                                case rel => exact ⟨_, (true), (by first | rfl | (simp; done) | (simp [*]; done)), H', ⟨by have := HJ7.out; have := HK2.out; have := HK3.out; first | omega | exact Nat.le_refl _⟩, ⟨by (with_reducible repeat (first | apply Kd.S_alloc | apply Kd.S_drewN | apply Kd.S_drew)); exact HO_6.out⟩, ⟨by (with_reducible repeat (first | apply Kd.S_alloc | apply Kd.S_drewN | apply Kd.S_drew)); exact HO_7.out⟩, ⟨by (with_reducible repeat (first | apply Kd.V_alloc | apply Kd.V_drewN | apply Kd.V_drew)); exact HO_8.out⟩, ⟨by repeat (first | (with_reducible exact HR237_0.out) | (with_reducible refine Kd.C_alloc ?_ _) | (with_reducible refine Kd.C_drewN ?_ _) | (with_reducible refine Kd.C_drew ?_) | exact HR237_0.out)⟩, ⟨by repeat (first | (with_reducible exact HR238_0.out) | (with_reducible refine Kd.C_alloc ?_ _) | (with_reducible refine Kd.C_drewN ?_ _) | (with_reducible refine Kd.C_drew ?_) | exact HR238_0.out)⟩, ⟨by repeat (first | (with_reducible first | exact HB.out | apply below_alloc | apply pw_below_drewN | apply below_drew1) | exact HB.out)⟩⟩
                              · rw [if_neg c26] at H
                                have c26b0 : decide ((rd (rd_L3 t234 x10_2) x11_3) < 0) = false := decide_eq_false c26
                                clear c26
                                (first | rw [c26b0] | (simp only [i64_w, i32_w]; rw [c26b0]) | skip)
                                by_cases c27 : (rd (rd_L3 t234 x10_2) x11_3) ≥ (t228.length : Int)
                                · rw [if_pos c27] at H
                                  have c27b0 : decide ((t228.length : Int) ≤ (rd (rd_L3 t234 x10_2) x11_3)) = true := decide_eq_true c27
                                  clear c27
                                  have H' := Aside0.mk H
                                  clear H
                                  go_wp2
                                  go_meet
                                  case rel => exact ⟨_, (true), (by first | rfl | (simp; done) | (simp [*]; done)), H', ⟨by have := HJ7.out; have := HK2.out; have := HK3.out; first | omega | exact Nat.le_refl _⟩, ⟨by (with_reducible repeat (first | apply Kd.S_alloc | apply Kd.S_drewN | apply Kd.S_drew)); exact HO_6.out⟩, ⟨by (with_reducible repeat (first | apply Kd.S_alloc | apply Kd.S_drewN | apply Kd.S_drew)); exact HO_7.out⟩, ⟨by (with_reducible repeat (first | apply Kd.V_alloc | apply Kd.V_drewN | apply Kd.V_drew)); exact HO_8.out⟩, ⟨by repeat (first | (with_reducible exact HR237_0.out) | (with_reducible refine Kd.C_alloc ?_ _) | (with_reducible refine Kd.C_drewN ?_ _) | (with_reducible refine Kd.C_drew ?_) | exact HR237_0.out)⟩, ⟨by repeat (first | (with_reducible exact HR238_0.out) | (with_reducible refine Kd.C_alloc ?_ _) | (with_reducible refine Kd.C_drewN ?_ _) | (with_reducible refine Kd.C_drew ?_) | exact HR238_0.out)⟩, ⟨by repeat (first | (with_reducible first | exact HB.out | apply below_alloc | apply pw_below_drewN | apply below_drew1) | exact HB.out)⟩⟩
                                · rw [if_neg c27] at H
                                  have c27b0 : decide ((t228.length : Int) ≤ (rd (rd_L3 t234 x10_2) x11_3)) = false := decide_eq_false c27
                                  clear c27
                                  by_cases c28 : x11_3 > 0
                                  · rw [if_pos c28] at H
                                    have c28b0 : decide (0 < x11_3) = true := decide_eq_true c28
                                    clear c28
                                    obtain ⟨ji29, hji29⟩ : ∃ j_ : Int, (wrap64 (x11_3 - 1)) = j_ := ⟨_, rfl⟩
                                    replace H : (if 0 ≤ (ji29) then (if (ji29) < ((rd_L3 t234 x10_2).length : Int) then (if (rd (rd_L3 t234 x10_2) x11_3) ≤ (rd (rd_L3 t234 x10_2) (ji29)) then (billhooklaw10_DomControl.j3 k3 true t228 t231 t234 (t228.length : Int) x10_2 x11_3 (rd (rd_L3 t234 x10_2) x11_3) true) else (if 0 ≤ (rd (rd_L3 t234 x10_2) x11_3) then (if (rd (rd_L3 t234 x10_2) x11_3) < (t228.length : Int) then (billhooklaw10_DomControl.j3 k3 true t228 t231 t234 (t228.length : Int) x10_2 x11_3 (rd (rd_L3 t234 x10_2) x11_3) (decide (((rd_L3 t228 (rd (rd_L3 t234 x10_2) x11_3)).length : Int) < 1))) else (none)) else (none))) else (none)) else (none)) = some r := by first | (rw [hji29] at H; exact H) | (simp only [hji29] at H ⊢; exact H)
                                    have hji29w : (IntKind.i64.wrap (x11_3 - 1)) = ji29 := (i64_w _).trans hji29
                                    by_cases c30 : 0 ≤ (ji29)
                                    · rw [if_pos c30] at H
                                      have c30b0 : decide (0 ≤ (ji29)) = true := decide_eq_true c30
                                      clear c30
                                      by_cases c31 : (ji29) < ((rd_L3 t234 x10_2).length : Int)
                                      · rw [if_pos c31] at H
                                        have c31b0 : decide ((ji29) < ((rd_L3 t234 x10_2).length : Int)) = true := decide_eq_true c31
                                        clear c31
                                        by_cases c32 : (rd (rd_L3 t234 x10_2) x11_3) ≤ (rd (rd_L3 t234 x10_2) (ji29))
                                        · rw [if_pos c32] at H
                                          have c32b0 : decide ((rd (rd_L3 t234 x10_2) x11_3) ≤ (rd (rd_L3 t234 x10_2) (ji29))) = true := decide_eq_true c32
                                          clear c32
                                          have H' := Aside0.mk H
                                          clear H
                                          have p240 : 0 ≤ (x10_2 : Int) := of_decide_eq_true (by first | (with_reducible assumption) | assumption)
                                          have q240 : x10_2 < (t234.length : Int) := of_decide_eq_true (by first | (with_reducible assumption) | assumption)
                                          obtain ⟨ad240, A240_0, c240_0, e240, hx240_0, hl240_0, hi240_0⟩ := at_L3 (Kd.V_reads' HO_8.out).2.2 x10_2 p240 q240
                                          obtain rfl : ad237 = ad240 := (by injection e240)
                                          obtain ⟨ce240, hce240, hMe240, hcc240⟩ := Kd.V_get HO_8.out [] x10_2 p240 (by first | exact q240 | exact of_decide_eq_true (by first | (with_reducible assumption) | assumption) | (have e_ := (Kd.V_reads' HO_8.out).1; omega))
                                          obtain ⟨ua240_0, uc240_0, rfl, ul240_0, ge240_0⟩ := Kd.FK_slice_open hMe240
                                          have hv240_0 := hcc240 0 _ rfl
                                          rw [Nat.add_zero, show ((Kd.slice 3 (Kd.int .i64))).sz = 1 from rfl, Nat.mul_one] at hv240_0
                                          replace hv240_0 := Option.some.inj (hv240_0.symm.trans hx240_0)
                                          injection hv240_0 with hva_ hvn_ hvc_
                                          rw [hva_] at ge240_0
                                          rw [hvc_] at ul240_0
                                          have HL240_0 := Aside0.mk (show Kd.V (Kd.int .i64) 3 _ w.heap.size _ _ (rd_L3 t234 x10_2) from Kd.V_mk ul240_0 ge240_0)
                                          clear hva_ hvn_ hvc_ ge240_0 ul240_0
                                          clear hcc240 hce240
                                          have HR240_0 := Aside0.mk hi240_0
                                          have HC240_0 := Aside0.mk hl240_0
                                          clear hi240_0 hl240_0
                                          (try (have hz_ := Option.some.inj (hx237_0.symm.trans hx240_0); injection hz_ with za_ zn_ zc_; subst za_; subst zc_; clear zn_))
                                          (try (have hz_ := Option.some.inj (hx238_0.symm.trans hx240_0); injection hz_ with za_ zn_ zc_; subst za_; subst zc_; clear zn_))
                                          replace p240 := eq_true p240
                                          replace q240 := eq_true q240
                                          have p241 : 0 ≤ ((ji29) : Int) := of_decide_eq_true (by first | (with_reducible assumption) | assumption)
                                          have q241 : (ji29) < ((rd_L3 t234 x10_2).length : Int) := of_decide_eq_true (by first | (with_reducible assumption) | assumption)
                                          obtain ⟨ad241, e241, hx241_0⟩ := Kd.at_int (by repeat (first | (with_reducible exact HR240_0.out) | (with_reducible refine Kd.C_alloc ?_ _) | (with_reducible refine Kd.C_drewN ?_ _) | (with_reducible refine Kd.C_drew ?_) | exact HR240_0.out)) (ji29) p241 q241
                                          cases e241
                                          replace p241 := eq_true p241
                                          replace q241 := eq_true q241
                                          go_wp2
                                          go_meet
                                          case rel => exact ⟨_, (true), (by first | rfl | (simp; done) | (simp [*]; done)), H', ⟨by have := HJ7.out; have := HK2.out; have := HK3.out; first | omega | exact Nat.le_refl _⟩, ⟨by (with_reducible repeat (first | apply Kd.S_alloc | apply Kd.S_drewN | apply Kd.S_drew)); exact HO_6.out⟩, ⟨by (with_reducible repeat (first | apply Kd.S_alloc | apply Kd.S_drewN | apply Kd.S_drew)); exact HO_7.out⟩, ⟨by (with_reducible repeat (first | apply Kd.V_alloc | apply Kd.V_drewN | apply Kd.V_drew)); exact HO_8.out⟩, ⟨by repeat (first | (with_reducible exact HR237_0.out) | (with_reducible refine Kd.C_alloc ?_ _) | (with_reducible refine Kd.C_drewN ?_ _) | (with_reducible refine Kd.C_drew ?_) | exact HR237_0.out)⟩, ⟨by repeat (first | (with_reducible exact HR238_0.out) | (with_reducible refine Kd.C_alloc ?_ _) | (with_reducible refine Kd.C_drewN ?_ _) | (with_reducible refine Kd.C_drew ?_) | exact HR238_0.out)⟩, ⟨by repeat (first | (with_reducible first | exact HB.out | apply below_alloc | apply pw_below_drewN | apply below_drew1) | exact HB.out)⟩⟩
                                        · rw [if_neg c32] at H
                                          have c32b0 : decide ((rd (rd_L3 t234 x10_2) x11_3) ≤ (rd (rd_L3 t234 x10_2) (ji29))) = false := decide_eq_false c32
                                          clear c32
                                          by_cases c33 : 0 ≤ (rd (rd_L3 t234 x10_2) x11_3)
                                          · rw [if_pos c33] at H
                                            have c33b0 : decide (0 ≤ (rd (rd_L3 t234 x10_2) x11_3)) = true := decide_eq_true c33
                                            clear c33
                                            by_cases c34 : (rd (rd_L3 t234 x10_2) x11_3) < (t228.length : Int)
                                            · rw [if_pos c34] at H
                                              have c34b0 : decide ((rd (rd_L3 t234 x10_2) x11_3) < (t228.length : Int)) = true := decide_eq_true c34
                                              clear c34
                                              have H' := Aside0.mk H
                                              clear H
                                              have p240 : 0 ≤ (x10_2 : Int) := of_decide_eq_true (by first | (with_reducible assumption) | assumption)
                                              have q240 : x10_2 < (t234.length : Int) := of_decide_eq_true (by first | (with_reducible assumption) | assumption)
                                              obtain ⟨ad240, A240_0, c240_0, e240, hx240_0, hl240_0, hi240_0⟩ := at_L3 (Kd.V_reads' HO_8.out).2.2 x10_2 p240 q240
                                              obtain rfl : ad237 = ad240 := (by injection e240)
                                              obtain ⟨ce240, hce240, hMe240, hcc240⟩ := Kd.V_get HO_8.out [] x10_2 p240 (by first | exact q240 | exact of_decide_eq_true (by first | (with_reducible assumption) | assumption) | (have e_ := (Kd.V_reads' HO_8.out).1; omega))
                                              obtain ⟨ua240_0, uc240_0, rfl, ul240_0, ge240_0⟩ := Kd.FK_slice_open hMe240
                                              have hv240_0 := hcc240 0 _ rfl
                                              rw [Nat.add_zero, show ((Kd.slice 3 (Kd.int .i64))).sz = 1 from rfl, Nat.mul_one] at hv240_0
                                              replace hv240_0 := Option.some.inj (hv240_0.symm.trans hx240_0)
                                              injection hv240_0 with hva_ hvn_ hvc_
                                              rw [hva_] at ge240_0
                                              rw [hvc_] at ul240_0
                                              have HL240_0 := Aside0.mk (show Kd.V (Kd.int .i64) 3 _ w.heap.size _ _ (rd_L3 t234 x10_2) from Kd.V_mk ul240_0 ge240_0)
                                              clear hva_ hvn_ hvc_ ge240_0 ul240_0
                                              clear hcc240 hce240
                                              have HR240_0 := Aside0.mk hi240_0
                                              have HC240_0 := Aside0.mk hl240_0
                                              clear hi240_0 hl240_0
                                              (try (have hz_ := Option.some.inj (hx237_0.symm.trans hx240_0); injection hz_ with za_ zn_ zc_; subst za_; subst zc_; clear zn_))
                                              (try (have hz_ := Option.some.inj (hx238_0.symm.trans hx240_0); injection hz_ with za_ zn_ zc_; subst za_; subst zc_; clear zn_))
                                              replace p240 := eq_true p240
                                              replace q240 := eq_true q240
                                              have p241 : 0 ≤ ((ji29) : Int) := of_decide_eq_true (by first | (with_reducible assumption) | assumption)
                                              have q241 : (ji29) < ((rd_L3 t234 x10_2).length : Int) := of_decide_eq_true (by first | (with_reducible assumption) | assumption)
                                              obtain ⟨ad241, e241, hx241_0⟩ := Kd.at_int (by repeat (first | (with_reducible exact HR240_0.out) | (with_reducible refine Kd.C_alloc ?_ _) | (with_reducible refine Kd.C_drewN ?_ _) | (with_reducible refine Kd.C_drew ?_) | exact HR240_0.out)) (ji29) p241 q241
                                              cases e241
                                              replace p241 := eq_true p241
                                              replace q241 := eq_true q241
                                              have p242 : 0 ≤ ((rd (rd_L3 t234 x10_2) x11_3) : Int) := of_decide_eq_true (by first | (with_reducible assumption) | assumption)
                                              have q242 : (rd (rd_L3 t234 x10_2) x11_3) < (t228.length : Int) := of_decide_eq_true (by first | (with_reducible assumption) | assumption)
                                              obtain ⟨ad242, A242_0, c242_0, e242, hx242_0, hl242_0, hi242_0⟩ := at_L3 (Kd.S_reads' HO_6.out).2.2 (rd (rd_L3 t234 x10_2) x11_3) p242 q242
                                              cases e242
                                              obtain ⟨ce242, hce242, hMe242, hcc242⟩ := Kd.S_get HO_6.out [] (rd (rd_L3 t234 x10_2) x11_3) p242 (by first | exact q242 | exact of_decide_eq_true (by first | (with_reducible assumption) | assumption) | (have e_ := (Kd.S_reads' HO_6.out).1; omega))
                                              obtain ⟨ve242_0, rfl, ge242_0⟩ := hMe242
                                              have hv242_0 := hcc242 0 _ rfl
                                              rw [Nat.add_zero, show ((Kd.slice 3 (Kd.int .i64))).sz = 1 from rfl, Nat.mul_one] at hv242_0
                                              replace hv242_0 := Option.some.inj (hv242_0.symm.trans hx242_0)
                                              rw [hv242_0] at ge242_0
                                              have HL242_0 := Aside0.mk (show Kd.R (Kd.int .i64) 3 _ _ _ _ (rd_L3 t228 (rd (rd_L3 t234 x10_2) x11_3)) from ge242_0)
                                              clear hv242_0 ge242_0
                                              clear hcc242 hce242
                                              have HR242_0 := Aside0.mk hi242_0
                                              have HC242_0 := Aside0.mk hl242_0
                                              clear hi242_0 hl242_0
                                              (try (have hz_ := Option.some.inj (hx237_0.symm.trans hx242_0); injection hz_ with za_ zn_ zc_; subst za_; subst zc_; clear zn_))
                                              (try (have hz_ := Option.some.inj (hx238_0.symm.trans hx242_0); injection hz_ with za_ zn_ zc_; subst za_; subst zc_; clear zn_))
                                              (try (have hz_ := Option.some.inj (hx240_0.symm.trans hx242_0); injection hz_ with za_ zn_ zc_; subst za_; subst zc_; clear zn_))
                                              replace p242 := eq_true p242
                                              replace q242 := eq_true q242
                                              go_wp2
                                              go_meet
                                              case rel => exact ⟨_, (decide (((rd_L3 t228 (rd (rd_L3 t234 x10_2) x11_3)).length : Int) < 1)), (by first | rfl | (simp; done) | (simp [*]; done)), H', ⟨by have := HJ7.out; have := HK2.out; have := HK3.out; first | omega | exact Nat.le_refl _⟩, ⟨by (with_reducible repeat (first | apply Kd.S_alloc | apply Kd.S_drewN | apply Kd.S_drew)); exact HO_6.out⟩, ⟨by (with_reducible repeat (first | apply Kd.S_alloc | apply Kd.S_drewN | apply Kd.S_drew)); exact HO_7.out⟩, ⟨by (with_reducible repeat (first | apply Kd.V_alloc | apply Kd.V_drewN | apply Kd.V_drew)); exact HO_8.out⟩, ⟨by repeat (first | (with_reducible exact HR237_0.out) | (with_reducible refine Kd.C_alloc ?_ _) | (with_reducible refine Kd.C_drewN ?_ _) | (with_reducible refine Kd.C_drew ?_) | exact HR237_0.out)⟩, ⟨by repeat (first | (with_reducible exact HR238_0.out) | (with_reducible refine Kd.C_alloc ?_ _) | (with_reducible refine Kd.C_drewN ?_ _) | (with_reducible refine Kd.C_drew ?_) | exact HR238_0.out)⟩, ⟨by repeat (first | (with_reducible first | exact HB.out | apply below_alloc | apply pw_below_drewN | apply below_drew1) | exact HB.out)⟩⟩
                                            · rw [if_neg c34] at H
                                              exact absurd H (by simp)
                                          · rw [if_neg c33] at H
                                            exact absurd H (by simp)
                                      · rw [if_neg c31] at H
                                        exact absurd H (by simp)
                                    · rw [if_neg c30] at H
                                      exact absurd H (by simp)
                                  · rw [if_neg c28] at H
                                    have c28b0 : decide (0 < x11_3) = false := decide_eq_false c28
                                    clear c28
                                    by_cases c35 : 0 ≤ (rd (rd_L3 t234 x10_2) x11_3)
                                    · rw [if_pos c35] at H
                                      have c35b0 : decide (0 ≤ (rd (rd_L3 t234 x10_2) x11_3)) = true := decide_eq_true c35
                                      clear c35
                                      by_cases c36 : (rd (rd_L3 t234 x10_2) x11_3) < (t228.length : Int)
                                      · rw [if_pos c36] at H
                                        have c36b0 : decide ((rd (rd_L3 t234 x10_2) x11_3) < (t228.length : Int)) = true := decide_eq_true c36
                                        clear c36
                                        have H' := Aside0.mk H
                                        clear H
                                        have p243 : 0 ≤ ((rd (rd_L3 t234 x10_2) x11_3) : Int) := of_decide_eq_true (by first | (with_reducible assumption) | assumption)
                                        have q243 : (rd (rd_L3 t234 x10_2) x11_3) < (t228.length : Int) := of_decide_eq_true (by first | (with_reducible assumption) | assumption)
                                        obtain ⟨ad243, A243_0, c243_0, e243, hx243_0, hl243_0, hi243_0⟩ := at_L3 (Kd.S_reads' HO_6.out).2.2 (rd (rd_L3 t234 x10_2) x11_3) p243 q243
                                        cases e243
                                        obtain ⟨ce243, hce243, hMe243, hcc243⟩ := Kd.S_get HO_6.out [] (rd (rd_L3 t234 x10_2) x11_3) p243 (by first | exact q243 | exact of_decide_eq_true (by first | (with_reducible assumption) | assumption) | (have e_ := (Kd.S_reads' HO_6.out).1; omega))
                                        obtain ⟨ve243_0, rfl, ge243_0⟩ := hMe243
                                        have hv243_0 := hcc243 0 _ rfl
                                        rw [Nat.add_zero, show ((Kd.slice 3 (Kd.int .i64))).sz = 1 from rfl, Nat.mul_one] at hv243_0
                                        replace hv243_0 := Option.some.inj (hv243_0.symm.trans hx243_0)
                                        rw [hv243_0] at ge243_0
                                        have HL243_0 := Aside0.mk (show Kd.R (Kd.int .i64) 3 _ _ _ _ (rd_L3 t228 (rd (rd_L3 t234 x10_2) x11_3)) from ge243_0)
                                        clear hv243_0 ge243_0
                                        clear hcc243 hce243
                                        have HR243_0 := Aside0.mk hi243_0
                                        have HC243_0 := Aside0.mk hl243_0
                                        clear hi243_0 hl243_0
                                        (try (have hz_ := Option.some.inj (hx237_0.symm.trans hx243_0); injection hz_ with za_ zn_ zc_; subst za_; subst zc_; clear zn_))
                                        (try (have hz_ := Option.some.inj (hx238_0.symm.trans hx243_0); injection hz_ with za_ zn_ zc_; subst za_; subst zc_; clear zn_))
                                        replace p243 := eq_true p243
                                        replace q243 := eq_true q243
                                        go_wp2
                                        go_meet
                                        case rel => exact ⟨_, (decide (((rd_L3 t228 (rd (rd_L3 t234 x10_2) x11_3)).length : Int) < 1)), (by first | rfl | (simp; done) | (simp [*]; done)), H', ⟨by have := HJ7.out; have := HK2.out; have := HK3.out; first | omega | exact Nat.le_refl _⟩, ⟨by (with_reducible repeat (first | apply Kd.S_alloc | apply Kd.S_drewN | apply Kd.S_drew)); exact HO_6.out⟩, ⟨by (with_reducible repeat (first | apply Kd.S_alloc | apply Kd.S_drewN | apply Kd.S_drew)); exact HO_7.out⟩, ⟨by (with_reducible repeat (first | apply Kd.V_alloc | apply Kd.V_drewN | apply Kd.V_drew)); exact HO_8.out⟩, ⟨by repeat (first | (with_reducible exact HR237_0.out) | (with_reducible refine Kd.C_alloc ?_ _) | (with_reducible refine Kd.C_drewN ?_ _) | (with_reducible refine Kd.C_drew ?_) | exact HR237_0.out)⟩, ⟨by repeat (first | (with_reducible exact HR238_0.out) | (with_reducible refine Kd.C_alloc ?_ _) | (with_reducible refine Kd.C_drewN ?_ _) | (with_reducible refine Kd.C_drew ?_) | exact HR238_0.out)⟩, ⟨by repeat (first | (with_reducible first | exact HB.out | apply below_alloc | apply pw_below_drewN | apply below_drew1) | exact HB.out)⟩⟩
                                      · rw [if_neg c36] at H
                                        exact absurd H (by simp)
                                    · rw [if_neg c35] at H
                                      exact absurd H (by simp)
                            case rest =>
                              clear HC24
                              try clear c1
                              try clear c2
                              try clear p2
                              try clear q2
                              try clear hx2
                              try clear c3
                              try clear c4
                              try clear p6
                              try clear c8
                              try clear c14
                              try clear c14b0
                              try clear c14b1
                              try clear c14b2
                              try clear c18
                              try clear c19
                              try clear c19b0
                              try clear c20
                              try clear c20b0
                              try clear c21
                              try clear c21b0
                              try clear c22
                              try clear c22b0
                              try clear c23
                              try clear c23b0
                              try clear p23
                              try clear q23
                              try clear hx23
                              try clear c24
                              try clear p24
                              try clear q24
                              try clear hx24
                              try clear c26
                              try clear c26b0
                              try clear c27
                              try clear c27b0
                              try clear c28
                              try clear c28b0
                              try clear c30
                              try clear c30b0
                              try clear c31
                              try clear c31b0
                              try clear c32
                              try clear c32b0
                              try clear c33
                              try clear c33b0
                              try clear c34
                              try clear c34b0
                              try clear c35
                              try clear c35b0
                              try clear c36
                              try clear c36b0
                              try clear hx237_0
                              try clear hx238_0
                              try clear hx239_0
                              try clear hx240_0
                              try clear hx241_0
                              try clear hx242_0
                              try clear hx243_0
                              try clear p2
                              try clear p237
                              try clear p238
                              try clear p239
                              try clear p240
                              try clear p241
                              try clear p242
                              try clear p243
                              try clear q237
                              try clear q238
                              try clear q239
                              try clear q240
                              try clear q241
                              try clear q242
                              try clear q243
                              obtain ⟨kq, x92_23, rfl, HA, HJ23, HO_6, HO_7, HO_8, HR237_0, HR238_0, HB⟩ := hcut
                              cases kq with
                              | zero => exact absurd HA.out (by simp [billhooklaw10_DomControl.j3])
                              | succ kj23 =>
                                have H := HA.out
                                clear HA
                                simp only [billhooklaw10_DomControl.j3] at H
                                by_cases c37 : x92_23 = true
                                · subst c37
                                  have H1 : (some false) = some r := by first | (rw [if_pos rfl] at H; exact H) | (rw [if_pos trivial] at H; exact H)
                                  clear H
                                  have H := H1
                                  clear H1
                                  obtain rfl := Option.some.inj H
                                  go_wp2
                                  go_ret
                                  exact ⟨by first | rfl | (simp [errW_none, errW_some] <;> rfl) | (simp [*, errW_none, errW_some] <;> rfl), by repeat (first | (with_reducible first | exact HB.out | apply below_alloc | apply pw_below_drewN | apply below_drew1) | exact HB.out)⟩
                                · replace c37 := Bool.eq_false_iff.mpr c37
                                  subst c37
                                  have H1 : (billhooklaw10_DomControl.l2 kj23 true t228 t231 t234 (t228.length : Int) x10_2 x11_3 (rd (rd_L3 t234 x10_2) x11_3) false 0) = some r := by rw [if_neg (show ¬ (false = true) by decide)] at H; exact H
                                  clear H
                                  have H := H1
                                  clear H1
                                  have H' := Aside0.mk H
                                  clear H
                                  go_wp2
                                  go_loopg [13, 14] kj23 (fun kq v13 v14 w' => ∃ (x13_5 : Bool) (x14_5 : Int), v13 = .bool x13_5 ∧ v14 = .int .i64 x14_5 ∧ Aside0 (billhooklaw10_DomControl.l2 kq true t228 t231 t234 (t228.length : Int) x10_2 x11_3 (rd (rd_L3 t234 x10_2) x11_3) x13_5 x14_5 = some r) ∧ Aside0 (kq ≤ kj23) ∧ Aside0 (Kd.S (Kd.slice 3 (Kd.int .i64)) 54 w' w.heap.size (fun _ => True) (.slice Ao11 t228.length co11) t228) ∧ Aside0 (Kd.S (Kd.slice 4 Kd.bool) 57 w' w.heap.size (fun _ => True) v232 t231) ∧ Aside0 (Kd.V (Kd.slice 3 (Kd.int .i64)) 54 w' w.heap.size (fun k_ => some k_ ≠ (v232 : Value).ownBlock) (.slice (some ad237) t234.length co25) t234) ∧ Aside0 (Kd.C (Kd.int .i64) w' (some ad239) (rd_L3 t234 x10_2).length (rd_L3 t234 x10_2)) ∧ Aside0 (Kd.C (Kd.int .i64) w' (some ad239) (rd_L3 t234 x10_2).length (rd_L3 t234 x10_2)) ∧ Aside0 (Below w.heap.size w w'))
                                  case atStart => exact ⟨(false), (0), (by first | rfl | (simp; done) | (simp [*]; done)), (by first | rfl | (simp; done) | (simp [*]; done)), H', ⟨Nat.le_refl _⟩, ⟨by (with_reducible repeat (first | apply Kd.S_alloc | apply Kd.S_drewN | apply Kd.S_drew)); exact HO_6.out⟩, ⟨by (with_reducible repeat (first | apply Kd.S_alloc | apply Kd.S_drewN | apply Kd.S_drew)); exact HO_7.out⟩, ⟨by (with_reducible repeat (first | apply Kd.V_alloc | apply Kd.V_drewN | apply Kd.V_drew)); exact HO_8.out⟩, ⟨by repeat (first | (with_reducible exact HR237_0.out) | (with_reducible refine Kd.C_alloc ?_ _) | (with_reducible refine Kd.C_drewN ?_ _) | (with_reducible refine Kd.C_drew ?_) | exact HR237_0.out)⟩, ⟨by repeat (first | (with_reducible exact HR238_0.out) | (with_reducible refine Kd.C_alloc ?_ _) | (with_reducible refine Kd.C_drewN ?_ _) | (with_reducible refine Kd.C_drew ?_) | exact HR238_0.out)⟩, ⟨by repeat (first | (with_reducible first | exact HB.out | apply below_alloc | apply pw_below_drewN | apply below_drew1) | exact HB.out)⟩⟩
                                  case round =>
                                    clear H'
                                    try clear c1
                                    try clear c2
                                    try clear p2
                                    try clear q2
                                    try clear hx2
                                    try clear c3
                                    try clear c4
                                    try clear p6
                                    try clear c8
                                    try clear c14
                                    try clear c14b0
                                    try clear c14b1
                                    try clear c14b2
                                    try clear c18
                                    try clear c19
                                    try clear c19b0
                                    try clear c20
                                    try clear c20b0
                                    try clear c21
                                    try clear c21b0
                                    try clear c22
                                    try clear c22b0
                                    try clear c23
                                    try clear c23b0
                                    try clear p23
                                    try clear q23
                                    try clear hx23
                                    try clear c24
                                    try clear p24
                                    try clear q24
                                    try clear hx24
                                    try clear c26
                                    try clear c26b0
                                    try clear c27
                                    try clear c27b0
                                    try clear c28
                                    try clear c28b0
                                    try clear c30
                                    try clear c30b0
                                    try clear c31
                                    try clear c31b0
                                    try clear c32
                                    try clear c32b0
                                    try clear c33
                                    try clear c33b0
                                    try clear c34
                                    try clear c34b0
                                    try clear c35
                                    try clear c35b0
                                    try clear c36
                                    try clear c36b0
                                    try clear c37
                                    try clear hx237_0
                                    try clear hx238_0
                                    try clear hx239_0
                                    try clear hx240_0
                                    try clear hx241_0
                                    try clear hx242_0
                                    try clear hx243_0
                                    try clear p2
                                    try clear p23
                                    try clear p237
                                    try clear p238
                                    try clear p239
                                    try clear p24
                                    try clear p240
                                    try clear p241
                                    try clear p242
                                    try clear p243
                                    try clear p6
                                    try clear q2
                                    try clear q23
                                    try clear q237
                                    try clear q238
                                    try clear q239
                                    try clear q24
                                    try clear q240
                                    try clear q241
                                    try clear q242
                                    try clear q243
                                    obtain ⟨x13_5, x14_5, rfl, rfl, HA, HK5, HO_6, HO_7, HO_8, HR237_0, HR238_0, HB⟩ := hrel
                                    cases gk with
                                    | zero => exact absurd HA.out (by simp [billhooklaw10_DomControl.l2])
                                    | succ k5 =>
                                      have H := HA.out
                                      clear HA
                                      simp only [billhooklaw10_DomControl.l2] at H
                                      by_cases c38 : 0 ≤ (rd (rd_L3 t234 x10_2) x11_3)
                                      · rw [if_pos c38] at H
                                        have c38b0 : decide (0 ≤ (rd (rd_L3 t234 x10_2) x11_3)) = true := decide_eq_true c38
                                        clear c38
                                        by_cases c39 : (rd (rd_L3 t234 x10_2) x11_3) < (t228.length : Int)
                                        · rw [if_pos c39] at H
                                          have c39b0 : decide ((rd (rd_L3 t234 x10_2) x11_3) < (t228.length : Int)) = true := decide_eq_true c39
                                          clear c39
                                          by_cases c40 : x14_5 < ((rd_L3 t228 (rd (rd_L3 t234 x10_2) x11_3)).length : Int)
                                          · rw [if_pos c40] at H
                                            have c40b0 : decide (x14_5 < ((rd_L3 t228 (rd (rd_L3 t234 x10_2) x11_3)).length : Int)) = true := decide_eq_true c40
                                            clear c40
                                            by_cases c41 : x13_5 = true
                                            · subst c41
                                              have H1 : (billhooklaw10_DomControl.l2 k5 true t228 t231 t234 (t228.length : Int) x10_2 x11_3 (rd (rd_L3 t234 x10_2) x11_3) true (wrap64 (x14_5 + 1))) = some r := by first | (rw [if_pos rfl] at H; exact H) | (rw [if_pos trivial] at H; exact H)
                                              clear H
                                              have H := H1
                                              clear H1
                                              have H' := Aside0.mk H
                                              clear H
                                              have p244 : 0 ≤ ((rd (rd_L3 t234 x10_2) x11_3) : Int) := of_decide_eq_true (by first | (with_reducible assumption) | assumption)
                                              have q244 : (rd (rd_L3 t234 x10_2) x11_3) < (t228.length : Int) := of_decide_eq_true (by first | (with_reducible assumption) | assumption)
                                              obtain ⟨ad244, A244_0, c244_0, e244, hx244_0, hl244_0, hi244_0⟩ := at_L3 (Kd.S_reads' HO_6.out).2.2 (rd (rd_L3 t234 x10_2) x11_3) p244 q244
                                              cases e244
                                              obtain ⟨ce244, hce244, hMe244, hcc244⟩ := Kd.S_get HO_6.out [] (rd (rd_L3 t234 x10_2) x11_3) p244 (by first | exact q244 | exact of_decide_eq_true (by first | (with_reducible assumption) | assumption) | (have e_ := (Kd.S_reads' HO_6.out).1; omega))
                                              obtain ⟨ve244_0, rfl, ge244_0⟩ := hMe244
                                              have hv244_0 := hcc244 0 _ rfl
                                              rw [Nat.add_zero, show ((Kd.slice 3 (Kd.int .i64))).sz = 1 from rfl, Nat.mul_one] at hv244_0
                                              replace hv244_0 := Option.some.inj (hv244_0.symm.trans hx244_0)
                                              rw [hv244_0] at ge244_0
                                              have HL244_0 := Aside0.mk (show Kd.R (Kd.int .i64) 3 _ _ _ _ (rd_L3 t228 (rd (rd_L3 t234 x10_2) x11_3)) from ge244_0)
                                              clear hv244_0 ge244_0
                                              clear hcc244 hce244
                                              have HR244_0 := Aside0.mk hi244_0
                                              have HC244_0 := Aside0.mk hl244_0
                                              clear hi244_0 hl244_0
                                              (try (have hz_ := Option.some.inj (hx237_0.symm.trans hx244_0); injection hz_ with za_ zn_ zc_; subst za_; subst zc_; clear zn_))
                                              (try (have hz_ := Option.some.inj (hx238_0.symm.trans hx244_0); injection hz_ with za_ zn_ zc_; subst za_; subst zc_; clear zn_))
                                              replace p244 := eq_true p244
                                              replace q244 := eq_true q244
                                              go_wp2
                                              go_roundg k5
                                              case measure => have := HJ7.out; have := HK2.out; have := HK3.out; have := HJ23.out; have := HK5.out; omega
                                              case rel => exact ⟨(true), (wrap64 (x14_5 + 1)), (by first | rfl | (simp; done) | (simp [*]; done)), (by first | rfl | (simp; done) | (simp [*]; done)), H', ⟨by have := HJ7.out; have := HK2.out; have := HK3.out; have := HJ23.out; have := HK5.out; omega⟩, ⟨by (with_reducible repeat (first | apply Kd.S_alloc | apply Kd.S_drewN | apply Kd.S_drew)); exact HO_6.out⟩, ⟨by (with_reducible repeat (first | apply Kd.S_alloc | apply Kd.S_drewN | apply Kd.S_drew)); exact HO_7.out⟩, ⟨by (with_reducible repeat (first | apply Kd.V_alloc | apply Kd.V_drewN | apply Kd.V_drew)); exact HO_8.out⟩, ⟨by repeat (first | (with_reducible exact HR237_0.out) | (with_reducible refine Kd.C_alloc ?_ _) | (with_reducible refine Kd.C_drewN ?_ _) | (with_reducible refine Kd.C_drew ?_) | exact HR237_0.out)⟩, ⟨by repeat (first | (with_reducible exact HR238_0.out) | (with_reducible refine Kd.C_alloc ?_ _) | (with_reducible refine Kd.C_drewN ?_ _) | (with_reducible refine Kd.C_drew ?_) | exact HR238_0.out)⟩, ⟨by repeat (first | (with_reducible first | exact HB.out | apply below_alloc | apply pw_below_drewN | apply below_drew1) | exact HB.out)⟩⟩
                                            · replace c41 := Bool.eq_false_iff.mpr c41
                                              subst c41
                                              have H1 : (if 0 ≤ x14_5 then (if 0 ≤ (rd (rd_L3 t228 (rd (rd_L3 t234 x10_2) x11_3)) x14_5) then (if (rd (rd_L3 t228 (rd (rd_L3 t234 x10_2) x11_3)) x14_5) < (t231.length : Int) then (if 0 ≤ x10_2 then (if x10_2 < ((rd_L2 t231 (rd (rd_L3 t228 (rd (rd_L3 t234 x10_2) x11_3)) x14_5)).length : Int) then (billhooklaw10_DomControl.l2 k5 true t228 t231 t234 (t228.length : Int) x10_2 x11_3 (rd (rd_L3 t234 x10_2) x11_3) (rdOf false (rd_L2 t231 (rd (rd_L3 t228 (rd (rd_L3 t234 x10_2) x11_3)) x14_5)) x10_2) (wrap64 (x14_5 + 1))) else (none)) else (none)) else (none)) else (none)) else (none)) = some r := by rw [if_neg (show ¬ (false = true) by decide)] at H; exact H
                                              clear H
                                              have H := H1
                                              clear H1
                                              by_cases c42 : 0 ≤ x14_5
                                              · rw [if_pos c42] at H
                                                have c42b0 : decide (0 ≤ x14_5) = true := decide_eq_true c42
                                                clear c42
                                                by_cases c43 : 0 ≤ (rd (rd_L3 t228 (rd (rd_L3 t234 x10_2) x11_3)) x14_5)
                                                · rw [if_pos c43] at H
                                                  have c43b0 : decide (0 ≤ (rd (rd_L3 t228 (rd (rd_L3 t234 x10_2) x11_3)) x14_5)) = true := decide_eq_true c43
                                                  clear c43
                                                  by_cases c44 : (rd (rd_L3 t228 (rd (rd_L3 t234 x10_2) x11_3)) x14_5) < (t231.length : Int)
                                                  · rw [if_pos c44] at H
                                                    have c44b0 : decide ((rd (rd_L3 t228 (rd (rd_L3 t234 x10_2) x11_3)) x14_5) < (t231.length : Int)) = true := decide_eq_true c44
                                                    clear c44
                                                    by_cases c45 : 0 ≤ x10_2
                                                    · rw [if_pos c45] at H
                                                      have c45b0 : decide (0 ≤ x10_2) = true := decide_eq_true c45
                                                      clear c45
                                                      by_cases c46 : x10_2 < ((rd_L2 t231 (rd (rd_L3 t228 (rd (rd_L3 t234 x10_2) x11_3)) x14_5)).length : Int)
                                                      · rw [if_pos c46] at H
                                                        have c46b0 : decide (x10_2 < ((rd_L2 t231 (rd (rd_L3 t228 (rd (rd_L3 t234 x10_2) x11_3)) x14_5)).length : Int)) = true := decide_eq_true c46
                                                        clear c46
                                                        have H' := Aside0.mk H
                                                        clear H
                                                        have p244 : 0 ≤ ((rd (rd_L3 t234 x10_2) x11_3) : Int) := of_decide_eq_true (by first | (with_reducible assumption) | assumption)
                                                        have q244 : (rd (rd_L3 t234 x10_2) x11_3) < (t228.length : Int) := of_decide_eq_true (by first | (with_reducible assumption) | assumption)
                                                        obtain ⟨ad244, A244_0, c244_0, e244, hx244_0, hl244_0, hi244_0⟩ := at_L3 (Kd.S_reads' HO_6.out).2.2 (rd (rd_L3 t234 x10_2) x11_3) p244 q244
                                                        cases e244
                                                        obtain ⟨ce244, hce244, hMe244, hcc244⟩ := Kd.S_get HO_6.out [] (rd (rd_L3 t234 x10_2) x11_3) p244 (by first | exact q244 | exact of_decide_eq_true (by first | (with_reducible assumption) | assumption) | (have e_ := (Kd.S_reads' HO_6.out).1; omega))
                                                        obtain ⟨ve244_0, rfl, ge244_0⟩ := hMe244
                                                        have hv244_0 := hcc244 0 _ rfl
                                                        rw [Nat.add_zero, show ((Kd.slice 3 (Kd.int .i64))).sz = 1 from rfl, Nat.mul_one] at hv244_0
                                                        replace hv244_0 := Option.some.inj (hv244_0.symm.trans hx244_0)
                                                        rw [hv244_0] at ge244_0
                                                        have HL244_0 := Aside0.mk (show Kd.R (Kd.int .i64) 3 _ _ _ _ (rd_L3 t228 (rd (rd_L3 t234 x10_2) x11_3)) from ge244_0)
                                                        clear hv244_0 ge244_0
                                                        clear hcc244 hce244
                                                        have HR244_0 := Aside0.mk hi244_0
                                                        have HC244_0 := Aside0.mk hl244_0
                                                        clear hi244_0 hl244_0
                                                        (try (have hz_ := Option.some.inj (hx237_0.symm.trans hx244_0); injection hz_ with za_ zn_ zc_; subst za_; subst zc_; clear zn_))
                                                        (try (have hz_ := Option.some.inj (hx238_0.symm.trans hx244_0); injection hz_ with za_ zn_ zc_; subst za_; subst zc_; clear zn_))
                                                        replace p244 := eq_true p244
                                                        replace q244 := eq_true q244
                                                        have p245 : 0 ≤ ((rd (rd_L3 t234 x10_2) x11_3) : Int) := of_decide_eq_true (by first | (with_reducible assumption) | assumption)
                                                        have q245 : (rd (rd_L3 t234 x10_2) x11_3) < (t228.length : Int) := of_decide_eq_true (by first | (with_reducible assumption) | assumption)
                                                        obtain ⟨ad245, A245_0, c245_0, e245, hx245_0, hl245_0, hi245_0⟩ := at_L3 (Kd.S_reads' HO_6.out).2.2 (rd (rd_L3 t234 x10_2) x11_3) p245 q245
                                                        obtain rfl : ad244 = ad245 := (by injection e245)
                                                        obtain ⟨ce245, hce245, hMe245, hcc245⟩ := Kd.S_get HO_6.out [] (rd (rd_L3 t234 x10_2) x11_3) p245 (by first | exact q245 | exact of_decide_eq_true (by first | (with_reducible assumption) | assumption) | (have e_ := (Kd.S_reads' HO_6.out).1; omega))
                                                        obtain ⟨ve245_0, rfl, ge245_0⟩ := hMe245
                                                        have hv245_0 := hcc245 0 _ rfl
                                                        rw [Nat.add_zero, show ((Kd.slice 3 (Kd.int .i64))).sz = 1 from rfl, Nat.mul_one] at hv245_0
                                                        replace hv245_0 := Option.some.inj (hv245_0.symm.trans hx245_0)
                                                        rw [hv245_0] at ge245_0
                                                        have HL245_0 := Aside0.mk (show Kd.R (Kd.int .i64) 3 _ _ _ _ (rd_L3 t228 (rd (rd_L3 t234 x10_2) x11_3)) from ge245_0)
                                                        clear hv245_0 ge245_0
                                                        clear hcc245 hce245
                                                        have HR245_0 := Aside0.mk hi245_0
                                                        have HC245_0 := Aside0.mk hl245_0
                                                        clear hi245_0 hl245_0
                                                        replace p245 := eq_true p245
                                                        replace q245 := eq_true q245
                                                        have ea_ := Option.some.inj (hx244_0.symm.trans hx245_0)
                                                        injection ea_ with ea_ en_ ec_
                                                        subst ea_
                                                        subst ec_
                                                        clear en_
                                                        have p246 : 0 ≤ (x14_5 : Int) := of_decide_eq_true (by first | (with_reducible assumption) | assumption)
                                                        have q246 : x14_5 < ((rd_L3 t228 (rd (rd_L3 t234 x10_2) x11_3)).length : Int) := of_decide_eq_true (by first | (with_reducible assumption) | assumption)
                                                        obtain ⟨ad246, e246, hx246_0⟩ := Kd.at_int (by repeat (first | (with_reducible exact HR245_0.out) | (with_reducible refine Kd.C_alloc ?_ _) | (with_reducible refine Kd.C_drewN ?_ _) | (with_reducible refine Kd.C_drew ?_) | exact HR245_0.out)) x14_5 p246 q246
                                                        cases e246
                                                        replace p246 := eq_true p246
                                                        replace q246 := eq_true q246
                                                        obtain ⟨Ao47, co47, eo47⟩ := Kd.S_slice HO_7.out
                                                        subst eo47
                                                        have p247 : 0 ≤ ((rd (rd_L3 t228 (rd (rd_L3 t234 x10_2) x11_3)) x14_5) : Int) := of_decide_eq_true (by first | (with_reducible assumption) | assumption)
                                                        have q247 : (rd (rd_L3 t228 (rd (rd_L3 t234 x10_2) x11_3)) x14_5) < (t231.length : Int) := of_decide_eq_true (by first | (with_reducible assumption) | assumption)
                                                        obtain ⟨ad247, A247_0, c247_0, e247, hx247_0, hl247_0, hi247_0⟩ := at_L2 (Kd.S_reads' HO_7.out).2.2 (rd (rd_L3 t228 (rd (rd_L3 t234 x10_2) x11_3)) x14_5) p247 q247
                                                        cases e247
                                                        obtain ⟨ce247, hce247, hMe247, hcc247⟩ := Kd.S_get HO_7.out [] (rd (rd_L3 t228 (rd (rd_L3 t234 x10_2) x11_3)) x14_5) p247 (by first | exact q247 | exact of_decide_eq_true (by first | (with_reducible assumption) | assumption) | (have e_ := (Kd.S_reads' HO_7.out).1; omega))
                                                        obtain ⟨ve247_0, rfl, ge247_0⟩ := hMe247
                                                        have hv247_0 := hcc247 0 _ rfl
                                                        rw [Nat.add_zero, show ((Kd.slice 4 Kd.bool)).sz = 1 from rfl, Nat.mul_one] at hv247_0
                                                        replace hv247_0 := Option.some.inj (hv247_0.symm.trans hx247_0)
                                                        rw [hv247_0] at ge247_0
                                                        have HL247_0 := Aside0.mk (show Kd.R Kd.bool 4 _ _ _ _ (rd_L2 t231 (rd (rd_L3 t228 (rd (rd_L3 t234 x10_2) x11_3)) x14_5)) from ge247_0)
                                                        clear hv247_0 ge247_0
                                                        clear hcc247 hce247
                                                        have HR247_0 := Aside0.mk hi247_0
                                                        have HC247_0 := Aside0.mk hl247_0
                                                        clear hi247_0 hl247_0
                                                        (try (have hz_ := Option.some.inj (hx237_0.symm.trans hx247_0); injection hz_ with za_ zn_ zc_; subst za_; subst zc_; clear zn_))
                                                        (try (have hz_ := Option.some.inj (hx238_0.symm.trans hx247_0); injection hz_ with za_ zn_ zc_; subst za_; subst zc_; clear zn_))
                                                        (try (have hz_ := Option.some.inj (hx244_0.symm.trans hx247_0); injection hz_ with za_ zn_ zc_; subst za_; subst zc_; clear zn_))
                                                        (try (have hz_ := Option.some.inj (hx245_0.symm.trans hx247_0); injection hz_ with za_ zn_ zc_; subst za_; subst zc_; clear zn_))
                                                        replace p247 := eq_true p247
                                                        replace q247 := eq_true q247
                                                        have p248 : 0 ≤ (x10_2 : Int) := of_decide_eq_true (by first | (with_reducible assumption) | assumption)
                                                        have q248 : x10_2 < ((rd_L2 t231 (rd (rd_L3 t228 (rd (rd_L3 t234 x10_2) x11_3)) x14_5)).length : Int) := of_decide_eq_true (by first | (with_reducible assumption) | assumption)
                                                        obtain ⟨ad248, e248, hx248_0⟩ := Kd.at_bool (by repeat (first | (with_reducible exact HR247_0.out) | (with_reducible refine Kd.C_alloc ?_ _) | (with_reducible refine Kd.C_drewN ?_ _) | (with_reducible refine Kd.C_drew ?_) | exact HR247_0.out)) x10_2 p248 q248
                                                        cases e248
                                                        replace p248 := eq_true p248
                                                        replace q248 := eq_true q248
                                                        go_wp2
                                                        go_roundg k5
                                                        case measure => have := HJ7.out; have := HK2.out; have := HK3.out; have := HJ23.out; have := HK5.out; omega
                                                        case rel => exact ⟨(rdOf false (rd_L2 t231 (rd (rd_L3 t228 (rd (rd_L3 t234 x10_2) x11_3)) x14_5)) x10_2), (wrap64 (x14_5 + 1)), (by first | rfl | (simp; done) | (simp [*]; done)), (by first | rfl | (simp; done) | (simp [*]; done)), H', ⟨by have := HJ7.out; have := HK2.out; have := HK3.out; have := HJ23.out; have := HK5.out; omega⟩, ⟨by (with_reducible repeat (first | apply Kd.S_alloc | apply Kd.S_drewN | apply Kd.S_drew)); exact HO_6.out⟩, ⟨by (with_reducible repeat (first | apply Kd.S_alloc | apply Kd.S_drewN | apply Kd.S_drew)); exact HO_7.out⟩, ⟨by (with_reducible repeat (first | apply Kd.V_alloc | apply Kd.V_drewN | apply Kd.V_drew)); exact HO_8.out⟩, ⟨by repeat (first | (with_reducible exact HR237_0.out) | (with_reducible refine Kd.C_alloc ?_ _) | (with_reducible refine Kd.C_drewN ?_ _) | (with_reducible refine Kd.C_drew ?_) | exact HR237_0.out)⟩, ⟨by repeat (first | (with_reducible exact HR238_0.out) | (with_reducible refine Kd.C_alloc ?_ _) | (with_reducible refine Kd.C_drewN ?_ _) | (with_reducible refine Kd.C_drew ?_) | exact HR238_0.out)⟩, ⟨by repeat (first | (with_reducible first | exact HB.out | apply below_alloc | apply pw_below_drewN | apply below_drew1) | exact HB.out)⟩⟩
                                                      · rw [if_neg c46] at H
                                                        exact absurd H (by simp)
                                                    · rw [if_neg c45] at H
                                                      exact absurd H (by simp)
                                                  · rw [if_neg c44] at H
                                                    exact absurd H (by simp)
                                                · rw [if_neg c43] at H
                                                  exact absurd H (by simp)
                                              · rw [if_neg c42] at H
                                                exact absurd H (by simp)
                                          · rw [if_neg c40] at H
                                            have c40b0 : decide (x14_5 < ((rd_L3 t228 (rd (rd_L3 t234 x10_2) x11_3)).length : Int)) = false := decide_eq_false c40
                                            clear c40
                                            by_cases c48 : x13_5 = true
                                            · subst c48
                                              have H1 : (if (rd (rd_L3 t234 x10_2) x11_3) = x10_2 then (billhooklaw10_DomControl.l1 k5 true t228 t231 t234 (t228.length : Int) x10_2 (wrap64 (x11_3 + 1))) else (if (rd (rd_L3 t234 x10_2) x11_3) < (t231.length : Int) then (if 0 ≤ x10_2 then (if x10_2 < ((rd_L2 t231 (rd (rd_L3 t234 x10_2) x11_3)).length : Int) then (if rdOf false (rd_L2 t231 (rd (rd_L3 t234 x10_2) x11_3)) x10_2 = true then (some false) else (billhooklaw10_DomControl.l1 k5 true t228 t231 t234 (t228.length : Int) x10_2 (wrap64 (x11_3 + 1)))) else (none)) else (none)) else (none))) = some r := by first | (rw [if_pos rfl] at H; exact H) | (rw [if_pos trivial] at H; exact H)
                                              clear H
                                              have H := H1
                                              clear H1
                                              by_cases c49 : (rd (rd_L3 t234 x10_2) x11_3) = x10_2
                                              · rw [if_pos c49] at H
                                                have c49b0 : ((rd (rd_L3 t234 x10_2) x11_3) == x10_2) = true := beq_iff_eq.mpr c49
                                                have c49b1 : ((rd (rd_L3 t234 x10_2) x11_3) != x10_2) = false := bne_eq_false_iff_eq.mpr c49
                                                clear c49
                                                have H' := Aside0.mk H
                                                clear H
                                                have p244 : 0 ≤ ((rd (rd_L3 t234 x10_2) x11_3) : Int) := of_decide_eq_true (by first | (with_reducible assumption) | assumption)
                                                have q244 : (rd (rd_L3 t234 x10_2) x11_3) < (t228.length : Int) := of_decide_eq_true (by first | (with_reducible assumption) | assumption)
                                                obtain ⟨ad244, A244_0, c244_0, e244, hx244_0, hl244_0, hi244_0⟩ := at_L3 (Kd.S_reads' HO_6.out).2.2 (rd (rd_L3 t234 x10_2) x11_3) p244 q244
                                                cases e244
                                                obtain ⟨ce244, hce244, hMe244, hcc244⟩ := Kd.S_get HO_6.out [] (rd (rd_L3 t234 x10_2) x11_3) p244 (by first | exact q244 | exact of_decide_eq_true (by first | (with_reducible assumption) | assumption) | (have e_ := (Kd.S_reads' HO_6.out).1; omega))
                                                obtain ⟨ve244_0, rfl, ge244_0⟩ := hMe244
                                                have hv244_0 := hcc244 0 _ rfl
                                                rw [Nat.add_zero, show ((Kd.slice 3 (Kd.int .i64))).sz = 1 from rfl, Nat.mul_one] at hv244_0
                                                replace hv244_0 := Option.some.inj (hv244_0.symm.trans hx244_0)
                                                rw [hv244_0] at ge244_0
                                                have HL244_0 := Aside0.mk (show Kd.R (Kd.int .i64) 3 _ _ _ _ (rd_L3 t228 (rd (rd_L3 t234 x10_2) x11_3)) from ge244_0)
                                                clear hv244_0 ge244_0
                                                clear hcc244 hce244
                                                have HR244_0 := Aside0.mk hi244_0
                                                have HC244_0 := Aside0.mk hl244_0
                                                clear hi244_0 hl244_0
                                                (try (have hz_ := Option.some.inj (hx237_0.symm.trans hx244_0); injection hz_ with za_ zn_ zc_; subst za_; subst zc_; clear zn_))
                                                (try (have hz_ := Option.some.inj (hx238_0.symm.trans hx244_0); injection hz_ with za_ zn_ zc_; subst za_; subst zc_; clear zn_))
                                                replace p244 := eq_true p244
                                                replace q244 := eq_true q244
                                                go_wp2
                                                go_roundg k5
                                                case measure => have := HJ7.out; have := HK2.out; have := HK3.out; have := HJ23.out; have := HK5.out; omega
                                                case rel => exact ⟨(wrap64 (x11_3 + 1)), (by first | rfl | (simp; done) | (simp [*]; done)), H', ⟨by have := HJ7.out; have := HK2.out; have := HK3.out; have := HJ23.out; have := HK5.out; omega⟩, ⟨by (with_reducible repeat (first | apply Kd.S_alloc | apply Kd.S_drewN | apply Kd.S_drew)); exact HO_6.out⟩, ⟨by (with_reducible repeat (first | apply Kd.S_alloc | apply Kd.S_drewN | apply Kd.S_drew)); exact HO_7.out⟩, ⟨by (with_reducible repeat (first | apply Kd.V_alloc | apply Kd.V_drewN | apply Kd.V_drew)); exact HO_8.out⟩, ⟨by repeat (first | (with_reducible first | exact HB.out | apply below_alloc | apply pw_below_drewN | apply below_drew1) | exact HB.out)⟩⟩
                                              · rw [if_neg c49] at H
                                                have c49b0 : ((rd (rd_L3 t234 x10_2) x11_3) == x10_2) = false := beq_eq_false_iff_ne.mpr c49
                                                have c49b1 : ((rd (rd_L3 t234 x10_2) x11_3) != x10_2) = true := bne_iff_ne.mpr c49
                                                by_cases c50 : (rd (rd_L3 t234 x10_2) x11_3) < (t231.length : Int)
                                                · rw [if_pos c50] at H
                                                  have c50b0 : decide ((rd (rd_L3 t234 x10_2) x11_3) < (t231.length : Int)) = true := decide_eq_true c50
                                                  clear c50
                                                  by_cases c51 : 0 ≤ x10_2
                                                  · rw [if_pos c51] at H
                                                    have c51b0 : decide (0 ≤ x10_2) = true := decide_eq_true c51
                                                    clear c51
                                                    by_cases c52 : x10_2 < ((rd_L2 t231 (rd (rd_L3 t234 x10_2) x11_3)).length : Int)
                                                    · rw [if_pos c52] at H
                                                      have c52b0 : decide (x10_2 < ((rd_L2 t231 (rd (rd_L3 t234 x10_2) x11_3)).length : Int)) = true := decide_eq_true c52
                                                      clear c52
                                                      obtain ⟨bq53, hbq53⟩ : ∃ b_ : Bool, b_ = (rdOf false (rd_L2 t231 (rd (rd_L3 t234 x10_2) x11_3)) x10_2) := ⟨_, rfl⟩
                                                      replace H : (if bq53 = true then (some false) else (billhooklaw10_DomControl.l1 k5 true t228 t231 t234 (t228.length : Int) x10_2 (wrap64 (x11_3 + 1)))) = some r := by rw [← hbq53] at H; exact H
                                                      have Nbq53 := Aside0.mk hbq53
                                                      clear hbq53
                                                      by_cases c54 : bq53 = true
                                                      · subst c54
                                                        have H1 : (some false) = some r := by first | (rw [if_pos rfl] at H; exact H) | (rw [if_pos trivial] at H; exact H)
                                                        clear H
                                                        have H := H1
                                                        clear H1
                                                        obtain rfl := Option.some.inj H
                                                        have p244 : 0 ≤ ((rd (rd_L3 t234 x10_2) x11_3) : Int) := of_decide_eq_true (by first | (with_reducible assumption) | assumption)
                                                        have q244 : (rd (rd_L3 t234 x10_2) x11_3) < (t228.length : Int) := of_decide_eq_true (by first | (with_reducible assumption) | assumption)
                                                        obtain ⟨ad244, A244_0, c244_0, e244, hx244_0, hl244_0, hi244_0⟩ := at_L3 (Kd.S_reads' HO_6.out).2.2 (rd (rd_L3 t234 x10_2) x11_3) p244 q244
                                                        cases e244
                                                        obtain ⟨ce244, hce244, hMe244, hcc244⟩ := Kd.S_get HO_6.out [] (rd (rd_L3 t234 x10_2) x11_3) p244 (by first | exact q244 | exact of_decide_eq_true (by first | (with_reducible assumption) | assumption) | (have e_ := (Kd.S_reads' HO_6.out).1; omega))
                                                        obtain ⟨ve244_0, rfl, ge244_0⟩ := hMe244
                                                        have hv244_0 := hcc244 0 _ rfl
                                                        rw [Nat.add_zero, show ((Kd.slice 3 (Kd.int .i64))).sz = 1 from rfl, Nat.mul_one] at hv244_0
                                                        replace hv244_0 := Option.some.inj (hv244_0.symm.trans hx244_0)
                                                        rw [hv244_0] at ge244_0
                                                        have HL244_0 := Aside0.mk (show Kd.R (Kd.int .i64) 3 _ _ _ _ (rd_L3 t228 (rd (rd_L3 t234 x10_2) x11_3)) from ge244_0)
                                                        clear hv244_0 ge244_0
                                                        clear hcc244 hce244
                                                        have HR244_0 := Aside0.mk hi244_0
                                                        have HC244_0 := Aside0.mk hl244_0
                                                        clear hi244_0 hl244_0
                                                        (try (have hz_ := Option.some.inj (hx237_0.symm.trans hx244_0); injection hz_ with za_ zn_ zc_; subst za_; subst zc_; clear zn_))
                                                        (try (have hz_ := Option.some.inj (hx238_0.symm.trans hx244_0); injection hz_ with za_ zn_ zc_; subst za_; subst zc_; clear zn_))
                                                        replace p244 := eq_true p244
                                                        replace q244 := eq_true q244
                                                        obtain ⟨Ao55, co55, eo55⟩ := Kd.S_slice HO_7.out
                                                        subst eo55
                                                        have p249 : 0 ≤ ((rd (rd_L3 t234 x10_2) x11_3) : Int) := of_decide_eq_true (by first | (with_reducible assumption) | assumption)
                                                        have q249 : (rd (rd_L3 t234 x10_2) x11_3) < (t231.length : Int) := of_decide_eq_true (by first | (with_reducible assumption) | assumption)
                                                        obtain ⟨ad249, A249_0, c249_0, e249, hx249_0, hl249_0, hi249_0⟩ := at_L2 (Kd.S_reads' HO_7.out).2.2 (rd (rd_L3 t234 x10_2) x11_3) p249 q249
                                                        cases e249
                                                        obtain ⟨ce249, hce249, hMe249, hcc249⟩ := Kd.S_get HO_7.out [] (rd (rd_L3 t234 x10_2) x11_3) p249 (by first | exact q249 | exact of_decide_eq_true (by first | (with_reducible assumption) | assumption) | (have e_ := (Kd.S_reads' HO_7.out).1; omega))
                                                        obtain ⟨ve249_0, rfl, ge249_0⟩ := hMe249
                                                        have hv249_0 := hcc249 0 _ rfl
                                                        rw [Nat.add_zero, show ((Kd.slice 4 Kd.bool)).sz = 1 from rfl, Nat.mul_one] at hv249_0
                                                        replace hv249_0 := Option.some.inj (hv249_0.symm.trans hx249_0)
                                                        rw [hv249_0] at ge249_0
                                                        have HL249_0 := Aside0.mk (show Kd.R Kd.bool 4 _ _ _ _ (rd_L2 t231 (rd (rd_L3 t234 x10_2) x11_3)) from ge249_0)
                                                        clear hv249_0 ge249_0
                                                        clear hcc249 hce249
                                                        have HR249_0 := Aside0.mk hi249_0
                                                        have HC249_0 := Aside0.mk hl249_0
                                                        clear hi249_0 hl249_0
                                                        (try (have hz_ := Option.some.inj (hx237_0.symm.trans hx249_0); injection hz_ with za_ zn_ zc_; subst za_; subst zc_; clear zn_))
                                                        (try (have hz_ := Option.some.inj (hx238_0.symm.trans hx249_0); injection hz_ with za_ zn_ zc_; subst za_; subst zc_; clear zn_))
                                                        (try (have hz_ := Option.some.inj (hx244_0.symm.trans hx249_0); injection hz_ with za_ zn_ zc_; subst za_; subst zc_; clear zn_))
                                                        replace p249 := eq_true p249
                                                        replace q249 := eq_true q249
                                                        have p250 : 0 ≤ (x10_2 : Int) := of_decide_eq_true (by first | (with_reducible assumption) | assumption)
                                                        have q250 : x10_2 < ((rd_L2 t231 (rd (rd_L3 t234 x10_2) x11_3)).length : Int) := of_decide_eq_true (by first | (with_reducible assumption) | assumption)
                                                        obtain ⟨ad250, e250, hx250_0⟩ := Kd.at_bool (by repeat (first | (with_reducible exact HR249_0.out) | (with_reducible refine Kd.C_alloc ?_ _) | (with_reducible refine Kd.C_drewN ?_ _) | (with_reducible refine Kd.C_drew ?_) | exact HR249_0.out)) x10_2 p250 q250
                                                        (try rw [← Nbq53.out] at hx250_0)
                                                        cases e250
                                                        replace p250 := eq_true p250
                                                        replace q250 := eq_true q250
                                                        go_wp2
                                                        go_ret
                                                        exact ⟨by first | rfl | (simp [errW_none, errW_some] <;> rfl) | (simp [*, errW_none, errW_some] <;> rfl), by repeat (first | (with_reducible first | exact HB.out | apply below_alloc | apply pw_below_drewN | apply below_drew1) | exact HB.out)⟩
                                                      · replace c54 := Bool.eq_false_iff.mpr c54
                                                        subst c54
                                                        have H1 : (billhooklaw10_DomControl.l1 k5 true t228 t231 t234 (t228.length : Int) x10_2 (wrap64 (x11_3 + 1))) = some r := by rw [if_neg (show ¬ (false = true) by decide)] at H; exact H
                                                        clear H
                                                        have H := H1
                                                        clear H1
                                                        have H' := Aside0.mk H
                                                        clear H
                                                        have p244 : 0 ≤ ((rd (rd_L3 t234 x10_2) x11_3) : Int) := of_decide_eq_true (by first | (with_reducible assumption) | assumption)
                                                        have q244 : (rd (rd_L3 t234 x10_2) x11_3) < (t228.length : Int) := of_decide_eq_true (by first | (with_reducible assumption) | assumption)
                                                        obtain ⟨ad244, A244_0, c244_0, e244, hx244_0, hl244_0, hi244_0⟩ := at_L3 (Kd.S_reads' HO_6.out).2.2 (rd (rd_L3 t234 x10_2) x11_3) p244 q244
                                                        cases e244
                                                        obtain ⟨ce244, hce244, hMe244, hcc244⟩ := Kd.S_get HO_6.out [] (rd (rd_L3 t234 x10_2) x11_3) p244 (by first | exact q244 | exact of_decide_eq_true (by first | (with_reducible assumption) | assumption) | (have e_ := (Kd.S_reads' HO_6.out).1; omega))
                                                        obtain ⟨ve244_0, rfl, ge244_0⟩ := hMe244
                                                        have hv244_0 := hcc244 0 _ rfl
                                                        rw [Nat.add_zero, show ((Kd.slice 3 (Kd.int .i64))).sz = 1 from rfl, Nat.mul_one] at hv244_0
                                                        replace hv244_0 := Option.some.inj (hv244_0.symm.trans hx244_0)
                                                        rw [hv244_0] at ge244_0
                                                        have HL244_0 := Aside0.mk (show Kd.R (Kd.int .i64) 3 _ _ _ _ (rd_L3 t228 (rd (rd_L3 t234 x10_2) x11_3)) from ge244_0)
                                                        clear hv244_0 ge244_0
                                                        clear hcc244 hce244
                                                        have HR244_0 := Aside0.mk hi244_0
                                                        have HC244_0 := Aside0.mk hl244_0
                                                        clear hi244_0 hl244_0
                                                        (try (have hz_ := Option.some.inj (hx237_0.symm.trans hx244_0); injection hz_ with za_ zn_ zc_; subst za_; subst zc_; clear zn_))
                                                        (try (have hz_ := Option.some.inj (hx238_0.symm.trans hx244_0); injection hz_ with za_ zn_ zc_; subst za_; subst zc_; clear zn_))
                                                        replace p244 := eq_true p244
                                                        replace q244 := eq_true q244
                                                        obtain ⟨Ao56, co56, eo56⟩ := Kd.S_slice HO_7.out
                                                        subst eo56
                                                        have p249 : 0 ≤ ((rd (rd_L3 t234 x10_2) x11_3) : Int) := of_decide_eq_true (by first | (with_reducible assumption) | assumption)
                                                        have q249 : (rd (rd_L3 t234 x10_2) x11_3) < (t231.length : Int) := of_decide_eq_true (by first | (with_reducible assumption) | assumption)
                                                        obtain ⟨ad249, A249_0, c249_0, e249, hx249_0, hl249_0, hi249_0⟩ := at_L2 (Kd.S_reads' HO_7.out).2.2 (rd (rd_L3 t234 x10_2) x11_3) p249 q249
                                                        cases e249
                                                        obtain ⟨ce249, hce249, hMe249, hcc249⟩ := Kd.S_get HO_7.out [] (rd (rd_L3 t234 x10_2) x11_3) p249 (by first | exact q249 | exact of_decide_eq_true (by first | (with_reducible assumption) | assumption) | (have e_ := (Kd.S_reads' HO_7.out).1; omega))
                                                        obtain ⟨ve249_0, rfl, ge249_0⟩ := hMe249
                                                        have hv249_0 := hcc249 0 _ rfl
                                                        rw [Nat.add_zero, show ((Kd.slice 4 Kd.bool)).sz = 1 from rfl, Nat.mul_one] at hv249_0
                                                        replace hv249_0 := Option.some.inj (hv249_0.symm.trans hx249_0)
                                                        rw [hv249_0] at ge249_0
                                                        have HL249_0 := Aside0.mk (show Kd.R Kd.bool 4 _ _ _ _ (rd_L2 t231 (rd (rd_L3 t234 x10_2) x11_3)) from ge249_0)
                                                        clear hv249_0 ge249_0
                                                        clear hcc249 hce249
                                                        have HR249_0 := Aside0.mk hi249_0
                                                        have HC249_0 := Aside0.mk hl249_0
                                                        clear hi249_0 hl249_0
                                                        (try (have hz_ := Option.some.inj (hx237_0.symm.trans hx249_0); injection hz_ with za_ zn_ zc_; subst za_; subst zc_; clear zn_))
                                                        (try (have hz_ := Option.some.inj (hx238_0.symm.trans hx249_0); injection hz_ with za_ zn_ zc_; subst za_; subst zc_; clear zn_))
                                                        (try (have hz_ := Option.some.inj (hx244_0.symm.trans hx249_0); injection hz_ with za_ zn_ zc_; subst za_; subst zc_; clear zn_))
                                                        replace p249 := eq_true p249
                                                        replace q249 := eq_true q249
                                                        have p250 : 0 ≤ (x10_2 : Int) := of_decide_eq_true (by first | (with_reducible assumption) | assumption)
                                                        have q250 : x10_2 < ((rd_L2 t231 (rd (rd_L3 t234 x10_2) x11_3)).length : Int) := of_decide_eq_true (by first | (with_reducible assumption) | assumption)
                                                        obtain ⟨ad250, e250, hx250_0⟩ := Kd.at_bool (by repeat (first | (with_reducible exact HR249_0.out) | (with_reducible refine Kd.C_alloc ?_ _) | (with_reducible refine Kd.C_drewN ?_ _) | (with_reducible refine Kd.C_drew ?_) | exact HR249_0.out)) x10_2 p250 q250
                                                        (try rw [← Nbq53.out] at hx250_0)
                                                        cases e250
                                                        replace p250 := eq_true p250
                                                        replace q250 := eq_true q250
                                                        go_wp2
                                                        go_roundg k5
                                                        case measure => have := HJ7.out; have := HK2.out; have := HK3.out; have := HJ23.out; have := HK5.out; omega
                                                        case rel => exact ⟨(wrap64 (x11_3 + 1)), (by first | rfl | (simp; done) | (simp [*]; done)), H', ⟨by have := HJ7.out; have := HK2.out; have := HK3.out; have := HJ23.out; have := HK5.out; omega⟩, ⟨by (with_reducible repeat (first | apply Kd.S_alloc | apply Kd.S_drewN | apply Kd.S_drew)); exact HO_6.out⟩, ⟨by (with_reducible repeat (first | apply Kd.S_alloc | apply Kd.S_drewN | apply Kd.S_drew)); exact HO_7.out⟩, ⟨by (with_reducible repeat (first | apply Kd.V_alloc | apply Kd.V_drewN | apply Kd.V_drew)); exact HO_8.out⟩, ⟨by repeat (first | (with_reducible first | exact HB.out | apply below_alloc | apply pw_below_drewN | apply below_drew1) | exact HB.out)⟩⟩
                                                    · rw [if_neg c52] at H
                                                      exact absurd H (by simp)
                                                  · rw [if_neg c51] at H
                                                    exact absurd H (by simp)
                                                · rw [if_neg c50] at H
                                                  exact absurd H (by simp)
                                            · replace c48 := Bool.eq_false_iff.mpr c48
                                              subst c48
                                              have H1 : (some false) = some r := by rw [if_neg (show ¬ (false = true) by decide)] at H; exact H
                                              clear H
                                              have H := H1
                                              clear H1
                                              obtain rfl := Option.some.inj H
                                              have p244 : 0 ≤ ((rd (rd_L3 t234 x10_2) x11_3) : Int) := of_decide_eq_true (by first | (with_reducible assumption) | assumption)
                                              have q244 : (rd (rd_L3 t234 x10_2) x11_3) < (t228.length : Int) := of_decide_eq_true (by first | (with_reducible assumption) | assumption)
                                              obtain ⟨ad244, A244_0, c244_0, e244, hx244_0, hl244_0, hi244_0⟩ := at_L3 (Kd.S_reads' HO_6.out).2.2 (rd (rd_L3 t234 x10_2) x11_3) p244 q244
                                              cases e244
                                              obtain ⟨ce244, hce244, hMe244, hcc244⟩ := Kd.S_get HO_6.out [] (rd (rd_L3 t234 x10_2) x11_3) p244 (by first | exact q244 | exact of_decide_eq_true (by first | (with_reducible assumption) | assumption) | (have e_ := (Kd.S_reads' HO_6.out).1; omega))
                                              obtain ⟨ve244_0, rfl, ge244_0⟩ := hMe244
                                              have hv244_0 := hcc244 0 _ rfl
                                              rw [Nat.add_zero, show ((Kd.slice 3 (Kd.int .i64))).sz = 1 from rfl, Nat.mul_one] at hv244_0
                                              replace hv244_0 := Option.some.inj (hv244_0.symm.trans hx244_0)
                                              rw [hv244_0] at ge244_0
                                              have HL244_0 := Aside0.mk (show Kd.R (Kd.int .i64) 3 _ _ _ _ (rd_L3 t228 (rd (rd_L3 t234 x10_2) x11_3)) from ge244_0)
                                              clear hv244_0 ge244_0
                                              clear hcc244 hce244
                                              have HR244_0 := Aside0.mk hi244_0
                                              have HC244_0 := Aside0.mk hl244_0
                                              clear hi244_0 hl244_0
                                              (try (have hz_ := Option.some.inj (hx237_0.symm.trans hx244_0); injection hz_ with za_ zn_ zc_; subst za_; subst zc_; clear zn_))
                                              (try (have hz_ := Option.some.inj (hx238_0.symm.trans hx244_0); injection hz_ with za_ zn_ zc_; subst za_; subst zc_; clear zn_))
                                              replace p244 := eq_true p244
                                              replace q244 := eq_true q244
                                              go_wp2
                                              go_ret
                                              exact ⟨by first | rfl | (simp [errW_none, errW_some] <;> rfl) | (simp [*, errW_none, errW_some] <;> rfl), by repeat (first | (with_reducible first | exact HB.out | apply below_alloc | apply pw_below_drewN | apply below_drew1) | exact HB.out)⟩
                                        · rw [if_neg c39] at H
                                          exact absurd H (by simp)
                                      · rw [if_neg c38] at H
                                        exact absurd H (by simp)
                          · rw [if_neg c23] at H
                            exact absurd H (by simp)
                        · rw [if_neg c22] at H
                          have c22b0 : decide (x11_3 < ((rd_L3 t234 x10_2).length : Int)) = false := decide_eq_false c22
                          clear c22
                          have H' := Aside0.mk H
                          clear H
                          obtain ⟨Ao57, co57, eo57⟩ := Kd.V_slice HO_8.out
                          subst eo57
                          have p237 : 0 ≤ (x10_2 : Int) := of_decide_eq_true (by first | (with_reducible assumption) | assumption)
                          have q237 : x10_2 < (t234.length : Int) := of_decide_eq_true (by first | (with_reducible assumption) | assumption)
                          obtain ⟨ad237, A237_0, c237_0, e237, hx237_0, hl237_0, hi237_0⟩ := at_L3 (Kd.V_reads' HO_8.out).2.2 x10_2 p237 q237
                          cases e237
                          obtain ⟨ce237, hce237, hMe237, hcc237⟩ := Kd.V_get HO_8.out [] x10_2 p237 (by first | exact q237 | exact of_decide_eq_true (by first | (with_reducible assumption) | assumption) | (have e_ := (Kd.V_reads' HO_8.out).1; omega))
                          obtain ⟨ua237_0, uc237_0, rfl, ul237_0, ge237_0⟩ := Kd.FK_slice_open hMe237
                          have hv237_0 := hcc237 0 _ rfl
                          rw [Nat.add_zero, show ((Kd.slice 3 (Kd.int .i64))).sz = 1 from rfl, Nat.mul_one] at hv237_0
                          replace hv237_0 := Option.some.inj (hv237_0.symm.trans hx237_0)
                          injection hv237_0 with hva_ hvn_ hvc_
                          rw [hva_] at ge237_0
                          rw [hvc_] at ul237_0
                          have HL237_0 := Aside0.mk (show Kd.V (Kd.int .i64) 3 _ w.heap.size _ _ (rd_L3 t234 x10_2) from Kd.V_mk ul237_0 ge237_0)
                          clear hva_ hvn_ hvc_ ge237_0 ul237_0
                          clear hcc237 hce237
                          have HR237_0 := Aside0.mk hi237_0
                          have HC237_0 := Aside0.mk hl237_0
                          clear hi237_0 hl237_0
                          replace p237 := eq_true p237
                          replace q237 := eq_true q237
                          go_wp2
                          go_roundg k3
                          case measure => have := HJ7.out; have := HK2.out; have := HK3.out; omega
                          case rel => exact ⟨(wrap64 (x10_2 + 1)), (by first | rfl | (simp; done) | (simp [*]; done)), H', ⟨by have := HJ7.out; have := HK2.out; have := HK3.out; omega⟩, ⟨by (with_reducible repeat (first | apply Kd.S_alloc | apply Kd.S_drewN | apply Kd.S_drew)); exact HO_6.out⟩, ⟨by (with_reducible repeat (first | apply Kd.S_alloc | apply Kd.S_drewN | apply Kd.S_drew)); exact HO_7.out⟩, ⟨by (with_reducible repeat (first | apply Kd.V_alloc | apply Kd.V_drewN | apply Kd.V_drew)); exact HO_8.out⟩, ⟨by repeat (first | (with_reducible first | exact HB.out | apply below_alloc | apply pw_below_drewN | apply below_drew1) | exact HB.out)⟩⟩
                      · rw [if_neg c21] at H
                        exact absurd H (by simp)
                    · rw [if_neg c20] at H
                      exact absurd H (by simp)
              · rw [if_neg c19] at H
                have c19b0 : decide (x10_2 < (t228.length : Int)) = false := decide_eq_false c19
                clear c19
                have H' := Aside0.mk H
                clear H
                go_wp2
                go_loopg [15, 16] k2 (fun kq v15 v16 w' => ∃ (x15_3 : List (List Int)) (x16_3 : Int), v16 = .int .i64 x16_3 ∧ Aside0 (billhooklaw10_DomControl.l3 kq true (t228.length : Int) x15_3 x16_3 = some r) ∧ Aside0 (kq ≤ k2) ∧ Aside0 (Kd.S (Kd.slice 3 (Kd.int .i64)) 54 w' w.heap.size (fun _ => True) v15 x15_3) ∧ Aside0 (Below w.heap.size w w'))
                case atStart => exact ⟨(([] : List (List Int))), (0), (by first | rfl | (simp; done) | (simp [*]; done)), H', ⟨Nat.le_refl _⟩, ⟨by first | exact Kd.S_nil _ _ _ _ _ | exact Kd.N_nil _ _ _ _ _ | exact Kd.V_nil _ _ _ _ _ | exact Kd.Q_nil _ _ _ _ _ | exact Kd.R_nil _ _ _ _ _⟩, ⟨by repeat (first | (with_reducible first | exact HB.out | apply below_alloc | apply pw_below_drewN | apply below_drew1) | exact HB.out)⟩⟩
                case round =>
                  clear H'
                  try clear c1
                  try clear c2
                  try clear p2
                  try clear q2
                  try clear hx2
                  try clear c3
                  try clear c4
                  try clear c5
                  try clear q5
                  try clear p6
                  try clear c8
                  try clear c14
                  try clear c14b0
                  try clear c14b1
                  try clear c14b2
                  try clear c18
                  try clear c19
                  try clear c19b0
                  try clear c20
                  try clear c20b0
                  try clear c21
                  try clear c21b0
                  try clear c22
                  try clear c22b0
                  try clear c23
                  try clear c23b0
                  try clear p23
                  try clear q23
                  try clear hx23
                  try clear c24
                  try clear p24
                  try clear q24
                  try clear hx24
                  try clear p25
                  try clear q25
                  try clear hx25
                  try clear c26
                  try clear c26b0
                  try clear c27
                  try clear c27b0
                  try clear c28
                  try clear c28b0
                  try clear c30
                  try clear c30b0
                  try clear c31
                  try clear c31b0
                  try clear c32
                  try clear c32b0
                  try clear c33
                  try clear c33b0
                  try clear c34
                  try clear c34b0
                  try clear c35
                  try clear c35b0
                  try clear c36
                  try clear c36b0
                  try clear c37
                  try clear c38
                  try clear c38b0
                  try clear c39
                  try clear c39b0
                  try clear c40
                  try clear c40b0
                  try clear c41
                  try clear c42
                  try clear c42b0
                  try clear c43
                  try clear c43b0
                  try clear c44
                  try clear c44b0
                  try clear c45
                  try clear c45b0
                  try clear c46
                  try clear c46b0
                  try clear c48
                  try clear c49
                  try clear c49b0
                  try clear c49b1
                  try clear c50
                  try clear c50b0
                  try clear c51
                  try clear c51b0
                  try clear c52
                  try clear c52b0
                  try clear q53
                  try clear c54
                  try clear hx237_0
                  try clear hx238_0
                  try clear hx239_0
                  try clear hx240_0
                  try clear hx241_0
                  try clear hx242_0
                  try clear hx243_0
                  try clear hx244_0
                  try clear hx245_0
                  try clear hx246_0
                  try clear hx247_0
                  try clear hx248_0
                  try clear hx249_0
                  try clear hx250_0
                  try clear p2
                  try clear p23
                  try clear p237
                  try clear p238
                  try clear p239
                  try clear p24
                  try clear p240
                  try clear p241
                  try clear p242
                  try clear p243
                  try clear p244
                  try clear p245
                  try clear p246
                  try clear p247
                  try clear p248
                  try clear p249
                  try clear p250
                  try clear p6
                  try clear q2
                  try clear q23
                  try clear q237
                  try clear q238
                  try clear q239
                  try clear q24
                  try clear q240
                  try clear q241
                  try clear q242
                  try clear q243
                  try clear q244
                  try clear q245
                  try clear q246
                  try clear q247
                  try clear q248
                  try clear q249
                  try clear q250
                  obtain ⟨x15_3, x16_3, rfl, HA, HK3, HO_15, HB⟩ := hrel
                  cases gk with
                  | zero => exact absurd HA.out (by simp [billhooklaw10_DomControl.l3])
                  | succ k3 =>
                    have H := HA.out
                    clear HA
                    simp only [billhooklaw10_DomControl.l3] at H
                    by_cases c58 : x16_3 < (t228.length : Int)
                    · rw [if_pos c58] at H
                      have c58b0 : decide (x16_3 < (t228.length : Int)) = true := decide_eq_true c58
                      clear c58
                      obtain ⟨y251, hy251⟩ : ∃ y_ : List Int, y_ = (([wrap64 (x16_3 + 1)] : List Int)) := ⟨_, rfl⟩
                      replace H : (if x15_3.length < 5864062014805 then (billhooklaw10_DomControl.l3 k3 true (t228.length : Int) (x15_3 ++ [y251]) (wrap64 (x16_3 + 1))) else (none)) = some r := by first | (rw [hy251]; with_reducible exact H) | (have H2_ := (Option.bind_some _ _).symm.trans H; rw [hy251]; with_reducible exact H2_) | (have H2_ := (Option.bind_some _ _).symm.trans H; with_reducible exact H2_) | with_reducible exact H | (rw [hy251]; exact H) | exact H
                      have Ny251 := Aside0.mk hy251
                      clear hy251
                      by_cases c59 : x15_3.length < 5864062014805
                      · rw [if_pos c59] at H
                        have LMc59 := Aside0.mk c59
                        clear c59
                        obtain ⟨y254, hy254⟩ : ∃ y_ : List (List Int), y_ = (x15_3 ++ [y251]) := ⟨_, rfl⟩
                        replace H : (billhooklaw10_DomControl.l3 k3 true (t228.length : Int) y254 (wrap64 (x16_3 + 1))) = some r := by first | (rw [hy254]; with_reducible exact H) | (have H2_ := (Option.bind_some _ _).symm.trans H; rw [hy254]; with_reducible exact H2_) | (have H2_ := (Option.bind_some _ _).symm.trans H; with_reducible exact H2_) | with_reducible exact H | (rw [hy254]; exact H) | exact H
                        have Ny254 := Aside0.mk hy254
                        clear hy254
                        have H' := Aside0.mk H
                        clear H
                        go_wp2_with (first | ((with_reducible refine gate_dst (N := 142) rfl ?_); (try (refine gate_guard (by rfl) ?_; dsimp only)); refine Kd.R_lit (Kd.int .i64) _ 3 ?hg (N := 142) ?hd (xs := ([wrap64 (x16_3 + 1)] : List Int)) (inner := [.int .i64 (wrap64 (x16_3 + 1))]) (ok := fun _ => True) (okp := fun _ => True) ?hr ?hp (fun _ hk => hk) trivial (Below.refl _ _) (Nat.le_refl _) (by simp) ?_; (case hd => rfl); (case hg => rfl); (case hr => first | (go_simp; done) | (go_simp; rfl)); (case hp => exact (Reps.one (show Kd.M (Kd.int .i64) _ _ _ (wrap64 (x16_3 + 1)) [.int .i64 (wrap64 (x16_3 + 1))] from rfl) (Reps.none _ _))); intro v252 w60 ho61 hb hg_ hnew_; clear hg_ hnew_; (first | rw [← Ny251.out] at ho61 | (simp only [Int.reduceToNat] at ho61; rw [← Ny251.out] at ho61)); have n0_ := Aside0.mk (Kd.S_elder' (by (with_reducible repeat (first | apply Kd.S_alloc | apply Kd.S_drewN | apply Kd.S_drew)); exact HO_15.out) (Kd.R_base ho61) hb); have n1_ := Aside0.mk (Kd.R_lower ho61 (below_size (by repeat (first | (with_reducible first | exact HB.out | apply below_alloc | apply pw_below_drewN | apply below_drew1) | exact HB.out)))); have n2_ := Aside0.mk (below_step (by repeat (first | (with_reducible first | exact HB.out | apply below_alloc | apply pw_below_drewN | apply below_drew1) | exact HB.out)) hb); clear HO_15; clear HB; have HO_15 := n0_; have HO253 := n1_; have HB := n2_; clear n0_ n1_ n2_; clear hb ho61; obtain ⟨Ao63, co63, eo63⟩ := Kd.R_slice HO253.out; subst eo63) | ((with_reducible refine gate_builtin (b := .append) (xs := #[.tmp 139, .tmp 143]) rfl ?_); (try (refine gate_guard (by rfl) ?_; dsimp only)); at_builtin; refine Kd.S_append (Kd.slice 3 (Kd.int .i64)) (w0 := w) w.heap.size rfl (.tmp 139) (.tmp 143) 53 54 (.slice none 0 0) 24 rfl Try.underlying53 info54 rfl (by decide) (by omega) u15 x15_3 y251 [.slice Ao63 y251.length co63] (fun _ => True) (fun k_ => some k_ = (.slice Ao63 y251.length co63 : Value).ownBlock) rfl rfl ?aP (fun k_ hk_ => ((Kd.R_mono (ok' := fun k_ => ((fun _ => True)) k_ ∧ some k_ ≠ (u15 : Value).ownBlock) (Kd.R_apart' (HO253.out) (Kd.S_typed HO_15.out) (by decide)) (fun k_ hk => ⟨trivial, hk.2⟩))).1 k_ hk_.symm) ?aF ?aO ?aB ?aS ?aL ?_; (case aP => exact Kd.M_row (Kd.R_mono (Kd.R_tight rfl (Kd.R_mono (ok' := fun k_ => ((fun _ => True)) k_ ∧ some k_ ≠ (u15 : Value).ownBlock) (Kd.R_apart' (HO253.out) (Kd.S_typed HO_15.out) (by decide)) (fun k_ hk => ⟨trivial, hk.2⟩))) (fun _ h_ => h_))); (case aB => exact (by repeat (first | (with_reducible first | exact HB.out | apply below_alloc | apply pw_below_drewN | apply below_drew1) | exact HB.out))); (case aF => exact (fun _ _ => trivial)); (case aO => exact (by (with_reducible repeat (first | apply Kd.S_alloc | apply Kd.S_drewN | apply Kd.S_drew)); exact Kd.S_mono HO_15.out (fun k_ hk => ⟨trivial, fun e_ => hk.2 e_⟩))); (case aS => exact (below_size (by repeat (first | (with_reducible first | exact HB.out | apply below_alloc | apply pw_below_drewN | apply below_drew1) | exact HB.out)))); (case aL => have := LMc59.out; omega); intro v255 w62 ho hb hg hat; rw [← Ny254.out] at ho; have n0_ := Aside0.mk (hb); have n1_ := Aside0.mk (ho); clear HB; clear HO_15; clear HO253; have HB := n0_; have HO256 := n1_; clear n0_ n1_; clear ho hb hg hat))
                        go_roundg k3
                        case measure => have := HJ7.out; have := HK2.out; have := HK3.out; omega
                        case rel => exact ⟨(y254), (wrap64 (x16_3 + 1)), (by first | rfl | (simp; done) | (simp [*]; done)), H', ⟨by have := HJ7.out; have := HK2.out; have := HK3.out; omega⟩, ⟨by (with_reducible repeat (first | apply Kd.S_alloc | apply Kd.S_drewN | apply Kd.S_drew)); exact HO256.out⟩, ⟨by repeat (first | (with_reducible first | exact HB.out | apply below_alloc | apply pw_below_drewN | apply below_drew1) | exact HB.out)⟩⟩
                      · rw [if_neg c59] at H
                        exact absurd H (by simp)
                    · rw [if_neg c58] at H
                      have c58b0 : decide (x16_3 < (t228.length : Int)) = false := decide_eq_false c58
                      clear c58
                      by_cases c64 : x15_3.length < 5864062014805
                      · rw [if_pos c64] at H
                        have LMc64 := Aside0.mk c64
                        clear c64
                        obtain ⟨y257, hy257⟩ : ∃ y_ : List (List Int), y_ = (x15_3 ++ [[]]) := ⟨_, rfl⟩
                        replace H : ((dom_Control.f k3 y257).bind fun t260 => (billhooklaw10_DomControl.l4 k3 true (t228.length : Int) t260 0)) = some r := by first | (rw [hy257]; with_reducible exact H) | (have H2_ := (Option.bind_some _ _).symm.trans H; rw [hy257]; with_reducible exact H2_) | (have H2_ := (Option.bind_some _ _).symm.trans H; with_reducible exact H2_) | with_reducible exact H | (rw [hy257]; exact H) | exact H
                        have Ny257 := Aside0.mk hy257
                        clear hy257
                        replace H := Option.bind_eq_some_iff.mp H
                        obtain ⟨t260, A650, H⟩ := H
                        replace H : (billhooklaw10_DomControl.l4 k3 true (t228.length : Int) t260 0) = some r := H
                        have A65 := Aside0.mk A650
                        clear A650
                        have H' := Aside0.mk H
                        clear H
                        go_wp2_with (first | ((with_reducible refine gate_builtin (b := .append) (xs := #[.tmp 145, .tmp 146]) rfl ?_); (try (refine gate_guard (by rfl) ?_; dsimp only)); at_builtin; refine Kd.S_append (Kd.slice 3 (Kd.int .i64)) (w0 := w) w.heap.size rfl (.tmp 145) (.tmp 146) 53 54 (.slice none 0 0) 24 rfl Try.underlying53 info54 rfl (by decide) (by omega) u15 x15_3 [] [.slice none 0 0] (fun _ => True) (fun _ => False) rfl rfl ?aP (fun _ hk => hk.elim) ?aF ?aO ?aB ?aS ?aL ?_; (case aP => first | exact rfl | exact ⟨_, rfl, Kd.R_nil _ _ _ _ _⟩); (case aB => exact (by repeat (first | (with_reducible first | exact HB.out | apply below_alloc | apply pw_below_drewN | apply below_drew1) | exact HB.out))); (case aF => exact (fun _ _ => trivial)); (case aO => exact (by (with_reducible repeat (first | apply Kd.S_alloc | apply Kd.S_drewN | apply Kd.S_drew)); exact Kd.S_mono HO_15.out (fun k_ hk => ⟨trivial, fun e_ => e_⟩))); (case aS => exact (below_size (by repeat (first | (with_reducible first | exact HB.out | apply below_alloc | apply pw_below_drewN | apply below_drew1) | exact HB.out)))); (case aL => have := LMc64.out; omega); intro v258 w66 ho hb hg hat; rw [← Ny257.out] at ho; have n0_ := Aside0.mk (hb); have n1_ := Aside0.mk (ho); clear HB; clear HO_15; have HB := n0_; have HO259 := n1_; clear n0_ n1_; clear ho hb hg hat; obtain ⟨Ao67, co67, eo67⟩ := Kd.S_slice HO259.out; subst eo67) | ((with_reducible refine gate_callee (f := 37) rfl ?_); refine goesL_ (some 149) rfl rfl Try.func37 (by kernel_rfl) rfl #[.slice Ao67 y257.length co67] rfl (by (try simp only [List.map_toArray, List.map_cons, List.map_nil]); first | done | rfl | (simp only [List.length_drop, List.length_take]; rfl)) ?_; (with_reducible refine (dom_Control.calls k3 (fun k_ => True) _ _ y257 t260 _ ?side1 A65.out).mono ?_); (case side1 => exact Kd.S_V (HO259.out)); rintro e w68 ⟨v261, rfl, ho0, hb⟩; refine ⟨_, rfl, ?_⟩; have n0_ := Aside0.mk (Kd.S_below (by (with_reducible repeat (first | apply Kd.S_alloc | apply Kd.S_drewN | apply Kd.S_drew)); exact HO259.out) hb); have n1_ := Aside0.mk (Kd.V_lower (Kd.V_mono (ok' := fun k_ => True) ho0 (fun k_ hk_ => trivial)) (below_size (by repeat (first | (with_reducible first | exact HB.out | apply below_alloc | apply pw_below_drewN | apply below_drew1) | exact HB.out)))); have n2_ := Aside0.mk (below_step (by repeat (first | (with_reducible first | exact HB.out | apply below_alloc | apply pw_below_drewN | apply below_drew1) | exact HB.out)) hb); clear HO259; clear HB; have HO259 := n0_; have HO262 := n1_; have HB := n2_; clear n0_ n1_ n2_; (try clear hb); (try clear hb2); (try clear hk); (try clear hi); (try clear ho0)))
                        go_loopg [18] k3 (fun kq v18 w' => ∃ (x18_4 : Int), v18 = .int .i64 x18_4 ∧ Aside0 (billhooklaw10_DomControl.l4 kq true (t228.length : Int) t260 x18_4 = some r) ∧ Aside0 (kq ≤ k3) ∧ Aside0 (Kd.V (Kd.slice 3 (Kd.int .i64)) 54 w' w.heap.size (fun _ => True) v261 t260) ∧ Aside0 (Below w.heap.size w w'))
                        case atStart => exact ⟨(0), (by first | rfl | (simp; done) | (simp [*]; done)), H', ⟨Nat.le_refl _⟩, ⟨by (with_reducible repeat (first | apply Kd.V_alloc | apply Kd.V_drewN | apply Kd.V_drew)); exact HO262.out⟩, ⟨by repeat (first | (with_reducible first | exact HB.out | apply below_alloc | apply pw_below_drewN | apply below_drew1) | exact HB.out)⟩⟩
                        case round =>
                          clear H'
                          try clear c1
                          try clear c2
                          try clear p2
                          try clear q2
                          try clear hx2
                          try clear c3
                          try clear c4
                          try clear c5
                          try clear q5
                          try clear c6
                          try clear p6
                          try clear c8
                          try clear c14
                          try clear c14b0
                          try clear c14b1
                          try clear c14b2
                          try clear c18
                          try clear c19
                          try clear c19b0
                          try clear c20
                          try clear c20b0
                          try clear c21
                          try clear c21b0
                          try clear c22
                          try clear c22b0
                          try clear c23
                          try clear c23b0
                          try clear p23
                          try clear q23
                          try clear hx23
                          try clear c24
                          try clear p24
                          try clear q24
                          try clear hx24
                          try clear p25
                          try clear q25
                          try clear hx25
                          try clear c26
                          try clear c26b0
                          try clear c27
                          try clear c27b0
                          try clear c28
                          try clear c28b0
                          try clear c30
                          try clear c30b0
                          try clear c31
                          try clear c31b0
                          try clear c32
                          try clear c32b0
                          try clear c33
                          try clear c33b0
                          try clear c34
                          try clear c34b0
                          try clear c35
                          try clear c35b0
                          try clear c36
                          try clear c36b0
                          try clear c37
                          try clear c38
                          try clear c38b0
                          try clear c39
                          try clear c39b0
                          try clear c40
                          try clear c40b0
                          try clear c41
                          try clear c42
                          try clear c42b0
                          try clear c43
                          try clear c43b0
                          try clear c44
                          try clear c44b0
                          try clear c45
                          try clear c45b0
                          try clear c46
                          try clear c46b0
                          try clear c48
                          try clear c49
                          try clear c49b0
                          try clear c49b1
                          try clear c50
                          try clear c50b0
                          try clear c51
                          try clear c51b0
                          try clear c52
                          try clear c52b0
                          try clear q53
                          try clear c54
                          try clear c58
                          try clear c58b0
                          try clear c59
                          try clear c64
                          try clear p64
                          try clear hx237_0
                          try clear hx238_0
                          try clear hx239_0
                          try clear hx240_0
                          try clear hx241_0
                          try clear hx242_0
                          try clear hx243_0
                          try clear hx244_0
                          try clear hx245_0
                          try clear hx246_0
                          try clear hx247_0
                          try clear hx248_0
                          try clear hx249_0
                          try clear hx250_0
                          try clear p2
                          try clear p23
                          try clear p237
                          try clear p238
                          try clear p239
                          try clear p24
                          try clear p240
                          try clear p241
                          try clear p242
                          try clear p243
                          try clear p244
                          try clear p245
                          try clear p246
                          try clear p247
                          try clear p248
                          try clear p249
                          try clear p25
                          try clear p250
                          try clear p6
                          try clear q2
                          try clear q23
                          try clear q237
                          try clear q238
                          try clear q239
                          try clear q24
                          try clear q240
                          try clear q241
                          try clear q242
                          try clear q243
                          try clear q244
                          try clear q245
                          try clear q246
                          try clear q247
                          try clear q248
                          try clear q249
                          try clear q25
                          try clear q250
                          try clear q5
                          try clear q53
                          obtain ⟨x18_4, rfl, HA, HK4, HO_17, HB⟩ := hrel
                          cases gk with
                          | zero => exact absurd HA.out (by simp [billhooklaw10_DomControl.l4])
                          | succ k4 =>
                            have H := HA.out
                            clear HA
                            simp only [billhooklaw10_DomControl.l4] at H
                            by_cases c69 : x18_4 < (t260.length : Int)
                            · rw [if_pos c69] at H
                              have c69b0 : decide (x18_4 < (t260.length : Int)) = true := decide_eq_true c69
                              clear c69
                              by_cases c70 : 0 ≤ x18_4
                              · rw [if_pos c70] at H
                                have c70b0 : decide (0 ≤ x18_4) = true := decide_eq_true c70
                                clear c70
                                by_cases c71 : ((rd_L3 t260 x18_4).length : Int) > 0
                                · rw [if_pos c71] at H
                                  have c71b0 : decide (0 < ((rd_L3 t260 x18_4).length : Int)) = true := decide_eq_true c71
                                  have c71b1 : decide (0 < (rd_L3 t260 x18_4).length) = true := decide_eq_true (by omega)
                                  clear c71
                                  obtain rfl := Option.some.inj H
                                  obtain ⟨Ao72, co72, eo72⟩ := Kd.V_slice HO_17.out
                                  subst eo72
                                  have p263 : 0 ≤ (x18_4 : Int) := of_decide_eq_true (by first | (with_reducible assumption) | assumption)
                                  have q263 : x18_4 < (t260.length : Int) := of_decide_eq_true (by first | (with_reducible assumption) | assumption)
                                  obtain ⟨ad263, A263_0, c263_0, e263, hx263_0, hl263_0, hi263_0⟩ := at_L3 (Kd.V_reads' HO_17.out).2.2 x18_4 p263 q263
                                  cases e263
                                  obtain ⟨ce263, hce263, hMe263, hcc263⟩ := Kd.V_get HO_17.out [] x18_4 p263 (by first | exact q263 | exact of_decide_eq_true (by first | (with_reducible assumption) | assumption) | (have e_ := (Kd.V_reads' HO_17.out).1; omega))
                                  obtain ⟨ua263_0, uc263_0, rfl, ul263_0, ge263_0⟩ := Kd.FK_slice_open hMe263
                                  have hv263_0 := hcc263 0 _ rfl
                                  rw [Nat.add_zero, show ((Kd.slice 3 (Kd.int .i64))).sz = 1 from rfl, Nat.mul_one] at hv263_0
                                  replace hv263_0 := Option.some.inj (hv263_0.symm.trans hx263_0)
                                  injection hv263_0 with hva_ hvn_ hvc_
                                  rw [hva_] at ge263_0
                                  rw [hvc_] at ul263_0
                                  have HL263_0 := Aside0.mk (show Kd.V (Kd.int .i64) 3 _ w.heap.size _ _ (rd_L3 t260 x18_4) from Kd.V_mk ul263_0 ge263_0)
                                  clear hva_ hvn_ hvc_ ge263_0 ul263_0
                                  clear hcc263 hce263
                                  have HR263_0 := Aside0.mk hi263_0
                                  have HC263_0 := Aside0.mk hl263_0
                                  clear hi263_0 hl263_0
                                  replace p263 := eq_true p263
                                  replace q263 := eq_true q263
                                  go_wp2
                                  go_ret
                                  exact ⟨by first | rfl | (simp [errW_none, errW_some] <;> rfl) | (simp [*, errW_none, errW_some] <;> rfl), by repeat (first | (with_reducible first | exact HB.out | apply below_alloc | apply pw_below_drewN | apply below_drew1) | exact HB.out)⟩
                                · rw [if_neg c71] at H
                                  have c71b0 : decide (0 < ((rd_L3 t260 x18_4).length : Int)) = false := decide_eq_false c71
                                  have c71b1 : decide (0 < (rd_L3 t260 x18_4).length) = false := decide_eq_false (by omega)
                                  clear c71
                                  have H' := Aside0.mk H
                                  clear H
                                  obtain ⟨Ao73, co73, eo73⟩ := Kd.V_slice HO_17.out
                                  subst eo73
                                  have p263 : 0 ≤ (x18_4 : Int) := of_decide_eq_true (by first | (with_reducible assumption) | assumption)
                                  have q263 : x18_4 < (t260.length : Int) := of_decide_eq_true (by first | (with_reducible assumption) | assumption)
                                  obtain ⟨ad263, A263_0, c263_0, e263, hx263_0, hl263_0, hi263_0⟩ := at_L3 (Kd.V_reads' HO_17.out).2.2 x18_4 p263 q263
                                  cases e263
                                  obtain ⟨ce263, hce263, hMe263, hcc263⟩ := Kd.V_get HO_17.out [] x18_4 p263 (by first | exact q263 | exact of_decide_eq_true (by first | (with_reducible assumption) | assumption) | (have e_ := (Kd.V_reads' HO_17.out).1; omega))
                                  obtain ⟨ua263_0, uc263_0, rfl, ul263_0, ge263_0⟩ := Kd.FK_slice_open hMe263
                                  have hv263_0 := hcc263 0 _ rfl
                                  rw [Nat.add_zero, show ((Kd.slice 3 (Kd.int .i64))).sz = 1 from rfl, Nat.mul_one] at hv263_0
                                  replace hv263_0 := Option.some.inj (hv263_0.symm.trans hx263_0)
                                  injection hv263_0 with hva_ hvn_ hvc_
                                  rw [hva_] at ge263_0
                                  rw [hvc_] at ul263_0
                                  have HL263_0 := Aside0.mk (show Kd.V (Kd.int .i64) 3 _ w.heap.size _ _ (rd_L3 t260 x18_4) from Kd.V_mk ul263_0 ge263_0)
                                  clear hva_ hvn_ hvc_ ge263_0 ul263_0
                                  clear hcc263 hce263
                                  have HR263_0 := Aside0.mk hi263_0
                                  have HC263_0 := Aside0.mk hl263_0
                                  clear hi263_0 hl263_0
                                  replace p263 := eq_true p263
                                  replace q263 := eq_true q263
                                  go_wp2
                                  go_roundg k4
                                  case measure => have := HJ7.out; have := HK2.out; have := HK3.out; have := HK4.out; omega
                                  case rel => exact ⟨(wrap64 (x18_4 + 1)), (by first | rfl | (simp; done) | (simp [*]; done)), H', ⟨by have := HJ7.out; have := HK2.out; have := HK3.out; have := HK4.out; omega⟩, ⟨by (with_reducible repeat (first | apply Kd.V_alloc | apply Kd.V_drewN | apply Kd.V_drew)); exact HO_17.out⟩, ⟨by repeat (first | (with_reducible first | exact HB.out | apply below_alloc | apply pw_below_drewN | apply below_drew1) | exact HB.out)⟩⟩
                              · rw [if_neg c70] at H
                                exact absurd H (by simp)
                            · rw [if_neg c69] at H
                              have c69b0 : decide (x18_4 < (t260.length : Int)) = false := decide_eq_false c69
                              clear c69
                              by_cases c74 : true = true
                              · clear c74
                                have H1 : (some ((t260.length : Int) == (wrap64 ((t228.length : Int) + 1)))) = some r := by first | (rw [if_pos rfl] at H; exact H) | (rw [if_pos trivial] at H; exact H)
                                clear H
                                have H := H1
                                clear H1
                                obtain rfl := Option.some.inj H
                                obtain ⟨Ao75, co75, eo75⟩ := Kd.V_slice HO_17.out
                                subst eo75
                                go_wp2
                                go_ret
                                exact ⟨by first | rfl | (simp [errW_none, errW_some] <;> rfl) | (simp [*, errW_none, errW_some] <;> rfl), by repeat (first | (with_reducible first | exact HB.out | apply below_alloc | apply pw_below_drewN | apply below_drew1) | exact HB.out)⟩
                              · exact absurd rfl c74
                      · rw [if_neg c64] at H
                        exact absurd H (by simp)
  · replace c4 := Bool.eq_false_iff.mpr c4
    subst c4
    have H1 : (some false) = some r := by rw [if_neg (show ¬ (false = true) by decide)] at H; exact H
    clear H
    have H := H1
    clear H1
    obtain rfl := Option.some.inj H
    go_enter Try.func8, Try.ntmps8
    go_wp2_with (first | ((with_reducible refine gate_callee (f := 26) rfl ?_); refine goesL_ (some 19) rfl rfl Try.func26 (by kernel_rfl) rfl #[] rfl (by (try simp only [List.map_toArray, List.map_cons, List.map_nil]); first | done | rfl | (simp only [List.length_drop, List.length_take]; rfl)) ?_; (with_reducible refine (billhooklaw10_examples.calls  false _ A3.out).mono ?_); rintro e w77 ⟨rfl, hb⟩; refine ⟨_, rfl, ?_⟩; have n0_ := Aside0.mk (below_step (by repeat (first | (with_reducible first | exact HB.out | apply below_alloc | apply pw_below_drewN | apply below_drew1) | exact HB.out)) hb); clear HB; have HB := n0_; clear n0_; (try clear hb); (try clear hb2); (try clear hk); (try clear hi)))
    go_ret
    exact ⟨by first | rfl | (simp [errW_none, errW_some] <;> rfl) | (simp [*, errW_none, errW_some] <;> rfl), by repeat (first | (with_reducible first | exact HB.out | apply below_alloc | apply pw_below_drewN | apply below_drew1) | exact HB.out)⟩

/-- THE ONE PURE STATEMENT of billhooklaw10_DomControl: yours. -/
def billhooklaw10_DomControl.Pure : Prop := ∀ (l0 : List Int) (a1 : Int), l0.length ≤ maxLen → l0.length * 1 ≤ 140737488351232 → (∀ x ∈ l0, (Lit.int .u8 x).wf = true) → (Lit.int .u8 a1).wf = true → ∃ k, billhooklaw10_DomControl.f k l0 a1 = some true
theorem billhooklaw10_DomControl.walk (P : billhooklaw10_DomControl.Pure) (a0 : Option Addr) (len0 cap0 : Nat) (z0 : List Int) (a1 : Int) (w : World) (w0 : (a0 = none ∧ len0 = 0 ∧ cap0 = 0 ∧ z0 = []) ∨ ∃ x, a0 = some x ∧ len0 ≤ cap0 ∧ cap0 ≤ maxLen ∧ z0.length = cap0 ∧ (∀ i, i < z0.length → w.cell? (x.add i) = some (.int .u8 (z0.getD i 0))) ∧ ∀ n ∈ z0, (Lit.int .u8 n).wf = true) (y0 : len0 * 1 ≤ 140737488351232) (w1 : (Lit.int .u8 a1).wf = true) :
    Calls Try.prog 8 #[.slice a0 len0 cap0, .int .u8 a1] w fun e w' => e = .returned (.bool true) ∧ Below w.heap.size w w' := by
  obtain ⟨l0, rfl, hr0, hm0, hw0, hc0⟩ := ReadsInt.ofRowC w0
  obtain ⟨k, h⟩ := P l0 a1 hm0 y0 hw0 w1
  refine (billhooklaw10_DomControl.calls k _ _ l0 a1 true w (Kd.C_of_reads (d := (0 : Int)) (h1 := fun _ => rfl) hr0) hc0 h).mono ?_
  rintro e w' ⟨rfl, hd⟩
  exact ⟨rfl, hd⟩

end Go.Proofs.Ytankppgafdcknaa.PDom

/- Of any web: a node depends on what goes two ways alone, one of which must pass it, and one of which need not; where all must be passed nothing depends on anything. -/
set_option linter.unusedVariables false
set_option linter.unusedSimpArgs false
set_option linter.unusedSectionVars false
set_option maxRecDepth 100000
namespace Go.Proofs.Ytankppgafdcknaa.Pure
open Go Go.RowKit Go.Proofs.YtankppgafdcknaaW.PrintWords Go.Proofs.Ytankppgafdcknaa.PPost Go.Proofs.Ytankppgafdcknaa.PDom Go.Proofs.Ytankppgafdcknaa.Gr

def lineG (n : Nat) : List (List Int) := (List.range n).map (fun (j : Nat) => [((j + 1 : Nat) : Int)]) ++ [[]]
def lineOK (n : Nat) : Bool := match dom_Control.f 4000 (lineG n) with
  | some t => t.all (fun r => r.isEmpty) && decide (t.length = n + 1)
  | none => false
theorem ev_of {α : Type} {g : Nat → Option α} {r : α} (hg : ∀ k, LeO (g k) (g (k + 1))) {k : Nat} (h : g k = some r) : Ev g r := ⟨k, fun j hj => by
  induction hj with
  | refl => exact h
  | step _ ih => exact hg _ _ ih⟩
theorem line_ok : ∀ n : Fin 10, lineOK n.val = true := by decide +kernel
theorem bit_Mx (n : Nat) (f : Nat → Nat → Bool) (i d : Nat) (hi : i < n) (hd : d < n) : bit (Mx n f) i d = f i d := bitM_Mx n f i d hi hd
theorem ctl_at (xs : List (List Int)) (r : List (List Bool)) (v t : Nat) (h : t < (ctlRow xs r v).length) (h2 : t < ((List.range xs.length).filter (ctlIf xs r v)).length) : (ctlRow xs r v)[t] = (((List.range xs.length).filter (ctlIf xs r v))[t] : Int) := by
  simp only [ctlRow, List.getElem_map]
section
variable {xs : List (List Int)} {f : Nat → Nat → Bool} (hw : Web xs)
include hw
theorem ct_some : ∃ K, ∀ k, K ≤ k → dom_Control.f k xs = (PPost.dom_Post.f k xs).bind fun r => if ctlOK xs r = true then some (ctl xs r) else none := ⟨0, fun _ _ => rfl⟩
theorem ct_ev (hp : Ev (fun k => dom_Post.f k xs) (Mx xs.length f)) : Ev (fun k => dom_Control.f k xs) (ctl xs (Mx xs.length f)) := by
  refine Ev.bind (f := fun _ r => if ctlOK xs r = true then some (ctl xs r) else none) hp (Ev.congr (fun _ => ?_) (Ev.now _))
  have hle := hw.le
  have : ctlOK xs (Mx xs.length f) = true := by
    unfold ctlOK
    simp only [Bool.and_eq_true, decide_eq_true_eq, List.all_eq_true]
    refine ⟨⟨⟨by omega, fun x hx => ?_⟩, by simp [Mx]⟩, fun x hx => ?_⟩
    · obtain ⟨i, hi, rfl⟩ := List.mem_iff_getElem.1 hx
      have := (hw.rw_ i hi).1
      unfold row at this
      rw [getD_eq _ _ _ hi] at this
      omega
    · simp only [Mx, List.mem_map] at hx
      obtain ⟨i, _, rfl⟩ := hx
      simp
  rw [if_pos this]
theorem ct_row (i : Nat) (hi : i < xs.length) : PDom.rd_L3 (ctl xs (Mx xs.length f)) (i : Int) = ctlRow xs (Mx xs.length f) i := by
  unfold PDom.rd_L3 ctl
  rw [nat_toNat, getD_eq _ _ _ (by simpa using hi)]
  simp
/-- Where a node depends on v. -/
theorem ct_if (i v : Nat) (hi : i < xs.length) (hv : v < xs.length) (h : ctlIf xs (Mx xs.length f) i v = true) : (∃ t, ∃ ht : t < (row xs v).length, f (row xs v)[t].toNat i = true) ∧ (v = i ∨ f v i = false) := by
  unfold ctlIf lead at h
  simp only [Bool.and_eq_true, List.any_eq_true, Bool.or_eq_true, Bool.not_eq_true', beq_iff_eq] at h
  obtain ⟨⟨s, hs, h1, h2⟩, h3⟩ := h
  have hs' : s ∈ row xs v := hs
  obtain ⟨t, ht, rfl⟩ := List.mem_iff_getElem.1 hs'
  have hn := (hw.rw_ v hv).2 _ (List.getElem_mem ht)
  simp only [isN, Bool.and_eq_true, decide_eq_true_eq] at hn
  rw [bit_Mx _ _ _ _ (by omega) hi] at h2
  refine ⟨⟨t, ht, h2⟩, ?_⟩
  rw [bit_Mx _ _ _ _ hv hi] at h3
  rcases h3 with h3 | h3
  · exact .inr h3
  · exact .inl h3.symm
theorem ct_l2 (i v t0 : Nat) (C : List (List Int)) (hi : i < xs.length) (hv : v < xs.length) (hc : v = i ∨ f v i = false) (hs : ∃ t, ∃ ht : t < (row xs v).length, f (row xs v)[t].toNat i = true) (hk : t0 < 1000)
    (K : Ev (fun k => billhooklaw10_DomControl.l1 k true xs (Mx xs.length f) C (xs.length : Int) (i : Int) ((t0 + 1 : Nat) : Int)) true) :
    ∀ (q t : Nat), t + q = (row xs v).length → Ev (fun k => billhooklaw10_DomControl.l2 k true xs (Mx xs.length f) C (xs.length : Int) (i : Int) (t0 : Int) (v : Int) (((row xs v).take t).any fun s => f s.toNat i) (t : Int)) true := by
  have hle := hw.le
  have hrw := hw.rw_ v hv
  have hrl := hrw.1
  intro q
  induction q with
  | zero =>
    intro t ht
    have ht : t = (row xs v).length := by omega
    have hany : ((row xs v).take t).any (fun s => f s.toNat i) = true := by
      rw [ht, List.take_length, List.any_eq_true]
      obtain ⟨t, h1, h2⟩ := hs
      exact ⟨_, List.getElem_mem h1, h2⟩
    refine Ev.step (fun k => ?_) K
    simp only [billhooklaw10_DomControl.l2, L3_row]
    rw [hany, if_pos (by omega), if_pos (by omega), if_neg (by omega), if_pos rfl, w_succ _ (by omega)]
    by_cases h1 : v = i
    · rw [if_pos (by omega)]
    · have hfv : f v i = false := by
        rcases hc with h | h
        · exact absurd h h1
        · exact h
      rw [if_neg (by omega), if_pos (by rw [Mx_len]; omega), if_pos (by omega), L2_row _ _ _ hv, if_pos (by simp; omega), of_row _ _ _ hi, hfv, if_neg (by simp)]
  | succ q ih =>
    intro t ht
    have htl : t < (row xs v).length := by omega
    have hsn := hrw.2 _ (List.getElem_mem htl)
    simp only [isN, Bool.and_eq_true, decide_eq_true_eq] at hsn
    refine Ev.step (fun k => ?_) (ih (t + 1) (by omega))
    have hst : ((row xs v).take (t + 1)).any (fun s => f s.toNat i) = (((row xs v).take t).any (fun s => f s.toNat i) || f (row xs v)[t].toNat i) := by
      rw [List.take_succ_eq_append_getElem htl, List.any_append]
      simp only [List.any_cons, List.any_nil, Bool.or_false]
    simp only [billhooklaw10_DomControl.l2, L3_row, rd_at _ _ htl]
    have e : ((row xs v)[t] : Int) = (((row xs v)[t].toNat : Nat) : Int) := by omega
    rw [hst, if_pos (by omega), if_pos (by omega), if_pos (by omega), w_succ _ (by omega)]
    cases hb : ((row xs v).take t).any fun s => f s.toNat i with
    | true => rw [if_pos rfl]; rfl
    | false =>
      rw [if_neg (by simp), if_pos (by omega), if_pos hsn.1, if_pos (by rw [Mx_len]; omega), if_pos (by omega), e, L2_row _ _ _ (by omega), if_pos (by simp; omega), of_row _ _ _ hi, nat_toNat]
      rfl
theorem ct_l1 (i : Nat) (hi : i < xs.length) (K : Ev (fun k => billhooklaw10_DomControl.l0 k true xs (Mx xs.length f) (ctl xs (Mx xs.length f)) (xs.length : Int) ((i + 1 : Nat) : Int)) true) :
    ∀ (q t : Nat), t + q = (ctlRow xs (Mx xs.length f) i).length → Ev (fun k => billhooklaw10_DomControl.l1 k true xs (Mx xs.length f) (ctl xs (Mx xs.length f)) (xs.length : Int) (i : Int) (t : Int)) true := by
  have hle := hw.le
  have hcl : (ctl xs (Mx xs.length f)).length = xs.length := by simp [ctl]
  have hfl : (ctlRow xs (Mx xs.length f) i).length ≤ xs.length := by
    unfold ctlRow
    have := List.length_filter_le (ctlIf xs (Mx xs.length f) i) (List.range xs.length)
    simpa using this
  intro q
  induction q with
  | zero =>
    intro t ht
    refine Ev.step (fun k => ?_) K
    simp only [billhooklaw10_DomControl.l1, ct_row hw i hi]
    rw [if_pos (by omega), if_pos (by omega), if_neg (by omega), w_succ _ (by omega)]
  | succ q ih =>
    intro t ht
    have htl : t < (ctlRow xs (Mx xs.length f) i).length := by omega
    have htl2 : t < ((List.range xs.length).filter (ctlIf xs (Mx xs.length f) i)).length := by simpa [ctlRow] using htl
    obtain ⟨v, hvd⟩ : ∃ v : Nat, ((List.range xs.length).filter (ctlIf xs (Mx xs.length f) i))[t] = v := ⟨_, rfl⟩
    have hvm := List.getElem_mem htl2
    rw [hvd, List.mem_filter, List.mem_range] at hvm
    obtain ⟨hv, hif⟩ := hvm
    have hrv : (ctlRow xs (Mx xs.length f) i)[t] = (v : Int) := by
      rw [ctl_at _ _ _ _ htl htl2, hvd]
    obtain ⟨hs, hc⟩ := ct_if hw i v hi hv hif
    have hpos : 0 < (row xs v).length := by obtain ⟨t, h, _⟩ := hs; omega
    have h2 := ct_l2 hw (f := f) i v t (ctl xs (Mx xs.length f)) hi hv hc hs (by omega) (ih (t + 1) (by omega)) (row xs v).length 0 (by omega)
    refine Ev.step (f := fun k => billhooklaw10_DomControl.j3 k true xs (Mx xs.length f) (ctl xs (Mx xs.length f)) (xs.length : Int) (i : Int) (t : Int) (v : Int) false) (fun k => ?_) (Ev.step (fun k => ?_) h2)
    · have hfin : decide (((row xs v).length : Int) < 1) = false := by simp; omega
      simp only [billhooklaw10_DomControl.l1, ct_row hw i hi, rd_at _ _ htl, hrv, L3_row]
      rw [if_pos (by omega), if_pos (by omega), if_pos (by omega), if_pos (by omega), if_neg (by omega), if_neg (by omega)]
      by_cases ht0 : t = 0
      · rw [if_neg (by omega), if_pos (by omega), if_pos (by omega), hfin]
      · have hw1 : wrap64 ((t : Int) - 1) = ((t - 1 : Nat) : Int) := w_pred t (by omega) (by omega)
        have hlt : t - 1 < (ctlRow xs (Mx xs.length f) i).length := by omega
        have hlt2 : t - 1 < ((List.range xs.length).filter (ctlIf xs (Mx xs.length f) i)).length := by omega
        have hprev : (ctlRow xs (Mx xs.length f) i)[t - 1] = (((List.range xs.length).filter (ctlIf xs (Mx xs.length f) i))[t - 1] : Int) := by
          exact ctl_at _ _ _ _ hlt hlt2
        have hinc : ((List.range xs.length).filter (ctlIf xs (Mx xs.length f) i))[t - 1] < v := by
          rw [← hvd]
          have hp : List.Pairwise (· < ·) ((List.range xs.length).filter (ctlIf xs (Mx xs.length f) i)) := List.Pairwise.filter _ List.pairwise_lt_range
          exact List.pairwise_iff_getElem.1 hp _ _ hlt2 htl2 (by omega)
        rw [if_pos (by omega), hw1, if_pos (by omega), if_pos (by omega), rd_at _ _ hlt, hprev, if_neg (by omega), if_pos (by omega), if_pos (by omega), hfin]
    · simp only [billhooklaw10_DomControl.j3]
      rw [if_neg (by simp)]
      rfl
theorem ct_l4 (t : List (List Int)) (ht : ∀ r ∈ t, r = []) (hl : t.length = xs.length + 1) : ∀ (q i : Nat), i + q = t.length → Ev (fun k => billhooklaw10_DomControl.l4 k true (xs.length : Int) t (i : Int)) true := by
  have hle := hw.le
  intro q
  induction q with
  | zero =>
    intro i hi
    refine Ev.step (fun k => ?_) (Ev.now true)
    simp only [billhooklaw10_DomControl.l4]
    rw [if_neg (by omega), w_succ _ (by omega), hl]
    simp
  | succ q ih =>
    intro i hi
    have hil : i < t.length := by omega
    refine Ev.step (fun k => ?_) (ih (i + 1) (by omega))
    simp only [billhooklaw10_DomControl.l4, L3_row]
    have : row t i = [] := by unfold row; rw [getD_eq _ _ _ hil]; exact ht _ (List.getElem_mem hil)
    rw [if_pos (by omega), if_pos (by omega), this, if_neg (by simp), w_succ _ (by omega)]
theorem ct_l3 : ∀ (q i : Nat), i + q = xs.length → Ev (fun k => billhooklaw10_DomControl.l3 k true (xs.length : Int) ((List.range i).map fun (j : Nat) => [((j + 1 : Nat) : Int)]) (i : Int)) true := by
  have hle := hw.le
  intro q
  induction q with
  | zero =>
    intro i hi
    have hi : i = xs.length := by omega
    subst hi
    have hok := line_ok ⟨xs.length, by omega⟩
    unfold lineOK at hok
    simp only at hok
    cases ht : dom_Control.f 4000 (lineG xs.length) with
    | none => rw [ht] at hok; cases hok
    | some t =>
      rw [ht] at hok
      simp only [Bool.and_eq_true, List.all_eq_true, List.isEmpty_iff, decide_eq_true_eq] at hok
      have hev : Ev (fun k => dom_Control.f k (lineG xs.length)) t := ev_of (fun k => dom_Control.mono _ k) ht
      refine Ev.step (f := fun k => (dom_Control.f k (lineG xs.length)).bind fun t260 => billhooklaw10_DomControl.l4 k true (xs.length : Int) t260 0) (fun k => ?_) (Ev.bind hev (ct_l4 hw t hok.1 hok.2 t.length 0 (by omega)))
      simp only [billhooklaw10_DomControl.l3]
      rw [if_neg (by omega), if_pos (by simp; omega)]
      rfl
  | succ q ih =>
    intro i hi
    refine Ev.step (fun k => ?_) (ih (i + 1) (by omega))
    simp only [billhooklaw10_DomControl.l3]
    rw [if_pos (by omega), if_pos (by simp; omega), w_succ _ (by omega), List.range_succ, List.map_append]
    rfl
theorem ct_l0 : ∀ (q i : Nat), i + q = xs.length → Ev (fun k => billhooklaw10_DomControl.l0 k true xs (Mx xs.length f) (ctl xs (Mx xs.length f)) (xs.length : Int) (i : Int)) true := by
  have hle := hw.le
  intro q
  induction q with
  | zero =>
    intro i hi
    refine Ev.step (fun k => ?_) (ct_l3 hw xs.length 0 (by omega))
    simp only [billhooklaw10_DomControl.l0]
    rw [if_neg (by omega)]
    rfl
  | succ q ih =>
    intro i hi
    refine Ev.step (fun k => ?_) (ct_l1 hw (f := f) i (by omega) (ih (i + 1) (by omega)) _ 0 (Nat.zero_add _))
    simp only [billhooklaw10_DomControl.l0]
    rw [if_pos (by omega)]
    rfl
end
theorem DomControl : billhooklaw10_DomControl.Pure := by
  intro l a _ _ hl ha
  obtain ⟨xs, hx, hw⟩ := web_ev l a hl ha
  have hle := hw.le
  obtain ⟨f, hp, hf⟩ := hw.post
  refine Ev.rounds (g := fun k => billhooklaw10_DomControl.f k l a) ?_
  refine Ev.congr (f := fun k => (billhooklaw10_web.f k l a).bind fun t228 => ((dom_Post.f k t228).bind fun t231 => ((dom_Control.f k t228).bind fun t234 => (if (t231.length : Int) = (t228.length : Int) then (billhooklaw10_DomControl.j0 k true t228 t231 t234 (t228.length : Int) ((t234.length : Int) != (t228.length : Int))) else (billhooklaw10_DomControl.j0 k true t228 t231 t234 (t228.length : Int) true))))) (fun k => ?_)
    (Ev.bind hx (Ev.bind hp (Ev.bind (ct_ev hw hp) (Ev.congr (f := fun k => billhooklaw10_DomControl.j0 k true xs (Mx xs.length f) (ctl xs (Mx xs.length f)) (xs.length : Int) false) (fun k => ?_) (Ev.step (fun k => ?_) (ct_l0 hw (f := f) xs.length 0 (by omega)))))))
  · unfold billhooklaw10_DomControl.f
    rw [ex_f]
    simp
  · rw [if_pos (by rw [Mx_len])]
    congr 1
    simp [ctl]
  · simp only [billhooklaw10_DomControl.j0]
    rw [if_neg (by simp)]
    rfl
end Go.Proofs.Ytankppgafdcknaa.Pure

/- Printed for this claim by a program. -/
namespace Go.Proofs.Ytankppgafdcknaa.domControl
open Go.ChangeShapes Go.WideShapes Go.ChangeAt Go.RowKit
open Go.ChangeMaps (open_string shut_string)
set_option linter.unusedVariables false
theorem own : ownKnob Try.prog.godebug = none := by kernel_rfl
theorem laidOut : laidOutB Try.prog = true := by kernel_rfl
def IsRow (k : IntKind) (w : World) (a : Option Addr) (len cap : Nat) (zs : List Int) : Prop :=
  (a = none ∧ len = 0 ∧ cap = 0 ∧ zs = []) ∨
  ∃ x, a = some x ∧ len ≤ cap ∧ cap ≤ maxLen ∧ zs.length = cap ∧ (∀ i, i < zs.length → w.cell? (x.add i) = some (.int k (zs.getD i 0))) ∧ ∀ n ∈ zs, (Lit.int k n).wf = true
set_option maxRecDepth 100000 in
theorem lifted (os : Os) (started : os.Started) (H : Type) (enc : TypeId × Value → H) :
    ReturnsInHanded {} Try.checked os 8 .any (Rows.domControlSpec.pre6 enc Try.prog Try.f8 Rows.domControlRow.domain false) (Rows.domControlSpec.post enc Try.prog Try.f8 false true false false) := by
  refine returnsInHanded_of_change_sized (C := Try.checked) own started (by kernel_rfl) Try.func8
    (ChangeSpec.witness6 (enc := enc) (C := Try.checked) false ⟨#[], #[.slice none 0 0, .int .u8 0], []⟩ 8 (by kernel_rfl) (by kernel_rfl) (by kernel_rfl) (by kernel_rfl)) ?_
  intro W base args ds gs before hval0 hW hcnd hsz0 _
  have hsz : (DataW.weightsEach Try.prog (Try.f8.params.toList ++ Rows.domControlSpec.plain.varTypes Try.prog) (ds ++ gs)).all (· ≤ reachBytes) = true := hsz0
  have hval : ∀ (j : Nat) t v, Try.f8.params[j]? = some t → args[j]? = some v → Value.okWide Try.prog W .any base t v := hval0
  have hW' := hW
  obtain ⟨p, q, hA0, hV, rfl, hfz, hnd⟩ := hW
  have hA : DataW.TrodAll enc Try.prog W 0 (fun _ => true) true Try.f8.params.toList args.toList ds p := hA0
  rw [Try.params8] at hA hval hsz
  obtain ⟨v0, vs0, d0, ds0, p0, q0, hargs, rfl, rfl, h0, r0⟩ := trodAll_cons hA
  obtain ⟨v1, vs1, d1, ds1, p1, q1, rfl, rfl, rfl, h1, r1⟩ := trodAll_cons r0
  obtain ⟨rfl, rfl, rfl⟩ := trodAll_nil r1
  obtain rfl : args = #[v0, v1] := by cases args; simp_all
  obtain ⟨rfl, rfl⟩ := trodVars_none hV
  obtain ⟨a0, len0, cap0, rfl⟩ := okWide_slice Try.underlying46 (hval 0 46 v0 rfl rfl)
  have k0 := h0
  have lt0 : ∀ x ∈ p0, x.block < W.heap.size := by obtain ⟨m, hm⟩ := k0; exact DataW.trod_lt m _ _ _ hm
  obtain ⟨z0, w0⟩ : ∃ zs, IsRow .u8 W a0 len0 cap0 zs := by
    obtain ⟨fuel, hf⟩ := h0
    rcases open_ints Try.underlying46 Try.underlying5 (by kernel_rfl) hf with ⟨hcs, _⟩ | ⟨x, l, c, zs, hcs, _, hl, hm, hz, _, hcell, hwz⟩
    · simp [Value.cells] at hcs
      obtain ⟨rfl, rfl, rfl⟩ := hcs
      exact ⟨[], .inl ⟨rfl, rfl, rfl, rfl⟩⟩
    · simp [Value.cells] at hcs
      obtain ⟨rfl, rfl, rfl⟩ := hcs
      exact ⟨zs, .inr ⟨_, rfl, hl, hm, by simpa using hz, hcell, hwz⟩⟩
  have y0 : len0 * 1 ≤ 140737488351232 := Go.Proofs.YtankppgafdcknaaW.PrintWords.sized_ints hsz (j := 0) (t := 46) rfl rfl Try.underlying46 Try.underlying5 (by kernel_rfl) (by kernel_rfl) h0
  obtain ⟨a1, rfl, rfl, rfl, w1⟩ := open_int Try.underlying5 (hval 1 5 v1 rfl rfl) h1
  clear hA0 hval0 hsz0 hsz
  refine (PDom.billhooklaw10_DomControl.walk Pure.DomControl a0 len0 cap0 z0 a1 W w0 y0 w1).mono fun e W' ⟨he, bel⟩ => ?_
  subst he
  exact ⟨_, rfl, _, _, _, [], _, [], hW', trodAll_mk1 (shut_bool Try.underlying4 _), (trodAll_cons_mk (Below.trod laidOut (by kernel_rfl) (of_decide_eq_true (by kernel_rfl)) k0 bel lt0) (trodAll_cons_mk (shut_int Try.underlying5 w1) trodAll_mk0)), rfl, bel.frame _, fun h => by cases h⟩
theorem over : Rows.domControlRow.holds Try.pinned (OpenSpec.ofChange Rows.domControlSpec) :=
  OpenClaim.holds_of_wide 8 Try.f8 rfl rfl rfl rfl rfl rfl rfl ⟨rfl, rfl, rfl, rfl, rfl⟩ rfl rfl rfl rfl rfl (by kernel_rfl) Try.func8 (by kernel_rfl)
    (of_decide_eq_true (by kernel_rfl)) (by unfold Func.isWrapper; first | (rw [if_pos (by decide +kernel)]; kernel_rfl) | (rw [if_neg (by decide +kernel)]; exact ⟨rfl, rfl⟩))
    (fun os started H enc _ => lifted os started H enc)
theorem proved : Rows.DomControlSaid := over
#print axioms proved
end Go.Proofs.Ytankppgafdcknaa.domControl
namespace Go.Proofs.Ytankppgafdcknaa
/-- The row, under a short name, for the claim. -/
theorem domControl_holds : Rows.DomControlSaid := domControl.proved
end Go.Proofs.Ytankppgafdcknaa
