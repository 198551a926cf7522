/- Texts joined into one: PDomx4 PureDomReach LawDomReach. -/
import Derived.Test.YtankppgafdcknaaKg
import Derived.Test.YtankppgafdcknaaRows
import Derived.WalkKit
import Derived.ProofKit
import Derived.OpenShut
import Derived.ShutString
import Derived.ChangeOld
import Derived.Below
import Derived.SizedLaws
import Derived.Test.YtankppgafdcknaaKw
/- Printed for this claim by a program. -/
namespace Go.Proofs.Ytankppgafdcknaa.PDom
open Go.Proofs.Ytankppgafdcknaa.PPost
open Go.RowKit Go.Proofs.YtankppgafdcknaaW.PrintWords Go.Proofs.YtankppgafdcknaaW.PrintLast Go.Proofs.YtankppgafdcknaaW.PrintMore
attribute [local go_sem] max2_int min2_int max_two min_two max_three min_three max_four min_four   -- for this text's walks alone
set_option linter.unusedVariables false
set_option linter.unusedSimpArgs false

/-! ### billhooklaw10_DomReach: function 9 -/
mutual
def billhooklaw10_DomReach.j1 : Nat → Bool → List (List Int) → List Int → Option (Bool)
  | 0, _, _, _ => none
  | k + 1, x7, x8, x9 => (dom_Reach.f k x8 x9).bind fun t158 => (if (t158.length : Int) = (x8.length : Int) then (billhooklaw10_DomReach.l1 k x7 x8 x9 t158 0) else (some false))
def billhooklaw10_DomReach.l1 : Nat → Bool → List (List Int) → List Int → List Bool → Int → Option (Bool)
  | 0, _, _, _, _, _ => none
  | k + 1, x7, x8, x9, x11, x12 => if x12 < (x11.length : Int) then (billhooklaw10_DomReach.l2 k x7 x8 x9 x11 x12 false 0) else (some x7)
def billhooklaw10_DomReach.l2 : Nat → Bool → List (List Int) → List Int → List Bool → Int → Bool → Int → Option (Bool)
  | 0, _, _, _, _, _, _, _ => none
  | k + 1, x7, x8, x9, x11, x12, x13, x14 => if x14 < (x9.length : Int) then (if x13 = true then (billhooklaw10_DomReach.l2 k x7 x8 x9 x11 x12 true (wrap64 (x14 + 1))) else (if 0 ≤ x14 then (billhooklaw10_DomReach.l2 k x7 x8 x9 x11 x12 ((rd x9 x14) == x12) (wrap64 (x14 + 1))) else (none))) else (billhooklaw10_DomReach.l3 k x7 x8 x9 x11 x12 x13 0)
def billhooklaw10_DomReach.l3 : Nat → Bool → List (List Int) → List Int → List Bool → Int → Bool → Int → Option (Bool)
  | 0, _, _, _, _, _, _, _ => none
  | k + 1, x7, x8, x9, x11, x12, x13, x15 => if x15 < (x11.length : Int) then (billhooklaw10_DomReach.l4 k x7 x8 x9 x11 x12 x13 x15 0) else (if 0 ≤ x12 then (if x12 < (x11.length : Int) then (if rdOf false x11 x12 = true then (if x13 = true then (billhooklaw10_DomReach.l1 k x7 x8 x9 x11 (wrap64 (x12 + 1))) else (some false)) else (if x13 = true then (some false) else (billhooklaw10_DomReach.l1 k x7 x8 x9 x11 (wrap64 (x12 + 1))))) else (none)) else (none))
def billhooklaw10_DomReach.l4 : Nat → Bool → List (List Int) → List Int → List Bool → Int → Bool → Int → Int → Option (Bool)
  | 0, _, _, _, _, _, _, _, _ => none
  | k + 1, x7, x8, x9, x11, x12, x13, x15, x16 => if 0 ≤ x15 then (if x15 < (x8.length : Int) then (if x16 < ((rd_L3 x8 x15).length : Int) then (if x13 = true then (if x15 < (x11.length : Int) then (if rdOf false x11 x15 = true then (if 0 ≤ x16 then (if 0 ≤ (rd (rd_L3 x8 x15) x16) then (if (rd (rd_L3 x8 x15) x16) < (x11.length : Int) then (if (rdOf false x11 (rd (rd_L3 x8 x15) x16) = true) then (billhooklaw10_DomReach.l4 k x7 x8 x9 x11 x12 true x15 (wrap64 (x16 + 1))) else (some false)) else (none)) else (none)) else (none)) else (billhooklaw10_DomReach.l4 k x7 x8 x9 x11 x12 true x15 (wrap64 (x16 + 1)))) else (none)) else (if x15 < (x11.length : Int) then (if rdOf false x11 x15 = true then (if x15 = x12 then (if 0 ≤ x16 then (if 0 ≤ (rd (rd_L3 x8 x15) x16) then (if (rd (rd_L3 x8 x15) x16) < (x11.length : Int) then (if (rdOf false x11 (rd (rd_L3 x8 x15) x16) = true) then (billhooklaw10_DomReach.l4 k x7 x8 x9 x11 x12 false x15 (wrap64 (x16 + 1))) else (some false)) else (none)) else (none)) else (none)) else (if 0 ≤ x16 then (if 0 ≤ (rd (rd_L3 x8 x15) x16) then (if (rd (rd_L3 x8 x15) x16) < (x11.length : Int) then (if (rdOf false x11 (rd (rd_L3 x8 x15) x16) = true) then (billhooklaw10_DomReach.l4 k x7 x8 x9 x11 x12 ((rd (rd_L3 x8 x15) x16) == x12) x15 (wrap64 (x16 + 1))) else (some false)) else (none)) else (none)) else (none))) else (billhooklaw10_DomReach.l4 k x7 x8 x9 x11 x12 false x15 (wrap64 (x16 + 1)))) else (none))) else (billhooklaw10_DomReach.l3 k x7 x8 x9 x11 x12 x13 (wrap64 (x15 + 1)))) else (none)) else (none)
def billhooklaw10_DomReach.l0 : Nat → List Int → Bool → List (List Int) → List Int → Int → Option (Bool)
  | 0, _, _, _, _, _ => none
  | k + 1, x2, x7, x8, x9, x10 => if x10 < (x2.length : Int) then (if x10 < 4 then (if 0 ≤ x10 then (if (wrap64 ((x8.length : Int) + 2)) = 0 then (none) else (if x9.length < 17592186044416 then (billhooklaw10_DomReach.l0 k x2 x7 x8 (x9 ++ [wrap64 ((Int.tmod (wrap64 (rd x2 x10)) (wrap64 ((x8.length : Int) + 2))) - 1)]) (wrap64 (x10 + 1))) else (none))) else (none)) else (billhooklaw10_DomReach.j1 k x7 x8 x9)) else (billhooklaw10_DomReach.j1 k x7 x8 x9)
end
def billhooklaw10_DomReach.f (k : Nat) (l0 : List Int) (a1 : Int) (l2 : List Int) : Option (Bool) := (billhooklaw10_examples.f).bind fun t150 => (if t150 = true then ((billhooklaw10_web.f k l0 a1).bind fun t151 => (billhooklaw10_DomReach.l0 k l2 t150 t151 ([] : List Int) 0)) else (some false))
theorem billhooklaw10_DomReach.mono_l : ∀ k, (∀ y0 y1 y2, LeO (billhooklaw10_DomReach.j1 k y0 y1 y2) (billhooklaw10_DomReach.j1 (k + 1) y0 y1 y2)) ∧ (∀ y0 y1 y2 y3 y4, LeO (billhooklaw10_DomReach.l1 k y0 y1 y2 y3 y4) (billhooklaw10_DomReach.l1 (k + 1) y0 y1 y2 y3 y4)) ∧ (∀ y0 y1 y2 y3 y4 y5 y6, LeO (billhooklaw10_DomReach.l2 k y0 y1 y2 y3 y4 y5 y6) (billhooklaw10_DomReach.l2 (k + 1) y0 y1 y2 y3 y4 y5 y6)) ∧ (∀ y0 y1 y2 y3 y4 y5 y6, LeO (billhooklaw10_DomReach.l3 k y0 y1 y2 y3 y4 y5 y6) (billhooklaw10_DomReach.l3 (k + 1) y0 y1 y2 y3 y4 y5 y6)) ∧ (∀ y0 y1 y2 y3 y4 y5 y6 y7, LeO (billhooklaw10_DomReach.l4 k y0 y1 y2 y3 y4 y5 y6 y7) (billhooklaw10_DomReach.l4 (k + 1) y0 y1 y2 y3 y4 y5 y6 y7)) ∧ (∀ y0 y1 y2 y3 y4, LeO (billhooklaw10_DomReach.l0 k y0 y1 y2 y3 y4) (billhooklaw10_DomReach.l0 (k + 1) y0 y1 y2 y3 y4))
  | 0 => ⟨fun _ _ _ r h => by simp [billhooklaw10_DomReach.j1] at h, fun _ _ _ _ _ r h => by simp [billhooklaw10_DomReach.l1] at h, fun _ _ _ _ _ _ _ r h => by simp [billhooklaw10_DomReach.l2] at h, fun _ _ _ _ _ _ _ r h => by simp [billhooklaw10_DomReach.l3] at h, fun _ _ _ _ _ _ _ _ r h => by simp [billhooklaw10_DomReach.l4] at h, fun _ _ _ _ _ r h => by simp [billhooklaw10_DomReach.l0] at h⟩
  | k + 1 => by
    obtain ⟨ih0, ih1, ih2, ih3, ih4, ih5⟩ := billhooklaw10_DomReach.mono_l k
    refine ⟨?_, ?_, ?_, ?_, ?_, ?_⟩
    · intro y0 y1 y2
      unfold billhooklaw10_DomReach.j1
      repeat' first
      | (with_reducible exact ih0 _ _ _)
      | (with_reducible exact ih1 _ _ _ _ _)
      | (with_reducible exact ih2 _ _ _ _ _ _ _)
      | (with_reducible exact ih3 _ _ _ _ _ _ _)
      | (with_reducible exact ih4 _ _ _ _ _ _ _ _)
      | (with_reducible exact ih5 _ _ _ _ _)
      | (with_reducible exact billhooklaw10_web.mono _ _ _)
      | (with_reducible exact dom_Reach.mono _ _ _)
      | (with_reducible exact LeO.refl _)
      | (with_reducible exact LeO.none _)
      | (with_reducible refine LeO.ite ?_ ?_)
      | (with_reducible refine LeO.bind ?_ (fun _ => ?_))
      | exact ih0 _ _ _
      | exact ih1 _ _ _ _ _
      | exact ih2 _ _ _ _ _ _ _
      | exact ih3 _ _ _ _ _ _ _
      | exact ih4 _ _ _ _ _ _ _ _
      | exact ih5 _ _ _ _ _
      | exact billhooklaw10_web.mono _ _ _
      | exact dom_Reach.mono _ _ _
      | exact LeO.none _
      | refine LeO.ite ?_ ?_
      | refine LeO.bind ?_ (fun _ => ?_)
    · intro y0 y1 y2 y3 y4
      unfold billhooklaw10_DomReach.l1
      repeat' first
      | (with_reducible exact ih0 _ _ _)
      | (with_reducible exact ih1 _ _ _ _ _)
      | (with_reducible exact ih2 _ _ _ _ _ _ _)
      | (with_reducible exact ih3 _ _ _ _ _ _ _)
      | (with_reducible exact ih4 _ _ _ _ _ _ _ _)
      | (with_reducible exact ih5 _ _ _ _ _)
      | (with_reducible exact billhooklaw10_web.mono _ _ _)
      | (with_reducible exact dom_Reach.mono _ _ _)
      | (with_reducible exact LeO.refl _)
      | (with_reducible exact LeO.none _)
      | (with_reducible refine LeO.ite ?_ ?_)
      | (with_reducible refine LeO.bind ?_ (fun _ => ?_))
      | exact ih0 _ _ _
      | exact ih1 _ _ _ _ _
      | exact ih2 _ _ _ _ _ _ _
      | exact ih3 _ _ _ _ _ _ _
      | exact ih4 _ _ _ _ _ _ _ _
      | exact ih5 _ _ _ _ _
      | exact billhooklaw10_web.mono _ _ _
      | exact dom_Reach.mono _ _ _
      | exact LeO.none _
      | refine LeO.ite ?_ ?_
      | refine LeO.bind ?_ (fun _ => ?_)
    · intro y0 y1 y2 y3 y4 y5 y6
      unfold billhooklaw10_DomReach.l2
      repeat' first
      | (with_reducible exact ih0 _ _ _)
      | (with_reducible exact ih1 _ _ _ _ _)
      | (with_reducible exact ih2 _ _ _ _ _ _ _)
      | (with_reducible exact ih3 _ _ _ _ _ _ _)
      | (with_reducible exact ih4 _ _ _ _ _ _ _ _)
      | (with_reducible exact ih5 _ _ _ _ _)
      | (with_reducible exact billhooklaw10_web.mono _ _ _)
      | (with_reducible exact dom_Reach.mono _ _ _)
      | (with_reducible exact LeO.refl _)
      | (with_reducible exact LeO.none _)
      | (with_reducible refine LeO.ite ?_ ?_)
      | (with_reducible refine LeO.bind ?_ (fun _ => ?_))
      | exact ih0 _ _ _
      | exact ih1 _ _ _ _ _
      | exact ih2 _ _ _ _ _ _ _
      | exact ih3 _ _ _ _ _ _ _
      | exact ih4 _ _ _ _ _ _ _ _
      | exact ih5 _ _ _ _ _
      | exact billhooklaw10_web.mono _ _ _
      | exact dom_Reach.mono _ _ _
      | exact LeO.none _
      | refine LeO.ite ?_ ?_
      | refine LeO.bind ?_ (fun _ => ?_)
    · intro y0 y1 y2 y3 y4 y5 y6
      unfold billhooklaw10_DomReach.l3
      repeat' first
      | (with_reducible exact ih0 _ _ _)
      | (with_reducible exact ih1 _ _ _ _ _)
      | (with_reducible exact ih2 _ _ _ _ _ _ _)
      | (with_reducible exact ih3 _ _ _ _ _ _ _)
      | (with_reducible exact ih4 _ _ _ _ _ _ _ _)
      | (with_reducible exact ih5 _ _ _ _ _)
      | (with_reducible exact billhooklaw10_web.mono _ _ _)
      | (with_reducible exact dom_Reach.mono _ _ _)
      | (with_reducible exact LeO.refl _)
      | (with_reducible exact LeO.none _)
      | (with_reducible refine LeO.ite ?_ ?_)
      | (with_reducible refine LeO.bind ?_ (fun _ => ?_))
      | exact ih0 _ _ _
      | exact ih1 _ _ _ _ _
      | exact ih2 _ _ _ _ _ _ _
      | exact ih3 _ _ _ _ _ _ _
      | exact ih4 _ _ _ _ _ _ _ _
      | exact ih5 _ _ _ _ _
      | exact billhooklaw10_web.mono _ _ _
      | exact dom_Reach.mono _ _ _
      | exact LeO.none _
      | refine LeO.ite ?_ ?_
      | refine LeO.bind ?_ (fun _ => ?_)
    · intro y0 y1 y2 y3 y4 y5 y6 y7
      unfold billhooklaw10_DomReach.l4
      repeat' first
      | (with_reducible exact ih0 _ _ _)
      | (with_reducible exact ih1 _ _ _ _ _)
      | (with_reducible exact ih2 _ _ _ _ _ _ _)
      | (with_reducible exact ih3 _ _ _ _ _ _ _)
      | (with_reducible exact ih4 _ _ _ _ _ _ _ _)
      | (with_reducible exact ih5 _ _ _ _ _)
      | (with_reducible exact billhooklaw10_web.mono _ _ _)
      | (with_reducible exact dom_Reach.mono _ _ _)
      | (with_reducible exact LeO.refl _)
      | (with_reducible exact LeO.none _)
      | (with_reducible refine LeO.ite ?_ ?_)
      | (with_reducible refine LeO.bind ?_ (fun _ => ?_))
      | exact ih0 _ _ _
      | exact ih1 _ _ _ _ _
      | exact ih2 _ _ _ _ _ _ _
      | exact ih3 _ _ _ _ _ _ _
      | exact ih4 _ _ _ _ _ _ _ _
      | exact ih5 _ _ _ _ _
      | exact billhooklaw10_web.mono _ _ _
      | exact dom_Reach.mono _ _ _
      | exact LeO.none _
      | refine LeO.ite ?_ ?_
      | refine LeO.bind ?_ (fun _ => ?_)
    · intro y0 y1 y2 y3 y4
      unfold billhooklaw10_DomReach.l0
      repeat' first
      | (with_reducible exact ih0 _ _ _)
      | (with_reducible exact ih1 _ _ _ _ _)
      | (with_reducible exact ih2 _ _ _ _ _ _ _)
      | (with_reducible exact ih3 _ _ _ _ _ _ _)
      | (with_reducible exact ih4 _ _ _ _ _ _ _ _)
      | (with_reducible exact ih5 _ _ _ _ _)
      | (with_reducible exact billhooklaw10_web.mono _ _ _)
      | (with_reducible exact dom_Reach.mono _ _ _)
      | (with_reducible exact LeO.refl _)
      | (with_reducible exact LeO.none _)
      | (with_reducible refine LeO.ite ?_ ?_)
      | (with_reducible refine LeO.bind ?_ (fun _ => ?_))
      | exact ih0 _ _ _
      | exact ih1 _ _ _ _ _
      | exact ih2 _ _ _ _ _ _ _
      | exact ih3 _ _ _ _ _ _ _
      | exact ih4 _ _ _ _ _ _ _ _
      | exact ih5 _ _ _ _ _
      | exact billhooklaw10_web.mono _ _ _
      | exact dom_Reach.mono _ _ _
      | exact LeO.none _
      | refine LeO.ite ?_ ?_
      | refine LeO.bind ?_ (fun _ => ?_)
theorem billhooklaw10_DomReach.mono : ∀ a0 a1 a2 k, LeO (billhooklaw10_DomReach.f k a0 a1 a2) (billhooklaw10_DomReach.f (k + 1) a0 a1 a2) := by
  intro a0 a1 a2 k
  obtain ⟨ih0, ih1, ih2, ih3, ih4, ih5⟩ := billhooklaw10_DomReach.mono_l k
  unfold billhooklaw10_DomReach.f
  repeat' first
      | (with_reducible exact ih0 _ _ _)
      | (with_reducible exact ih1 _ _ _ _ _)
      | (with_reducible exact ih2 _ _ _ _ _ _ _)
      | (with_reducible exact ih3 _ _ _ _ _ _ _)
      | (with_reducible exact ih4 _ _ _ _ _ _ _ _)
      | (with_reducible exact ih5 _ _ _ _ _)
      | (with_reducible exact billhooklaw10_web.mono _ _ _)
      | (with_reducible exact dom_Reach.mono _ _ _)
      | (with_reducible exact LeO.refl _)
      | (with_reducible exact LeO.none _)
      | (with_reducible refine LeO.ite ?_ ?_)
      | (with_reducible refine LeO.bind ?_ (fun _ => ?_))
      | exact ih0 _ _ _
      | exact ih1 _ _ _ _ _
      | exact ih2 _ _ _ _ _ _ _
      | exact ih3 _ _ _ _ _ _ _
      | exact ih4 _ _ _ _ _ _ _ _
      | exact ih5 _ _ _ _ _
      | exact billhooklaw10_web.mono _ _ _
      | exact dom_Reach.mono _ _ _
      | exact LeO.none _
      | refine LeO.ite ?_ ?_
      | refine LeO.bind ?_ (fun _ => ?_)
set_option maxHeartbeats 8000000 in
set_option maxRecDepth 100000 in
theorem billhooklaw10_DomReach.calls (k : Nat) (A0 : Option Addr) (c0 : Nat) (l0 : List Int) (a1 : Int) (A2 : Option Addr) (c2 : Nat) (l2 : List Int) (r : Bool) (w : World) (hr0 : Kd.C (Kd.int .u8) w A0 l0.length l0) (hc0 : l0.length ≤ c0) (hr2 : Kd.C (Kd.int .u8) w A2 l2.length l2) (hc2 : l2.length ≤ c2) (h : billhooklaw10_DomReach.f k l0 a1 l2 = some r) :
    Calls Try.prog 9 #[.slice A0 l0.length c0, .int .u8 a1, .slice A2 l2.length c2] w fun e w' => e = .returned (.bool r) ∧ Below w.heap.size w w' := by
  have HR0 := Aside0.mk hr0
  have HC0 := Aside0.mk hc0
  clear hr0 hc0
  have HR2 := Aside0.mk hr2
  have HC2 := Aside0.mk hc2
  clear hr2 hc2
  have HB := Aside0.mk (Below.refl w.heap.size w)
  have H : ((billhooklaw10_examples.f).bind fun t150 => (if t150 = true then ((billhooklaw10_web.f k l0 a1).bind fun t151 => (billhooklaw10_DomReach.l0 k l2 t150 t151 ([] : List Int) 0)) else (some false))) = some r := h
  clear h
  replace H := Option.bind_eq_some_iff.mp H
  obtain ⟨t150, A40, H⟩ := H
  replace H : (if t150 = true then ((billhooklaw10_web.f k l0 a1).bind fun t151 => (billhooklaw10_DomReach.l0 k l2 t150 t151 ([] : List Int) 0)) else (some false)) = some r := H
  have A4 := Aside0.mk A40
  clear A40
  by_cases c5 : t150 = true
  · subst c5
    have H1 : ((billhooklaw10_web.f k l0 a1).bind fun t151 => (billhooklaw10_DomReach.l0 k l2 true t151 ([] : List Int) 0)) = some r := by first | (rw [if_pos rfl] at H; exact H) | (rw [if_pos trivial] at H; exact H)
    clear H
    have H := H1
    clear H1
    replace H := Option.bind_eq_some_iff.mp H
    obtain ⟨t151, A60, H⟩ := H
    replace H : (billhooklaw10_DomReach.l0 k l2 true t151 ([] : List Int) 0) = some r := H
    have A6 := Aside0.mk A60
    clear A60
    have HC7 := Aside0.mk H
    clear H
    go_enter Try.func9, Try.ntmps9
    go_upto_block 0 with (first | ((with_reducible refine gate_callee (f := 26) rfl ?_); refine goesL_ (some 17) rfl rfl Try.func26 (by kernel_rfl) rfl #[] rfl (by (try simp only [List.map_toArray, List.map_cons, List.map_nil]); first | done | rfl | (simp only [List.length_drop, List.length_take]; rfl)) ?_; (with_reducible refine (billhooklaw10_examples.calls  true _ A4.out).mono ?_); rintro e w8 ⟨rfl, hb⟩; refine ⟨_, rfl, ?_⟩; have n0_ := Aside0.mk (below_step (by repeat (first | (with_reducible first | exact HB.out | apply below_alloc | apply pw_below_drewN | apply below_drew1) | exact HB.out)) hb); clear HB; have HB := n0_; clear n0_; (try clear hb); (try clear hb2); (try clear hk); (try clear hi)) | ((with_reducible refine gate_callee (f := 27) rfl ?_); refine goesL_ (some 22) rfl rfl Try.func27 (by kernel_rfl) rfl #[.slice A0 l0.length c0, .int .u8 a1] rfl (by (try simp only [List.map_toArray, List.map_cons, List.map_nil]); first | done | rfl | (simp only [List.length_drop, List.length_take]; rfl)) ?_; (with_reducible refine (billhooklaw10_web.calls k _ _ l0 a1 t151 _ ?side1 ?side2 A6.out).mono ?_); (case side1 => repeat (first | exact (Kd.C_below HR0.out HB.out) | (with_reducible refine Kd.C_alloc ?_ _) | (with_reducible refine Kd.C_drewN ?_ _) | (with_reducible refine Kd.C_drew ?_))); (case side2 => exact HC0.out); rintro e w9 ⟨v152, rfl, ho0, hb⟩; refine ⟨_, rfl, ?_⟩; have n0_ := Aside0.mk (Kd.S_lower ho0 (below_size (by repeat (first | (with_reducible first | exact HB.out | apply below_alloc | apply pw_below_drewN | apply below_drew1) | exact HB.out)))); have n1_ := Aside0.mk (below_step (by repeat (first | (with_reducible first | exact HB.out | apply below_alloc | apply pw_below_drewN | apply below_drew1) | exact HB.out)) hb); clear HB; have HO153 := n0_; have HB := n1_; clear n0_ n1_; (try clear hb); (try clear hb2); (try clear hk); (try clear hi); (try clear ho0)))
    (try simp only [Act.put, List.setIfInBounds_toArray, List.set_cons_zero, List.set_cons_succ])
    go_cut [9] (fun v9 wc => ∃ (kq : Nat) (x9_6 : List Int), Aside0 (billhooklaw10_DomReach.j1 kq true t151 x9_6 = some r) ∧ Aside0 (kq ≤ k) ∧ Aside0 (Kd.S (Kd.slice 3 (Kd.int .i64)) 54 wc w.heap.size (fun k_ => some k_ ≠ (v9 : Value).ownBlock) v152 t151) ∧ Aside0 (Kd.R (Kd.int .i64) 3 wc w.heap.size (fun _ => True) v9 x9_6) ∧ Aside0 (Below w.heap.size w wc))
    case first =>
      have H := HC7.out
      clear HC7
      have H' := Aside0.mk H
      clear H
      go_wp2
      go_loopg [9, 10] k (fun kq v9 v10 w' => ∃ (x9_1 : List Int) (x10_1 : Int), v10 = .int .i64 x10_1 ∧ Aside0 (billhooklaw10_DomReach.l0 kq l2 true t151 x9_1 x10_1 = some r) ∧ Aside0 (kq ≤ k) ∧ Aside0 (Kd.S (Kd.slice 3 (Kd.int .i64)) 54 w' w.heap.size (fun k_ => some k_ ≠ (v9 : Value).ownBlock) v152 t151) ∧ Aside0 (Kd.R (Kd.int .i64) 3 w' w.heap.size (fun _ => True) v9 x9_1) ∧ Aside0 (Below w.heap.size w w'))
      case atStart => exact ⟨(([] : List Int)), (0), (by first | rfl | (simp; done) | (simp [*]; done)), H', ⟨Nat.le_refl _⟩, ⟨by (with_reducible repeat (first | apply Kd.S_alloc | apply Kd.S_drewN | apply Kd.S_drew)); exact Kd.S_mono HO153.out (fun _ hk => (by simp [Value.ownBlock]))⟩, ⟨by first | exact Kd.R_nil _ _ _ _ _ | exact Kd.N_nil _ _ _ _ _ | exact Kd.V_nil _ _ _ _ _ | exact Kd.Q_nil _ _ _ _ _ | exact Kd.S_nil _ _ _ _ _⟩, ⟨by repeat (first | (with_reducible first | exact HB.out | apply below_alloc | apply pw_below_drewN | apply below_drew1) | exact HB.out)⟩⟩
      case round =>
        clear H'
        try clear c2
        try clear p2
        try clear c5
        try clear c9
        obtain ⟨x9_1, x10_1, rfl, HA, HK1, HO_8, HO_9, HB⟩ := hrel
        cases gk with
        | zero => exact absurd HA.out (by simp [billhooklaw10_DomReach.l0])
        | succ k1 =>
          have H := HA.out
          clear HA
          simp only [billhooklaw10_DomReach.l0] at H
          by_cases c10 : x10_1 < (l2.length : Int)
          · rw [if_pos c10] at H
            have c10b0 : decide (x10_1 < (l2.length : Int)) = true := decide_eq_true c10
            clear c10
            (first | rw [c10b0] | (simp only [i64_w, i32_w]; rw [c10b0]) | skip)
            by_cases c11 : x10_1 < 4
            · rw [if_pos c11] at H
              have c11b0 : decide (x10_1 < 4) = true := decide_eq_true c11
              clear c11
              by_cases c12 : 0 ≤ x10_1
              · rw [if_pos c12] at H
                have c12b0 : decide (0 ≤ x10_1) = true := decide_eq_true c12
                clear c12
                by_cases c13 : (wrap64 ((t151.length : Int) + 2)) = 0
                · rw [if_pos c13] at H
                  exact absurd H (by simp)
                · rw [if_neg c13] at H
                  have c13b0 : ((wrap64 ((t151.length : Int) + 2)) == 0) = false := beq_eq_false_iff_ne.mpr c13
                  have c13b1 : ((wrap64 ((t151.length : Int) + 2)) != 0) = true := bne_iff_ne.mpr c13
                  by_cases c14 : x9_1.length < 17592186044416
                  · rw [if_pos c14] at H
                    have LMc14 := Aside0.mk c14
                    clear c14
                    obtain ⟨y155, hy155⟩ : ∃ y_ : List Int, y_ = (x9_1 ++ [wrap64 ((Int.tmod (wrap64 (rd l2 x10_1)) (wrap64 ((t151.length : Int) + 2))) - 1)]) := ⟨_, rfl⟩
                    replace H : (billhooklaw10_DomReach.l0 k1 l2 true t151 y155 (wrap64 (x10_1 + 1))) = some r := by first | (rw [hy155]; with_reducible exact H) | (have H2_ := (Option.bind_some _ _).symm.trans H; rw [hy155]; with_reducible exact H2_) | (have H2_ := (Option.bind_some _ _).symm.trans H; with_reducible exact H2_) | with_reducible exact H | (rw [hy155]; exact H) | exact H
                    have Ny155 := Aside0.mk hy155
                    clear hy155
                    have H' := Aside0.mk H
                    clear H
                    have p154 : 0 ≤ (x10_1 : Int) := of_decide_eq_true (by first | (with_reducible assumption) | assumption)
                    have q154 : x10_1 < (l2.length : Int) := of_decide_eq_true (by first | (with_reducible assumption) | assumption)
                    obtain ⟨ad154, e154, hx154_0⟩ := Kd.at_int HR2.out x10_1 p154 q154
                    cases e154
                    (try replace hx154_0 := (HB.out.cell (World.block_lt_of_cell? w _ hx154_0)).trans hx154_0)
                    replace p154 := eq_true p154
                    replace q154 := eq_true q154
                    obtain ⟨Ao15, co15, eo15⟩ := Kd.S_slice HO_8.out
                    subst eo15
                    go_wp2_with (first | ((with_reducible refine gate_builtin (b := .append) (xs := #[.tmp 33, .tmp 44]) rfl ?_); at_builtin; refine Kd.R_append (Kd.int .i64) (w0 := w) w.heap.size rfl (.tmp 33) (.tmp 44) 54 3 (.int .i64 0) 8 rfl Try.underlying54 info3 rfl (by decide) (by omega) u9 x9_1 (wrap64 ((Int.tmod (wrap64 (rd l2 x10_1)) (wrap64 ((t151.length : Int) + 2))) - 1)) [.int .i64 (wrap64 ((Int.tmod (wrap64 (rd l2 x10_1)) (wrap64 ((t151.length : Int) + 2))) - 1))] (fun _ => True) (fun _ => False) rfl rfl ?aP (fun _ hk => hk.elim) ?aF ?aO ?aB ?aS ?aL ?_; (case aP => first | exact rfl | exact ⟨_, rfl, Kd.R_nil _ _ _ _ _⟩); (case aB => exact (by repeat (first | (with_reducible first | exact HB.out | apply below_alloc | apply pw_below_drewN | apply below_drew1) | exact HB.out))); (case aF => exact (fun _ _ => trivial)); (case aO => exact (by (with_reducible repeat (first | apply Kd.R_alloc | apply Kd.R_drewN | apply Kd.R_drew)); exact HO_9.out)); (case aS => exact (below_size (by repeat (first | (with_reducible first | exact HB.out | apply below_alloc | apply pw_below_drewN | apply below_drew1) | exact HB.out)))); (case aL => have := LMc14.out; omega); intro v156 w16 ho hb hg hat; rw [← Ny155.out] at ho; have n0_ := Aside0.mk (Kd.S_after (ok := (fun _ => True)) (by (with_reducible repeat (first | apply Kd.S_alloc | apply Kd.S_drewN | apply Kd.S_drew)); exact Kd.S_mono HO_8.out (fun _ hk => ⟨trivial, hk⟩)) hg hat); have n1_ := Aside0.mk (hb); have n2_ := Aside0.mk (ho); clear HO_8; clear HB; clear HO_9; have HO_8 := n0_; have HB := n1_; have HO157 := n2_; clear n0_ n1_ n2_; clear ho hb hg hat))
                    go_roundg k1
                    case measure => have := HK1.out; omega
                    case rel => exact ⟨(y155), (wrap64 (x10_1 + 1)), (by first | rfl | (simp; done) | (simp [*]; done)), H', ⟨by have := HK1.out; omega⟩, ⟨by (with_reducible repeat (first | apply Kd.S_alloc | apply Kd.S_drewN | apply Kd.S_drew)); exact Kd.S_mono HO_8.out (fun _ hk => hk.2)⟩, ⟨by (with_reducible repeat (first | apply Kd.R_alloc | apply Kd.R_drewN | apply Kd.R_drew)); exact HO157.out⟩, ⟨by repeat (first | (with_reducible first | exact HB.out | apply below_alloc | apply pw_below_drewN | apply below_drew1) | exact HB.out)⟩⟩
                  · rw [if_neg c14] at H
                    exact absurd H (by simp)
              · rw [if_neg c12] at H
                exact absurd H (by simp)
            · rw [if_neg c11] at H
              have c11b0 : decide (x10_1 < 4) = false := decide_eq_false c11
              clear c11
              have H' := Aside0.mk H
              clear H
              go_wp2
              go_meet
              case rel => exact ⟨_, (x9_1), H', ⟨by have := HK1.out; first | omega | exact Nat.le_refl _⟩, ⟨by (with_reducible repeat (first | apply Kd.S_alloc | apply Kd.S_drewN | apply Kd.S_drew)); exact HO_8.out⟩, ⟨by (with_reducible repeat (first | apply Kd.R_alloc | apply Kd.R_drewN | apply Kd.R_drew)); exact HO_9.out⟩, ⟨by repeat (first | (with_reducible first | exact HB.out | apply below_alloc | apply pw_below_drewN | apply below_drew1) | exact HB.out)⟩⟩
          · rw [if_neg c10] at H
            have c10b0 : decide (x10_1 < (l2.length : Int)) = false := decide_eq_false c10
            clear c10
            (first | rw [c10b0] | (simp only [i64_w, i32_w]; rw [c10b0]) | skip)
            have H' := Aside0.mk H
            clear H
            go_wp2
            go_meet
            case rel => exact ⟨_, (x9_1), H', ⟨by have := HK1.out; first | omega | exact Nat.le_refl _⟩, ⟨by (with_reducible repeat (first | apply Kd.S_alloc | apply Kd.S_drewN | apply Kd.S_drew)); exact HO_8.out⟩, ⟨by (with_reducible repeat (first | apply Kd.R_alloc | apply Kd.R_drewN | apply Kd.R_drew)); exact HO_9.out⟩, ⟨by repeat (first | (with_reducible first | exact HB.out | apply below_alloc | apply pw_below_drewN | apply below_drew1) | exact HB.out)⟩⟩
    case rest =>
      clear HC7
      try clear c1
      try clear p1
      try clear q1
      try clear hx1
      try clear c2
      try clear p2
      try clear c5
      try clear p6
      try clear c9
      try clear c10
      try clear c10b0
      try clear c11
      try clear c11b0
      try clear c12
      try clear c12b0
      try clear c13
      try clear c13b0
      try clear c13b1
      try clear c14
      try clear p15
      try clear q15
      try clear hx15
      try clear hx154_0
      try clear p154
      try clear p2
      try clear q154
      obtain ⟨kq, x9_6, HA, HJ6, HO_8, HO_9, HB⟩ := hcut
      cases kq with
      | zero => exact absurd HA.out (by simp [billhooklaw10_DomReach.j1])
      | succ kj6 =>
        have H := HA.out
        clear HA
        simp only [billhooklaw10_DomReach.j1] at H
        replace H := Option.bind_eq_some_iff.mp H
        obtain ⟨t158, A170, H⟩ := H
        replace H : (if (t158.length : Int) = (t151.length : Int) then (billhooklaw10_DomReach.l1 kj6 true t151 x9_6 t158 0) else (some false)) = some r := H
        have A17 := Aside0.mk A170
        clear A170
        by_cases c18 : (t158.length : Int) = (t151.length : Int)
        · rw [if_pos c18] at H
          have c18b0 : ((t158.length : Int) == (t151.length : Int)) = true := beq_iff_eq.mpr c18
          have c18b1 : ((t158.length : Int) != (t151.length : Int)) = false := bne_eq_false_iff_eq.mpr c18
          have c18b2 : (t158.length == t151.length) = true := by first | simpa using c18 | (simp at c18 ⊢; omega)
          clear c18
          have H' := Aside0.mk H
          clear H
          obtain ⟨Ao19, co19, eo19⟩ := Kd.S_slice HO_8.out
          subst eo19
          obtain ⟨Ao20, co20, eo20⟩ := Kd.R_slice HO_9.out
          subst eo20
          go_wp2_with (first | ((with_reducible refine gate_callee (f := 29) rfl ?_); refine goesL_ (some 48) rfl rfl Try.func29 (by kernel_rfl) rfl #[.slice Ao19 t151.length co19, .slice Ao20 x9_6.length co20] rfl (by (try simp only [List.map_toArray, List.map_cons, List.map_nil]); first | done | rfl | (simp only [List.length_drop, List.length_take]; rfl)) ?_; (with_reducible refine (dom_Reach.calls kj6 _ _ t151 _ _ x9_6 t158 _ ?side1 ?side2 ?side3 ?side4 A17.out).mono ?_); (case side1 => repeat (first | exact (Kd.S_reads' HO_8.out).2.2 | (with_reducible refine Kd.C_alloc ?_ _) | (with_reducible refine Kd.C_drewN ?_ _) | (with_reducible refine Kd.C_drew ?_))); (case side2 => exact (Kd.S_reads' HO_8.out).2.1); (case side3 => repeat (first | exact (Kd.R_reads' HO_9.out).2.2 | (with_reducible refine Kd.C_alloc ?_ _) | (with_reducible refine Kd.C_drewN ?_ _) | (with_reducible refine Kd.C_drew ?_))); (case side4 => exact (Kd.R_reads' HO_9.out).2.1); rintro e w21 ⟨v159, rfl, ho0, hb⟩; refine ⟨_, rfl, ?_⟩; have n0_ := Aside0.mk (Kd.S_below (by (with_reducible repeat (first | apply Kd.S_alloc | apply Kd.S_drewN | apply Kd.S_drew)); exact HO_8.out) hb); have n1_ := Aside0.mk (Kd.R_below (by (with_reducible repeat (first | apply Kd.R_alloc | apply Kd.R_drewN | apply Kd.R_drew)); exact HO_9.out) hb); have n2_ := Aside0.mk (Kd.R_lower ho0 (below_size (by repeat (first | (with_reducible first | exact HB.out | apply below_alloc | apply pw_below_drewN | apply below_drew1) | exact HB.out)))); have n3_ := Aside0.mk (below_step (by repeat (first | (with_reducible first | exact HB.out | apply below_alloc | apply pw_below_drewN | apply below_drew1) | exact HB.out)) hb); clear HO_8; clear HO_9; clear HB; have HO_8 := n0_; have HO_9 := n1_; have HO160 := n2_; have HB := n3_; clear n0_ n1_ n2_ n3_; (try clear hb); (try clear hb2); (try clear hk); (try clear hi); (try clear ho0); obtain ⟨Ao22, co22, eo22⟩ := Kd.R_slice HO160.out; subst eo22))
          go_loopg [12] kj6 (fun kq v12 w' => ∃ (x12_2 : Int), v12 = .int .i64 x12_2 ∧ Aside0 (billhooklaw10_DomReach.l1 kq true t151 x9_6 t158 x12_2 = some r) ∧ Aside0 (kq ≤ kj6) ∧ Aside0 (Kd.S (Kd.slice 3 (Kd.int .i64)) 54 w' w.heap.size (fun k_ => some k_ ≠ ((.slice Ao20 x9_6.length co20) : Value).ownBlock) (.slice Ao19 t151.length co19) t151) ∧ Aside0 (Kd.R (Kd.int .i64) 3 w' w.heap.size (fun _ => True) (.slice Ao20 x9_6.length co20) x9_6) ∧ Aside0 (Kd.R Kd.bool 4 w' w.heap.size (fun _ => True) (.slice Ao22 t158.length co22) t158) ∧ Aside0 (Below w.heap.size w w'))
          case atStart => exact ⟨(0), (by first | rfl | (simp; done) | (simp [*]; done)), H', ⟨Nat.le_refl _⟩, ⟨by (with_reducible repeat (first | apply Kd.S_alloc | apply Kd.S_drewN | apply Kd.S_drew)); exact HO_8.out⟩, ⟨by (with_reducible repeat (first | apply Kd.R_alloc | apply Kd.R_drewN | apply Kd.R_drew)); exact HO_9.out⟩, ⟨by (with_reducible repeat (first | apply Kd.R_alloc | apply Kd.R_drewN | apply Kd.R_drew)); exact HO160.out⟩, ⟨by repeat (first | (with_reducible first | exact HB.out | apply below_alloc | apply pw_below_drewN | apply below_drew1) | exact HB.out)⟩⟩
          case round =>
            clear H'
            try clear c1
            try clear p1
            try clear q1
            try clear hx1
            try clear c2
            try clear p2
            try clear c5
            try clear p6
            try clear c9
            try clear c10
            try clear c10b0
            try clear c11
            try clear c11b0
            try clear c12
            try clear c12b0
            try clear c13
            try clear c13b0
            try clear c13b1
            try clear c14
            try clear p15
            try clear q15
            try clear hx15
            try clear c18
            try clear c18b0
            try clear c18b1
            try clear c18b2
            try clear hx154_0
            try clear p1
            try clear p15
            try clear p154
            try clear p2
            try clear p6
            try clear q1
            try clear q15
            try clear q154
            obtain ⟨x12_2, rfl, HA, HK2, HO_8, HO_9, HO_11, HB⟩ := hrel
            cases gk with
            | zero => exact absurd HA.out (by simp [billhooklaw10_DomReach.l1])
            | succ k2 =>
              have H := HA.out
              clear HA
              simp only [billhooklaw10_DomReach.l1] at H
              by_cases c23 : x12_2 < (t158.length : Int)
              · rw [if_pos c23] at H
                have c23b0 : decide (x12_2 < (t158.length : Int)) = true := decide_eq_true c23
                clear c23
                have H' := Aside0.mk H
                clear H
                go_wp2
                go_loopg [13, 14] k2 (fun kq v13 v14 w' => ∃ (x13_3 : Bool) (x14_3 : Int), v13 = .bool x13_3 ∧ v14 = .int .i64 x14_3 ∧ Aside0 (billhooklaw10_DomReach.l2 kq true t151 x9_6 t158 x12_2 x13_3 x14_3 = some r) ∧ Aside0 (kq ≤ k2) ∧ Aside0 (Kd.S (Kd.slice 3 (Kd.int .i64)) 54 w' w.heap.size (fun k_ => some k_ ≠ ((.slice Ao20 x9_6.length co20) : Value).ownBlock) (.slice Ao19 t151.length co19) t151) ∧ Aside0 (Kd.R (Kd.int .i64) 3 w' w.heap.size (fun _ => True) (.slice Ao20 x9_6.length co20) x9_6) ∧ Aside0 (Kd.R Kd.bool 4 w' w.heap.size (fun _ => True) (.slice Ao22 t158.length co22) t158) ∧ Aside0 (Below w.heap.size w w'))
                case atStart => exact ⟨(false), (0), (by first | rfl | (simp; done) | (simp [*]; done)), (by first | rfl | (simp; done) | (simp [*]; done)), H', ⟨Nat.le_refl _⟩, ⟨by (with_reducible repeat (first | apply Kd.S_alloc | apply Kd.S_drewN | apply Kd.S_drew)); exact HO_8.out⟩, ⟨by (with_reducible repeat (first | apply Kd.R_alloc | apply Kd.R_drewN | apply Kd.R_drew)); exact HO_9.out⟩, ⟨by (with_reducible repeat (first | apply Kd.R_alloc | apply Kd.R_drewN | apply Kd.R_drew)); exact HO_11.out⟩, ⟨by repeat (first | (with_reducible first | exact HB.out | apply below_alloc | apply pw_below_drewN | apply below_drew1) | exact HB.out)⟩⟩
                case round =>
                  clear H'
                  try clear c1
                  try clear p1
                  try clear q1
                  try clear hx1
                  try clear c2
                  try clear p2
                  try clear c5
                  try clear p6
                  try clear c9
                  try clear c10
                  try clear c10b0
                  try clear c11
                  try clear c11b0
                  try clear c12
                  try clear c12b0
                  try clear c13
                  try clear c13b0
                  try clear c13b1
                  try clear c14
                  try clear p15
                  try clear q15
                  try clear hx15
                  try clear c18
                  try clear c18b0
                  try clear c18b1
                  try clear c18b2
                  try clear c23
                  try clear c23b0
                  try clear hx154_0
                  try clear p1
                  try clear p15
                  try clear p154
                  try clear p2
                  try clear p6
                  try clear q1
                  try clear q15
                  try clear q154
                  obtain ⟨x13_3, x14_3, rfl, rfl, HA, HK3, HO_8, HO_9, HO_11, HB⟩ := hrel
                  cases gk with
                  | zero => exact absurd HA.out (by simp [billhooklaw10_DomReach.l2])
                  | succ k3 =>
                    have H := HA.out
                    clear HA
                    simp only [billhooklaw10_DomReach.l2] at H
                    by_cases c24 : x14_3 < (x9_6.length : Int)
                    · rw [if_pos c24] at H
                      have c24b0 : decide (x14_3 < (x9_6.length : Int)) = true := decide_eq_true c24
                      clear c24
                      by_cases c25 : x13_3 = true
                      · subst c25
                        have H1 : (billhooklaw10_DomReach.l2 k3 true t151 x9_6 t158 x12_2 true (wrap64 (x14_3 + 1))) = some r := by first | (rw [if_pos rfl] at H; exact H) | (rw [if_pos trivial] at H; exact H)
                        clear H
                        have H := H1
                        clear H1
                        have H' := Aside0.mk H
                        clear H
                        go_wp2
                        go_roundg k3
                        case measure => have := HJ6.out; have := HK2.out; have := HK3.out; omega
                        case rel => exact ⟨(true), (wrap64 (x14_3 + 1)), (by first | rfl | (simp; done) | (simp [*]; done)), (by first | rfl | (simp; done) | (simp [*]; done)), H', ⟨by have := HJ6.out; have := HK2.out; have := HK3.out; omega⟩, ⟨by (with_reducible repeat (first | apply Kd.S_alloc | apply Kd.S_drewN | apply Kd.S_drew)); exact HO_8.out⟩, ⟨by (with_reducible repeat (first | apply Kd.R_alloc | apply Kd.R_drewN | apply Kd.R_drew)); exact HO_9.out⟩, ⟨by (with_reducible repeat (first | apply Kd.R_alloc | apply Kd.R_drewN | apply Kd.R_drew)); exact HO_11.out⟩, ⟨by repeat (first | (with_reducible first | exact HB.out | apply below_alloc | apply pw_below_drewN | apply below_drew1) | exact HB.out)⟩⟩
                      · replace c25 := Bool.eq_false_iff.mpr c25
                        subst c25
                        have H1 : (if 0 ≤ x14_3 then (billhooklaw10_DomReach.l2 k3 true t151 x9_6 t158 x12_2 ((rd x9_6 x14_3) == x12_2) (wrap64 (x14_3 + 1))) else (none)) = some r := by rw [if_neg (show ¬ (false = true) by decide)] at H; exact H
                        clear H
                        have H := H1
                        clear H1
                        by_cases c26 : 0 ≤ x14_3
                        · rw [if_pos c26] at H
                          have c26b0 : decide (0 ≤ x14_3) = true := decide_eq_true c26
                          clear c26
                          have H' := Aside0.mk H
                          clear H
                          have p161 : 0 ≤ (x14_3 : Int) := of_decide_eq_true (by first | (with_reducible assumption) | assumption)
                          have q161 : x14_3 < (x9_6.length : Int) := of_decide_eq_true (by first | (with_reducible assumption) | assumption)
                          obtain ⟨ad161, e161, hx161_0⟩ := Kd.at_int (Kd.R_reads' HO_9.out).2.2 x14_3 p161 q161
                          cases e161
                          replace p161 := eq_true p161
                          replace q161 := eq_true q161
                          go_wp2
                          go_roundg k3
                          case measure => have := HJ6.out; have := HK2.out; have := HK3.out; omega
                          case rel => exact ⟨(((rd x9_6 x14_3) == x12_2)), (wrap64 (x14_3 + 1)), (by first | rfl | (simp; done) | (simp [*]; done)), (by first | rfl | (simp; done) | (simp [*]; done)), H', ⟨by have := HJ6.out; have := HK2.out; have := HK3.out; omega⟩, ⟨by (with_reducible repeat (first | apply Kd.S_alloc | apply Kd.S_drewN | apply Kd.S_drew)); exact HO_8.out⟩, ⟨by (with_reducible repeat (first | apply Kd.R_alloc | apply Kd.R_drewN | apply Kd.R_drew)); exact HO_9.out⟩, ⟨by (with_reducible repeat (first | apply Kd.R_alloc | apply Kd.R_drewN | apply Kd.R_drew)); exact HO_11.out⟩, ⟨by repeat (first | (with_reducible first | exact HB.out | apply below_alloc | apply pw_below_drewN | apply below_drew1) | exact HB.out)⟩⟩
                        · rw [if_neg c26] at H
                          exact absurd H (by simp)
                    · rw [if_neg c24] at H
                      have c24b0 : decide (x14_3 < (x9_6.length : Int)) = false := decide_eq_false c24
                      clear c24
                      have H' := Aside0.mk H
                      clear H
                      go_wp2
                      go_loopg [13, 15] k3 (fun kq v13 v15 w' => ∃ (x13_4 : Bool) (x15_4 : Int), v13 = .bool x13_4 ∧ v15 = .int .i64 x15_4 ∧ Aside0 (billhooklaw10_DomReach.l3 kq true t151 x9_6 t158 x12_2 x13_4 x15_4 = some r) ∧ Aside0 (kq ≤ k3) ∧ Aside0 (Kd.S (Kd.slice 3 (Kd.int .i64)) 54 w' w.heap.size (fun k_ => some k_ ≠ ((.slice Ao20 x9_6.length co20) : Value).ownBlock) (.slice Ao19 t151.length co19) t151) ∧ Aside0 (Kd.R (Kd.int .i64) 3 w' w.heap.size (fun _ => True) (.slice Ao20 x9_6.length co20) x9_6) ∧ Aside0 (Kd.R Kd.bool 4 w' w.heap.size (fun _ => True) (.slice Ao22 t158.length co22) t158) ∧ Aside0 (Below w.heap.size w w'))
                      case atStart => exact ⟨(x13_3), (0), (by first | rfl | (simp; done) | (simp [*]; done)), (by first | rfl | (simp; done) | (simp [*]; done)), H', ⟨Nat.le_refl _⟩, ⟨by (with_reducible repeat (first | apply Kd.S_alloc | apply Kd.S_drewN | apply Kd.S_drew)); exact HO_8.out⟩, ⟨by (with_reducible repeat (first | apply Kd.R_alloc | apply Kd.R_drewN | apply Kd.R_drew)); exact HO_9.out⟩, ⟨by (with_reducible repeat (first | apply Kd.R_alloc | apply Kd.R_drewN | apply Kd.R_drew)); exact HO_11.out⟩, ⟨by repeat (first | (with_reducible first | exact HB.out | apply below_alloc | apply pw_below_drewN | apply below_drew1) | exact HB.out)⟩⟩
                      case round =>
                        clear H'
                        try clear c1
                        try clear p1
                        try clear q1
                        try clear hx1
                        try clear c2
                        try clear p2
                        try clear c5
                        try clear p6
                        try clear c9
                        try clear c10
                        try clear c10b0
                        try clear c11
                        try clear c11b0
                        try clear c12
                        try clear c12b0
                        try clear c13
                        try clear c13b0
                        try clear c13b1
                        try clear c14
                        try clear p15
                        try clear q15
                        try clear hx15
                        try clear p16
                        try clear q16
                        try clear hx16
                        try clear c18
                        try clear c18b0
                        try clear c18b1
                        try clear c18b2
                        try clear c23
                        try clear c23b0
                        try clear c24
                        try clear c24b0
                        try clear c25
                        try clear c26
                        try clear c26b0
                        try clear hx154_0
                        try clear hx161_0
                        try clear p1
                        try clear p15
                        try clear p154
                        try clear p161
                        try clear p2
                        try clear p6
                        try clear q1
                        try clear q15
                        try clear q154
                        try clear q161
                        obtain ⟨x13_4, x15_4, rfl, rfl, HA, HK4, HO_8, HO_9, HO_11, HB⟩ := hrel
                        cases gk with
                        | zero => exact absurd HA.out (by simp [billhooklaw10_DomReach.l3])
                        | succ k4 =>
                          have H := HA.out
                          clear HA
                          simp only [billhooklaw10_DomReach.l3] at H
                          by_cases c27 : x15_4 < (t158.length : Int)
                          · rw [if_pos c27] at H
                            have c27b0 : decide (x15_4 < (t158.length : Int)) = true := decide_eq_true c27
                            clear c27
                            have H' := Aside0.mk H
                            clear H
                            go_wp2
                            go_loopg [13, 16] k4 (fun kq v13 v16 w' => ∃ (x13_5 : Bool) (x16_5 : Int), v13 = .bool x13_5 ∧ v16 = .int .i64 x16_5 ∧ Aside0 (billhooklaw10_DomReach.l4 kq true t151 x9_6 t158 x12_2 x13_5 x15_4 x16_5 = some r) ∧ Aside0 (kq ≤ k4) ∧ Aside0 (Kd.S (Kd.slice 3 (Kd.int .i64)) 54 w' w.heap.size (fun k_ => some k_ ≠ ((.slice Ao20 x9_6.length co20) : Value).ownBlock) (.slice Ao19 t151.length co19) t151) ∧ Aside0 (Kd.R (Kd.int .i64) 3 w' w.heap.size (fun _ => True) (.slice Ao20 x9_6.length co20) x9_6) ∧ Aside0 (Kd.R Kd.bool 4 w' w.heap.size (fun _ => True) (.slice Ao22 t158.length co22) t158) ∧ Aside0 (Below w.heap.size w w'))
                            case atStart => exact ⟨(x13_4), (0), (by first | rfl | (simp; done) | (simp [*]; done)), (by first | rfl | (simp; done) | (simp [*]; done)), H', ⟨Nat.le_refl _⟩, ⟨by (with_reducible repeat (first | apply Kd.S_alloc | apply Kd.S_drewN | apply Kd.S_drew)); exact HO_8.out⟩, ⟨by (with_reducible repeat (first | apply Kd.R_alloc | apply Kd.R_drewN | apply Kd.R_drew)); exact HO_9.out⟩, ⟨by (with_reducible repeat (first | apply Kd.R_alloc | apply Kd.R_drewN | apply Kd.R_drew)); exact HO_11.out⟩, ⟨by repeat (first | (with_reducible first | exact HB.out | apply below_alloc | apply pw_below_drewN | apply below_drew1) | exact HB.out)⟩⟩
                            case round =>
                              clear H'
                              try clear c1
                              try clear p1
                              try clear q1
                              try clear hx1
                              try clear c2
                              try clear p2
                              try clear c5
                              try clear p6
                              try clear c9
                              try clear c10
                              try clear c10b0
                              try clear c11
                              try clear c11b0
                              try clear c12
                              try clear c12b0
                              try clear c13
                              try clear c13b0
                              try clear c13b1
                              try clear c14
                              try clear p15
                              try clear q15
                              try clear hx15
                              try clear p16
                              try clear q16
                              try clear hx16
                              try clear c18
                              try clear c18b0
                              try clear c18b1
                              try clear c18b2
                              try clear c23
                              try clear c23b0
                              try clear c24
                              try clear c24b0
                              try clear c25
                              try clear c26
                              try clear c26b0
                              try clear c27
                              try clear c27b0
                              try clear hx154_0
                              try clear hx161_0
                              try clear p1
                              try clear p15
                              try clear p154
                              try clear p16
                              try clear p161
                              try clear p2
                              try clear p6
                              try clear q1
                              try clear q15
                              try clear q154
                              try clear q16
                              try clear q161
                              obtain ⟨x13_5, x16_5, rfl, rfl, HA, HK5, HO_8, HO_9, HO_11, HB⟩ := hrel
                              cases gk with
                              | zero => exact absurd HA.out (by simp [billhooklaw10_DomReach.l4])
                              | succ k5 =>
                                have H := HA.out
                                clear HA
                                simp only [billhooklaw10_DomReach.l4] at H
                                by_cases c28 : 0 ≤ x15_4
                                · rw [if_pos c28] at H
                                  have c28b0 : decide (0 ≤ x15_4) = true := decide_eq_true c28
                                  clear c28
                                  by_cases c29 : x15_4 < (t151.length : Int)
                                  · rw [if_pos c29] at H
                                    have c29b0 : decide (x15_4 < (t151.length : Int)) = true := decide_eq_true c29
                                    clear c29
                                    by_cases c30 : x16_5 < ((rd_L3 t151 x15_4).length : Int)
                                    · rw [if_pos c30] at H
                                      have c30b0 : decide (x16_5 < ((rd_L3 t151 x15_4).length : Int)) = true := decide_eq_true c30
                                      clear c30
                                      by_cases c31 : x13_5 = true
                                      · subst c31
                                        have H1 : (if x15_4 < (t158.length : Int) then (if rdOf false t158 x15_4 = true then (if 0 ≤ x16_5 then (if 0 ≤ (rd (rd_L3 t151 x15_4) x16_5) then (if (rd (rd_L3 t151 x15_4) x16_5) < (t158.length : Int) then (if (rdOf false t158 (rd (rd_L3 t151 x15_4) x16_5) = true) then (billhooklaw10_DomReach.l4 k5 true t151 x9_6 t158 x12_2 true x15_4 (wrap64 (x16_5 + 1))) else (some false)) else (none)) else (none)) else (none)) else (billhooklaw10_DomReach.l4 k5 true t151 x9_6 t158 x12_2 true x15_4 (wrap64 (x16_5 + 1)))) else (none)) = some r := by first | (rw [if_pos rfl] at H; exact H) | (rw [if_pos trivial] at H; exact H)
                                        clear H
                                        have H := H1
                                        clear H1
                                        by_cases c32 : x15_4 < (t158.length : Int)
                                        · rw [if_pos c32] at H
                                          have c32b0 : decide (x15_4 < (t158.length : Int)) = true := decide_eq_true c32
                                          clear c32
                                          obtain ⟨bq33, hbq33⟩ : ∃ b_ : Bool, b_ = (rdOf false t158 x15_4) := ⟨_, rfl⟩
                                          replace H : (if bq33 = true then (if 0 ≤ x16_5 then (if 0 ≤ (rd (rd_L3 t151 x15_4) x16_5) then (if (rd (rd_L3 t151 x15_4) x16_5) < (t158.length : Int) then (if (rdOf false t158 (rd (rd_L3 t151 x15_4) x16_5) = true) then (billhooklaw10_DomReach.l4 k5 true t151 x9_6 t158 x12_2 true x15_4 (wrap64 (x16_5 + 1))) else (some false)) else (none)) else (none)) else (none)) else (billhooklaw10_DomReach.l4 k5 true t151 x9_6 t158 x12_2 true x15_4 (wrap64 (x16_5 + 1)))) = some r := by rw [← hbq33] at H; exact H
                                          have Nbq33 := Aside0.mk hbq33
                                          clear hbq33
                                          by_cases c34 : bq33 = true
                                          · subst c34
                                            have H1 : (if 0 ≤ x16_5 then (if 0 ≤ (rd (rd_L3 t151 x15_4) x16_5) then (if (rd (rd_L3 t151 x15_4) x16_5) < (t158.length : Int) then (if (rdOf false t158 (rd (rd_L3 t151 x15_4) x16_5) = true) then (billhooklaw10_DomReach.l4 k5 true t151 x9_6 t158 x12_2 true x15_4 (wrap64 (x16_5 + 1))) else (some false)) else (none)) else (none)) else (none)) = some r := by first | (rw [if_pos rfl] at H; exact H) | (rw [if_pos trivial] at H; exact H)
                                            clear H
                                            have H := H1
                                            clear H1
                                            by_cases c35 : 0 ≤ x16_5
                                            · rw [if_pos c35] at H
                                              have c35b0 : decide (0 ≤ x16_5) = true := decide_eq_true c35
                                              clear c35
                                              by_cases c36 : 0 ≤ (rd (rd_L3 t151 x15_4) x16_5)
                                              · rw [if_pos c36] at H
                                                have c36b0 : decide (0 ≤ (rd (rd_L3 t151 x15_4) x16_5)) = true := decide_eq_true c36
                                                clear c36
                                                by_cases c37 : (rd (rd_L3 t151 x15_4) x16_5) < (t158.length : Int)
                                                · rw [if_pos c37] at H
                                                  have c37b0 : decide ((rd (rd_L3 t151 x15_4) x16_5) < (t158.length : Int)) = true := decide_eq_true c37
                                                  clear c37
                                                  obtain ⟨bq38, hbq38⟩ : ∃ b_ : Bool, b_ = (rdOf false t158 (rd (rd_L3 t151 x15_4) x16_5)) := ⟨_, rfl⟩
                                                  replace H : (if (bq38 = true) then (billhooklaw10_DomReach.l4 k5 true t151 x9_6 t158 x12_2 true x15_4 (wrap64 (x16_5 + 1))) else (some false)) = some r := by rw [← hbq38] at H; exact H
                                                  have Nbq38 := Aside0.mk hbq38
                                                  clear hbq38
                                                  by_cases c39 : (bq38 = true)
                                                  · subst c39
                                                    have H1 : (billhooklaw10_DomReach.l4 k5 true t151 x9_6 t158 x12_2 true x15_4 (wrap64 (x16_5 + 1))) = some r := by first | (rw [if_pos rfl] at H; exact H) | (rw [if_pos trivial] at H; exact H)
                                                    clear H
                                                    have H := H1
                                                    clear H1
                                                    have H' := Aside0.mk H
                                                    clear H
                                                    have p165 : 0 ≤ (x15_4 : Int) := of_decide_eq_true (by first | (with_reducible assumption) | assumption)
                                                    have q165 : x15_4 < (t151.length : Int) := of_decide_eq_true (by first | (with_reducible assumption) | assumption)
                                                    obtain ⟨ad165, A165_0, c165_0, e165, hx165_0, hl165_0, hi165_0⟩ := at_L3 (Kd.S_reads' HO_8.out).2.2 x15_4 p165 q165
                                                    cases e165
                                                    obtain ⟨ce165, hce165, hMe165, hcc165⟩ := Kd.S_get HO_8.out [] x15_4 p165 (by first | exact q165 | exact of_decide_eq_true (by first | (with_reducible assumption) | assumption) | (have e_ := (Kd.S_reads' HO_8.out).1; omega))
                                                    obtain ⟨ve165_0, rfl, ge165_0⟩ := hMe165
                                                    have hv165_0 := hcc165 0 _ rfl
                                                    rw [Nat.add_zero, show ((Kd.slice 3 (Kd.int .i64))).sz = 1 from rfl, Nat.mul_one] at hv165_0
                                                    replace hv165_0 := Option.some.inj (hv165_0.symm.trans hx165_0)
                                                    rw [hv165_0] at ge165_0
                                                    have HL165_0 := Aside0.mk (show Kd.R (Kd.int .i64) 3 _ _ _ _ (rd_L3 t151 x15_4) from ge165_0)
                                                    clear hv165_0 ge165_0
                                                    clear hcc165 hce165
                                                    have HR165_0 := Aside0.mk hi165_0
                                                    have HC165_0 := Aside0.mk hl165_0
                                                    clear hi165_0 hl165_0
                                                    replace p165 := eq_true p165
                                                    replace q165 := eq_true q165
                                                    have p166 : 0 ≤ (x15_4 : Int) := of_decide_eq_true (by first | (with_reducible assumption) | assumption)
                                                    have q166 : x15_4 < (t158.length : Int) := of_decide_eq_true (by first | (with_reducible assumption) | assumption)
                                                    obtain ⟨ad166, e166, hx166_0⟩ := Kd.at_bool (Kd.R_reads' HO_11.out).2.2 x15_4 p166 q166
                                                    (try rw [← Nbq33.out] at hx166_0)
                                                    (try rw [← Nbq38.out] at hx166_0)
                                                    cases e166
                                                    replace p166 := eq_true p166
                                                    replace q166 := eq_true q166
                                                    have p167 : 0 ≤ (x15_4 : Int) := of_decide_eq_true (by first | (with_reducible assumption) | assumption)
                                                    have q167 : x15_4 < (t151.length : Int) := of_decide_eq_true (by first | (with_reducible assumption) | assumption)
                                                    obtain ⟨ad167, A167_0, c167_0, e167, hx167_0, hl167_0, hi167_0⟩ := at_L3 (Kd.S_reads' HO_8.out).2.2 x15_4 p167 q167
                                                    obtain rfl : ad165 = ad167 := (by injection e167)
                                                    obtain ⟨ce167, hce167, hMe167, hcc167⟩ := Kd.S_get HO_8.out [] x15_4 p167 (by first | exact q167 | exact of_decide_eq_true (by first | (with_reducible assumption) | assumption) | (have e_ := (Kd.S_reads' HO_8.out).1; omega))
                                                    obtain ⟨ve167_0, rfl, ge167_0⟩ := hMe167
                                                    have hv167_0 := hcc167 0 _ rfl
                                                    rw [Nat.add_zero, show ((Kd.slice 3 (Kd.int .i64))).sz = 1 from rfl, Nat.mul_one] at hv167_0
                                                    replace hv167_0 := Option.some.inj (hv167_0.symm.trans hx167_0)
                                                    rw [hv167_0] at ge167_0
                                                    have HL167_0 := Aside0.mk (show Kd.R (Kd.int .i64) 3 _ _ _ _ (rd_L3 t151 x15_4) from ge167_0)
                                                    clear hv167_0 ge167_0
                                                    clear hcc167 hce167
                                                    have HR167_0 := Aside0.mk hi167_0
                                                    have HC167_0 := Aside0.mk hl167_0
                                                    clear hi167_0 hl167_0
                                                    replace p167 := eq_true p167
                                                    replace q167 := eq_true q167
                                                    have ea_ := Option.some.inj (hx165_0.symm.trans hx167_0)
                                                    injection ea_ with ea_ en_ ec_
                                                    subst ea_
                                                    subst ec_
                                                    clear en_
                                                    have p168 : 0 ≤ (x16_5 : Int) := of_decide_eq_true (by first | (with_reducible assumption) | assumption)
                                                    have q168 : x16_5 < ((rd_L3 t151 x15_4).length : Int) := of_decide_eq_true (by first | (with_reducible assumption) | assumption)
                                                    obtain ⟨ad168, e168, hx168_0⟩ := Kd.at_int (by repeat (first | (with_reducible exact HR167_0.out) | (with_reducible refine Kd.C_alloc ?_ _) | (with_reducible refine Kd.C_drewN ?_ _) | (with_reducible refine Kd.C_drew ?_) | exact HR167_0.out)) x16_5 p168 q168
                                                    cases e168
                                                    replace p168 := eq_true p168
                                                    replace q168 := eq_true q168
                                                    have p169 : 0 ≤ ((rd (rd_L3 t151 x15_4) x16_5) : Int) := of_decide_eq_true (by first | (with_reducible assumption) | assumption)
                                                    have q169 : (rd (rd_L3 t151 x15_4) x16_5) < (t158.length : Int) := of_decide_eq_true (by first | (with_reducible assumption) | assumption)
                                                    obtain ⟨ad169, e169, hx169_0⟩ := Kd.at_bool (Kd.R_reads' HO_11.out).2.2 (rd (rd_L3 t151 x15_4) x16_5) p169 q169
                                                    (try rw [← Nbq33.out] at hx169_0)
                                                    (try rw [← Nbq38.out] at hx169_0)
                                                    obtain rfl : ad166 = ad169 := (by injection e169)
                                                    replace p169 := eq_true p169
                                                    replace q169 := eq_true q169
                                                    go_wp2
                                                    go_roundg k5
                                                    case measure => have := HJ6.out; have := HK2.out; have := HK3.out; have := HK4.out; have := HK5.out; omega
                                                    case rel => exact ⟨(true), (wrap64 (x16_5 + 1)), (by first | rfl | (simp; done) | (simp [*]; done)), (by first | rfl | (simp; done) | (simp [*]; done)), H', ⟨by have := HJ6.out; have := HK2.out; have := HK3.out; have := HK4.out; have := HK5.out; omega⟩, ⟨by (with_reducible repeat (first | apply Kd.S_alloc | apply Kd.S_drewN | apply Kd.S_drew)); exact HO_8.out⟩, ⟨by (with_reducible repeat (first | apply Kd.R_alloc | apply Kd.R_drewN | apply Kd.R_drew)); exact HO_9.out⟩, ⟨by (with_reducible repeat (first | apply Kd.R_alloc | apply Kd.R_drewN | apply Kd.R_drew)); exact HO_11.out⟩, ⟨by repeat (first | (with_reducible first | exact HB.out | apply below_alloc | apply pw_below_drewN | apply below_drew1) | exact HB.out)⟩⟩
                                                  · replace c39 := Bool.eq_false_iff.mpr c39
                                                    subst c39
                                                    have H1 : (some false) = some r := by rw [if_neg (show ¬ (false = true) by decide)] at H; exact H
                                                    clear H
                                                    have H := H1
                                                    clear H1
                                                    obtain rfl := Option.some.inj H
                                                    have p165 : 0 ≤ (x15_4 : Int) := of_decide_eq_true (by first | (with_reducible assumption) | assumption)
                                                    have q165 : x15_4 < (t151.length : Int) := of_decide_eq_true (by first | (with_reducible assumption) | assumption)
                                                    obtain ⟨ad165, A165_0, c165_0, e165, hx165_0, hl165_0, hi165_0⟩ := at_L3 (Kd.S_reads' HO_8.out).2.2 x15_4 p165 q165
                                                    cases e165
                                                    obtain ⟨ce165, hce165, hMe165, hcc165⟩ := Kd.S_get HO_8.out [] x15_4 p165 (by first | exact q165 | exact of_decide_eq_true (by first | (with_reducible assumption) | assumption) | (have e_ := (Kd.S_reads' HO_8.out).1; omega))
                                                    obtain ⟨ve165_0, rfl, ge165_0⟩ := hMe165
                                                    have hv165_0 := hcc165 0 _ rfl
                                                    rw [Nat.add_zero, show ((Kd.slice 3 (Kd.int .i64))).sz = 1 from rfl, Nat.mul_one] at hv165_0
                                                    replace hv165_0 := Option.some.inj (hv165_0.symm.trans hx165_0)
                                                    rw [hv165_0] at ge165_0
                                                    have HL165_0 := Aside0.mk (show Kd.R (Kd.int .i64) 3 _ _ _ _ (rd_L3 t151 x15_4) from ge165_0)
                                                    clear hv165_0 ge165_0
                                                    clear hcc165 hce165
                                                    have HR165_0 := Aside0.mk hi165_0
                                                    have HC165_0 := Aside0.mk hl165_0
                                                    clear hi165_0 hl165_0
                                                    replace p165 := eq_true p165
                                                    replace q165 := eq_true q165
                                                    have p166 : 0 ≤ (x15_4 : Int) := of_decide_eq_true (by first | (with_reducible assumption) | assumption)
                                                    have q166 : x15_4 < (t158.length : Int) := of_decide_eq_true (by first | (with_reducible assumption) | assumption)
                                                    obtain ⟨ad166, e166, hx166_0⟩ := Kd.at_bool (Kd.R_reads' HO_11.out).2.2 x15_4 p166 q166
                                                    (try rw [← Nbq33.out] at hx166_0)
                                                    (try rw [← Nbq38.out] at hx166_0)
                                                    cases e166
                                                    replace p166 := eq_true p166
                                                    replace q166 := eq_true q166
                                                    have p167 : 0 ≤ (x15_4 : Int) := of_decide_eq_true (by first | (with_reducible assumption) | assumption)
                                                    have q167 : x15_4 < (t151.length : Int) := of_decide_eq_true (by first | (with_reducible assumption) | assumption)
                                                    obtain ⟨ad167, A167_0, c167_0, e167, hx167_0, hl167_0, hi167_0⟩ := at_L3 (Kd.S_reads' HO_8.out).2.2 x15_4 p167 q167
                                                    obtain rfl : ad165 = ad167 := (by injection e167)
                                                    obtain ⟨ce167, hce167, hMe167, hcc167⟩ := Kd.S_get HO_8.out [] x15_4 p167 (by first | exact q167 | exact of_decide_eq_true (by first | (with_reducible assumption) | assumption) | (have e_ := (Kd.S_reads' HO_8.out).1; omega))
                                                    obtain ⟨ve167_0, rfl, ge167_0⟩ := hMe167
                                                    have hv167_0 := hcc167 0 _ rfl
                                                    rw [Nat.add_zero, show ((Kd.slice 3 (Kd.int .i64))).sz = 1 from rfl, Nat.mul_one] at hv167_0
                                                    replace hv167_0 := Option.some.inj (hv167_0.symm.trans hx167_0)
                                                    rw [hv167_0] at ge167_0
                                                    have HL167_0 := Aside0.mk (show Kd.R (Kd.int .i64) 3 _ _ _ _ (rd_L3 t151 x15_4) from ge167_0)
                                                    clear hv167_0 ge167_0
                                                    clear hcc167 hce167
                                                    have HR167_0 := Aside0.mk hi167_0
                                                    have HC167_0 := Aside0.mk hl167_0
                                                    clear hi167_0 hl167_0
                                                    replace p167 := eq_true p167
                                                    replace q167 := eq_true q167
                                                    have ea_ := Option.some.inj (hx165_0.symm.trans hx167_0)
                                                    injection ea_ with ea_ en_ ec_
                                                    subst ea_
                                                    subst ec_
                                                    clear en_
                                                    have p168 : 0 ≤ (x16_5 : Int) := of_decide_eq_true (by first | (with_reducible assumption) | assumption)
                                                    have q168 : x16_5 < ((rd_L3 t151 x15_4).length : Int) := of_decide_eq_true (by first | (with_reducible assumption) | assumption)
                                                    obtain ⟨ad168, e168, hx168_0⟩ := Kd.at_int (by repeat (first | (with_reducible exact HR167_0.out) | (with_reducible refine Kd.C_alloc ?_ _) | (with_reducible refine Kd.C_drewN ?_ _) | (with_reducible refine Kd.C_drew ?_) | exact HR167_0.out)) x16_5 p168 q168
                                                    cases e168
                                                    replace p168 := eq_true p168
                                                    replace q168 := eq_true q168
                                                    have p169 : 0 ≤ ((rd (rd_L3 t151 x15_4) x16_5) : Int) := of_decide_eq_true (by first | (with_reducible assumption) | assumption)
                                                    have q169 : (rd (rd_L3 t151 x15_4) x16_5) < (t158.length : Int) := of_decide_eq_true (by first | (with_reducible assumption) | assumption)
                                                    obtain ⟨ad169, e169, hx169_0⟩ := Kd.at_bool (Kd.R_reads' HO_11.out).2.2 (rd (rd_L3 t151 x15_4) x16_5) p169 q169
                                                    (try rw [← Nbq33.out] at hx169_0)
                                                    (try rw [← Nbq38.out] at hx169_0)
                                                    obtain rfl : ad166 = ad169 := (by injection e169)
                                                    replace p169 := eq_true p169
                                                    replace q169 := eq_true q169
                                                    go_wp2
                                                    go_ret
                                                    exact ⟨by first | rfl | (simp [errW_none, errW_some] <;> rfl) | (simp [*, errW_none, errW_some] <;> rfl), by repeat (first | (with_reducible first | exact HB.out | apply below_alloc | apply pw_below_drewN | apply below_drew1) | exact HB.out)⟩
                                                · rw [if_neg c37] at H
                                                  exact absurd H (by simp)
                                              · rw [if_neg c36] at H
                                                exact absurd H (by simp)
                                            · rw [if_neg c35] at H
                                              exact absurd H (by simp)
                                          · replace c34 := Bool.eq_false_iff.mpr c34
                                            subst c34
                                            have H1 : (billhooklaw10_DomReach.l4 k5 true t151 x9_6 t158 x12_2 true x15_4 (wrap64 (x16_5 + 1))) = some r := by rw [if_neg (show ¬ (false = true) by decide)] at H; exact H
                                            clear H
                                            have H := H1
                                            clear H1
                                            have H' := Aside0.mk H
                                            clear H
                                            have p165 : 0 ≤ (x15_4 : Int) := of_decide_eq_true (by first | (with_reducible assumption) | assumption)
                                            have q165 : x15_4 < (t151.length : Int) := of_decide_eq_true (by first | (with_reducible assumption) | assumption)
                                            obtain ⟨ad165, A165_0, c165_0, e165, hx165_0, hl165_0, hi165_0⟩ := at_L3 (Kd.S_reads' HO_8.out).2.2 x15_4 p165 q165
                                            cases e165
                                            obtain ⟨ce165, hce165, hMe165, hcc165⟩ := Kd.S_get HO_8.out [] x15_4 p165 (by first | exact q165 | exact of_decide_eq_true (by first | (with_reducible assumption) | assumption) | (have e_ := (Kd.S_reads' HO_8.out).1; omega))
                                            obtain ⟨ve165_0, rfl, ge165_0⟩ := hMe165
                                            have hv165_0 := hcc165 0 _ rfl
                                            rw [Nat.add_zero, show ((Kd.slice 3 (Kd.int .i64))).sz = 1 from rfl, Nat.mul_one] at hv165_0
                                            replace hv165_0 := Option.some.inj (hv165_0.symm.trans hx165_0)
                                            rw [hv165_0] at ge165_0
                                            have HL165_0 := Aside0.mk (show Kd.R (Kd.int .i64) 3 _ _ _ _ (rd_L3 t151 x15_4) from ge165_0)
                                            clear hv165_0 ge165_0
                                            clear hcc165 hce165
                                            have HR165_0 := Aside0.mk hi165_0
                                            have HC165_0 := Aside0.mk hl165_0
                                            clear hi165_0 hl165_0
                                            replace p165 := eq_true p165
                                            replace q165 := eq_true q165
                                            have p166 : 0 ≤ (x15_4 : Int) := of_decide_eq_true (by first | (with_reducible assumption) | assumption)
                                            have q166 : x15_4 < (t158.length : Int) := of_decide_eq_true (by first | (with_reducible assumption) | assumption)
                                            obtain ⟨ad166, e166, hx166_0⟩ := Kd.at_bool (Kd.R_reads' HO_11.out).2.2 x15_4 p166 q166
                                            (try rw [← Nbq33.out] at hx166_0)
                                            cases e166
                                            replace p166 := eq_true p166
                                            replace q166 := eq_true q166
                                            go_wp2
                                            go_roundg k5
                                            case measure => have := HJ6.out; have := HK2.out; have := HK3.out; have := HK4.out; have := HK5.out; omega
                                            case rel => exact ⟨(true), (wrap64 (x16_5 + 1)), (by first | rfl | (simp; done) | (simp [*]; done)), (by first | rfl | (simp; done) | (simp [*]; done)), H', ⟨by have := HJ6.out; have := HK2.out; have := HK3.out; have := HK4.out; have := HK5.out; omega⟩, ⟨by (with_reducible repeat (first | apply Kd.S_alloc | apply Kd.S_drewN | apply Kd.S_drew)); exact HO_8.out⟩, ⟨by (with_reducible repeat (first | apply Kd.R_alloc | apply Kd.R_drewN | apply Kd.R_drew)); exact HO_9.out⟩, ⟨by (with_reducible repeat (first | apply Kd.R_alloc | apply Kd.R_drewN | apply Kd.R_drew)); exact HO_11.out⟩, ⟨by repeat (first | (with_reducible first | exact HB.out | apply below_alloc | apply pw_below_drewN | apply below_drew1) | exact HB.out)⟩⟩
                                        · rw [if_neg c32] at H
                                          exact absurd H (by simp)
                                      · replace c31 := Bool.eq_false_iff.mpr c31
                                        subst c31
                                        have H1 : (if x15_4 < (t158.length : Int) then (if rdOf false t158 x15_4 = true then (if x15_4 = x12_2 then (if 0 ≤ x16_5 then (if 0 ≤ (rd (rd_L3 t151 x15_4) x16_5) then (if (rd (rd_L3 t151 x15_4) x16_5) < (t158.length : Int) then (if (rdOf false t158 (rd (rd_L3 t151 x15_4) x16_5) = true) then (billhooklaw10_DomReach.l4 k5 true t151 x9_6 t158 x12_2 false x15_4 (wrap64 (x16_5 + 1))) else (some false)) else (none)) else (none)) else (none)) else (if 0 ≤ x16_5 then (if 0 ≤ (rd (rd_L3 t151 x15_4) x16_5) then (if (rd (rd_L3 t151 x15_4) x16_5) < (t158.length : Int) then (if (rdOf false t158 (rd (rd_L3 t151 x15_4) x16_5) = true) then (billhooklaw10_DomReach.l4 k5 true t151 x9_6 t158 x12_2 ((rd (rd_L3 t151 x15_4) x16_5) == x12_2) x15_4 (wrap64 (x16_5 + 1))) else (some false)) else (none)) else (none)) else (none))) else (billhooklaw10_DomReach.l4 k5 true t151 x9_6 t158 x12_2 false x15_4 (wrap64 (x16_5 + 1)))) else (none)) = some r := by rw [if_neg (show ¬ (false = true) by decide)] at H; exact H
                                        clear H
                                        have H := H1
                                        clear H1
                                        by_cases c40 : x15_4 < (t158.length : Int)
                                        · rw [if_pos c40] at H
                                          have c40b0 : decide (x15_4 < (t158.length : Int)) = true := decide_eq_true c40
                                          clear c40
                                          obtain ⟨bq41, hbq41⟩ : ∃ b_ : Bool, b_ = (rdOf false t158 x15_4) := ⟨_, rfl⟩
                                          replace H : (if bq41 = true then (if x15_4 = x12_2 then (if 0 ≤ x16_5 then (if 0 ≤ (rd (rd_L3 t151 x15_4) x16_5) then (if (rd (rd_L3 t151 x15_4) x16_5) < (t158.length : Int) then (if (rdOf false t158 (rd (rd_L3 t151 x15_4) x16_5) = true) then (billhooklaw10_DomReach.l4 k5 true t151 x9_6 t158 x12_2 false x15_4 (wrap64 (x16_5 + 1))) else (some false)) else (none)) else (none)) else (none)) else (if 0 ≤ x16_5 then (if 0 ≤ (rd (rd_L3 t151 x15_4) x16_5) then (if (rd (rd_L3 t151 x15_4) x16_5) < (t158.length : Int) then (if (rdOf false t158 (rd (rd_L3 t151 x15_4) x16_5) = true) then (billhooklaw10_DomReach.l4 k5 true t151 x9_6 t158 x12_2 ((rd (rd_L3 t151 x15_4) x16_5) == x12_2) x15_4 (wrap64 (x16_5 + 1))) else (some false)) else (none)) else (none)) else (none))) else (billhooklaw10_DomReach.l4 k5 true t151 x9_6 t158 x12_2 false x15_4 (wrap64 (x16_5 + 1)))) = some r := by rw [← hbq41] at H; exact H
                                          have Nbq41 := Aside0.mk hbq41
                                          clear hbq41
                                          by_cases c42 : bq41 = true
                                          · subst c42
                                            have H1 : (if x15_4 = x12_2 then (if 0 ≤ x16_5 then (if 0 ≤ (rd (rd_L3 t151 x15_4) x16_5) then (if (rd (rd_L3 t151 x15_4) x16_5) < (t158.length : Int) then (if (rdOf false t158 (rd (rd_L3 t151 x15_4) x16_5) = true) then (billhooklaw10_DomReach.l4 k5 true t151 x9_6 t158 x12_2 false x15_4 (wrap64 (x16_5 + 1))) else (some false)) else (none)) else (none)) else (none)) else (if 0 ≤ x16_5 then (if 0 ≤ (rd (rd_L3 t151 x15_4) x16_5) then (if (rd (rd_L3 t151 x15_4) x16_5) < (t158.length : Int) then (if (rdOf false t158 (rd (rd_L3 t151 x15_4) x16_5) = true) then (billhooklaw10_DomReach.l4 k5 true t151 x9_6 t158 x12_2 ((rd (rd_L3 t151 x15_4) x16_5) == x12_2) x15_4 (wrap64 (x16_5 + 1))) else (some false)) else (none)) else (none)) else (none))) = some r := by first | (rw [if_pos rfl] at H; exact H) | (rw [if_pos trivial] at H; exact H)
                                            clear H
                                            have H := H1
                                            clear H1
                                            by_cases c43 : x15_4 = x12_2
                                            · rw [if_pos c43] at H
                                              have c43b0 : (x15_4 == x12_2) = true := beq_iff_eq.mpr c43
                                              have c43b1 : (x15_4 != x12_2) = false := bne_eq_false_iff_eq.mpr c43
                                              clear c43
                                              by_cases c44 : 0 ≤ x16_5
                                              · rw [if_pos c44] at H
                                                have c44b0 : decide (0 ≤ x16_5) = true := decide_eq_true c44
                                                clear c44
                                                by_cases c45 : 0 ≤ (rd (rd_L3 t151 x15_4) x16_5)
                                                · rw [if_pos c45] at H
                                                  have c45b0 : decide (0 ≤ (rd (rd_L3 t151 x15_4) x16_5)) = true := decide_eq_true c45
                                                  clear c45
                                                  by_cases c46 : (rd (rd_L3 t151 x15_4) x16_5) < (t158.length : Int)
                                                  · rw [if_pos c46] at H
                                                    have c46b0 : decide ((rd (rd_L3 t151 x15_4) x16_5) < (t158.length : Int)) = true := decide_eq_true c46
                                                    clear c46
                                                    obtain ⟨bq47, hbq47⟩ : ∃ b_ : Bool, b_ = (rdOf false t158 (rd (rd_L3 t151 x15_4) x16_5)) := ⟨_, rfl⟩
                                                    replace H : (if (bq47 = true) then (billhooklaw10_DomReach.l4 k5 true t151 x9_6 t158 x12_2 false x15_4 (wrap64 (x16_5 + 1))) else (some false)) = some r := by rw [← hbq47] at H; exact H
                                                    have Nbq47 := Aside0.mk hbq47
                                                    clear hbq47
                                                    by_cases c48 : (bq47 = true)
                                                    · subst c48
                                                      have H1 : (billhooklaw10_DomReach.l4 k5 true t151 x9_6 t158 x12_2 false x15_4 (wrap64 (x16_5 + 1))) = some r := by first | (rw [if_pos rfl] at H; exact H) | (rw [if_pos trivial] at H; exact H)
                                                      clear H
                                                      have H := H1
                                                      clear H1
                                                      have H' := Aside0.mk H
                                                      clear H
                                                      have p165 : 0 ≤ (x15_4 : Int) := of_decide_eq_true (by first | (with_reducible assumption) | assumption)
                                                      have q165 : x15_4 < (t151.length : Int) := of_decide_eq_true (by first | (with_reducible assumption) | assumption)
                                                      obtain ⟨ad165, A165_0, c165_0, e165, hx165_0, hl165_0, hi165_0⟩ := at_L3 (Kd.S_reads' HO_8.out).2.2 x15_4 p165 q165
                                                      cases e165
                                                      obtain ⟨ce165, hce165, hMe165, hcc165⟩ := Kd.S_get HO_8.out [] x15_4 p165 (by first | exact q165 | exact of_decide_eq_true (by first | (with_reducible assumption) | assumption) | (have e_ := (Kd.S_reads' HO_8.out).1; omega))
                                                      obtain ⟨ve165_0, rfl, ge165_0⟩ := hMe165
                                                      have hv165_0 := hcc165 0 _ rfl
                                                      rw [Nat.add_zero, show ((Kd.slice 3 (Kd.int .i64))).sz = 1 from rfl, Nat.mul_one] at hv165_0
                                                      replace hv165_0 := Option.some.inj (hv165_0.symm.trans hx165_0)
                                                      rw [hv165_0] at ge165_0
                                                      have HL165_0 := Aside0.mk (show Kd.R (Kd.int .i64) 3 _ _ _ _ (rd_L3 t151 x15_4) from ge165_0)
                                                      clear hv165_0 ge165_0
                                                      clear hcc165 hce165
                                                      have HR165_0 := Aside0.mk hi165_0
                                                      have HC165_0 := Aside0.mk hl165_0
                                                      clear hi165_0 hl165_0
                                                      replace p165 := eq_true p165
                                                      replace q165 := eq_true q165
                                                      have p170 : 0 ≤ (x15_4 : Int) := of_decide_eq_true (by first | (with_reducible assumption) | assumption)
                                                      have q170 : x15_4 < (t158.length : Int) := of_decide_eq_true (by first | (with_reducible assumption) | assumption)
                                                      obtain ⟨ad170, e170, hx170_0⟩ := Kd.at_bool (Kd.R_reads' HO_11.out).2.2 x15_4 p170 q170
                                                      (try rw [← Nbq41.out] at hx170_0)
                                                      (try rw [← Nbq47.out] at hx170_0)
                                                      cases e170
                                                      replace p170 := eq_true p170
                                                      replace q170 := eq_true q170
                                                      have p171 : 0 ≤ (x15_4 : Int) := of_decide_eq_true (by first | (with_reducible assumption) | assumption)
                                                      have q171 : x15_4 < (t158.length : Int) := of_decide_eq_true (by first | (with_reducible assumption) | assumption)
                                                      obtain ⟨ad171, e171, hx171_0⟩ := Kd.at_bool (Kd.R_reads' HO_11.out).2.2 x15_4 p171 q171
                                                      (try rw [← Nbq41.out] at hx171_0)
                                                      (try rw [← Nbq47.out] at hx171_0)
                                                      obtain rfl : ad170 = ad171 := (by injection e171)
                                                      replace p171 := eq_true p171
                                                      replace q171 := eq_true q171
                                                      have p172 : 0 ≤ (x15_4 : Int) := of_decide_eq_true (by first | (with_reducible assumption) | assumption)
                                                      have q172 : x15_4 < (t151.length : Int) := of_decide_eq_true (by first | (with_reducible assumption) | assumption)
                                                      obtain ⟨ad172, A172_0, c172_0, e172, hx172_0, hl172_0, hi172_0⟩ := at_L3 (Kd.S_reads' HO_8.out).2.2 x15_4 p172 q172
                                                      obtain rfl : ad165 = ad172 := (by injection e172)
                                                      obtain ⟨ce172, hce172, hMe172, hcc172⟩ := Kd.S_get HO_8.out [] x15_4 p172 (by first | exact q172 | exact of_decide_eq_true (by first | (with_reducible assumption) | assumption) | (have e_ := (Kd.S_reads' HO_8.out).1; omega))
                                                      obtain ⟨ve172_0, rfl, ge172_0⟩ := hMe172
                                                      have hv172_0 := hcc172 0 _ rfl
                                                      rw [Nat.add_zero, show ((Kd.slice 3 (Kd.int .i64))).sz = 1 from rfl, Nat.mul_one] at hv172_0
                                                      replace hv172_0 := Option.some.inj (hv172_0.symm.trans hx172_0)
                                                      rw [hv172_0] at ge172_0
                                                      have HL172_0 := Aside0.mk (show Kd.R (Kd.int .i64) 3 _ _ _ _ (rd_L3 t151 x15_4) from ge172_0)
                                                      clear hv172_0 ge172_0
                                                      clear hcc172 hce172
                                                      have HR172_0 := Aside0.mk hi172_0
                                                      have HC172_0 := Aside0.mk hl172_0
                                                      clear hi172_0 hl172_0
                                                      replace p172 := eq_true p172
                                                      replace q172 := eq_true q172
                                                      have ea_ := Option.some.inj (hx165_0.symm.trans hx172_0)
                                                      injection ea_ with ea_ en_ ec_
                                                      subst ea_
                                                      subst ec_
                                                      clear en_
                                                      have p173 : 0 ≤ (x16_5 : Int) := of_decide_eq_true (by first | (with_reducible assumption) | assumption)
                                                      have q173 : x16_5 < ((rd_L3 t151 x15_4).length : Int) := of_decide_eq_true (by first | (with_reducible assumption) | assumption)
                                                      obtain ⟨ad173, e173, hx173_0⟩ := Kd.at_int (by repeat (first | (with_reducible exact HR172_0.out) | (with_reducible refine Kd.C_alloc ?_ _) | (with_reducible refine Kd.C_drewN ?_ _) | (with_reducible refine Kd.C_drew ?_) | exact HR172_0.out)) x16_5 p173 q173
                                                      cases e173
                                                      replace p173 := eq_true p173
                                                      replace q173 := eq_true q173
                                                      have p174 : 0 ≤ ((rd (rd_L3 t151 x15_4) x16_5) : Int) := of_decide_eq_true (by first | (with_reducible assumption) | assumption)
                                                      have q174 : (rd (rd_L3 t151 x15_4) x16_5) < (t158.length : Int) := of_decide_eq_true (by first | (with_reducible assumption) | assumption)
                                                      obtain ⟨ad174, e174, hx174_0⟩ := Kd.at_bool (Kd.R_reads' HO_11.out).2.2 (rd (rd_L3 t151 x15_4) x16_5) p174 q174
                                                      (try rw [← Nbq41.out] at hx174_0)
                                                      (try rw [← Nbq47.out] at hx174_0)
                                                      obtain rfl : ad170 = ad174 := (by injection e174)
                                                      replace p174 := eq_true p174
                                                      replace q174 := eq_true q174
                                                      go_wp2
                                                      go_roundg k5
                                                      case measure => have := HJ6.out; have := HK2.out; have := HK3.out; have := HK4.out; have := HK5.out; omega
                                                      case rel => exact ⟨(false), (wrap64 (x16_5 + 1)), (by first | rfl | (simp; done) | (simp [*]; done)), (by first | rfl | (simp; done) | (simp [*]; done)), H', ⟨by have := HJ6.out; have := HK2.out; have := HK3.out; have := HK4.out; have := HK5.out; omega⟩, ⟨by (with_reducible repeat (first | apply Kd.S_alloc | apply Kd.S_drewN | apply Kd.S_drew)); exact HO_8.out⟩, ⟨by (with_reducible repeat (first | apply Kd.R_alloc | apply Kd.R_drewN | apply Kd.R_drew)); exact HO_9.out⟩, ⟨by (with_reducible repeat (first | apply Kd.R_alloc | apply Kd.R_drewN | apply Kd.R_drew)); exact HO_11.out⟩, ⟨by repeat (first | (with_reducible first | exact HB.out | apply below_alloc | apply pw_below_drewN | apply below_drew1) | exact HB.out)⟩⟩
                                                    · replace c48 := Bool.eq_false_iff.mpr c48
                                                      subst c48
                                                      have H1 : (some false) = some r := by rw [if_neg (show ¬ (false = true) by decide)] at H; exact H
                                                      clear H
                                                      have H := H1
                                                      clear H1
                                                      obtain rfl := Option.some.inj H
                                                      have p165 : 0 ≤ (x15_4 : Int) := of_decide_eq_true (by first | (with_reducible assumption) | assumption)
                                                      have q165 : x15_4 < (t151.length : Int) := of_decide_eq_true (by first | (with_reducible assumption) | assumption)
                                                      obtain ⟨ad165, A165_0, c165_0, e165, hx165_0, hl165_0, hi165_0⟩ := at_L3 (Kd.S_reads' HO_8.out).2.2 x15_4 p165 q165
                                                      cases e165
                                                      obtain ⟨ce165, hce165, hMe165, hcc165⟩ := Kd.S_get HO_8.out [] x15_4 p165 (by first | exact q165 | exact of_decide_eq_true (by first | (with_reducible assumption) | assumption) | (have e_ := (Kd.S_reads' HO_8.out).1; omega))
                                                      obtain ⟨ve165_0, rfl, ge165_0⟩ := hMe165
                                                      have hv165_0 := hcc165 0 _ rfl
                                                      rw [Nat.add_zero, show ((Kd.slice 3 (Kd.int .i64))).sz = 1 from rfl, Nat.mul_one] at hv165_0
                                                      replace hv165_0 := Option.some.inj (hv165_0.symm.trans hx165_0)
                                                      rw [hv165_0] at ge165_0
                                                      have HL165_0 := Aside0.mk (show Kd.R (Kd.int .i64) 3 _ _ _ _ (rd_L3 t151 x15_4) from ge165_0)
                                                      clear hv165_0 ge165_0
                                                      clear hcc165 hce165
                                                      have HR165_0 := Aside0.mk hi165_0
                                                      have HC165_0 := Aside0.mk hl165_0
                                                      clear hi165_0 hl165_0
                                                      replace p165 := eq_true p165
                                                      replace q165 := eq_true q165
                                                      have p170 : 0 ≤ (x15_4 : Int) := of_decide_eq_true (by first | (with_reducible assumption) | assumption)
                                                      have q170 : x15_4 < (t158.length : Int) := of_decide_eq_true (by first | (with_reducible assumption) | assumption)
                                                      obtain ⟨ad170, e170, hx170_0⟩ := Kd.at_bool (Kd.R_reads' HO_11.out).2.2 x15_4 p170 q170
                                                      (try rw [← Nbq41.out] at hx170_0)
                                                      (try rw [← Nbq47.out] at hx170_0)
                                                      cases e170
                                                      replace p170 := eq_true p170
                                                      replace q170 := eq_true q170
                                                      have p171 : 0 ≤ (x15_4 : Int) := of_decide_eq_true (by first | (with_reducible assumption) | assumption)
                                                      have q171 : x15_4 < (t158.length : Int) := of_decide_eq_true (by first | (with_reducible assumption) | assumption)
                                                      obtain ⟨ad171, e171, hx171_0⟩ := Kd.at_bool (Kd.R_reads' HO_11.out).2.2 x15_4 p171 q171
                                                      (try rw [← Nbq41.out] at hx171_0)
                                                      (try rw [← Nbq47.out] at hx171_0)
                                                      obtain rfl : ad170 = ad171 := (by injection e171)
                                                      replace p171 := eq_true p171
                                                      replace q171 := eq_true q171
                                                      have p172 : 0 ≤ (x15_4 : Int) := of_decide_eq_true (by first | (with_reducible assumption) | assumption)
                                                      have q172 : x15_4 < (t151.length : Int) := of_decide_eq_true (by first | (with_reducible assumption) | assumption)
                                                      obtain ⟨ad172, A172_0, c172_0, e172, hx172_0, hl172_0, hi172_0⟩ := at_L3 (Kd.S_reads' HO_8.out).2.2 x15_4 p172 q172
                                                      obtain rfl : ad165 = ad172 := (by injection e172)
                                                      obtain ⟨ce172, hce172, hMe172, hcc172⟩ := Kd.S_get HO_8.out [] x15_4 p172 (by first | exact q172 | exact of_decide_eq_true (by first | (with_reducible assumption) | assumption) | (have e_ := (Kd.S_reads' HO_8.out).1; omega))
                                                      obtain ⟨ve172_0, rfl, ge172_0⟩ := hMe172
                                                      have hv172_0 := hcc172 0 _ rfl
                                                      rw [Nat.add_zero, show ((Kd.slice 3 (Kd.int .i64))).sz = 1 from rfl, Nat.mul_one] at hv172_0
                                                      replace hv172_0 := Option.some.inj (hv172_0.symm.trans hx172_0)
                                                      rw [hv172_0] at ge172_0
                                                      have HL172_0 := Aside0.mk (show Kd.R (Kd.int .i64) 3 _ _ _ _ (rd_L3 t151 x15_4) from ge172_0)
                                                      clear hv172_0 ge172_0
                                                      clear hcc172 hce172
                                                      have HR172_0 := Aside0.mk hi172_0
                                                      have HC172_0 := Aside0.mk hl172_0
                                                      clear hi172_0 hl172_0
                                                      replace p172 := eq_true p172
                                                      replace q172 := eq_true q172
                                                      have ea_ := Option.some.inj (hx165_0.symm.trans hx172_0)
                                                      injection ea_ with ea_ en_ ec_
                                                      subst ea_
                                                      subst ec_
                                                      clear en_
                                                      have p173 : 0 ≤ (x16_5 : Int) := of_decide_eq_true (by first | (with_reducible assumption) | assumption)
                                                      have q173 : x16_5 < ((rd_L3 t151 x15_4).length : Int) := of_decide_eq_true (by first | (with_reducible assumption) | assumption)
                                                      obtain ⟨ad173, e173, hx173_0⟩ := Kd.at_int (by repeat (first | (with_reducible exact HR172_0.out) | (with_reducible refine Kd.C_alloc ?_ _) | (with_reducible refine Kd.C_drewN ?_ _) | (with_reducible refine Kd.C_drew ?_) | exact HR172_0.out)) x16_5 p173 q173
                                                      cases e173
                                                      replace p173 := eq_true p173
                                                      replace q173 := eq_true q173
                                                      have p174 : 0 ≤ ((rd (rd_L3 t151 x15_4) x16_5) : Int) := of_decide_eq_true (by first | (with_reducible assumption) | assumption)
                                                      have q174 : (rd (rd_L3 t151 x15_4) x16_5) < (t158.length : Int) := of_decide_eq_true (by first | (with_reducible assumption) | assumption)
                                                      obtain ⟨ad174, e174, hx174_0⟩ := Kd.at_bool (Kd.R_reads' HO_11.out).2.2 (rd (rd_L3 t151 x15_4) x16_5) p174 q174
                                                      (try rw [← Nbq41.out] at hx174_0)
                                                      (try rw [← Nbq47.out] at hx174_0)
                                                      obtain rfl : ad170 = ad174 := (by injection e174)
                                                      replace p174 := eq_true p174
                                                      replace q174 := eq_true q174
                                                      go_wp2
                                                      go_ret
                                                      exact ⟨by first | rfl | (simp [errW_none, errW_some] <;> rfl) | (simp [*, errW_none, errW_some] <;> rfl), by repeat (first | (with_reducible first | exact HB.out | apply below_alloc | apply pw_below_drewN | apply below_drew1) | exact HB.out)⟩
                                                  · rw [if_neg c46] at H
                                                    exact absurd H (by simp)
                                                · rw [if_neg c45] at H
                                                  exact absurd H (by simp)
                                              · rw [if_neg c44] at H
                                                exact absurd H (by simp)
                                            · rw [if_neg c43] at H
                                              have c43b0 : (x15_4 == x12_2) = false := beq_eq_false_iff_ne.mpr c43
                                              have c43b1 : (x15_4 != x12_2) = true := bne_iff_ne.mpr c43
                                              by_cases c49 : 0 ≤ x16_5
                                              · rw [if_pos c49] at H
                                                have c49b0 : decide (0 ≤ x16_5) = true := decide_eq_true c49
                                                clear c49
                                                by_cases c50 : 0 ≤ (rd (rd_L3 t151 x15_4) x16_5)
                                                · rw [if_pos c50] at H
                                                  have c50b0 : decide (0 ≤ (rd (rd_L3 t151 x15_4) x16_5)) = true := decide_eq_true c50
                                                  clear c50
                                                  by_cases c51 : (rd (rd_L3 t151 x15_4) x16_5) < (t158.length : Int)
                                                  · rw [if_pos c51] at H
                                                    have c51b0 : decide ((rd (rd_L3 t151 x15_4) x16_5) < (t158.length : Int)) = true := decide_eq_true c51
                                                    clear c51
                                                    obtain ⟨bq52, hbq52⟩ : ∃ b_ : Bool, b_ = (rdOf false t158 (rd (rd_L3 t151 x15_4) x16_5)) := ⟨_, rfl⟩
                                                    replace H : (if (bq52 = true) then (billhooklaw10_DomReach.l4 k5 true t151 x9_6 t158 x12_2 ((rd (rd_L3 t151 x15_4) x16_5) == x12_2) x15_4 (wrap64 (x16_5 + 1))) else (some false)) = some r := by rw [← hbq52] at H; exact H
                                                    have Nbq52 := Aside0.mk hbq52
                                                    clear hbq52
                                                    by_cases c53 : (bq52 = true)
                                                    · subst c53
                                                      have H1 : (billhooklaw10_DomReach.l4 k5 true t151 x9_6 t158 x12_2 ((rd (rd_L3 t151 x15_4) x16_5) == x12_2) x15_4 (wrap64 (x16_5 + 1))) = some r := by first | (rw [if_pos rfl] at H; exact H) | (rw [if_pos trivial] at H; exact H)
                                                      clear H
                                                      have H := H1
                                                      clear H1
                                                      have H' := Aside0.mk H
                                                      clear H
                                                      have p165 : 0 ≤ (x15_4 : Int) := of_decide_eq_true (by first | (with_reducible assumption) | assumption)
                                                      have q165 : x15_4 < (t151.length : Int) := of_decide_eq_true (by first | (with_reducible assumption) | assumption)
                                                      obtain ⟨ad165, A165_0, c165_0, e165, hx165_0, hl165_0, hi165_0⟩ := at_L3 (Kd.S_reads' HO_8.out).2.2 x15_4 p165 q165
                                                      cases e165
                                                      obtain ⟨ce165, hce165, hMe165, hcc165⟩ := Kd.S_get HO_8.out [] x15_4 p165 (by first | exact q165 | exact of_decide_eq_true (by first | (with_reducible assumption) | assumption) | (have e_ := (Kd.S_reads' HO_8.out).1; omega))
                                                      obtain ⟨ve165_0, rfl, ge165_0⟩ := hMe165
                                                      have hv165_0 := hcc165 0 _ rfl
                                                      rw [Nat.add_zero, show ((Kd.slice 3 (Kd.int .i64))).sz = 1 from rfl, Nat.mul_one] at hv165_0
                                                      replace hv165_0 := Option.some.inj (hv165_0.symm.trans hx165_0)
                                                      rw [hv165_0] at ge165_0
                                                      have HL165_0 := Aside0.mk (show Kd.R (Kd.int .i64) 3 _ _ _ _ (rd_L3 t151 x15_4) from ge165_0)
                                                      clear hv165_0 ge165_0
                                                      clear hcc165 hce165
                                                      have HR165_0 := Aside0.mk hi165_0
                                                      have HC165_0 := Aside0.mk hl165_0
                                                      clear hi165_0 hl165_0
                                                      replace p165 := eq_true p165
                                                      replace q165 := eq_true q165
                                                      have p170 : 0 ≤ (x15_4 : Int) := of_decide_eq_true (by first | (with_reducible assumption) | assumption)
                                                      have q170 : x15_4 < (t158.length : Int) := of_decide_eq_true (by first | (with_reducible assumption) | assumption)
                                                      obtain ⟨ad170, e170, hx170_0⟩ := Kd.at_bool (Kd.R_reads' HO_11.out).2.2 x15_4 p170 q170
                                                      (try rw [← Nbq41.out] at hx170_0)
                                                      (try rw [← Nbq52.out] at hx170_0)
                                                      cases e170
                                                      replace p170 := eq_true p170
                                                      replace q170 := eq_true q170
                                                      have p175 : 0 ≤ (x15_4 : Int) := of_decide_eq_true (by first | (with_reducible assumption) | assumption)
                                                      have q175 : x15_4 < (t151.length : Int) := of_decide_eq_true (by first | (with_reducible assumption) | assumption)
                                                      obtain ⟨ad175, A175_0, c175_0, e175, hx175_0, hl175_0, hi175_0⟩ := at_L3 (Kd.S_reads' HO_8.out).2.2 x15_4 p175 q175
                                                      obtain rfl : ad165 = ad175 := (by injection e175)
                                                      obtain ⟨ce175, hce175, hMe175, hcc175⟩ := Kd.S_get HO_8.out [] x15_4 p175 (by first | exact q175 | exact of_decide_eq_true (by first | (with_reducible assumption) | assumption) | (have e_ := (Kd.S_reads' HO_8.out).1; omega))
                                                      obtain ⟨ve175_0, rfl, ge175_0⟩ := hMe175
                                                      have hv175_0 := hcc175 0 _ rfl
                                                      rw [Nat.add_zero, show ((Kd.slice 3 (Kd.int .i64))).sz = 1 from rfl, Nat.mul_one] at hv175_0
                                                      replace hv175_0 := Option.some.inj (hv175_0.symm.trans hx175_0)
                                                      rw [hv175_0] at ge175_0
                                                      have HL175_0 := Aside0.mk (show Kd.R (Kd.int .i64) 3 _ _ _ _ (rd_L3 t151 x15_4) from ge175_0)
                                                      clear hv175_0 ge175_0
                                                      clear hcc175 hce175
                                                      have HR175_0 := Aside0.mk hi175_0
                                                      have HC175_0 := Aside0.mk hl175_0
                                                      clear hi175_0 hl175_0
                                                      replace p175 := eq_true p175
                                                      replace q175 := eq_true q175
                                                      have ea_ := Option.some.inj (hx165_0.symm.trans hx175_0)
                                                      injection ea_ with ea_ en_ ec_
                                                      subst ea_
                                                      subst ec_
                                                      clear en_
                                                      have p176 : 0 ≤ (x16_5 : Int) := of_decide_eq_true (by first | (with_reducible assumption) | assumption)
                                                      have q176 : x16_5 < ((rd_L3 t151 x15_4).length : Int) := of_decide_eq_true (by first | (with_reducible assumption) | assumption)
                                                      obtain ⟨ad176, e176, hx176_0⟩ := Kd.at_int (by repeat (first | (with_reducible exact HR175_0.out) | (with_reducible refine Kd.C_alloc ?_ _) | (with_reducible refine Kd.C_drewN ?_ _) | (with_reducible refine Kd.C_drew ?_) | exact HR175_0.out)) x16_5 p176 q176
                                                      cases e176
                                                      replace p176 := eq_true p176
                                                      replace q176 := eq_true q176
                                                      have p177 : 0 ≤ (x15_4 : Int) := of_decide_eq_true (by first | (with_reducible assumption) | assumption)
                                                      have q177 : x15_4 < (t158.length : Int) := of_decide_eq_true (by first | (with_reducible assumption) | assumption)
                                                      obtain ⟨ad177, e177, hx177_0⟩ := Kd.at_bool (Kd.R_reads' HO_11.out).2.2 x15_4 p177 q177
                                                      (try rw [← Nbq41.out] at hx177_0)
                                                      (try rw [← Nbq52.out] at hx177_0)
                                                      obtain rfl : ad170 = ad177 := (by injection e177)
                                                      replace p177 := eq_true p177
                                                      replace q177 := eq_true q177
                                                      have p178 : 0 ≤ (x15_4 : Int) := of_decide_eq_true (by first | (with_reducible assumption) | assumption)
                                                      have q178 : x15_4 < (t151.length : Int) := of_decide_eq_true (by first | (with_reducible assumption) | assumption)
                                                      obtain ⟨ad178, A178_0, c178_0, e178, hx178_0, hl178_0, hi178_0⟩ := at_L3 (Kd.S_reads' HO_8.out).2.2 x15_4 p178 q178
                                                      obtain rfl : ad165 = ad178 := (by injection e178)
                                                      obtain ⟨ce178, hce178, hMe178, hcc178⟩ := Kd.S_get HO_8.out [] x15_4 p178 (by first | exact q178 | exact of_decide_eq_true (by first | (with_reducible assumption) | assumption) | (have e_ := (Kd.S_reads' HO_8.out).1; omega))
                                                      obtain ⟨ve178_0, rfl, ge178_0⟩ := hMe178
                                                      have hv178_0 := hcc178 0 _ rfl
                                                      rw [Nat.add_zero, show ((Kd.slice 3 (Kd.int .i64))).sz = 1 from rfl, Nat.mul_one] at hv178_0
                                                      replace hv178_0 := Option.some.inj (hv178_0.symm.trans hx178_0)
                                                      rw [hv178_0] at ge178_0
                                                      have HL178_0 := Aside0.mk (show Kd.R (Kd.int .i64) 3 _ _ _ _ (rd_L3 t151 x15_4) from ge178_0)
                                                      clear hv178_0 ge178_0
                                                      clear hcc178 hce178
                                                      have HR178_0 := Aside0.mk hi178_0
                                                      have HC178_0 := Aside0.mk hl178_0
                                                      clear hi178_0 hl178_0
                                                      replace p178 := eq_true p178
                                                      replace q178 := eq_true q178
                                                      have ea_ := Option.some.inj (hx165_0.symm.trans hx178_0)
                                                      injection ea_ with ea_ en_ ec_
                                                      subst ea_
                                                      subst ec_
                                                      clear en_
                                                      have p179 : 0 ≤ (x16_5 : Int) := of_decide_eq_true (by first | (with_reducible assumption) | assumption)
                                                      have q179 : x16_5 < ((rd_L3 t151 x15_4).length : Int) := of_decide_eq_true (by first | (with_reducible assumption) | assumption)
                                                      obtain ⟨ad179, e179, hx179_0⟩ := Kd.at_int (by repeat (first | (with_reducible exact HR178_0.out) | (with_reducible refine Kd.C_alloc ?_ _) | (with_reducible refine Kd.C_drewN ?_ _) | (with_reducible refine Kd.C_drew ?_) | exact HR178_0.out)) x16_5 p179 q179
                                                      cases e179
                                                      replace p179 := eq_true p179
                                                      replace q179 := eq_true q179
                                                      have p180 : 0 ≤ ((rd (rd_L3 t151 x15_4) x16_5) : Int) := of_decide_eq_true (by first | (with_reducible assumption) | assumption)
                                                      have q180 : (rd (rd_L3 t151 x15_4) x16_5) < (t158.length : Int) := of_decide_eq_true (by first | (with_reducible assumption) | assumption)
                                                      obtain ⟨ad180, e180, hx180_0⟩ := Kd.at_bool (Kd.R_reads' HO_11.out).2.2 (rd (rd_L3 t151 x15_4) x16_5) p180 q180
                                                      (try rw [← Nbq41.out] at hx180_0)
                                                      (try rw [← Nbq52.out] at hx180_0)
                                                      obtain rfl : ad170 = ad180 := (by injection e180)
                                                      replace p180 := eq_true p180
                                                      replace q180 := eq_true q180
                                                      go_wp2
                                                      go_roundg k5
                                                      case measure => have := HJ6.out; have := HK2.out; have := HK3.out; have := HK4.out; have := HK5.out; omega
                                                      case rel => exact ⟨(((rd (rd_L3 t151 x15_4) x16_5) == x12_2)), (wrap64 (x16_5 + 1)), (by first | rfl | (simp; done) | (simp [*]; done)), (by first | rfl | (simp; done) | (simp [*]; done)), H', ⟨by have := HJ6.out; have := HK2.out; have := HK3.out; have := HK4.out; have := HK5.out; omega⟩, ⟨by (with_reducible repeat (first | apply Kd.S_alloc | apply Kd.S_drewN | apply Kd.S_drew)); exact HO_8.out⟩, ⟨by (with_reducible repeat (first | apply Kd.R_alloc | apply Kd.R_drewN | apply Kd.R_drew)); exact HO_9.out⟩, ⟨by (with_reducible repeat (first | apply Kd.R_alloc | apply Kd.R_drewN | apply Kd.R_drew)); exact HO_11.out⟩, ⟨by repeat (first | (with_reducible first | exact HB.out | apply below_alloc | apply pw_below_drewN | apply below_drew1) | exact HB.out)⟩⟩
                                                    · replace c53 := Bool.eq_false_iff.mpr c53
                                                      subst c53
                                                      have H1 : (some false) = some r := by rw [if_neg (show ¬ (false = true) by decide)] at H; exact H
                                                      clear H
                                                      have H := H1
                                                      clear H1
                                                      obtain rfl := Option.some.inj H
                                                      have p165 : 0 ≤ (x15_4 : Int) := of_decide_eq_true (by first | (with_reducible assumption) | assumption)
                                                      have q165 : x15_4 < (t151.length : Int) := of_decide_eq_true (by first | (with_reducible assumption) | assumption)
                                                      obtain ⟨ad165, A165_0, c165_0, e165, hx165_0, hl165_0, hi165_0⟩ := at_L3 (Kd.S_reads' HO_8.out).2.2 x15_4 p165 q165
                                                      cases e165
                                                      obtain ⟨ce165, hce165, hMe165, hcc165⟩ := Kd.S_get HO_8.out [] x15_4 p165 (by first | exact q165 | exact of_decide_eq_true (by first | (with_reducible assumption) | assumption) | (have e_ := (Kd.S_reads' HO_8.out).1; omega))
                                                      obtain ⟨ve165_0, rfl, ge165_0⟩ := hMe165
                                                      have hv165_0 := hcc165 0 _ rfl
                                                      rw [Nat.add_zero, show ((Kd.slice 3 (Kd.int .i64))).sz = 1 from rfl, Nat.mul_one] at hv165_0
                                                      replace hv165_0 := Option.some.inj (hv165_0.symm.trans hx165_0)
                                                      rw [hv165_0] at ge165_0
                                                      have HL165_0 := Aside0.mk (show Kd.R (Kd.int .i64) 3 _ _ _ _ (rd_L3 t151 x15_4) from ge165_0)
                                                      clear hv165_0 ge165_0
                                                      clear hcc165 hce165
                                                      have HR165_0 := Aside0.mk hi165_0
                                                      have HC165_0 := Aside0.mk hl165_0
                                                      clear hi165_0 hl165_0
                                                      replace p165 := eq_true p165
                                                      replace q165 := eq_true q165
                                                      have p170 : 0 ≤ (x15_4 : Int) := of_decide_eq_true (by first | (with_reducible assumption) | assumption)
                                                      have q170 : x15_4 < (t158.length : Int) := of_decide_eq_true (by first | (with_reducible assumption) | assumption)
                                                      obtain ⟨ad170, e170, hx170_0⟩ := Kd.at_bool (Kd.R_reads' HO_11.out).2.2 x15_4 p170 q170
                                                      (try rw [← Nbq41.out] at hx170_0)
                                                      (try rw [← Nbq52.out] at hx170_0)
                                                      cases e170
                                                      replace p170 := eq_true p170
                                                      replace q170 := eq_true q170
                                                      have p175 : 0 ≤ (x15_4 : Int) := of_decide_eq_true (by first | (with_reducible assumption) | assumption)
                                                      have q175 : x15_4 < (t151.length : Int) := of_decide_eq_true (by first | (with_reducible assumption) | assumption)
                                                      obtain ⟨ad175, A175_0, c175_0, e175, hx175_0, hl175_0, hi175_0⟩ := at_L3 (Kd.S_reads' HO_8.out).2.2 x15_4 p175 q175
                                                      obtain rfl : ad165 = ad175 := (by injection e175)
                                                      obtain ⟨ce175, hce175, hMe175, hcc175⟩ := Kd.S_get HO_8.out [] x15_4 p175 (by first | exact q175 | exact of_decide_eq_true (by first | (with_reducible assumption) | assumption) | (have e_ := (Kd.S_reads' HO_8.out).1; omega))
                                                      obtain ⟨ve175_0, rfl, ge175_0⟩ := hMe175
                                                      have hv175_0 := hcc175 0 _ rfl
                                                      rw [Nat.add_zero, show ((Kd.slice 3 (Kd.int .i64))).sz = 1 from rfl, Nat.mul_one] at hv175_0
                                                      replace hv175_0 := Option.some.inj (hv175_0.symm.trans hx175_0)
                                                      rw [hv175_0] at ge175_0
                                                      have HL175_0 := Aside0.mk (show Kd.R (Kd.int .i64) 3 _ _ _ _ (rd_L3 t151 x15_4) from ge175_0)
                                                      clear hv175_0 ge175_0
                                                      clear hcc175 hce175
                                                      have HR175_0 := Aside0.mk hi175_0
                                                      have HC175_0 := Aside0.mk hl175_0
                                                      clear hi175_0 hl175_0
                                                      replace p175 := eq_true p175
                                                      replace q175 := eq_true q175
                                                      have ea_ := Option.some.inj (hx165_0.symm.trans hx175_0)
                                                      injection ea_ with ea_ en_ ec_
                                                      subst ea_
                                                      subst ec_
                                                      clear en_
                                                      have p176 : 0 ≤ (x16_5 : Int) := of_decide_eq_true (by first | (with_reducible assumption) | assumption)
                                                      have q176 : x16_5 < ((rd_L3 t151 x15_4).length : Int) := of_decide_eq_true (by first | (with_reducible assumption) | assumption)
                                                      obtain ⟨ad176, e176, hx176_0⟩ := Kd.at_int (by repeat (first | (with_reducible exact HR175_0.out) | (with_reducible refine Kd.C_alloc ?_ _) | (with_reducible refine Kd.C_drewN ?_ _) | (with_reducible refine Kd.C_drew ?_) | exact HR175_0.out)) x16_5 p176 q176
                                                      cases e176
                                                      replace p176 := eq_true p176
                                                      replace q176 := eq_true q176
                                                      have p177 : 0 ≤ (x15_4 : Int) := of_decide_eq_true (by first | (with_reducible assumption) | assumption)
                                                      have q177 : x15_4 < (t158.length : Int) := of_decide_eq_true (by first | (with_reducible assumption) | assumption)
                                                      obtain ⟨ad177, e177, hx177_0⟩ := Kd.at_bool (Kd.R_reads' HO_11.out).2.2 x15_4 p177 q177
                                                      (try rw [← Nbq41.out] at hx177_0)
                                                      (try rw [← Nbq52.out] at hx177_0)
                                                      obtain rfl : ad170 = ad177 := (by injection e177)
                                                      replace p177 := eq_true p177
                                                      replace q177 := eq_true q177
                                                      have p178 : 0 ≤ (x15_4 : Int) := of_decide_eq_true (by first | (with_reducible assumption) | assumption)
                                                      have q178 : x15_4 < (t151.length : Int) := of_decide_eq_true (by first | (with_reducible assumption) | assumption)
                                                      obtain ⟨ad178, A178_0, c178_0, e178, hx178_0, hl178_0, hi178_0⟩ := at_L3 (Kd.S_reads' HO_8.out).2.2 x15_4 p178 q178
                                                      obtain rfl : ad165 = ad178 := (by injection e178)
                                                      obtain ⟨ce178, hce178, hMe178, hcc178⟩ := Kd.S_get HO_8.out [] x15_4 p178 (by first | exact q178 | exact of_decide_eq_true (by first | (with_reducible assumption) | assumption) | (have e_ := (Kd.S_reads' HO_8.out).1; omega))
                                                      obtain ⟨ve178_0, rfl, ge178_0⟩ := hMe178
                                                      have hv178_0 := hcc178 0 _ rfl
                                                      rw [Nat.add_zero, show ((Kd.slice 3 (Kd.int .i64))).sz = 1 from rfl, Nat.mul_one] at hv178_0
                                                      replace hv178_0 := Option.some.inj (hv178_0.symm.trans hx178_0)
                                                      rw [hv178_0] at ge178_0
                                                      have HL178_0 := Aside0.mk (show Kd.R (Kd.int .i64) 3 _ _ _ _ (rd_L3 t151 x15_4) from ge178_0)
                                                      clear hv178_0 ge178_0
                                                      clear hcc178 hce178
                                                      have HR178_0 := Aside0.mk hi178_0
                                                      have HC178_0 := Aside0.mk hl178_0
                                                      clear hi178_0 hl178_0
                                                      replace p178 := eq_true p178
                                                      replace q178 := eq_true q178
                                                      have ea_ := Option.some.inj (hx165_0.symm.trans hx178_0)
                                                      injection ea_ with ea_ en_ ec_
                                                      subst ea_
                                                      subst ec_
                                                      clear en_
                                                      have p179 : 0 ≤ (x16_5 : Int) := of_decide_eq_true (by first | (with_reducible assumption) | assumption)
                                                      have q179 : x16_5 < ((rd_L3 t151 x15_4).length : Int) := of_decide_eq_true (by first | (with_reducible assumption) | assumption)
                                                      obtain ⟨ad179, e179, hx179_0⟩ := Kd.at_int (by repeat (first | (with_reducible exact HR178_0.out) | (with_reducible refine Kd.C_alloc ?_ _) | (with_reducible refine Kd.C_drewN ?_ _) | (with_reducible refine Kd.C_drew ?_) | exact HR178_0.out)) x16_5 p179 q179
                                                      cases e179
                                                      replace p179 := eq_true p179
                                                      replace q179 := eq_true q179
                                                      have p180 : 0 ≤ ((rd (rd_L3 t151 x15_4) x16_5) : Int) := of_decide_eq_true (by first | (with_reducible assumption) | assumption)
                                                      have q180 : (rd (rd_L3 t151 x15_4) x16_5) < (t158.length : Int) := of_decide_eq_true (by first | (with_reducible assumption) | assumption)
                                                      obtain ⟨ad180, e180, hx180_0⟩ := Kd.at_bool (Kd.R_reads' HO_11.out).2.2 (rd (rd_L3 t151 x15_4) x16_5) p180 q180
                                                      (try rw [← Nbq41.out] at hx180_0)
                                                      (try rw [← Nbq52.out] at hx180_0)
                                                      obtain rfl : ad170 = ad180 := (by injection e180)
                                                      replace p180 := eq_true p180
                                                      replace q180 := eq_true q180
                                                      go_wp2
                                                      go_ret
                                                      exact ⟨by first | rfl | (simp [errW_none, errW_some] <;> rfl) | (simp [*, errW_none, errW_some] <;> rfl), by repeat (first | (with_reducible first | exact HB.out | apply below_alloc | apply pw_below_drewN | apply below_drew1) | exact HB.out)⟩
                                                  · rw [if_neg c51] at H
                                                    exact absurd H (by simp)
                                                · rw [if_neg c50] at H
                                                  exact absurd H (by simp)
                                              · rw [if_neg c49] at H
                                                exact absurd H (by simp)
                                          · replace c42 := Bool.eq_false_iff.mpr c42
                                            subst c42
                                            have H1 : (billhooklaw10_DomReach.l4 k5 true t151 x9_6 t158 x12_2 false x15_4 (wrap64 (x16_5 + 1))) = some r := by rw [if_neg (show ¬ (false = true) by decide)] at H; exact H
                                            clear H
                                            have H := H1
                                            clear H1
                                            have H' := Aside0.mk H
                                            clear H
                                            have p165 : 0 ≤ (x15_4 : Int) := of_decide_eq_true (by first | (with_reducible assumption) | assumption)
                                            have q165 : x15_4 < (t151.length : Int) := of_decide_eq_true (by first | (with_reducible assumption) | assumption)
                                            obtain ⟨ad165, A165_0, c165_0, e165, hx165_0, hl165_0, hi165_0⟩ := at_L3 (Kd.S_reads' HO_8.out).2.2 x15_4 p165 q165
                                            cases e165
                                            obtain ⟨ce165, hce165, hMe165, hcc165⟩ := Kd.S_get HO_8.out [] x15_4 p165 (by first | exact q165 | exact of_decide_eq_true (by first | (with_reducible assumption) | assumption) | (have e_ := (Kd.S_reads' HO_8.out).1; omega))
                                            obtain ⟨ve165_0, rfl, ge165_0⟩ := hMe165
                                            have hv165_0 := hcc165 0 _ rfl
                                            rw [Nat.add_zero, show ((Kd.slice 3 (Kd.int .i64))).sz = 1 from rfl, Nat.mul_one] at hv165_0
                                            replace hv165_0 := Option.some.inj (hv165_0.symm.trans hx165_0)
                                            rw [hv165_0] at ge165_0
                                            have HL165_0 := Aside0.mk (show Kd.R (Kd.int .i64) 3 _ _ _ _ (rd_L3 t151 x15_4) from ge165_0)
                                            clear hv165_0 ge165_0
                                            clear hcc165 hce165
                                            have HR165_0 := Aside0.mk hi165_0
                                            have HC165_0 := Aside0.mk hl165_0
                                            clear hi165_0 hl165_0
                                            replace p165 := eq_true p165
                                            replace q165 := eq_true q165
                                            have p170 : 0 ≤ (x15_4 : Int) := of_decide_eq_true (by first | (with_reducible assumption) | assumption)
                                            have q170 : x15_4 < (t158.length : Int) := of_decide_eq_true (by first | (with_reducible assumption) | assumption)
                                            obtain ⟨ad170, e170, hx170_0⟩ := Kd.at_bool (Kd.R_reads' HO_11.out).2.2 x15_4 p170 q170
                                            (try rw [← Nbq41.out] at hx170_0)
                                            cases e170
                                            replace p170 := eq_true p170
                                            replace q170 := eq_true q170
                                            have p181 : 0 ≤ (x15_4 : Int) := of_decide_eq_true (by first | (with_reducible assumption) | assumption)
                                            have q181 : x15_4 < (t158.length : Int) := of_decide_eq_true (by first | (with_reducible assumption) | assumption)
                                            obtain ⟨ad181, e181, hx181_0⟩ := Kd.at_bool (Kd.R_reads' HO_11.out).2.2 x15_4 p181 q181
                                            (try rw [← Nbq41.out] at hx181_0)
                                            obtain rfl : ad170 = ad181 := (by injection e181)
                                            replace p181 := eq_true p181
                                            replace q181 := eq_true q181
                                            go_wp2
                                            go_roundg k5
                                            case measure => have := HJ6.out; have := HK2.out; have := HK3.out; have := HK4.out; have := HK5.out; omega
                                            case rel => exact ⟨(false), (wrap64 (x16_5 + 1)), (by first | rfl | (simp; done) | (simp [*]; done)), (by first | rfl | (simp; done) | (simp [*]; done)), H', ⟨by have := HJ6.out; have := HK2.out; have := HK3.out; have := HK4.out; have := HK5.out; omega⟩, ⟨by (with_reducible repeat (first | apply Kd.S_alloc | apply Kd.S_drewN | apply Kd.S_drew)); exact HO_8.out⟩, ⟨by (with_reducible repeat (first | apply Kd.R_alloc | apply Kd.R_drewN | apply Kd.R_drew)); exact HO_9.out⟩, ⟨by (with_reducible repeat (first | apply Kd.R_alloc | apply Kd.R_drewN | apply Kd.R_drew)); exact HO_11.out⟩, ⟨by repeat (first | (with_reducible first | exact HB.out | apply below_alloc | apply pw_below_drewN | apply below_drew1) | exact HB.out)⟩⟩
                                        · rw [if_neg c40] at H
                                          exact absurd H (by simp)
                                    · rw [if_neg c30] at H
                                      have c30b0 : decide (x16_5 < ((rd_L3 t151 x15_4).length : Int)) = false := decide_eq_false c30
                                      clear c30
                                      have H' := Aside0.mk H
                                      clear H
                                      have p165 : 0 ≤ (x15_4 : Int) := of_decide_eq_true (by first | (with_reducible assumption) | assumption)
                                      have q165 : x15_4 < (t151.length : Int) := of_decide_eq_true (by first | (with_reducible assumption) | assumption)
                                      obtain ⟨ad165, A165_0, c165_0, e165, hx165_0, hl165_0, hi165_0⟩ := at_L3 (Kd.S_reads' HO_8.out).2.2 x15_4 p165 q165
                                      cases e165
                                      obtain ⟨ce165, hce165, hMe165, hcc165⟩ := Kd.S_get HO_8.out [] x15_4 p165 (by first | exact q165 | exact of_decide_eq_true (by first | (with_reducible assumption) | assumption) | (have e_ := (Kd.S_reads' HO_8.out).1; omega))
                                      obtain ⟨ve165_0, rfl, ge165_0⟩ := hMe165
                                      have hv165_0 := hcc165 0 _ rfl
                                      rw [Nat.add_zero, show ((Kd.slice 3 (Kd.int .i64))).sz = 1 from rfl, Nat.mul_one] at hv165_0
                                      replace hv165_0 := Option.some.inj (hv165_0.symm.trans hx165_0)
                                      rw [hv165_0] at ge165_0
                                      have HL165_0 := Aside0.mk (show Kd.R (Kd.int .i64) 3 _ _ _ _ (rd_L3 t151 x15_4) from ge165_0)
                                      clear hv165_0 ge165_0
                                      clear hcc165 hce165
                                      have HR165_0 := Aside0.mk hi165_0
                                      have HC165_0 := Aside0.mk hl165_0
                                      clear hi165_0 hl165_0
                                      replace p165 := eq_true p165
                                      replace q165 := eq_true q165
                                      go_wp2
                                      go_roundg k5
                                      case measure => have := HJ6.out; have := HK2.out; have := HK3.out; have := HK4.out; have := HK5.out; omega
                                      case rel => exact ⟨(x13_5), (wrap64 (x15_4 + 1)), (by first | rfl | (simp; done) | (simp [*]; done)), (by first | rfl | (simp; done) | (simp [*]; done)), H', ⟨by have := HJ6.out; have := HK2.out; have := HK3.out; have := HK4.out; have := HK5.out; omega⟩, ⟨by (with_reducible repeat (first | apply Kd.S_alloc | apply Kd.S_drewN | apply Kd.S_drew)); exact HO_8.out⟩, ⟨by (with_reducible repeat (first | apply Kd.R_alloc | apply Kd.R_drewN | apply Kd.R_drew)); exact HO_9.out⟩, ⟨by (with_reducible repeat (first | apply Kd.R_alloc | apply Kd.R_drewN | apply Kd.R_drew)); exact HO_11.out⟩, ⟨by repeat (first | (with_reducible first | exact HB.out | apply below_alloc | apply pw_below_drewN | apply below_drew1) | exact HB.out)⟩⟩
                                  · rw [if_neg c29] at H
                                    exact absurd H (by simp)
                                · rw [if_neg c28] at H
                                  exact absurd H (by simp)
                          · rw [if_neg c27] at H
                            have c27b0 : decide (x15_4 < (t158.length : Int)) = false := decide_eq_false c27
                            clear c27
                            by_cases c54 : 0 ≤ x12_2
                            · rw [if_pos c54] at H
                              have c54b0 : decide (0 ≤ x12_2) = true := decide_eq_true c54
                              clear c54
                              by_cases c55 : x12_2 < (t158.length : Int)
                              · rw [if_pos c55] at H
                                have c55b0 : decide (x12_2 < (t158.length : Int)) = true := decide_eq_true c55
                                clear c55
                                obtain ⟨bq56, hbq56⟩ : ∃ b_ : Bool, b_ = (rdOf false t158 x12_2) := ⟨_, rfl⟩
                                replace H : (if bq56 = true then (if x13_4 = true then (billhooklaw10_DomReach.l1 k4 true t151 x9_6 t158 (wrap64 (x12_2 + 1))) else (some false)) else (if x13_4 = true then (some false) else (billhooklaw10_DomReach.l1 k4 true t151 x9_6 t158 (wrap64 (x12_2 + 1))))) = some r := by rw [← hbq56] at H; exact H
                                have Nbq56 := Aside0.mk hbq56
                                clear hbq56
                                by_cases c57 : bq56 = true
                                · subst c57
                                  have H1 : (if x13_4 = true then (billhooklaw10_DomReach.l1 k4 true t151 x9_6 t158 (wrap64 (x12_2 + 1))) else (some false)) = some r := by first | (rw [if_pos rfl] at H; exact H) | (rw [if_pos trivial] at H; exact H)
                                  clear H
                                  have H := H1
                                  clear H1
                                  by_cases c58 : x13_4 = true
                                  · subst c58
                                    have H1 : (billhooklaw10_DomReach.l1 k4 true t151 x9_6 t158 (wrap64 (x12_2 + 1))) = some r := by first | (rw [if_pos rfl] at H; exact H) | (rw [if_pos trivial] at H; exact H)
                                    clear H
                                    have H := H1
                                    clear H1
                                    have H' := Aside0.mk H
                                    clear H
                                    have p162 : 0 ≤ (x12_2 : Int) := of_decide_eq_true (by first | (with_reducible assumption) | assumption)
                                    have q162 : x12_2 < (t158.length : Int) := of_decide_eq_true (by first | (with_reducible assumption) | assumption)
                                    obtain ⟨ad162, e162, hx162_0⟩ := Kd.at_bool (Kd.R_reads' HO_11.out).2.2 x12_2 p162 q162
                                    (try rw [← Nbq56.out] at hx162_0)
                                    cases e162
                                    replace p162 := eq_true p162
                                    replace q162 := eq_true q162
                                    have p163 : 0 ≤ (x12_2 : Int) := of_decide_eq_true (by first | (with_reducible assumption) | assumption)
                                    have q163 : x12_2 < (t158.length : Int) := of_decide_eq_true (by first | (with_reducible assumption) | assumption)
                                    obtain ⟨ad163, e163, hx163_0⟩ := Kd.at_bool (Kd.R_reads' HO_11.out).2.2 x12_2 p163 q163
                                    (try rw [← Nbq56.out] at hx163_0)
                                    obtain rfl : ad162 = ad163 := (by injection e163)
                                    replace p163 := eq_true p163
                                    replace q163 := eq_true q163
                                    go_wp2
                                    go_roundg k4
                                    case measure => have := HJ6.out; have := HK2.out; have := HK3.out; have := HK4.out; omega
                                    case rel => exact ⟨(wrap64 (x12_2 + 1)), (by first | rfl | (simp; done) | (simp [*]; done)), H', ⟨by have := HJ6.out; have := HK2.out; have := HK3.out; have := HK4.out; omega⟩, ⟨by (with_reducible repeat (first | apply Kd.S_alloc | apply Kd.S_drewN | apply Kd.S_drew)); exact HO_8.out⟩, ⟨by (with_reducible repeat (first | apply Kd.R_alloc | apply Kd.R_drewN | apply Kd.R_drew)); exact HO_9.out⟩, ⟨by (with_reducible repeat (first | apply Kd.R_alloc | apply Kd.R_drewN | apply Kd.R_drew)); exact HO_11.out⟩, ⟨by repeat (first | (with_reducible first | exact HB.out | apply below_alloc | apply pw_below_drewN | apply below_drew1) | exact HB.out)⟩⟩
                                  · replace c58 := Bool.eq_false_iff.mpr c58
                                    subst c58
                                    have H1 : (some false) = some r := by rw [if_neg (show ¬ (false = true) by decide)] at H; exact H
                                    clear H
                                    have H := H1
                                    clear H1
                                    obtain rfl := Option.some.inj H
                                    have p162 : 0 ≤ (x12_2 : Int) := of_decide_eq_true (by first | (with_reducible assumption) | assumption)
                                    have q162 : x12_2 < (t158.length : Int) := of_decide_eq_true (by first | (with_reducible assumption) | assumption)
                                    obtain ⟨ad162, e162, hx162_0⟩ := Kd.at_bool (Kd.R_reads' HO_11.out).2.2 x12_2 p162 q162
                                    (try rw [← Nbq56.out] at hx162_0)
                                    cases e162
                                    replace p162 := eq_true p162
                                    replace q162 := eq_true q162
                                    go_wp2
                                    go_ret
                                    exact ⟨by first | rfl | (simp [errW_none, errW_some] <;> rfl) | (simp [*, errW_none, errW_some] <;> rfl), by repeat (first | (with_reducible first | exact HB.out | apply below_alloc | apply pw_below_drewN | apply below_drew1) | exact HB.out)⟩
                                · replace c57 := Bool.eq_false_iff.mpr c57
                                  subst c57
                                  have H1 : (if x13_4 = true then (some false) else (billhooklaw10_DomReach.l1 k4 true t151 x9_6 t158 (wrap64 (x12_2 + 1)))) = some r := by rw [if_neg (show ¬ (false = true) by decide)] at H; exact H
                                  clear H
                                  have H := H1
                                  clear H1
                                  by_cases c59 : x13_4 = true
                                  · subst c59
                                    have H1 : (some false) = some r := by first | (rw [if_pos rfl] at H; exact H) | (rw [if_pos trivial] at H; exact H)
                                    clear H
                                    have H := H1
                                    clear H1
                                    obtain rfl := Option.some.inj H
                                    have p162 : 0 ≤ (x12_2 : Int) := of_decide_eq_true (by first | (with_reducible assumption) | assumption)
                                    have q162 : x12_2 < (t158.length : Int) := of_decide_eq_true (by first | (with_reducible assumption) | assumption)
                                    obtain ⟨ad162, e162, hx162_0⟩ := Kd.at_bool (Kd.R_reads' HO_11.out).2.2 x12_2 p162 q162
                                    (try rw [← Nbq56.out] at hx162_0)
                                    cases e162
                                    replace p162 := eq_true p162
                                    replace q162 := eq_true q162
                                    have p164 : 0 ≤ (x12_2 : Int) := of_decide_eq_true (by first | (with_reducible assumption) | assumption)
                                    have q164 : x12_2 < (t158.length : Int) := of_decide_eq_true (by first | (with_reducible assumption) | assumption)
                                    obtain ⟨ad164, e164, hx164_0⟩ := Kd.at_bool (Kd.R_reads' HO_11.out).2.2 x12_2 p164 q164
                                    (try rw [← Nbq56.out] at hx164_0)
                                    obtain rfl : ad162 = ad164 := (by injection e164)
                                    replace p164 := eq_true p164
                                    replace q164 := eq_true q164
                                    go_wp2
                                    go_ret
                                    exact ⟨by first | rfl | (simp [errW_none, errW_some] <;> rfl) | (simp [*, errW_none, errW_some] <;> rfl), by repeat (first | (with_reducible first | exact HB.out | apply below_alloc | apply pw_below_drewN | apply below_drew1) | exact HB.out)⟩
                                  · replace c59 := Bool.eq_false_iff.mpr c59
                                    subst c59
                                    have H1 : (billhooklaw10_DomReach.l1 k4 true t151 x9_6 t158 (wrap64 (x12_2 + 1))) = some r := by rw [if_neg (show ¬ (false = true) by decide)] at H; exact H
                                    clear H
                                    have H := H1
                                    clear H1
                                    have H' := Aside0.mk H
                                    clear H
                                    have p162 : 0 ≤ (x12_2 : Int) := of_decide_eq_true (by first | (with_reducible assumption) | assumption)
                                    have q162 : x12_2 < (t158.length : Int) := of_decide_eq_true (by first | (with_reducible assumption) | assumption)
                                    obtain ⟨ad162, e162, hx162_0⟩ := Kd.at_bool (Kd.R_reads' HO_11.out).2.2 x12_2 p162 q162
                                    (try rw [← Nbq56.out] at hx162_0)
                                    cases e162
                                    replace p162 := eq_true p162
                                    replace q162 := eq_true q162
                                    have p164 : 0 ≤ (x12_2 : Int) := of_decide_eq_true (by first | (with_reducible assumption) | assumption)
                                    have q164 : x12_2 < (t158.length : Int) := of_decide_eq_true (by first | (with_reducible assumption) | assumption)
                                    obtain ⟨ad164, e164, hx164_0⟩ := Kd.at_bool (Kd.R_reads' HO_11.out).2.2 x12_2 p164 q164
                                    (try rw [← Nbq56.out] at hx164_0)
                                    obtain rfl : ad162 = ad164 := (by injection e164)
                                    replace p164 := eq_true p164
                                    replace q164 := eq_true q164
                                    go_wp2
                                    go_roundg k4
                                    case measure => have := HJ6.out; have := HK2.out; have := HK3.out; have := HK4.out; omega
                                    case rel => exact ⟨(wrap64 (x12_2 + 1)), (by first | rfl | (simp; done) | (simp [*]; done)), H', ⟨by have := HJ6.out; have := HK2.out; have := HK3.out; have := HK4.out; omega⟩, ⟨by (with_reducible repeat (first | apply Kd.S_alloc | apply Kd.S_drewN | apply Kd.S_drew)); exact HO_8.out⟩, ⟨by (with_reducible repeat (first | apply Kd.R_alloc | apply Kd.R_drewN | apply Kd.R_drew)); exact HO_9.out⟩, ⟨by (with_reducible repeat (first | apply Kd.R_alloc | apply Kd.R_drewN | apply Kd.R_drew)); exact HO_11.out⟩, ⟨by repeat (first | (with_reducible first | exact HB.out | apply below_alloc | apply pw_below_drewN | apply below_drew1) | exact HB.out)⟩⟩
                              · rw [if_neg c55] at H
                                exact absurd H (by simp)
                            · rw [if_neg c54] at H
                              exact absurd H (by simp)
              · rw [if_neg c23] at H
                have c23b0 : decide (x12_2 < (t158.length : Int)) = false := decide_eq_false c23
                clear c23
                obtain rfl := Option.some.inj H
                go_wp2
                go_ret
                exact ⟨by first | rfl | (simp [errW_none, errW_some] <;> rfl) | (simp [*, errW_none, errW_some] <;> rfl), by repeat (first | (with_reducible first | exact HB.out | apply below_alloc | apply pw_below_drewN | apply below_drew1) | exact HB.out)⟩
        · rw [if_neg c18] at H
          have c18b0 : ((t158.length : Int) == (t151.length : Int)) = false := beq_eq_false_iff_ne.mpr c18
          have c18b1 : ((t158.length : Int) != (t151.length : Int)) = true := bne_iff_ne.mpr c18
          have c18b2 : (t158.length == t151.length) = false := by first | simpa using c18 | (simp at c18 ⊢; omega)
          obtain rfl := Option.some.inj H
          obtain ⟨Ao60, co60, eo60⟩ := Kd.S_slice HO_8.out
          subst eo60
          obtain ⟨Ao61, co61, eo61⟩ := Kd.R_slice HO_9.out
          subst eo61
          go_wp2_with (first | ((with_reducible refine gate_callee (f := 29) rfl ?_); refine goesL_ (some 48) rfl rfl Try.func29 (by kernel_rfl) rfl #[.slice Ao60 t151.length co60, .slice Ao61 x9_6.length co61] rfl (by (try simp only [List.map_toArray, List.map_cons, List.map_nil]); first | done | rfl | (simp only [List.length_drop, List.length_take]; rfl)) ?_; (with_reducible refine (dom_Reach.calls kj6 _ _ t151 _ _ x9_6 t158 _ ?side1 ?side2 ?side3 ?side4 A17.out).mono ?_); (case side1 => repeat (first | exact (Kd.S_reads' HO_8.out).2.2 | (with_reducible refine Kd.C_alloc ?_ _) | (with_reducible refine Kd.C_drewN ?_ _) | (with_reducible refine Kd.C_drew ?_))); (case side2 => exact (Kd.S_reads' HO_8.out).2.1); (case side3 => repeat (first | exact (Kd.R_reads' HO_9.out).2.2 | (with_reducible refine Kd.C_alloc ?_ _) | (with_reducible refine Kd.C_drewN ?_ _) | (with_reducible refine Kd.C_drew ?_))); (case side4 => exact (Kd.R_reads' HO_9.out).2.1); rintro e w62 ⟨v159, rfl, ho0, hb⟩; refine ⟨_, rfl, ?_⟩; have n0_ := Aside0.mk (Kd.S_below (by (with_reducible repeat (first | apply Kd.S_alloc | apply Kd.S_drewN | apply Kd.S_drew)); exact HO_8.out) hb); have n1_ := Aside0.mk (Kd.R_below (by (with_reducible repeat (first | apply Kd.R_alloc | apply Kd.R_drewN | apply Kd.R_drew)); exact HO_9.out) hb); have n2_ := Aside0.mk (Kd.R_lower ho0 (below_size (by repeat (first | (with_reducible first | exact HB.out | apply below_alloc | apply pw_below_drewN | apply below_drew1) | exact HB.out)))); have n3_ := Aside0.mk (below_step (by repeat (first | (with_reducible first | exact HB.out | apply below_alloc | apply pw_below_drewN | apply below_drew1) | exact HB.out)) hb); clear HO_8; clear HO_9; clear HB; have HO_8 := n0_; have HO_9 := n1_; have HO160 := n2_; have HB := n3_; clear n0_ n1_ n2_ n3_; (try clear hb); (try clear hb2); (try clear hk); (try clear hi); (try clear ho0); obtain ⟨Ao63, co63, eo63⟩ := Kd.R_slice HO160.out; subst eo63))
          go_ret
          exact ⟨by first | rfl | (simp [errW_none, errW_some] <;> rfl) | (simp [*, errW_none, errW_some] <;> rfl), by repeat (first | (with_reducible first | exact HB.out | apply below_alloc | apply pw_below_drewN | apply below_drew1) | exact HB.out)⟩
  · replace c5 := Bool.eq_false_iff.mpr c5
    subst c5
    have H1 : (some false) = some r := by rw [if_neg (show ¬ (false = true) by decide)] at H; exact H
    clear H
    have H := H1
    clear H1
    obtain rfl := Option.some.inj H
    go_enter Try.func9, Try.ntmps9
    go_wp2_with (first | ((with_reducible refine gate_callee (f := 26) rfl ?_); refine goesL_ (some 17) rfl rfl Try.func26 (by kernel_rfl) rfl #[] rfl (by (try simp only [List.map_toArray, List.map_cons, List.map_nil]); first | done | rfl | (simp only [List.length_drop, List.length_take]; rfl)) ?_; (with_reducible refine (billhooklaw10_examples.calls  false _ A4.out).mono ?_); rintro e w64 ⟨rfl, hb⟩; refine ⟨_, rfl, ?_⟩; have n0_ := Aside0.mk (below_step (by repeat (first | (with_reducible first | exact HB.out | apply below_alloc | apply pw_below_drewN | apply below_drew1) | exact HB.out)) hb); clear HB; have HB := n0_; clear n0_; (try clear hb); (try clear hb2); (try clear hk); (try clear hi)))
    go_ret
    exact ⟨by first | rfl | (simp [errW_none, errW_some] <;> rfl) | (simp [*, errW_none, errW_some] <;> rfl), by repeat (first | (with_reducible first | exact HB.out | apply below_alloc | apply pw_below_drewN | apply below_drew1) | exact HB.out)⟩

/-- THE ONE PURE STATEMENT of billhooklaw10_DomReach: yours. -/
def billhooklaw10_DomReach.Pure : Prop := ∀ (l0 : List Int) (a1 : Int) (l2 : List Int), l0.length ≤ maxLen → l0.length * 1 ≤ 140737488351232 → (∀ x ∈ l0, (Lit.int .u8 x).wf = true) → (Lit.int .u8 a1).wf = true → l2.length ≤ maxLen → l2.length * 1 ≤ 140737488351232 → (∀ x ∈ l2, (Lit.int .u8 x).wf = true) → ∃ k, billhooklaw10_DomReach.f k l0 a1 l2 = some true
theorem billhooklaw10_DomReach.walk (P : billhooklaw10_DomReach.Pure) (a0 : Option Addr) (len0 cap0 : Nat) (z0 : List Int) (a1 : Int) (a2 : Option Addr) (len2 cap2 : Nat) (z2 : List Int) (w : World) (w0 : (a0 = none ∧ len0 = 0 ∧ cap0 = 0 ∧ z0 = []) ∨ ∃ x, a0 = some x ∧ len0 ≤ cap0 ∧ cap0 ≤ maxLen ∧ z0.length = cap0 ∧ (∀ i, i < z0.length → w.cell? (x.add i) = some (.int .u8 (z0.getD i 0))) ∧ ∀ n ∈ z0, (Lit.int .u8 n).wf = true) (y0 : len0 * 1 ≤ 140737488351232) (w1 : (Lit.int .u8 a1).wf = true) (w2 : (a2 = none ∧ len2 = 0 ∧ cap2 = 0 ∧ z2 = []) ∨ ∃ x, a2 = some x ∧ len2 ≤ cap2 ∧ cap2 ≤ maxLen ∧ z2.length = cap2 ∧ (∀ i, i < z2.length → w.cell? (x.add i) = some (.int .u8 (z2.getD i 0))) ∧ ∀ n ∈ z2, (Lit.int .u8 n).wf = true) (y2 : len2 * 1 ≤ 140737488351232) :
    Calls Try.prog 9 #[.slice a0 len0 cap0, .int .u8 a1, .slice a2 len2 cap2] w fun e w' => e = .returned (.bool true) ∧ Below w.heap.size w w' := by
  obtain ⟨l0, rfl, hr0, hm0, hw0, hc0⟩ := ReadsInt.ofRowC w0
  obtain ⟨l2, rfl, hr2, hm2, hw2, hc2⟩ := ReadsInt.ofRowC w2
  obtain ⟨k, h⟩ := P l0 a1 l2 hm0 y0 hw0 w1 hm2 y2 hw2
  refine (billhooklaw10_DomReach.calls k _ _ l0 a1 _ _ l2 true w (Kd.C_of_reads (d := (0 : Int)) (h1 := fun _ => rfl) hr0) hc0 (Kd.C_of_reads (d := (0 : Int)) (h1 := fun _ => rfl) hr2) hc2 h).mono ?_
  rintro e w' ⟨rfl, hd⟩
  exact ⟨rfl, hd⟩

end Go.Proofs.Ytankppgafdcknaa.PDom

/- Of any web, and wherever one begins: one comes to what one begins at, and to what that goes to, and to nothing else. -/
set_option linter.unusedVariables false
set_option linter.unusedSimpArgs false
set_option linter.unusedSectionVars false
namespace Go.Proofs.Ytankppgafdcknaa.Pure
open Go Go.RowKit Go.Proofs.YtankppgafdcknaaW.PrintWords Go.Proofs.Ytankppgafdcknaa.PPost Go.Proofs.Ytankppgafdcknaa.PDom Go.Proofs.Ytankppgafdcknaa.Gr

def cmAt (at_ : List Int) (i : Nat) : Bool := at_.any fun s => s == (i : Int)
def cmRow (xs : List (List Int)) (met : List Bool) (i k t : Nat) : Bool := mkd met k && decide (k ≠ i) && ((row xs k).take t).any fun s => s == (i : Int)
def cmTo (xs : List (List Int)) (met : List Bool) (i k : Nat) : Bool := (List.range k).any fun j => cmRow xs met i j (row xs j).length
section
variable {xs : List (List Int)} {met : List Bool} {at_ : List Int} (hw : Web xs) (hl : met.length = xs.length) (ha : at_.length ≤ 4) (hm : ∀ i, mkd met i = true ↔ ∃ s : Nat, (s : Int) ∈ at_ ∧ Rc xs s i)
include hw hl ha hm
theorem dr_met (i : Nat) : rdOf false met (i : Int) = mkd met i := by unfold rdOf mkd; rw [nat_toNat]
theorem dr_closed (k : Nat) (hk : k < xs.length) (hmk : mkd met k = true) (s : Int) (hs : s ∈ row xs k) : mkd met s.toNat = true := by
  have hr := (hw.rw_ k hk).2 s hs
  simp only [isN, Bool.and_eq_true, decide_eq_true_eq] at hr
  obtain ⟨a, h1, h2⟩ := (hm k).1 hmk
  refine (hm _).2 ⟨a, h1, .tail k _ h2 ⟨hk, by omega, ?_⟩⟩
  rwa [show ((s.toNat : Nat) : Int) = s by omega]
theorem dr_came (i : Nat) (hi : i < xs.length) : mkd met i = (cmAt at_ i || cmTo xs met i xs.length) := by
  rw [Bool.eq_iff_iff]
  simp only [Bool.or_eq_true, cmAt, cmTo, cmRow, List.any_eq_true, beq_iff_eq, Bool.and_eq_true, decide_eq_true_eq, List.mem_range, List.take_length]
  constructor
  · intro h
    obtain ⟨s, hs, hr⟩ := (hm i).1 h
    have key : ∀ j, Rc xs s j → (∃ x, x ∈ at_ ∧ x = (j : Int)) ∨ ∃ k, k < xs.length ∧ (mkd met k = true ∧ k ≠ j) ∧ ∃ x, x ∈ row xs k ∧ x = (j : Int) := by
      intro j hj
      induction hj with
      | refl _ => exact .inl ⟨_, hs, rfl⟩
      | tail k j hk e ih =>
        by_cases hkj : k = j
        · rw [hkj] at ih; exact ih
        · exact .inr ⟨k, e.1, ⟨(hm k).2 ⟨s, hs, hk⟩, hkj⟩, _, e.2.2, rfl⟩
    exact key i hr
  · rintro (⟨x, hx, rfl⟩ | ⟨k, hk, ⟨h1, h2⟩, x, hx, rfl⟩)
    · exact (hm i).2 ⟨i, hx, .refl hi⟩
    · obtain ⟨a, h3, h4⟩ := (hm k).1 h1
      exact (hm i).2 ⟨a, h3, .tail k i h4 ⟨hk, hi, hx⟩⟩
theorem dr_l4 (i k : Nat) (hi : i < xs.length) (hk : k < xs.length) (K : Ev (fun n => billhooklaw10_DomReach.l3 n true xs at_ met (i : Int) (cmAt at_ i || cmTo xs met i (k + 1)) ((k + 1 : Nat) : Int)) true) :
    ∀ (q t : Nat), t + q = (row xs k).length → Ev (fun n => billhooklaw10_DomReach.l4 n true xs at_ met (i : Int) (cmAt at_ i || cmTo xs met i k || cmRow xs met i k t) (k : Int) (t : Int)) true := by
  have hle := hw.le
  have hrw := hw.rw_ k hk
  have hrl := hrw.1
  intro q
  induction q with
  | zero =>
    intro t ht
    have ht : t = (row xs k).length := by omega
    refine Ev.step (fun n => ?_) K
    simp only [billhooklaw10_DomReach.l4, L3_row]
    rw [if_pos (by omega), if_pos (by omega), if_neg (by omega), w_succ _ (by omega)]
    congr 1
    rw [ht]
    simp only [cmTo, List.range_succ, List.any_append, List.any_cons, List.any_nil, Bool.or_false, Bool.or_assoc]
  | succ q ih =>
    intro t ht
    have htl : t < (row xs k).length := by omega
    have hs := hrw.2 _ (List.getElem_mem htl)
    simp only [isN, Bool.and_eq_true, decide_eq_true_eq] at hs
    refine Ev.step (fun n => ?_) (ih (t + 1) (by omega))
    have hstep : cmRow xs met i k (t + 1) = (cmRow xs met i k t || (mkd met k && decide (k ≠ i) && ((row xs k)[t] == (i : Int)))) := by
      unfold cmRow
      rw [List.take_succ_eq_append_getElem htl, List.any_append]
      simp only [List.any_cons, List.any_nil, Bool.or_false]
      cases mkd met k <;> cases decide (k ≠ i) <;> simp
    simp only [billhooklaw10_DomReach.l4, L3_row, rd_at _ _ htl]
    have e : ((row xs k)[t] : Int) = (((row xs k)[t].toNat : Nat) : Int) := by omega
    have hmet : ∀ j : Nat, rdOf false met (j : Int) = mkd met j := fun j => dr_met hw hl ha hm j
    rw [if_pos (by omega), if_pos (by omega), if_pos (by omega), w_succ _ (by omega), hstep]
    have hrt : rdOf false met (row xs k)[t] = mkd met (row xs k)[t].toNat := rfl
    cases hb : (cmAt at_ i || cmTo xs met i k || cmRow xs met i k t) with
    | true =>
      rw [if_pos rfl, if_pos (by omega), hmet]
      have hb' : (cmAt at_ i || cmTo xs met i k || (cmRow xs met i k t || (mkd met k && decide (k ≠ i) && ((row xs k)[t] == (i : Int))))) = true := by
        rw [← Bool.or_assoc, hb]; rfl
      rw [hb']
      cases hmk : mkd met k with
      | true => rw [if_pos rfl, if_pos (by omega), if_pos hs.1, if_pos (by omega), hrt, dr_closed hw hl ha hm k hk hmk _ (List.getElem_mem htl), if_pos rfl]
      | false => rw [if_neg (by simp)]
    | false =>
      rw [if_neg (by simp), if_pos (by omega), hmet]
      have hb' : (cmAt at_ i || cmTo xs met i k || (cmRow xs met i k t || (mkd met k && decide (k ≠ i) && ((row xs k)[t] == (i : Int))))) = (mkd met k && decide (k ≠ i) && ((row xs k)[t] == (i : Int))) := by
        rw [← Bool.or_assoc, hb]; rfl
      rw [hb']
      cases hmk : mkd met k with
      | true =>
        rw [if_pos rfl]
        have hcl := dr_closed hw hl ha hm k hk hmk _ (List.getElem_mem htl)
        by_cases hki : k = i
        · rw [if_pos (by omega), if_pos (by omega), if_pos hs.1, if_pos (by omega), hrt, hcl, if_pos rfl]
          simp [hki]
        · rw [if_neg (by omega), if_pos (by omega), if_pos hs.1, if_pos (by omega), hrt, hcl, if_pos rfl]
          simp [hki]
      | false => rw [if_neg (by simp)]; simp
theorem dr_l3 (i : Nat) (hi : i < xs.length) (K : Ev (fun n => billhooklaw10_DomReach.l1 n true xs at_ met ((i + 1 : Nat) : Int)) true) :
    ∀ (q k : Nat), k + q = xs.length → Ev (fun n => billhooklaw10_DomReach.l3 n true xs at_ met (i : Int) (cmAt at_ i || cmTo xs met i k) (k : Int)) true := by
  have hle := hw.le
  intro q
  induction q with
  | zero =>
    intro k hk
    have hk : k = xs.length := by omega
    refine Ev.step (fun n => ?_) K
    simp only [billhooklaw10_DomReach.l3]
    have hmet : rdOf false met (i : Int) = mkd met i := dr_met hw hl ha hm i
    rw [if_neg (by omega), if_pos (by omega), if_pos (by omega), hmet, w_succ _ (by omega), hk, ← dr_came hw hl ha hm i hi]
    cases mkd met i <;> simp
  | succ q ih =>
    intro k hk
    refine Ev.step (fun n => ?_) (dr_l4 hw hl ha hm i k hi (by omega) (ih (k + 1) (by omega)) (row xs k).length 0 (by omega))
    simp only [billhooklaw10_DomReach.l3]
    rw [if_pos (by omega)]
    congr 1
    simp [cmRow]
theorem dr_l2 (i : Nat) (hi : i < xs.length) (K : Ev (fun n => billhooklaw10_DomReach.l1 n true xs at_ met ((i + 1 : Nat) : Int)) true) :
    ∀ (q t : Nat), t + q = at_.length → Ev (fun n => billhooklaw10_DomReach.l2 n true xs at_ met (i : Int) (cmAt (at_.take t) i) (t : Int)) true := by
  intro q
  induction q with
  | zero =>
    intro t ht
    have ht : t = at_.length := by omega
    refine Ev.step (fun n => ?_) (dr_l3 hw hl ha hm i hi K xs.length 0 (by omega))
    simp only [billhooklaw10_DomReach.l2]
    rw [if_neg (by omega), ht, List.take_length]
    congr 1
    simp [cmTo]
  | succ q ih =>
    intro t ht
    have htl : t < at_.length := by omega
    refine Ev.step (fun n => ?_) (ih (t + 1) (by omega))
    have hs : cmAt (at_.take (t + 1)) i = (cmAt (at_.take t) i || (at_[t] == (i : Int))) := by
      unfold cmAt
      rw [List.take_succ_eq_append_getElem htl, List.any_append]
      simp only [List.any_cons, List.any_nil, Bool.or_false]
    simp only [billhooklaw10_DomReach.l2, rd_at _ _ htl]
    rw [if_pos (by omega), w_succ _ (by omega), hs]
    cases hb : cmAt (at_.take t) i with
    | true => rw [if_pos rfl]; rfl
    | false => rw [if_neg (by simp), if_pos (by omega)]; rfl
theorem dr_l1 : ∀ (q i : Nat), i + q = xs.length → Ev (fun n => billhooklaw10_DomReach.l1 n true xs at_ met (i : Int)) true := by
  have hle := hw.le
  intro q
  induction q with
  | zero =>
    intro i hi
    refine Ev.step (fun n => ?_) (Ev.now true)
    simp only [billhooklaw10_DomReach.l1]
    rw [if_neg (by omega)]
  | succ q ih =>
    intro i hi
    refine Ev.step (fun n => ?_) (dr_l2 hw hl ha hm i (by omega) (ih (i + 1) (by omega)) at_.length 0 (by omega))
    simp only [billhooklaw10_DomReach.l1]
    rw [if_pos (by omega)]
    rfl
end
theorem dr_j1 {xs : List (List Int)} (hw : Web xs) (at_ : List Int) (ha : at_.length ≤ 4) : Ev (fun n => billhooklaw10_DomReach.j1 n true xs at_) true := by
  obtain ⟨met, he, hl, hm⟩ := hw.reach at_ (by omega)
  refine Ev.step (f := fun n => (dom_Reach.f n xs at_).bind fun t158 => (if (t158.length : Int) = (xs.length : Int) then (billhooklaw10_DomReach.l1 n true xs at_ t158 0) else (some false))) (fun n => rfl) (Ev.bind he (Ev.congr (fun n => ?_) (dr_l1 hw hl ha hm xs.length 0 (by omega))))
  rw [if_pos (by omega)]
  rfl
theorem dr_l0 {xs : List (List Int)} (hw : Web xs) (l : List Int) (hl : ∀ x ∈ l, 0 ≤ x ∧ x ≤ 255) : ∀ (q i : Nat) (at_ : List Int), i + q = 4 → at_.length = i → Ev (fun n => billhooklaw10_DomReach.l0 n l true xs at_ (i : Int)) true := by
  have hle := hw.le
  intro q
  induction q with
  | zero =>
    intro i at_ hi ha
    refine Ev.step (fun n => ?_) (dr_j1 hw at_ (by omega))
    simp only [billhooklaw10_DomReach.l0]
    split
    · rw [if_neg (by omega)]
    · rfl
  | succ q ih =>
    intro i at_ hi ha
    by_cases hil : i < l.length
    · refine Ev.step (fun n => ?_) (ih (i + 1) (at_ ++ [wrap64 ((Int.tmod (wrap64 (rd l (i : Int))) (wrap64 ((xs.length : Int) + 2))) - 1)]) (by omega) (by simp [ha]))
      simp only [billhooklaw10_DomReach.l0]
      have w2 : wrap64 ((xs.length : Int) + 2) = (xs.length : Int) + 2 := w64 (by omega) (by omega)
      rw [if_pos (by omega), if_pos (by omega), if_pos (by omega), if_neg (by omega), if_pos (by omega), w_succ _ (by omega)]
    · refine Ev.step (fun n => ?_) (dr_j1 hw at_ (by omega))
      simp only [billhooklaw10_DomReach.l0]
      rw [if_neg (by omega)]
theorem DomReach : billhooklaw10_DomReach.Pure := by
  intro l a m _ _ hl ha _ _ hm
  obtain ⟨xs, hx, hw⟩ := web_ev l a hl ha
  refine Ev.rounds (g := fun k => billhooklaw10_DomReach.f k l a m) ?_
  refine Ev.congr (f := fun k => (billhooklaw10_web.f k l a).bind fun t151 => (billhooklaw10_DomReach.l0 k m true t151 ([] : List Int) 0)) (fun k => ?_) (Ev.bind hx (dr_l0 hw m (fun x hx => u8_wf (hm x hx)) 4 0 [] (by omega) rfl))
  unfold billhooklaw10_DomReach.f
  rw [ex_f]
  simp
end Go.Proofs.Ytankppgafdcknaa.Pure

/- Printed for this claim by a program. -/
namespace Go.Proofs.Ytankppgafdcknaa.domReach
open Go.ChangeShapes Go.WideShapes Go.ChangeAt Go.RowKit
open Go.ChangeMaps (open_string shut_string)
set_option linter.unusedVariables false
theorem own : ownKnob Try.prog.godebug = none := by kernel_rfl
theorem laidOut : laidOutB Try.prog = true := by kernel_rfl
def IsRow (k : IntKind) (w : World) (a : Option Addr) (len cap : Nat) (zs : List Int) : Prop :=
  (a = none ∧ len = 0 ∧ cap = 0 ∧ zs = []) ∨
  ∃ x, a = some x ∧ len ≤ cap ∧ cap ≤ maxLen ∧ zs.length = cap ∧ (∀ i, i < zs.length → w.cell? (x.add i) = some (.int k (zs.getD i 0))) ∧ ∀ n ∈ zs, (Lit.int k n).wf = true
set_option maxRecDepth 100000 in
theorem lifted (os : Os) (started : os.Started) (H : Type) (enc : TypeId × Value → H) :
    ReturnsInHanded {} Try.checked os 9 .any (Rows.domReachSpec.pre6 enc Try.prog Try.f9 Rows.domReachRow.domain false) (Rows.domReachSpec.post enc Try.prog Try.f9 false true false false) := by
  refine returnsInHanded_of_change_sized (C := Try.checked) own started (by kernel_rfl) Try.func9
    (ChangeSpec.witness6 (enc := enc) (C := Try.checked) false ⟨#[], #[.slice none 0 0, .int .u8 0, .slice none 0 0], []⟩ 8 (by kernel_rfl) (by kernel_rfl) (by kernel_rfl) (by kernel_rfl)) ?_
  intro W base args ds gs before hval0 hW hcnd hsz0 _
  have hsz : (DataW.weightsEach Try.prog (Try.f9.params.toList ++ Rows.domReachSpec.plain.varTypes Try.prog) (ds ++ gs)).all (· ≤ reachBytes) = true := hsz0
  have hval : ∀ (j : Nat) t v, Try.f9.params[j]? = some t → args[j]? = some v → Value.okWide Try.prog W .any base t v := hval0
  have hW' := hW
  obtain ⟨p, q, hA0, hV, rfl, hfz, hnd⟩ := hW
  have hA : DataW.TrodAll enc Try.prog W 0 (fun _ => true) true Try.f9.params.toList args.toList ds p := hA0
  rw [Try.params9] at hA hval hsz
  obtain ⟨v0, vs0, d0, ds0, p0, q0, hargs, rfl, rfl, h0, r0⟩ := trodAll_cons hA
  obtain ⟨v1, vs1, d1, ds1, p1, q1, rfl, rfl, rfl, h1, r1⟩ := trodAll_cons r0
  obtain ⟨v2, vs2, d2, ds2, p2, q2, rfl, rfl, rfl, h2, r2⟩ := trodAll_cons r1
  obtain ⟨rfl, rfl, rfl⟩ := trodAll_nil r2
  obtain rfl : args = #[v0, v1, v2] := by cases args; simp_all
  obtain ⟨rfl, rfl⟩ := trodVars_none hV
  obtain ⟨a0, len0, cap0, rfl⟩ := okWide_slice Try.underlying46 (hval 0 46 v0 rfl rfl)
  have k0 := h0
  have lt0 : ∀ x ∈ p0, x.block < W.heap.size := by obtain ⟨m, hm⟩ := k0; exact DataW.trod_lt m _ _ _ hm
  obtain ⟨z0, w0⟩ : ∃ zs, IsRow .u8 W a0 len0 cap0 zs := by
    obtain ⟨fuel, hf⟩ := h0
    rcases open_ints Try.underlying46 Try.underlying5 (by kernel_rfl) hf with ⟨hcs, _⟩ | ⟨x, l, c, zs, hcs, _, hl, hm, hz, _, hcell, hwz⟩
    · simp [Value.cells] at hcs
      obtain ⟨rfl, rfl, rfl⟩ := hcs
      exact ⟨[], .inl ⟨rfl, rfl, rfl, rfl⟩⟩
    · simp [Value.cells] at hcs
      obtain ⟨rfl, rfl, rfl⟩ := hcs
      exact ⟨zs, .inr ⟨_, rfl, hl, hm, by simpa using hz, hcell, hwz⟩⟩
  have y0 : len0 * 1 ≤ 140737488351232 := Go.Proofs.YtankppgafdcknaaW.PrintWords.sized_ints hsz (j := 0) (t := 46) rfl rfl Try.underlying46 Try.underlying5 (by kernel_rfl) (by kernel_rfl) h0
  obtain ⟨a1, rfl, rfl, rfl, w1⟩ := open_int Try.underlying5 (hval 1 5 v1 rfl rfl) h1
  obtain ⟨a2, len2, cap2, rfl⟩ := okWide_slice Try.underlying46 (hval 2 46 v2 rfl rfl)
  have k2 := h2
  have lt2 : ∀ x ∈ p2, x.block < W.heap.size := by obtain ⟨m, hm⟩ := k2; exact DataW.trod_lt m _ _ _ hm
  obtain ⟨z2, w2⟩ : ∃ zs, IsRow .u8 W a2 len2 cap2 zs := by
    obtain ⟨fuel, hf⟩ := h2
    rcases open_ints Try.underlying46 Try.underlying5 (by kernel_rfl) hf with ⟨hcs, _⟩ | ⟨x, l, c, zs, hcs, _, hl, hm, hz, _, hcell, hwz⟩
    · simp [Value.cells] at hcs
      obtain ⟨rfl, rfl, rfl⟩ := hcs
      exact ⟨[], .inl ⟨rfl, rfl, rfl, rfl⟩⟩
    · simp [Value.cells] at hcs
      obtain ⟨rfl, rfl, rfl⟩ := hcs
      exact ⟨zs, .inr ⟨_, rfl, hl, hm, by simpa using hz, hcell, hwz⟩⟩
  have y2 : len2 * 1 ≤ 140737488351232 := Go.Proofs.YtankppgafdcknaaW.PrintWords.sized_ints hsz (j := 2) (t := 46) rfl rfl Try.underlying46 Try.underlying5 (by kernel_rfl) (by kernel_rfl) h2
  clear hA0 hval0 hsz0 hsz
  refine (PDom.billhooklaw10_DomReach.walk Pure.DomReach a0 len0 cap0 z0 a1 a2 len2 cap2 z2 W w0 y0 w1 w2 y2).mono fun e W' ⟨he, bel⟩ => ?_
  subst he
  exact ⟨_, rfl, _, _, _, [], _, [], hW', trodAll_mk1 (shut_bool Try.underlying4 _), (trodAll_cons_mk (Below.trod laidOut (by kernel_rfl) (of_decide_eq_true (by kernel_rfl)) k0 bel lt0) (trodAll_cons_mk (shut_int Try.underlying5 w1) (trodAll_cons_mk (Below.trod laidOut (by kernel_rfl) (of_decide_eq_true (by kernel_rfl)) k2 bel lt2) trodAll_mk0))), rfl, bel.frame _, fun h => by cases h⟩
theorem over : Rows.domReachRow.holds Try.pinned (OpenSpec.ofChange Rows.domReachSpec) :=
  OpenClaim.holds_of_wide 9 Try.f9 rfl rfl rfl rfl rfl rfl rfl ⟨rfl, rfl, rfl, rfl, rfl⟩ rfl rfl rfl rfl rfl (by kernel_rfl) Try.func9 (by kernel_rfl)
    (of_decide_eq_true (by kernel_rfl)) (by unfold Func.isWrapper; first | (rw [if_pos (by decide +kernel)]; kernel_rfl) | (rw [if_neg (by decide +kernel)]; exact ⟨rfl, rfl⟩))
    (fun os started H enc _ => lifted os started H enc)
theorem proved : Rows.DomReachSaid := over
#print axioms proved
end Go.Proofs.Ytankppgafdcknaa.domReach
namespace Go.Proofs.Ytankppgafdcknaa
/-- The row, under a short name, for the claim. -/
theorem domReach_holds : Rows.DomReachSaid := domReach.proved
end Go.Proofs.Ytankppgafdcknaa
