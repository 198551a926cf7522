/- Texts joined into one: PTelx4 PureDomTells LawDomTells. -/
import Derived.Test.YtankppgafdcknaaTh
import Derived.Test.YtankppgafdcknaaTi
import Derived.Test.YtankppgafdcknaaRows
import Derived.WalkKit
import Derived.ProofKit
import Derived.OpenShut
import Derived.ShutString
import Derived.ChangeOld
import Derived.Below
import Derived.JoinedCond
import Derived.Deep.Slices
/- Printed for this claim by a program. -/
namespace Go.Proofs.Ytankppgafdcknaa.PTel
open Go.Proofs.Ytankppgafdcknaa.PPost Go.Proofs.Ytankppgafdcknaa.PDom
open Go.RowKit Go.Proofs.YtankppgafdcknaaW.PrintWords Go.Proofs.YtankppgafdcknaaW.PrintLast Go.Proofs.YtankppgafdcknaaW.PrintMore
attribute [local go_sem] max2_int min2_int max_two min_two max_three min_three max_four min_four   -- for this text's walks alone
set_option linter.unusedVariables false
set_option linter.unusedSimpArgs false
/-! ### billhooklaw10_DomTells: function 5 -/
mutual
def billhooklaw10_DomTells.l0 : Nat → List (List Int) → Bool → Bool → List (List Bool) → List (List Bool) → Int → Option (Bool)
 | 0, _, _, _, _, _, _ => none
 | k + 1, x0, x11, x12, x13, x14, x15 => if x15 < (x13.length : Int) then (if 0 ≤ x15 then (if x15 < (x14.length : Int) then ((billhooklaw10_bools.f k (rd_L3 x13 x15) (rd_L3 x14 x15)).bind fun t196 => (if t196 = true then (billhooklaw10_DomTells.l0 k x0 x11 x12 x13 x14 (wrap64 (x15 + 1))) else (some false))) else (none)) else (none)) else ((dom_Least.f k x0).bind fun t197 => ((billhookref10_Least.f k x0).bind fun t200 => ((billhooklaw10_same.f k t197 t200).bind fun t203 => ((dom_Control.f k x0).bind fun t204 => ((billhookref10_Control.f k x0).bind fun t207 => ((billhooklaw10_rows.f k t204 t207).bind fun t210 => (if x11 = true then (if x12 = true then (if t203 = true then (some t210) else (some false)) else (some false)) else (some false))))))))
def billhooklaw10_DomTells.l100 : Nat → List (List Int) → Bool → Bool → List (List Bool) → List (List Bool) → Int → Option (Bool)
 | 0, _, _, _, _, _, _ => none
 | k + 1, x0, x11, x12, x13, x14, x15 => if x15 < (x13.length : Int) then (if 0 ≤ x15 then (if x15 < (x14.length : Int) then ((billhooklaw10_bools.f k (rd_L3 x13 x15) (rd_L3 x14 x15)).bind fun t230 => (if t230 = true then (billhooklaw10_DomTells.l100 k x0 x11 x12 x13 x14 (wrap64 (x15 + 1))) else (some false))) else (none)) else (none)) else ((dom_Least.f k x0).bind fun t231 => ((billhookref10_Least.f k x0).bind fun t234 => ((billhooklaw10_same.f k t231 t234).bind fun t237 => ((dom_Control.f k x0).bind fun t238 => ((billhookref10_Control.f k x0).bind fun t241 => ((billhooklaw10_rows.f k t238 t241).bind fun t244 => (if x11 = true then (if x12 = true then (if t237 = true then (some t244) else (some false)) else (some false)) else (some false))))))))
end
def billhooklaw10_DomTells.f (k : Nat) (l0 : List (List Int)) (a1 : Bool) (l2 : List Int) (a3 : Int) (l4 : List Int) : Option (Bool) := (billhooklaw10_examples.f).bind fun t169 => (if t169 = true then (if 0 ≤ (mn (l0.length : Int) 12) then (if (mn (l0.length : Int) 12) ≤ (l0.length : Int) then ((some (l0.take ((mn (l0.length : Int) 12) : Int).toNat : List (List Int))).bind fun y170 => (if a1 = true then ((billhooklaw10_web.f k l2 a3).bind fun t174 => (if 0 ≤ (mn (l4.length : Int) 6) then (if (mn (l4.length : Int) 6) ≤ (l4.length : Int) then ((some (l4.take ((mn (l4.length : Int) 6) : Int).toNat : List Int)).bind fun y177 => ((dom_Reach.f k t174 y177).bind fun t181 => ((billhookref10_Reach.f k t174 y177).bind fun t184 => ((billhooklaw10_bools.f k t181 t184).bind fun t187 => ((dom_Post.f k t174).bind fun t188 => ((billhookref10_Post.f k t174).bind fun t191 => (if (t188.length : Int) = (t191.length : Int) then (billhooklaw10_DomTells.l0 k t174 t169 t187 t188 t191 0) else (some false)))))))) else (none)) else (none))) else (if 0 ≤ (mn (l4.length : Int) 6) then (if (mn (l4.length : Int) 6) ≤ (l4.length : Int) then ((some (l4.take ((mn (l4.length : Int) 6) : Int).toNat : List Int)).bind fun y211 => ((dom_Reach.f k y170 y211).bind fun t215 => ((billhookref10_Reach.f k y170 y211).bind fun t218 => ((billhooklaw10_bools.f k t215 t218).bind fun t221 => ((dom_Post.f k y170).bind fun t222 => ((billhookref10_Post.f k y170).bind fun t225 => (if (t222.length : Int) = (t225.length : Int) then (billhooklaw10_DomTells.l100 k y170 t169 t221 t222 t225 0) else (some false)))))))) else (none)) else (none)))) else (none)) else (none)) else (some false))
theorem billhooklaw10_DomTells.mono_l : ∀ k, (∀ y0 y1 y2 y3 y4 y5, LeO (billhooklaw10_DomTells.l0 k y0 y1 y2 y3 y4 y5) (billhooklaw10_DomTells.l0 (k + 1) y0 y1 y2 y3 y4 y5)) ∧ (∀ y0 y1 y2 y3 y4 y5, LeO (billhooklaw10_DomTells.l100 k y0 y1 y2 y3 y4 y5) (billhooklaw10_DomTells.l100 (k + 1) y0 y1 y2 y3 y4 y5))
 | 0 => ⟨fun _ _ _ _ _ _ r h => by simp [billhooklaw10_DomTells.l0] at h, fun _ _ _ _ _ _ r h => by simp [billhooklaw10_DomTells.l100] at h⟩
 | k + 1 => by
  obtain ⟨ih0, ih1⟩ := billhooklaw10_DomTells.mono_l k
  refine ⟨?_, ?_⟩
  ·
   intro y0 y1 y2 y3 y4 y5
   unfold billhooklaw10_DomTells.l0
   repeat' first
   | (with_reducible exact ih0 _ _ _ _ _ _)
   | (with_reducible exact ih1 _ _ _ _ _ _)
   | (with_reducible exact billhooklaw10_bools.mono _ _ _)
   | (with_reducible exact billhooklaw10_rows.mono _ _ _)
   | (with_reducible exact billhooklaw10_same.mono _ _ _)
   | (with_reducible exact billhooklaw10_web.mono _ _ _)
   | (with_reducible exact billhookref10_Control.mono _ _)
   | (with_reducible exact billhookref10_Least.mono _ _)
   | (with_reducible exact billhookref10_Post.mono _ _)
   | (with_reducible exact billhookref10_Reach.mono _ _ _)
   | (with_reducible exact dom_Control.mono _ _)
   | (with_reducible exact dom_Least.mono _ _)
   | (with_reducible exact dom_Post.mono _ _)
   | (with_reducible exact dom_Reach.mono _ _ _)
   | (with_reducible exact LeO.refl _)
   | (with_reducible exact LeO.none _)
   | (with_reducible refine LeO.ite ?_ ?_)
   | (with_reducible refine LeO.bind ?_ (fun _ => ?_))
   | exact ih0 _ _ _ _ _ _
   | exact ih1 _ _ _ _ _ _
   | exact billhooklaw10_bools.mono _ _ _
   | exact billhooklaw10_rows.mono _ _ _
   | exact billhooklaw10_same.mono _ _ _
   | exact billhooklaw10_web.mono _ _ _
   | exact billhookref10_Control.mono _ _
   | exact billhookref10_Least.mono _ _
   | exact billhookref10_Post.mono _ _
   | exact billhookref10_Reach.mono _ _ _
   | exact dom_Control.mono _ _
   | exact dom_Least.mono _ _
   | exact dom_Post.mono _ _
   | exact dom_Reach.mono _ _ _
   | exact LeO.none _
   | refine LeO.ite ?_ ?_
   | refine LeO.bind ?_ (fun _ => ?_)
  ·
   intro y0 y1 y2 y3 y4 y5
   unfold billhooklaw10_DomTells.l100
   repeat' first
   | (with_reducible exact ih0 _ _ _ _ _ _)
   | (with_reducible exact ih1 _ _ _ _ _ _)
   | (with_reducible exact billhooklaw10_bools.mono _ _ _)
   | (with_reducible exact billhooklaw10_rows.mono _ _ _)
   | (with_reducible exact billhooklaw10_same.mono _ _ _)
   | (with_reducible exact billhooklaw10_web.mono _ _ _)
   | (with_reducible exact billhookref10_Control.mono _ _)
   | (with_reducible exact billhookref10_Least.mono _ _)
   | (with_reducible exact billhookref10_Post.mono _ _)
   | (with_reducible exact billhookref10_Reach.mono _ _ _)
   | (with_reducible exact dom_Control.mono _ _)
   | (with_reducible exact dom_Least.mono _ _)
   | (with_reducible exact dom_Post.mono _ _)
   | (with_reducible exact dom_Reach.mono _ _ _)
   | (with_reducible exact LeO.refl _)
   | (with_reducible exact LeO.none _)
   | (with_reducible refine LeO.ite ?_ ?_)
   | (with_reducible refine LeO.bind ?_ (fun _ => ?_))
   | exact ih0 _ _ _ _ _ _
   | exact ih1 _ _ _ _ _ _
   | exact billhooklaw10_bools.mono _ _ _
   | exact billhooklaw10_rows.mono _ _ _
   | exact billhooklaw10_same.mono _ _ _
   | exact billhooklaw10_web.mono _ _ _
   | exact billhookref10_Control.mono _ _
   | exact billhookref10_Least.mono _ _
   | exact billhookref10_Post.mono _ _
   | exact billhookref10_Reach.mono _ _ _
   | exact dom_Control.mono _ _
   | exact dom_Least.mono _ _
   | exact dom_Post.mono _ _
   | exact dom_Reach.mono _ _ _
   | exact LeO.none _
   | refine LeO.ite ?_ ?_
   | refine LeO.bind ?_ (fun _ => ?_)
theorem billhooklaw10_DomTells.mono : ∀ a0 a1 a2 a3 a4 k, LeO (billhooklaw10_DomTells.f k a0 a1 a2 a3 a4) (billhooklaw10_DomTells.f (k + 1) a0 a1 a2 a3 a4) := by
 intro a0 a1 a2 a3 a4 k
 obtain ⟨ih0, ih1⟩ := billhooklaw10_DomTells.mono_l k
 unfold billhooklaw10_DomTells.f
 repeat' first
   | (with_reducible exact ih0 _ _ _ _ _ _)
   | (with_reducible exact ih1 _ _ _ _ _ _)
   | (with_reducible exact billhooklaw10_bools.mono _ _ _)
   | (with_reducible exact billhooklaw10_rows.mono _ _ _)
   | (with_reducible exact billhooklaw10_same.mono _ _ _)
   | (with_reducible exact billhooklaw10_web.mono _ _ _)
   | (with_reducible exact billhookref10_Control.mono _ _)
   | (with_reducible exact billhookref10_Least.mono _ _)
   | (with_reducible exact billhookref10_Post.mono _ _)
   | (with_reducible exact billhookref10_Reach.mono _ _ _)
   | (with_reducible exact dom_Control.mono _ _)
   | (with_reducible exact dom_Least.mono _ _)
   | (with_reducible exact dom_Post.mono _ _)
   | (with_reducible exact dom_Reach.mono _ _ _)
   | (with_reducible exact LeO.refl _)
   | (with_reducible exact LeO.none _)
   | (with_reducible refine LeO.ite ?_ ?_)
   | (with_reducible refine LeO.bind ?_ (fun _ => ?_))
   | exact ih0 _ _ _ _ _ _
   | exact ih1 _ _ _ _ _ _
   | exact billhooklaw10_bools.mono _ _ _
   | exact billhooklaw10_rows.mono _ _ _
   | exact billhooklaw10_same.mono _ _ _
   | exact billhooklaw10_web.mono _ _ _
   | exact billhookref10_Control.mono _ _
   | exact billhookref10_Least.mono _ _
   | exact billhookref10_Post.mono _ _
   | exact billhookref10_Reach.mono _ _ _
   | exact dom_Control.mono _ _
   | exact dom_Least.mono _ _
   | exact dom_Post.mono _ _
   | exact dom_Reach.mono _ _ _
   | exact LeO.none _
   | refine LeO.ite ?_ ?_
   | refine LeO.bind ?_ (fun _ => ?_)
set_option maxHeartbeats 8000000 in
set_option maxRecDepth 100000 in
theorem billhooklaw10_DomTells.calls (k : Nat) (A0 : Option Addr) (c0 : Nat) (l0 : List (List Int)) (a1 : Bool) (A2 : Option Addr) (c2 : Nat) (l2 : List Int) (a3 : Int) (A4 : Option Addr) (c4 : Nat) (l4 : List Int) (r : Bool) (w : World) (hr0 : Kd.C (Kd.slice 3 (Kd.int .i64)) w A0 l0.length l0) (hc0 : l0.length ≤ c0) (hr2 : Kd.C (Kd.int .u8) w A2 l2.length l2) (hc2 : l2.length ≤ c2) (hr4 : Kd.C (Kd.int .i64) w A4 l4.length l4) (hc4 : l4.length ≤ c4) (h : billhooklaw10_DomTells.f k l0 a1 l2 a3 l4 = some r) :
  Calls Try.prog 5 #[.slice A0 l0.length c0, .bool a1, .slice A2 l2.length c2, .int .u8 a3, .slice A4 l4.length c4] w fun e w' => e = .returned (.bool r) ∧ Below w.heap.size w w' := by
 have HR0 := Aside0.mk hr0
 have HC0 := Aside0.mk hc0
 clear hr0 hc0
 have HR2 := Aside0.mk hr2
 have HC2 := Aside0.mk hc2
 clear hr2 hc2
 have HR4 := Aside0.mk hr4
 have HC4 := Aside0.mk hc4
 clear hr4 hc4
 have HB := Aside0.mk (Below.refl w.heap.size w)
 have H : ((billhooklaw10_examples.f).bind fun t169 => (if t169 = true then (if 0 ≤ (mn (l0.length : Int) 12) then (if (mn (l0.length : Int) 12) ≤ (l0.length : Int) then ((some (l0.take ((mn (l0.length : Int) 12) : Int).toNat : List (List Int))).bind fun y170 => (if a1 = true then ((billhooklaw10_web.f k l2 a3).bind fun t174 => (if 0 ≤ (mn (l4.length : Int) 6) then (if (mn (l4.length : Int) 6) ≤ (l4.length : Int) then ((some (l4.take ((mn (l4.length : Int) 6) : Int).toNat : List Int)).bind fun y177 => ((dom_Reach.f k t174 y177).bind fun t181 => ((billhookref10_Reach.f k t174 y177).bind fun t184 => ((billhooklaw10_bools.f k t181 t184).bind fun t187 => ((dom_Post.f k t174).bind fun t188 => ((billhookref10_Post.f k t174).bind fun t191 => (if (t188.length : Int) = (t191.length : Int) then (billhooklaw10_DomTells.l0 k t174 t169 t187 t188 t191 0) else (some false)))))))) else (none)) else (none))) else (if 0 ≤ (mn (l4.length : Int) 6) then (if (mn (l4.length : Int) 6) ≤ (l4.length : Int) then ((some (l4.take ((mn (l4.length : Int) 6) : Int).toNat : List Int)).bind fun y211 => ((dom_Reach.f k y170 y211).bind fun t215 => ((billhookref10_Reach.f k y170 y211).bind fun t218 => ((billhooklaw10_bools.f k t215 t218).bind fun t221 => ((dom_Post.f k y170).bind fun t222 => ((billhookref10_Post.f k y170).bind fun t225 => (if (t222.length : Int) = (t225.length : Int) then (billhooklaw10_DomTells.l100 k y170 t169 t221 t222 t225 0) else (some false)))))))) else (none)) else (none)))) else (none)) else (none)) else (some false))) = some r := h
 clear h
 replace H := Option.bind_eq_some_iff.mp H
 obtain ⟨t169, A60, H⟩ := H
 replace H : (if t169 = true then (if 0 ≤ (mn (l0.length : Int) 12) then (if (mn (l0.length : Int) 12) ≤ (l0.length : Int) then ((some (l0.take ((mn (l0.length : Int) 12) : Int).toNat : List (List Int))).bind fun y170 => (if a1 = true then ((billhooklaw10_web.f k l2 a3).bind fun t174 => (if 0 ≤ (mn (l4.length : Int) 6) then (if (mn (l4.length : Int) 6) ≤ (l4.length : Int) then ((some (l4.take ((mn (l4.length : Int) 6) : Int).toNat : List Int)).bind fun y177 => ((dom_Reach.f k t174 y177).bind fun t181 => ((billhookref10_Reach.f k t174 y177).bind fun t184 => ((billhooklaw10_bools.f k t181 t184).bind fun t187 => ((dom_Post.f k t174).bind fun t188 => ((billhookref10_Post.f k t174).bind fun t191 => (if (t188.length : Int) = (t191.length : Int) then (billhooklaw10_DomTells.l0 k t174 t169 t187 t188 t191 0) else (some false)))))))) else (none)) else (none))) else (if 0 ≤ (mn (l4.length : Int) 6) then (if (mn (l4.length : Int) 6) ≤ (l4.length : Int) then ((some (l4.take ((mn (l4.length : Int) 6) : Int).toNat : List Int)).bind fun y211 => ((dom_Reach.f k y170 y211).bind fun t215 => ((billhookref10_Reach.f k y170 y211).bind fun t218 => ((billhooklaw10_bools.f k t215 t218).bind fun t221 => ((dom_Post.f k y170).bind fun t222 => ((billhookref10_Post.f k y170).bind fun t225 => (if (t222.length : Int) = (t225.length : Int) then (billhooklaw10_DomTells.l100 k y170 t169 t221 t222 t225 0) else (some false)))))))) else (none)) else (none)))) else (none)) else (none)) else (some false)) = some r := H
 have A6 := Aside0.mk A60
 clear A60
 by_cases c7 : t169 = true
 ·
  subst c7
  have H1 : (if 0 ≤ (mn (l0.length : Int) 12) then (if (mn (l0.length : Int) 12) ≤ (l0.length : Int) then ((some (l0.take ((mn (l0.length : Int) 12) : Int).toNat : List (List Int))).bind fun y170 => (if a1 = true then ((billhooklaw10_web.f k l2 a3).bind fun t174 => (if 0 ≤ (mn (l4.length : Int) 6) then (if (mn (l4.length : Int) 6) ≤ (l4.length : Int) then ((some (l4.take ((mn (l4.length : Int) 6) : Int).toNat : List Int)).bind fun y177 => ((dom_Reach.f k t174 y177).bind fun t181 => ((billhookref10_Reach.f k t174 y177).bind fun t184 => ((billhooklaw10_bools.f k t181 t184).bind fun t187 => ((dom_Post.f k t174).bind fun t188 => ((billhookref10_Post.f k t174).bind fun t191 => (if (t188.length : Int) = (t191.length : Int) then (billhooklaw10_DomTells.l0 k t174 true t187 t188 t191 0) else (some false)))))))) else (none)) else (none))) else (if 0 ≤ (mn (l4.length : Int) 6) then (if (mn (l4.length : Int) 6) ≤ (l4.length : Int) then ((some (l4.take ((mn (l4.length : Int) 6) : Int).toNat : List Int)).bind fun y211 => ((dom_Reach.f k y170 y211).bind fun t215 => ((billhookref10_Reach.f k y170 y211).bind fun t218 => ((billhooklaw10_bools.f k t215 t218).bind fun t221 => ((dom_Post.f k y170).bind fun t222 => ((billhookref10_Post.f k y170).bind fun t225 => (if (t222.length : Int) = (t225.length : Int) then (billhooklaw10_DomTells.l100 k y170 true t221 t222 t225 0) else (some false)))))))) else (none)) else (none)))) else (none)) else (none)) = some r := by first | (rw [if_pos rfl] at H; exact H) | (rw [if_pos trivial] at H; exact H)
  clear H
  have H := H1
  clear H1
  obtain ⟨ji8, hji8⟩ : ∃ j_ : Int, (mn (l0.length : Int) 12) = j_ := ⟨_, rfl⟩
  replace H : (if 0 ≤ (ji8) then (if (ji8) ≤ (l0.length : Int) then ((some (l0.take ((ji8) : Int).toNat : List (List Int))).bind fun y170 => (if a1 = true then ((billhooklaw10_web.f k l2 a3).bind fun t174 => (if 0 ≤ (mn (l4.length : Int) 6) then (if (mn (l4.length : Int) 6) ≤ (l4.length : Int) then ((some (l4.take ((mn (l4.length : Int) 6) : Int).toNat : List Int)).bind fun y177 => ((dom_Reach.f k t174 y177).bind fun t181 => ((billhookref10_Reach.f k t174 y177).bind fun t184 => ((billhooklaw10_bools.f k t181 t184).bind fun t187 => ((dom_Post.f k t174).bind fun t188 => ((billhookref10_Post.f k t174).bind fun t191 => (if (t188.length : Int) = (t191.length : Int) then (billhooklaw10_DomTells.l0 k t174 true t187 t188 t191 0) else (some false)))))))) else (none)) else (none))) else (if 0 ≤ (mn (l4.length : Int) 6) then (if (mn (l4.length : Int) 6) ≤ (l4.length : Int) then ((some (l4.take ((mn (l4.length : Int) 6) : Int).toNat : List Int)).bind fun y211 => ((dom_Reach.f k y170 y211).bind fun t215 => ((billhookref10_Reach.f k y170 y211).bind fun t218 => ((billhooklaw10_bools.f k t215 t218).bind fun t221 => ((dom_Post.f k y170).bind fun t222 => ((billhookref10_Post.f k y170).bind fun t225 => (if (t222.length : Int) = (t225.length : Int) then (billhooklaw10_DomTells.l100 k y170 true t221 t222 t225 0) else (some false)))))))) else (none)) else (none)))) else (none)) else (none)) = some r := by first | (rw [hji8] at H; exact H) | (simp only [hji8] at H ⊢; exact H)
  (try rw [hji8] at A6)
  (try (have hji8h : ji8 ≤ 12 := by (rw [← hji8]; unfold mn; (repeat' split) <;> omega)))
  (try (have hji8g : ji8 ≤ 64 := by omega))
  (try (have hji8l : 0 ≤ ji8 := by (rw [← hji8]; unfold mn; (repeat' split) <;> omega)))
  (try (have hji8m : 0 ≤ ji8 := by omega))
  have hji8_ : (if 12 < (l0.length : Int) then 12 else (l0.length : Int)) = ji8 := hji8
  by_cases c9 : 0 ≤ (ji8)
  ·
   rw [if_pos c9] at H
   have c9b0 := eq_true c9
   have c9b1 : decide (0 ≤ (ji8)) = true := decide_eq_true c9
   clear c9
   by_cases c10 : (ji8) ≤ (l0.length : Int)
   ·
    rw [if_pos c10] at H
    have c10b0 := eq_true c10
    have c10b1 : decide ((ji8) ≤ (l0.length : Int)) = true := decide_eq_true c10
    clear c10
    obtain ⟨y170, hy170⟩ : ∃ y_ : List (List Int), y_ = (l0.take ((ji8) : Int).toNat) := ⟨_, rfl⟩
    replace H : (if a1 = true then ((billhooklaw10_web.f k l2 a3).bind fun t174 => (if 0 ≤ (mn (l4.length : Int) 6) then (if (mn (l4.length : Int) 6) ≤ (l4.length : Int) then ((some (l4.take ((mn (l4.length : Int) 6) : Int).toNat : List Int)).bind fun y177 => ((dom_Reach.f k t174 y177).bind fun t181 => ((billhookref10_Reach.f k t174 y177).bind fun t184 => ((billhooklaw10_bools.f k t181 t184).bind fun t187 => ((dom_Post.f k t174).bind fun t188 => ((billhookref10_Post.f k t174).bind fun t191 => (if (t188.length : Int) = (t191.length : Int) then (billhooklaw10_DomTells.l0 k t174 true t187 t188 t191 0) else (some false)))))))) else (none)) else (none))) else (if 0 ≤ (mn (l4.length : Int) 6) then (if (mn (l4.length : Int) 6) ≤ (l4.length : Int) then ((some (l4.take ((mn (l4.length : Int) 6) : Int).toNat : List Int)).bind fun y211 => ((dom_Reach.f k y170 y211).bind fun t215 => ((billhookref10_Reach.f k y170 y211).bind fun t218 => ((billhooklaw10_bools.f k t215 t218).bind fun t221 => ((dom_Post.f k y170).bind fun t222 => ((billhookref10_Post.f k y170).bind fun t225 => (if (t222.length : Int) = (t225.length : Int) then (billhooklaw10_DomTells.l100 k y170 true t221 t222 t225 0) else (some false)))))))) else (none)) else (none))) = some r := by first | (rw [hy170]; with_reducible exact H) | (have H2_ := (Option.bind_some _ _).symm.trans H; rw [hy170]; with_reducible exact H2_) | (have H2_ := (Option.bind_some _ _).symm.trans H; with_reducible exact H2_) | with_reducible exact H | (rw [hy170]; exact H) | exact H
    have Ny170 := Aside0.mk hy170
    clear hy170
    by_cases c11 : a1 = true
    ·
     subst c11
     have H1 : ((billhooklaw10_web.f k l2 a3).bind fun t174 => (if 0 ≤ (mn (l4.length : Int) 6) then (if (mn (l4.length : Int) 6) ≤ (l4.length : Int) then ((some (l4.take ((mn (l4.length : Int) 6) : Int).toNat : List Int)).bind fun y177 => ((dom_Reach.f k t174 y177).bind fun t181 => ((billhookref10_Reach.f k t174 y177).bind fun t184 => ((billhooklaw10_bools.f k t181 t184).bind fun t187 => ((dom_Post.f k t174).bind fun t188 => ((billhookref10_Post.f k t174).bind fun t191 => (if (t188.length : Int) = (t191.length : Int) then (billhooklaw10_DomTells.l0 k t174 true t187 t188 t191 0) else (some false)))))))) else (none)) else (none))) = some r := by first | (rw [if_pos rfl] at H; exact H) | (rw [if_pos trivial] at H; exact H)
     clear H
     have H := H1
     clear H1
     replace H := Option.bind_eq_some_iff.mp H
     obtain ⟨t174, A120, H⟩ := H
     replace H : (if 0 ≤ (mn (l4.length : Int) 6) then (if (mn (l4.length : Int) 6) ≤ (l4.length : Int) then ((some (l4.take ((mn (l4.length : Int) 6) : Int).toNat : List Int)).bind fun y177 => ((dom_Reach.f k t174 y177).bind fun t181 => ((billhookref10_Reach.f k t174 y177).bind fun t184 => ((billhooklaw10_bools.f k t181 t184).bind fun t187 => ((dom_Post.f k t174).bind fun t188 => ((billhookref10_Post.f k t174).bind fun t191 => (if (t188.length : Int) = (t191.length : Int) then (billhooklaw10_DomTells.l0 k t174 true t187 t188 t191 0) else (some false)))))))) else (none)) else (none)) = some r := H
     have A12 := Aside0.mk A120
     clear A120
     obtain ⟨ji13, hji13⟩ : ∃ j_ : Int, (mn (l4.length : Int) 6) = j_ := ⟨_, rfl⟩
     replace H : (if 0 ≤ (ji13) then (if (ji13) ≤ (l4.length : Int) then ((some (l4.take ((ji13) : Int).toNat : List Int)).bind fun y177 => ((dom_Reach.f k t174 y177).bind fun t181 => ((billhookref10_Reach.f k t174 y177).bind fun t184 => ((billhooklaw10_bools.f k t181 t184).bind fun t187 => ((dom_Post.f k t174).bind fun t188 => ((billhookref10_Post.f k t174).bind fun t191 => (if (t188.length : Int) = (t191.length : Int) then (billhooklaw10_DomTells.l0 k t174 true t187 t188 t191 0) else (some false)))))))) else (none)) else (none)) = some r := by first | (rw [hji13] at H; exact H) | (simp only [hji13] at H ⊢; exact H)
     (try rw [hji13] at A6)
     (try rw [hji13] at A12)
     (try (have hji13h : ji13 ≤ 6 := by (rw [← hji13]; unfold mn; (repeat' split) <;> omega)))
     (try (have hji13g : ji13 ≤ 64 := by omega))
     (try (have hji13l : 0 ≤ ji13 := by (rw [← hji13]; unfold mn; (repeat' split) <;> omega)))
     (try (have hji13m : 0 ≤ ji13 := by omega))
     have hji13_ : (if 6 < (l4.length : Int) then 6 else (l4.length : Int)) = ji13 := hji13
     by_cases c14 : 0 ≤ (ji13)
     ·
      rw [if_pos c14] at H
      have c14b0 := eq_true c14
      have c14b1 : decide (0 ≤ (ji13)) = true := decide_eq_true c14
      clear c14
      by_cases c15 : (ji13) ≤ (l4.length : Int)
      ·
       rw [if_pos c15] at H
       have c15b0 := eq_true c15
       have c15b1 : decide ((ji13) ≤ (l4.length : Int)) = true := decide_eq_true c15
       clear c15
       obtain ⟨y177, hy177⟩ : ∃ y_ : List Int, y_ = (l4.take ((ji13) : Int).toNat) := ⟨_, rfl⟩
       replace H : ((dom_Reach.f k t174 y177).bind fun t181 => ((billhookref10_Reach.f k t174 y177).bind fun t184 => ((billhooklaw10_bools.f k t181 t184).bind fun t187 => ((dom_Post.f k t174).bind fun t188 => ((billhookref10_Post.f k t174).bind fun t191 => (if (t188.length : Int) = (t191.length : Int) then (billhooklaw10_DomTells.l0 k t174 true t187 t188 t191 0) else (some false))))))) = some r := by first | (rw [hy177]; with_reducible exact H) | (have H2_ := (Option.bind_some _ _).symm.trans H; rw [hy177]; with_reducible exact H2_) | (have H2_ := (Option.bind_some _ _).symm.trans H; with_reducible exact H2_) | with_reducible exact H | (rw [hy177]; exact H) | exact H
       have Ny177 := Aside0.mk hy177
       clear hy177
       replace H := Option.bind_eq_some_iff.mp H
       obtain ⟨t181, A160, H⟩ := H
       replace H : ((billhookref10_Reach.f k t174 y177).bind fun t184 => ((billhooklaw10_bools.f k t181 t184).bind fun t187 => ((dom_Post.f k t174).bind fun t188 => ((billhookref10_Post.f k t174).bind fun t191 => (if (t188.length : Int) = (t191.length : Int) then (billhooklaw10_DomTells.l0 k t174 true t187 t188 t191 0) else (some false)))))) = some r := H
       have A16 := Aside0.mk A160
       clear A160
       replace H := Option.bind_eq_some_iff.mp H
       obtain ⟨t184, A170, H⟩ := H
       replace H : ((billhooklaw10_bools.f k t181 t184).bind fun t187 => ((dom_Post.f k t174).bind fun t188 => ((billhookref10_Post.f k t174).bind fun t191 => (if (t188.length : Int) = (t191.length : Int) then (billhooklaw10_DomTells.l0 k t174 true t187 t188 t191 0) else (some false))))) = some r := H
       have A17 := Aside0.mk A170
       clear A170
       replace H := Option.bind_eq_some_iff.mp H
       obtain ⟨t187, A180, H⟩ := H
       replace H : ((dom_Post.f k t174).bind fun t188 => ((billhookref10_Post.f k t174).bind fun t191 => (if (t188.length : Int) = (t191.length : Int) then (billhooklaw10_DomTells.l0 k t174 true t187 t188 t191 0) else (some false)))) = some r := H
       have A18 := Aside0.mk A180
       clear A180
       replace H := Option.bind_eq_some_iff.mp H
       obtain ⟨t188, A190, H⟩ := H
       replace H : ((billhookref10_Post.f k t174).bind fun t191 => (if (t188.length : Int) = (t191.length : Int) then (billhooklaw10_DomTells.l0 k t174 true t187 t188 t191 0) else (some false))) = some r := H
       have A19 := Aside0.mk A190
       clear A190
       replace H := Option.bind_eq_some_iff.mp H
       obtain ⟨t191, A200, H⟩ := H
       replace H : (if (t188.length : Int) = (t191.length : Int) then (billhooklaw10_DomTells.l0 k t174 true t187 t188 t191 0) else (some false)) = some r := H
       have A20 := Aside0.mk A200
       clear A200
       by_cases c21 : (t188.length : Int) = (t191.length : Int)
       ·
        rw [if_pos c21] at H
        have c21b0 : ((t188.length : Int) == (t191.length : Int)) = true := beq_iff_eq.mpr c21
        have c21b1 : ((t188.length : Int) != (t191.length : Int)) = false := bne_eq_false_iff_eq.mpr c21
        have c21b2 : (t188.length == t191.length) = true := by first | simpa using c21 | (simp at c21 ⊢; omega)
        clear c21
        have H' := Aside0.mk H
        clear H
        go_enter Try.func5, Try.ntmps5
        go_wp2_with (first | (go_at_call 26; (with_reducible refine (billhooklaw10_examples.calls  true _ A6.out).mono ?_); rintro e w22 ⟨rfl, hb⟩; have n0_ := Aside0.mk (below_step (by repeat (first | (with_reducible first | exact HB.out | apply below_alloc | apply pw_below_drewN | apply below_drew1) | exact HB.out)) hb); clear HB; have HB := n0_; clear n0_; (try clear hb); (try clear hb2); (try clear hk); (try clear hi); have q23 : ((ji8) : Int) ≤ ((l0.length : Int) : Int) := of_decide_eq_true (by first | (with_reducible assumption) | assumption); obtain ⟨i023, hi023, _, hsz23, _⟩ := info_parts info54; have hroom23 : l0.length ≤ c0 := HC0.out; have hC23 : Kd.C (Kd.slice 3 (Kd.int .i64)) _ A0 l0.length l0 := HR0.out; have hcut23 := cut_to (P := Try.prog) 53 54 .i64 Try.underlying53 hi023 A0 l0.length c0 (ji8) (of_decide_eq_true (by first | (with_reducible assumption) | assumption)) q23 hroom23; have hr23 := Kd.C_take (m := ((ji8) : Int).toNat) hC23 (by omega); have hy23 : y170.length = ((ji8) : Int).toNat := (by rw [Ny170.out, List.length_take]; omega); rw [← Ny170.out] at hr23; rw [← hy23] at hcut23; have HR173 := Aside0.mk hr23; have HC173 := Aside0.mk (show y170.length ≤ c0 from by omega); clear hr23 hC23 hroom23 hi023 hsz23; have KY23 := Aside0.mk hy23; clear hy23; replace q23 := eq_true q23) | (go_at_call 27; (with_reducible refine (billhooklaw10_web.calls k _ _ l2 a3 t174 _ ?side1 ?side2 A12.out).mono ?_); (case side1 => repeat (first | exact (Kd.C_below HR2.out HB.out) | (with_reducible refine Kd.C_alloc ?_ _) | (with_reducible refine Kd.C_drewN ?_ _) | (with_reducible refine Kd.C_drew ?_))); (case side2 => exact HC2.out); rintro e w24 ⟨v175, rfl, ho0, hb⟩; have n0_ := Aside0.mk (Kd.S_lower ho0 (below_size (by repeat (first | (with_reducible first | exact HB.out | apply below_alloc | apply pw_below_drewN | apply below_drew1) | exact HB.out)))); have n1_ := Aside0.mk (below_step (by repeat (first | (with_reducible first | exact HB.out | apply below_alloc | apply pw_below_drewN | apply below_drew1) | exact HB.out)) hb); clear HB; have HO176 := n0_; have HB := n1_; clear n0_ n1_; (try clear hb); (try clear hb2); (try clear hk); (try clear hi); (try clear ho0); have q25 : ((ji13) : Int) ≤ ((l4.length : Int) : Int) := of_decide_eq_true (by first | (with_reducible assumption) | assumption); obtain ⟨i025, hi025, _, hsz25, _⟩ := info_parts info3; have hroom25 : l4.length ≤ c4 := HC4.out; have hC25 : Kd.C (Kd.int .i64) _ A4 l4.length l4 := HR4.out; have hcut25 := cut_to (P := Try.prog) 54 3 .i64 Try.underlying54 hi025 A4 l4.length c4 (ji13) (of_decide_eq_true (by first | (with_reducible assumption) | assumption)) q25 hroom25; have hr25 := Kd.C_take (m := ((ji13) : Int).toNat) hC25 (by omega); have hy25 : y177.length = ((ji13) : Int).toNat := (by rw [Ny177.out, List.length_take]; omega); rw [← Ny177.out] at hr25; rw [← hy25] at hcut25; have HR180 := Aside0.mk hr25; have HC180 := Aside0.mk (show y177.length ≤ c4 from by omega); clear hr25 hC25 hroom25 hi025 hsz25; have KY25 := Aside0.mk hy25; clear hy25; replace q25 := eq_true q25; obtain ⟨Ao26, co26, eo26⟩ := Kd.S_slice HO176.out; subst eo26) | (go_at_call 29; (with_reducible refine (dom_Reach.calls k _ _ t174 _ _ y177 t181 _ ?side1 ?side2 ?side3 ?side4 A16.out).mono ?_); (case side1 => repeat (first | exact (Kd.S_reads' HO176.out).2.2 | (with_reducible refine Kd.C_alloc ?_ _) | (with_reducible refine Kd.C_drewN ?_ _) | (with_reducible refine Kd.C_drew ?_))); (case side2 => exact (Kd.S_reads' HO176.out).2.1); (case side3 => repeat (first | exact (Kd.C_below HR180.out HB.out) | (with_reducible refine Kd.C_alloc ?_ _) | (with_reducible refine Kd.C_drewN ?_ _) | (with_reducible refine Kd.C_drew ?_))); (case side4 => exact HC180.out); rintro e w27 ⟨v182, rfl, ho0, hb⟩; have n0_ := Aside0.mk (Kd.S_below (by (with_reducible repeat (first | apply Kd.S_alloc | apply Kd.S_drewN | apply Kd.S_drew)); exact HO176.out) hb); have n1_ := Aside0.mk (Kd.R_lower ho0 (below_size (by repeat (first | (with_reducible first | exact HB.out | apply below_alloc | apply pw_below_drewN | apply below_drew1) | exact HB.out)))); have n2_ := Aside0.mk (below_step (by repeat (first | (with_reducible first | exact HB.out | apply below_alloc | apply pw_below_drewN | apply below_drew1) | exact HB.out)) hb); clear HO176; clear HB; have HO176 := n0_; have HO183 := n1_; have HB := n2_; clear n0_ n1_ n2_; (try clear hb); (try clear hb2); (try clear hk); (try clear hi); (try clear ho0)) | (go_at_call 30; (with_reducible refine (billhookref10_Reach.calls k _ _ t174 _ _ y177 t184 _ ?side1 ?side2 ?side3 ?side4 A17.out).mono ?_); (case side1 => repeat (first | exact (Kd.S_reads' HO176.out).2.2 | (with_reducible refine Kd.C_alloc ?_ _) | (with_reducible refine Kd.C_drewN ?_ _) | (with_reducible refine Kd.C_drew ?_))); (case side2 => exact (Kd.S_reads' HO176.out).2.1); (case side3 => repeat (first | exact (Kd.C_below HR180.out HB.out) | (with_reducible refine Kd.C_alloc ?_ _) | (with_reducible refine Kd.C_drewN ?_ _) | (with_reducible refine Kd.C_drew ?_))); (case side4 => exact HC180.out); rintro e w28 ⟨v185, rfl, ho0, hb⟩; have n0_ := Aside0.mk (Kd.S_below (by (with_reducible repeat (first | apply Kd.S_alloc | apply Kd.S_drewN | apply Kd.S_drew)); exact HO176.out) hb); have n1_ := Aside0.mk (Kd.R_elder' (by (with_reducible repeat (first | apply Kd.R_alloc | apply Kd.R_drewN | apply Kd.R_drew)); exact HO183.out) (Kd.R_base ho0) hb); have n2_ := Aside0.mk (Kd.R_lower (Kd.R_new' ho0 (Kd.R_lt (by (with_reducible repeat (first | apply Kd.R_alloc | apply Kd.R_drewN | apply Kd.R_drew)); exact HO183.out))) (below_size (by repeat (first | (with_reducible first | exact HB.out | apply below_alloc | apply pw_below_drewN | apply below_drew1) | exact HB.out)))); have n3_ := Aside0.mk (below_step (by repeat (first | (with_reducible first | exact HB.out | apply below_alloc | apply pw_below_drewN | apply below_drew1) | exact HB.out)) hb); clear HO176; clear HO183; clear HB; have HO176 := n0_; have HO183 := n1_; have HO186 := n2_; have HB := n3_; clear n0_ n1_ n2_ n3_; (try clear hb); (try clear hb2); (try clear hk); (try clear hi); (try clear ho0); obtain ⟨Ao29, co29, eo29⟩ := Kd.R_slice HO183.out; subst eo29; obtain ⟨Ao30, co30, eo30⟩ := Kd.R_slice HO186.out; subst eo30) | (go_at_call 28; (with_reducible refine (billhooklaw10_bools.calls k _ _ t181 _ _ t184 t187 _ ?side1 ?side2 ?side3 ?side4 A18.out).mono ?_); (case side1 => repeat (first | exact (Kd.R_reads' HO183.out).2.2 | (with_reducible refine Kd.C_alloc ?_ _) | (with_reducible refine Kd.C_drewN ?_ _) | (with_reducible refine Kd.C_drew ?_))); (case side2 => exact (Kd.R_reads' HO183.out).2.1); (case side3 => repeat (first | exact (Kd.R_reads' HO186.out).2.2 | (with_reducible refine Kd.C_alloc ?_ _) | (with_reducible refine Kd.C_drewN ?_ _) | (with_reducible refine Kd.C_drew ?_))); (case side4 => exact (Kd.R_reads' HO186.out).2.1); rintro e w' ⟨rfl, ⟨nd, rfl⟩⟩; (try first | exact ⟨rfl, _, World.drewN_drewN _ _ _⟩ | exact ⟨rfl, _, Eq.trans (World.drewN_drewN _ _ _) (congrArg (World.drewN _) (Nat.add_assoc _ _ _))⟩)) | (go_at_call 31; (with_reducible refine (dom_Post.calls k _ _ t174 t188 _ ?side1 ?side2 A19.out).mono ?_); (case side1 => repeat (first | exact (Kd.S_reads' HO176.out).2.2 | (with_reducible refine Kd.C_alloc ?_ _) | (with_reducible refine Kd.C_drewN ?_ _) | (with_reducible refine Kd.C_drew ?_))); (case side2 => exact (Kd.S_reads' HO176.out).2.1); rintro e w31 ⟨v189, rfl, ho0, hb⟩; have n0_ := Aside0.mk (Kd.S_below (by (with_reducible repeat (first | apply Kd.S_alloc | apply Kd.S_drewN | apply Kd.S_drew)); exact HO176.out) hb); have n1_ := Aside0.mk (Kd.R_below (by (with_reducible repeat (first | apply Kd.R_alloc | apply Kd.R_drewN | apply Kd.R_drew)); exact HO183.out) hb); have n2_ := Aside0.mk (Kd.R_below (by (with_reducible repeat (first | apply Kd.R_alloc | apply Kd.R_drewN | apply Kd.R_drew)); exact HO186.out) hb); have n3_ := Aside0.mk (Kd.S_lower (Kd.S_new' (Kd.S_new' ho0 (Kd.R_lt (by (with_reducible repeat (first | apply Kd.R_alloc | apply Kd.R_drewN | apply Kd.R_drew)); exact HO183.out))) (Kd.R_lt (by (with_reducible repeat (first | apply Kd.R_alloc | apply Kd.R_drewN | apply Kd.R_drew)); exact HO186.out))) (below_size (by repeat (first | (with_reducible first | exact HB.out | apply below_alloc | apply pw_below_drewN | apply below_drew1) | exact HB.out)))); have n4_ := Aside0.mk (below_step (by repeat (first | (with_reducible first | exact HB.out | apply below_alloc | apply pw_below_drewN | apply below_drew1) | exact HB.out)) hb); clear HO176; clear HO183; clear HO186; clear HB; have HO176 := n0_; have HO183 := n1_; have HO186 := n2_; have HO190 := n3_; have HB := n4_; clear n0_ n1_ n2_ n3_ n4_; (try clear hb); (try clear hb2); (try clear hk); (try clear hi); (try clear ho0)) | (go_at_call 32; (with_reducible refine (billhookref10_Post.calls k _ _ t174 t191 _ ?side1 ?side2 A20.out).mono ?_); (case side1 => repeat (first | exact (Kd.S_reads' HO176.out).2.2 | (with_reducible refine Kd.C_alloc ?_ _) | (with_reducible refine Kd.C_drewN ?_ _) | (with_reducible refine Kd.C_drew ?_))); (case side2 => exact (Kd.S_reads' HO176.out).2.1); rintro e w32 ⟨v192, rfl, ho0, hb⟩; have n0_ := Aside0.mk (Kd.S_below (by (with_reducible repeat (first | apply Kd.S_alloc | apply Kd.S_drewN | apply Kd.S_drew)); exact HO176.out) hb); have n1_ := Aside0.mk (Kd.R_below (by (with_reducible repeat (first | apply Kd.R_alloc | apply Kd.R_drewN | apply Kd.R_drew)); exact HO183.out) hb); have n2_ := Aside0.mk (Kd.R_below (by (with_reducible repeat (first | apply Kd.R_alloc | apply Kd.R_drewN | apply Kd.R_drew)); exact HO186.out) hb); have n3_ := Aside0.mk (Kd.S_elder' (by (with_reducible repeat (first | apply Kd.S_alloc | apply Kd.S_drewN | apply Kd.S_drew)); exact HO190.out) (Kd.S_base ho0) hb); have n4_ := Aside0.mk (Kd.S_lower (Kd.S_new' (Kd.S_new' (Kd.S_new' ho0 (Kd.R_lt (by (with_reducible repeat (first | apply Kd.R_alloc | apply Kd.R_drewN | apply Kd.R_drew)); exact HO183.out))) (Kd.R_lt (by (with_reducible repeat (first | apply Kd.R_alloc | apply Kd.R_drewN | apply Kd.R_drew)); exact HO186.out))) (Kd.S_lt (by (with_reducible repeat (first | apply Kd.S_alloc | apply Kd.S_drewN | apply Kd.S_drew)); exact HO190.out))) (below_size (by repeat (first | (with_reducible first | exact HB.out | apply below_alloc | apply pw_below_drewN | apply below_drew1) | exact HB.out)))); have n5_ := Aside0.mk (below_step (by repeat (first | (with_reducible first | exact HB.out | apply below_alloc | apply pw_below_drewN | apply below_drew1) | exact HB.out)) hb); clear HO176; clear HO183; clear HO186; clear HO190; clear HB; have HO176 := n0_; have HO183 := n1_; have HO186 := n2_; have HO190 := n3_; have HO193 := n4_; have HB := n5_; clear n0_ n1_ n2_ n3_ n4_ n5_; (try clear hb); (try clear hb2); (try clear hk); (try clear hi); (try clear ho0); obtain ⟨Ao33, co33, eo33⟩ := Kd.S_slice HO190.out; subst eo33; obtain ⟨Ao34, co34, eo34⟩ := Kd.S_slice HO193.out; subst eo34))
        go_loopg [15] k (fun kq v15 w' => ∃ (x15_1 : Int), v15 = .int .i64 x15_1 ∧ Aside0 (billhooklaw10_DomTells.l0 kq t174 true t187 t188 t191 x15_1 = some r) ∧ Aside0 (kq ≤ k) ∧ Aside0 (Kd.S (Kd.slice 3 (Kd.int .i64)) 54 w' w.heap.size (fun _ => True) (.slice Ao26 t174.length co26) t174) ∧ Aside0 (Kd.S (Kd.slice 4 Kd.bool) 57 w' w.heap.size (fun k_ => some k_ ≠ ((.slice Ao34 t191.length co34) : Value).ownBlock) (.slice Ao33 t188.length co33) t188) ∧ Aside0 (Kd.S (Kd.slice 4 Kd.bool) 57 w' w.heap.size (fun k_ => some k_ ≠ ((.slice Ao33 t188.length co33) : Value).ownBlock) (.slice Ao34 t191.length co34) t191) ∧ Aside0 (Below w.heap.size w w'))
        case atStart => exact ⟨(0), (by first | rfl | (simp; done) | (simp [*]; done)), H', ⟨Nat.le_refl _⟩, ⟨by (with_reducible repeat (first | apply Kd.S_alloc | apply Kd.S_drewN | apply Kd.S_drew)); exact HO176.out⟩, ⟨by (with_reducible repeat (first | apply Kd.S_alloc | apply Kd.S_drewN | apply Kd.S_drew)); exact Kd.S_mono HO190.out (fun _ hk => hk.2)⟩, ⟨by (with_reducible repeat (first | apply Kd.S_alloc | apply Kd.S_drewN | apply Kd.S_drew)); exact Kd.S_mono HO193.out (fun _ hk => hk.2)⟩, ⟨by repeat (first | (with_reducible first | exact HB.out | apply below_alloc | apply pw_below_drewN | apply below_drew1) | exact HB.out)⟩⟩
        case round =>
         clear H'
         try clear c1
         try clear c2
         try clear p2
         try clear q2
         try clear c4
         try clear c5
         try clear c7
         try clear c9
         try clear c9b0
         try clear c9b1
         try clear c10
         try clear c10b0
         try clear c10b1
         try clear c11
         try clear c14
         try clear c14b0
         try clear c14b1
         try clear c15
         try clear c15b0
         try clear c15b1
         try clear c21
         try clear c21b0
         try clear c21b1
         try clear c21b2
         try clear q23
         try clear q25
         try clear q23
         try clear q25
         obtain ⟨x15_1, rfl, HA, HK1, HO_0, HO_13, HO_14, HB⟩ := hrel
         cases gk with
         | zero => exact absurd HA.out (by simp [billhooklaw10_DomTells.l0])
         | succ k1 =>
          have H := HA.out
          clear HA
          simp only [billhooklaw10_DomTells.l0] at H
          by_cases c35 : x15_1 < (t188.length : Int)
          ·
           rw [if_pos c35] at H
           have c35b0 : decide (x15_1 < (t188.length : Int)) = true := decide_eq_true c35
           clear c35
           by_cases c36 : 0 ≤ x15_1
           ·
            rw [if_pos c36] at H
            have c36b0 : decide (0 ≤ x15_1) = true := decide_eq_true c36
            clear c36
            by_cases c37 : x15_1 < (t191.length : Int)
            ·
             rw [if_pos c37] at H
             have c37b0 : decide (x15_1 < (t191.length : Int)) = true := decide_eq_true c37
             clear c37
             replace H := Option.bind_eq_some_iff.mp H
             obtain ⟨t196, A380, H⟩ := H
             replace H : (if t196 = true then (billhooklaw10_DomTells.l0 k1 t174 true t187 t188 t191 (wrap64 (x15_1 + 1))) else (some false)) = some r := H
             have A38 := Aside0.mk A380
             clear A380
             by_cases c39 : t196 = true
             ·
              subst c39
              have H1 : (billhooklaw10_DomTells.l0 k1 t174 true t187 t188 t191 (wrap64 (x15_1 + 1))) = some r := by first | (rw [if_pos rfl] at H; exact H) | (rw [if_pos trivial] at H; exact H)
              clear H
              have H := H1
              clear H1
              have H' := Aside0.mk H
              clear H
              have p194 : 0 ≤ (x15_1 : Int) := of_decide_eq_true (by first | (with_reducible assumption) | assumption)
              have q194 : x15_1 < (t188.length : Int) := of_decide_eq_true (by first | (with_reducible assumption) | assumption)
              obtain ⟨ad194, A194_0, c194_0, e194, hx194_0, hl194_0, hi194_0⟩ := at_L3 (Kd.S_reads' HO_13.out).2.2 x15_1 p194 q194
              cases e194
              obtain ⟨ce194, hce194, hMe194, hcc194⟩ := Kd.S_get HO_13.out [] x15_1 p194 (by first | exact q194 | exact of_decide_eq_true (by first | (with_reducible assumption) | assumption) | (have e_ := (Kd.S_reads' HO_13.out).1; omega))
              obtain ⟨ve194_0, rfl, ge194_0⟩ := hMe194
              have hv194_0 := hcc194 0 _ rfl
              rw [Nat.add_zero, show ((Kd.slice 4 Kd.bool)).sz = 1 from rfl, Nat.mul_one] at hv194_0
              replace hv194_0 := Option.some.inj (hv194_0.symm.trans hx194_0)
              rw [hv194_0] at ge194_0
              have HL194_0 := Aside0.mk (show Kd.R Kd.bool 4 _ _ _ _ (rd_L3 t188 x15_1) from ge194_0)
              clear hv194_0 ge194_0
              clear hcc194 hce194
              have HR194_0 := Aside0.mk hi194_0
              have HC194_0 := Aside0.mk hl194_0
              clear hi194_0 hl194_0
              replace p194 := eq_true p194
              replace q194 := eq_true q194
              have p195 : 0 ≤ (x15_1 : Int) := of_decide_eq_true (by first | (with_reducible assumption) | assumption)
              have q195 : x15_1 < (t191.length : Int) := of_decide_eq_true (by first | (with_reducible assumption) | assumption)
              obtain ⟨ad195, A195_0, c195_0, e195, hx195_0, hl195_0, hi195_0⟩ := at_L3 (Kd.S_reads' HO_14.out).2.2 x15_1 p195 q195
              cases e195
              obtain ⟨ce195, hce195, hMe195, hcc195⟩ := Kd.S_get HO_14.out [] x15_1 p195 (by first | exact q195 | exact of_decide_eq_true (by first | (with_reducible assumption) | assumption) | (have e_ := (Kd.S_reads' HO_14.out).1; omega))
              obtain ⟨ve195_0, rfl, ge195_0⟩ := hMe195
              have hv195_0 := hcc195 0 _ rfl
              rw [Nat.add_zero, show ((Kd.slice 4 Kd.bool)).sz = 1 from rfl, Nat.mul_one] at hv195_0
              replace hv195_0 := Option.some.inj (hv195_0.symm.trans hx195_0)
              rw [hv195_0] at ge195_0
              have HL195_0 := Aside0.mk (show Kd.R Kd.bool 4 _ _ _ _ (rd_L3 t191 x15_1) from ge195_0)
              clear hv195_0 ge195_0
              clear hcc195 hce195
              have HR195_0 := Aside0.mk hi195_0
              have HC195_0 := Aside0.mk hl195_0
              clear hi195_0 hl195_0
              (try (have hz_ := Option.some.inj (hx194_0.symm.trans hx195_0); injection hz_ with za_ zn_ zc_; subst za_; subst zc_; clear zn_))
              replace p195 := eq_true p195
              replace q195 := eq_true q195
              go_wp2_with (first | (go_at_call 28; (with_reducible refine (billhooklaw10_bools.calls k1 _ _ (rd_L3 t188 x15_1) _ _ (rd_L3 t191 x15_1) true _ ?side1 ?side2 ?side3 ?side4 A38.out).mono ?_); (case side1 => repeat (first | exact (by repeat (first | (with_reducible exact HR194_0.out) | (with_reducible refine Kd.C_alloc ?_ _) | (with_reducible refine Kd.C_drewN ?_ _) | (with_reducible refine Kd.C_drew ?_) | exact HR194_0.out)) | (with_reducible refine Kd.C_alloc ?_ _) | (with_reducible refine Kd.C_drewN ?_ _) | (with_reducible refine Kd.C_drew ?_))); (case side2 => exact HC194_0.out); (case side3 => repeat (first | exact (by repeat (first | (with_reducible exact HR195_0.out) | (with_reducible refine Kd.C_alloc ?_ _) | (with_reducible refine Kd.C_drewN ?_ _) | (with_reducible refine Kd.C_drew ?_) | exact HR195_0.out)) | (with_reducible refine Kd.C_alloc ?_ _) | (with_reducible refine Kd.C_drewN ?_ _) | (with_reducible refine Kd.C_drew ?_))); (case side4 => exact HC195_0.out); rintro e w' ⟨rfl, ⟨nd, rfl⟩⟩; (try first | exact ⟨rfl, _, World.drewN_drewN _ _ _⟩ | exact ⟨rfl, _, Eq.trans (World.drewN_drewN _ _ _) (congrArg (World.drewN _) (Nat.add_assoc _ _ _))⟩)))
              repeat (go_quiet (first | (go_at_call 28; (with_reducible refine (billhooklaw10_bools.calls k1 _ _ (rd_L3 t188 x15_1) _ _ (rd_L3 t191 x15_1) true _ ?side1 ?side2 ?side3 ?side4 A38.out).mono ?_); (case side1 => repeat (first | exact (by repeat (first | (with_reducible exact HR194_0.out) | (with_reducible refine Kd.C_alloc ?_ _) | (with_reducible refine Kd.C_drewN ?_ _) | (with_reducible refine Kd.C_drew ?_) | exact HR194_0.out)) | (with_reducible refine Kd.C_alloc ?_ _) | (with_reducible refine Kd.C_drewN ?_ _) | (with_reducible refine Kd.C_drew ?_))); (case side2 => exact HC194_0.out); (case side3 => repeat (first | exact (by repeat (first | (with_reducible exact HR195_0.out) | (with_reducible refine Kd.C_alloc ?_ _) | (with_reducible refine Kd.C_drewN ?_ _) | (with_reducible refine Kd.C_drew ?_) | exact HR195_0.out)) | (with_reducible refine Kd.C_alloc ?_ _) | (with_reducible refine Kd.C_drewN ?_ _) | (with_reducible refine Kd.C_drew ?_))); (case side4 => exact HC195_0.out); rintro e w' ⟨rfl, ⟨nd, rfl⟩⟩; (try first | exact ⟨rfl, _, World.drewN_drewN _ _ _⟩ | exact ⟨rfl, _, Eq.trans (World.drewN_drewN _ _ _) (congrArg (World.drewN _) (Nat.add_assoc _ _ _))⟩))); try go_wp2_with (first | (go_at_call 28; (with_reducible refine (billhooklaw10_bools.calls k1 _ _ (rd_L3 t188 x15_1) _ _ (rd_L3 t191 x15_1) true _ ?side1 ?side2 ?side3 ?side4 A38.out).mono ?_); (case side1 => repeat (first | exact (by repeat (first | (with_reducible exact HR194_0.out) | (with_reducible refine Kd.C_alloc ?_ _) | (with_reducible refine Kd.C_drewN ?_ _) | (with_reducible refine Kd.C_drew ?_) | exact HR194_0.out)) | (with_reducible refine Kd.C_alloc ?_ _) | (with_reducible refine Kd.C_drewN ?_ _) | (with_reducible refine Kd.C_drew ?_))); (case side2 => exact HC194_0.out); (case side3 => repeat (first | exact (by repeat (first | (with_reducible exact HR195_0.out) | (with_reducible refine Kd.C_alloc ?_ _) | (with_reducible refine Kd.C_drewN ?_ _) | (with_reducible refine Kd.C_drew ?_) | exact HR195_0.out)) | (with_reducible refine Kd.C_alloc ?_ _) | (with_reducible refine Kd.C_drewN ?_ _) | (with_reducible refine Kd.C_drew ?_))); (case side4 => exact HC195_0.out); rintro e w' ⟨rfl, ⟨nd, rfl⟩⟩; (try first | exact ⟨rfl, _, World.drewN_drewN _ _ _⟩ | exact ⟨rfl, _, Eq.trans (World.drewN_drewN _ _ _) (congrArg (World.drewN _) (Nat.add_assoc _ _ _))⟩))))
              go_roundg k1
              case measure => have := HK1.out; omega
              case rel => exact ⟨(wrap64 (x15_1 + 1)), (by first | rfl | (simp; done) | (simp [*]; done)), H', ⟨by have := HK1.out; omega⟩, ⟨by (with_reducible repeat (first | apply Kd.S_alloc | apply Kd.S_drewN | apply Kd.S_drew)); exact HO_0.out⟩, ⟨by (with_reducible repeat (first | apply Kd.S_alloc | apply Kd.S_drewN | apply Kd.S_drew)); exact HO_13.out⟩, ⟨by (with_reducible repeat (first | apply Kd.S_alloc | apply Kd.S_drewN | apply Kd.S_drew)); exact HO_14.out⟩, ⟨by repeat (first | (with_reducible first | exact HB.out | apply below_alloc | apply pw_below_drewN | apply below_drew1) | exact HB.out)⟩⟩
             ·
              replace c39 := Bool.eq_false_iff.mpr c39
              subst c39
              have H1 : (some false) = some r := by rw [if_neg (show ¬ (false = true) by decide)] at H; exact H
              clear H
              have H := H1
              clear H1
              obtain rfl := Option.some.inj H
              have p194 : 0 ≤ (x15_1 : Int) := of_decide_eq_true (by first | (with_reducible assumption) | assumption)
              have q194 : x15_1 < (t188.length : Int) := of_decide_eq_true (by first | (with_reducible assumption) | assumption)
              obtain ⟨ad194, A194_0, c194_0, e194, hx194_0, hl194_0, hi194_0⟩ := at_L3 (Kd.S_reads' HO_13.out).2.2 x15_1 p194 q194
              cases e194
              obtain ⟨ce194, hce194, hMe194, hcc194⟩ := Kd.S_get HO_13.out [] x15_1 p194 (by first | exact q194 | exact of_decide_eq_true (by first | (with_reducible assumption) | assumption) | (have e_ := (Kd.S_reads' HO_13.out).1; omega))
              obtain ⟨ve194_0, rfl, ge194_0⟩ := hMe194
              have hv194_0 := hcc194 0 _ rfl
              rw [Nat.add_zero, show ((Kd.slice 4 Kd.bool)).sz = 1 from rfl, Nat.mul_one] at hv194_0
              replace hv194_0 := Option.some.inj (hv194_0.symm.trans hx194_0)
              rw [hv194_0] at ge194_0
              have HL194_0 := Aside0.mk (show Kd.R Kd.bool 4 _ _ _ _ (rd_L3 t188 x15_1) from ge194_0)
              clear hv194_0 ge194_0
              clear hcc194 hce194
              have HR194_0 := Aside0.mk hi194_0
              have HC194_0 := Aside0.mk hl194_0
              clear hi194_0 hl194_0
              replace p194 := eq_true p194
              replace q194 := eq_true q194
              have p195 : 0 ≤ (x15_1 : Int) := of_decide_eq_true (by first | (with_reducible assumption) | assumption)
              have q195 : x15_1 < (t191.length : Int) := of_decide_eq_true (by first | (with_reducible assumption) | assumption)
              obtain ⟨ad195, A195_0, c195_0, e195, hx195_0, hl195_0, hi195_0⟩ := at_L3 (Kd.S_reads' HO_14.out).2.2 x15_1 p195 q195
              cases e195
              obtain ⟨ce195, hce195, hMe195, hcc195⟩ := Kd.S_get HO_14.out [] x15_1 p195 (by first | exact q195 | exact of_decide_eq_true (by first | (with_reducible assumption) | assumption) | (have e_ := (Kd.S_reads' HO_14.out).1; omega))
              obtain ⟨ve195_0, rfl, ge195_0⟩ := hMe195
              have hv195_0 := hcc195 0 _ rfl
              rw [Nat.add_zero, show ((Kd.slice 4 Kd.bool)).sz = 1 from rfl, Nat.mul_one] at hv195_0
              replace hv195_0 := Option.some.inj (hv195_0.symm.trans hx195_0)
              rw [hv195_0] at ge195_0
              have HL195_0 := Aside0.mk (show Kd.R Kd.bool 4 _ _ _ _ (rd_L3 t191 x15_1) from ge195_0)
              clear hv195_0 ge195_0
              clear hcc195 hce195
              have HR195_0 := Aside0.mk hi195_0
              have HC195_0 := Aside0.mk hl195_0
              clear hi195_0 hl195_0
              (try (have hz_ := Option.some.inj (hx194_0.symm.trans hx195_0); injection hz_ with za_ zn_ zc_; subst za_; subst zc_; clear zn_))
              replace p195 := eq_true p195
              replace q195 := eq_true q195
              go_wp2_with (first | (go_at_call 28; (with_reducible refine (billhooklaw10_bools.calls k1 _ _ (rd_L3 t188 x15_1) _ _ (rd_L3 t191 x15_1) false _ ?side1 ?side2 ?side3 ?side4 A38.out).mono ?_); (case side1 => repeat (first | exact (by repeat (first | (with_reducible exact HR194_0.out) | (with_reducible refine Kd.C_alloc ?_ _) | (with_reducible refine Kd.C_drewN ?_ _) | (with_reducible refine Kd.C_drew ?_) | exact HR194_0.out)) | (with_reducible refine Kd.C_alloc ?_ _) | (with_reducible refine Kd.C_drewN ?_ _) | (with_reducible refine Kd.C_drew ?_))); (case side2 => exact HC194_0.out); (case side3 => repeat (first | exact (by repeat (first | (with_reducible exact HR195_0.out) | (with_reducible refine Kd.C_alloc ?_ _) | (with_reducible refine Kd.C_drewN ?_ _) | (with_reducible refine Kd.C_drew ?_) | exact HR195_0.out)) | (with_reducible refine Kd.C_alloc ?_ _) | (with_reducible refine Kd.C_drewN ?_ _) | (with_reducible refine Kd.C_drew ?_))); (case side4 => exact HC195_0.out); rintro e w' ⟨rfl, ⟨nd, rfl⟩⟩; (try first | exact ⟨rfl, _, World.drewN_drewN _ _ _⟩ | exact ⟨rfl, _, Eq.trans (World.drewN_drewN _ _ _) (congrArg (World.drewN _) (Nat.add_assoc _ _ _))⟩)))
              repeat (go_quiet (first | (go_at_call 28; (with_reducible refine (billhooklaw10_bools.calls k1 _ _ (rd_L3 t188 x15_1) _ _ (rd_L3 t191 x15_1) false _ ?side1 ?side2 ?side3 ?side4 A38.out).mono ?_); (case side1 => repeat (first | exact (by repeat (first | (with_reducible exact HR194_0.out) | (with_reducible refine Kd.C_alloc ?_ _) | (with_reducible refine Kd.C_drewN ?_ _) | (with_reducible refine Kd.C_drew ?_) | exact HR194_0.out)) | (with_reducible refine Kd.C_alloc ?_ _) | (with_reducible refine Kd.C_drewN ?_ _) | (with_reducible refine Kd.C_drew ?_))); (case side2 => exact HC194_0.out); (case side3 => repeat (first | exact (by repeat (first | (with_reducible exact HR195_0.out) | (with_reducible refine Kd.C_alloc ?_ _) | (with_reducible refine Kd.C_drewN ?_ _) | (with_reducible refine Kd.C_drew ?_) | exact HR195_0.out)) | (with_reducible refine Kd.C_alloc ?_ _) | (with_reducible refine Kd.C_drewN ?_ _) | (with_reducible refine Kd.C_drew ?_))); (case side4 => exact HC195_0.out); rintro e w' ⟨rfl, ⟨nd, rfl⟩⟩; (try first | exact ⟨rfl, _, World.drewN_drewN _ _ _⟩ | exact ⟨rfl, _, Eq.trans (World.drewN_drewN _ _ _) (congrArg (World.drewN _) (Nat.add_assoc _ _ _))⟩))); try go_wp2_with (first | (go_at_call 28; (with_reducible refine (billhooklaw10_bools.calls k1 _ _ (rd_L3 t188 x15_1) _ _ (rd_L3 t191 x15_1) false _ ?side1 ?side2 ?side3 ?side4 A38.out).mono ?_); (case side1 => repeat (first | exact (by repeat (first | (with_reducible exact HR194_0.out) | (with_reducible refine Kd.C_alloc ?_ _) | (with_reducible refine Kd.C_drewN ?_ _) | (with_reducible refine Kd.C_drew ?_) | exact HR194_0.out)) | (with_reducible refine Kd.C_alloc ?_ _) | (with_reducible refine Kd.C_drewN ?_ _) | (with_reducible refine Kd.C_drew ?_))); (case side2 => exact HC194_0.out); (case side3 => repeat (first | exact (by repeat (first | (with_reducible exact HR195_0.out) | (with_reducible refine Kd.C_alloc ?_ _) | (with_reducible refine Kd.C_drewN ?_ _) | (with_reducible refine Kd.C_drew ?_) | exact HR195_0.out)) | (with_reducible refine Kd.C_alloc ?_ _) | (with_reducible refine Kd.C_drewN ?_ _) | (with_reducible refine Kd.C_drew ?_))); (case side4 => exact HC195_0.out); rintro e w' ⟨rfl, ⟨nd, rfl⟩⟩; (try first | exact ⟨rfl, _, World.drewN_drewN _ _ _⟩ | exact ⟨rfl, _, Eq.trans (World.drewN_drewN _ _ _) (congrArg (World.drewN _) (Nat.add_assoc _ _ _))⟩))))
              go_ret
              exact ⟨by first | rfl | (simp [errW_none, errW_some] <;> rfl) | (simp only [← hji8, ← hji13]; first | rfl | (simp [errW_none, errW_some] <;> rfl)) | (simp [*, errW_none, errW_some] <;> rfl), by repeat (first | (with_reducible first | exact HB.out | apply below_alloc | apply pw_below_drewN | apply below_drew1) | exact HB.out)⟩
            ·
             rw [if_neg c37] at H
             exact absurd H (by simp)
           ·
            rw [if_neg c36] at H
            exact absurd H (by simp)
          ·
           rw [if_neg c35] at H
           have c35b0 : decide (x15_1 < (t188.length : Int)) = false := decide_eq_false c35
           clear c35
           replace H := Option.bind_eq_some_iff.mp H
           obtain ⟨t197, A400, H⟩ := H
           replace H : ((billhookref10_Least.f k1 t174).bind fun t200 => ((billhooklaw10_same.f k1 t197 t200).bind fun t203 => ((dom_Control.f k1 t174).bind fun t204 => ((billhookref10_Control.f k1 t174).bind fun t207 => ((billhooklaw10_rows.f k1 t204 t207).bind fun t210 => (if true = true then (if t187 = true then (if t203 = true then (some t210) else (some false)) else (some false)) else (some false))))))) = some r := H
           have A40 := Aside0.mk A400
           clear A400
           replace H := Option.bind_eq_some_iff.mp H
           obtain ⟨t200, A410, H⟩ := H
           replace H : ((billhooklaw10_same.f k1 t197 t200).bind fun t203 => ((dom_Control.f k1 t174).bind fun t204 => ((billhookref10_Control.f k1 t174).bind fun t207 => ((billhooklaw10_rows.f k1 t204 t207).bind fun t210 => (if true = true then (if t187 = true then (if t203 = true then (some t210) else (some false)) else (some false)) else (some false)))))) = some r := H
           have A41 := Aside0.mk A410
           clear A410
           replace H := Option.bind_eq_some_iff.mp H
           obtain ⟨t203, A420, H⟩ := H
           replace H : ((dom_Control.f k1 t174).bind fun t204 => ((billhookref10_Control.f k1 t174).bind fun t207 => ((billhooklaw10_rows.f k1 t204 t207).bind fun t210 => (if true = true then (if t187 = true then (if t203 = true then (some t210) else (some false)) else (some false)) else (some false))))) = some r := H
           have A42 := Aside0.mk A420
           clear A420
           replace H := Option.bind_eq_some_iff.mp H
           obtain ⟨t204, A430, H⟩ := H
           replace H : ((billhookref10_Control.f k1 t174).bind fun t207 => ((billhooklaw10_rows.f k1 t204 t207).bind fun t210 => (if true = true then (if t187 = true then (if t203 = true then (some t210) else (some false)) else (some false)) else (some false)))) = some r := H
           have A43 := Aside0.mk A430
           clear A430
           replace H := Option.bind_eq_some_iff.mp H
           obtain ⟨t207, A440, H⟩ := H
           replace H : ((billhooklaw10_rows.f k1 t204 t207).bind fun t210 => (if true = true then (if t187 = true then (if t203 = true then (some t210) else (some false)) else (some false)) else (some false))) = some r := H
           have A44 := Aside0.mk A440
           clear A440
           replace H := Option.bind_eq_some_iff.mp H
           obtain ⟨t210, A450, H⟩ := H
           replace H : (if true = true then (if t187 = true then (if t203 = true then (some t210) else (some false)) else (some false)) else (some false)) = some r := H
           have A45 := Aside0.mk A450
           clear A450
           by_cases c46 : true = true
           ·
            clear c46
            have H1 : (if t187 = true then (if t203 = true then (some t210) else (some false)) else (some false)) = some r := by first | (rw [if_pos rfl] at H; exact H) | (rw [if_pos trivial] at H; exact H)
            clear H
            have H := H1
            clear H1
            by_cases c47 : t187 = true
            ·
             subst c47
             have H1 : (if t203 = true then (some t210) else (some false)) = some r := by first | (rw [if_pos rfl] at H; exact H) | (rw [if_pos trivial] at H; exact H)
             clear H
             have H := H1
             clear H1
             by_cases c48 : t203 = true
             ·
              subst c48
              have H1 : (some t210) = some r := by first | (rw [if_pos rfl] at H; exact H) | (rw [if_pos trivial] at H; exact H)
              clear H
              have H := H1
              clear H1
              obtain rfl := Option.some.inj H
              go_wp2_with (first | (go_at_call 34; (with_reducible refine (dom_Least.calls k1 _ _ t174 t197 _ ?side1 ?side2 A40.out).mono ?_); (case side1 => repeat (first | exact (Kd.S_reads' HO_0.out).2.2 | (with_reducible refine Kd.C_alloc ?_ _) | (with_reducible refine Kd.C_drewN ?_ _) | (with_reducible refine Kd.C_drew ?_))); (case side2 => exact (Kd.S_reads' HO_0.out).2.1); rintro e w49 ⟨v198, rfl, ho0, hb⟩; have n0_ := Aside0.mk (Kd.S_elder' (by (with_reducible repeat (first | apply Kd.S_alloc | apply Kd.S_drewN | apply Kd.S_drew)); exact HO_0.out) (Kd.R_base ho0) hb); have n1_ := Aside0.mk (Kd.S_below (by (with_reducible repeat (first | apply Kd.S_alloc | apply Kd.S_drewN | apply Kd.S_drew)); exact HO_13.out) hb); have n2_ := Aside0.mk (Kd.S_below (by (with_reducible repeat (first | apply Kd.S_alloc | apply Kd.S_drewN | apply Kd.S_drew)); exact HO_14.out) hb); have n3_ := Aside0.mk (Kd.R_lower ho0 (below_size (by repeat (first | (with_reducible first | exact HB.out | apply below_alloc | apply pw_below_drewN | apply below_drew1) | exact HB.out)))); have n4_ := Aside0.mk (below_step (by repeat (first | (with_reducible first | exact HB.out | apply below_alloc | apply pw_below_drewN | apply below_drew1) | exact HB.out)) hb); clear HO_0; clear HO_13; clear HO_14; clear HB; have HO_0 := n0_; have HO_13 := n1_; have HO_14 := n2_; have HO199 := n3_; have HB := n4_; clear n0_ n1_ n2_ n3_ n4_; (try clear hb); (try clear hb2); (try clear hk); (try clear hi); (try clear ho0)) | (go_at_call 35; (with_reducible refine (billhookref10_Least.calls k1 _ _ t174 t200 _ ?side1 ?side2 A41.out).mono ?_); (case side1 => repeat (first | exact (Kd.S_reads' HO_0.out).2.2 | (with_reducible refine Kd.C_alloc ?_ _) | (with_reducible refine Kd.C_drewN ?_ _) | (with_reducible refine Kd.C_drew ?_))); (case side2 => exact (Kd.S_reads' HO_0.out).2.1); rintro e w50 ⟨v201, rfl, ho0, hb⟩; have n0_ := Aside0.mk (Kd.S_elder' (by (with_reducible repeat (first | apply Kd.S_alloc | apply Kd.S_drewN | apply Kd.S_drew)); exact HO_0.out) (Kd.R_base ho0) hb); have n1_ := Aside0.mk (Kd.S_below (by (with_reducible repeat (first | apply Kd.S_alloc | apply Kd.S_drewN | apply Kd.S_drew)); exact HO_13.out) hb); have n2_ := Aside0.mk (Kd.S_below (by (with_reducible repeat (first | apply Kd.S_alloc | apply Kd.S_drewN | apply Kd.S_drew)); exact HO_14.out) hb); have n3_ := Aside0.mk (Kd.R_elder' (by (with_reducible repeat (first | apply Kd.R_alloc | apply Kd.R_drewN | apply Kd.R_drew)); exact HO199.out) (Kd.R_base ho0) hb); have n4_ := Aside0.mk (Kd.R_lower (Kd.R_new' ho0 (Kd.R_lt (by (with_reducible repeat (first | apply Kd.R_alloc | apply Kd.R_drewN | apply Kd.R_drew)); exact HO199.out))) (below_size (by repeat (first | (with_reducible first | exact HB.out | apply below_alloc | apply pw_below_drewN | apply below_drew1) | exact HB.out)))); have n5_ := Aside0.mk (below_step (by repeat (first | (with_reducible first | exact HB.out | apply below_alloc | apply pw_below_drewN | apply below_drew1) | exact HB.out)) hb); clear HO_0; clear HO_13; clear HO_14; clear HO199; clear HB; have HO_0 := n0_; have HO_13 := n1_; have HO_14 := n2_; have HO199 := n3_; have HO202 := n4_; have HB := n5_; clear n0_ n1_ n2_ n3_ n4_ n5_; (try clear hb); (try clear hb2); (try clear hk); (try clear hi); (try clear ho0); obtain ⟨Ao51, co51, eo51⟩ := Kd.R_slice HO199.out; subst eo51; obtain ⟨Ao52, co52, eo52⟩ := Kd.R_slice HO202.out; subst eo52) | (go_at_call 33; (with_reducible refine (billhooklaw10_same.calls k1 _ _ t197 _ _ t200 true _ ?side1 ?side2 ?side3 ?side4 A42.out).mono ?_); (case side1 => repeat (first | exact (Kd.R_reads' HO199.out).2.2 | (with_reducible refine Kd.C_alloc ?_ _) | (with_reducible refine Kd.C_drewN ?_ _) | (with_reducible refine Kd.C_drew ?_))); (case side2 => exact (Kd.R_reads' HO199.out).2.1); (case side3 => repeat (first | exact (Kd.R_reads' HO202.out).2.2 | (with_reducible refine Kd.C_alloc ?_ _) | (with_reducible refine Kd.C_drewN ?_ _) | (with_reducible refine Kd.C_drew ?_))); (case side4 => exact (Kd.R_reads' HO202.out).2.1); rintro e w' ⟨rfl, ⟨nd, rfl⟩⟩; (try first | exact ⟨rfl, _, World.drewN_drewN _ _ _⟩ | exact ⟨rfl, _, Eq.trans (World.drewN_drewN _ _ _) (congrArg (World.drewN _) (Nat.add_assoc _ _ _))⟩)) | (go_at_call 37; (with_reducible refine (dom_Control.calls k1 (fun k_ => ((((True ∧ some k_ ≠ (.slice Ao51 t197.length co51 : Value).ownBlock) ∧ some k_ ≠ (.slice Ao52 t200.length co52 : Value).ownBlock) ∧ some k_ ≠ (.slice Ao33 t188.length co33 : Value).ownBlock) ∧ some k_ ≠ (.slice Ao34 t191.length co34 : Value).ownBlock)) _ _ t174 t204 _ ?side1 A43.out).mono ?_); (case side1 => exact Kd.S_V (Kd.S_apart' (Kd.S_apart' (HO_0.out) (Kd.S_typed HO_13.out) (by decide)) (Kd.S_typed HO_14.out) (by decide))); rintro e w53 ⟨v205, rfl, ho0, hb⟩; have n0_ := Aside0.mk (Kd.S_below (by (with_reducible repeat (first | apply Kd.S_alloc | apply Kd.S_drewN | apply Kd.S_drew)); exact HO_0.out) hb); have n1_ := Aside0.mk (Kd.S_below (by (with_reducible repeat (first | apply Kd.S_alloc | apply Kd.S_drewN | apply Kd.S_drew)); exact HO_13.out) hb); have n2_ := Aside0.mk (Kd.S_below (by (with_reducible repeat (first | apply Kd.S_alloc | apply Kd.S_drewN | apply Kd.S_drew)); exact HO_14.out) hb); have n3_ := Aside0.mk (Kd.R_below (by (with_reducible repeat (first | apply Kd.R_alloc | apply Kd.R_drewN | apply Kd.R_drew)); exact HO199.out) hb); have n4_ := Aside0.mk (Kd.R_below (by (with_reducible repeat (first | apply Kd.R_alloc | apply Kd.R_drewN | apply Kd.R_drew)); exact HO202.out) hb); have n5_ := Aside0.mk (Kd.V_lower (Kd.V_mono (ok' := fun k_ => some k_ ≠ (.slice Ao33 t188.length co33 : Value).ownBlock ∧ some k_ ≠ (.slice Ao34 t191.length co34 : Value).ownBlock ∧ some k_ ≠ (.slice Ao51 t197.length co51 : Value).ownBlock ∧ some k_ ≠ (.slice Ao52 t200.length co52 : Value).ownBlock) ho0 (fun k_ hk_ => ⟨Or.elim hk_ (fun hs_ => hs_.1.2) (fun hn_ => (Kd.fresh' (Kd.S_lt (by (with_reducible repeat (first | apply Kd.S_alloc | apply Kd.S_drewN | apply Kd.S_drew)); exact HO_13.out)) k_ hn_)), Or.elim hk_ (fun hs_ => hs_.2) (fun hn_ => (Kd.fresh' (Kd.S_lt (by (with_reducible repeat (first | apply Kd.S_alloc | apply Kd.S_drewN | apply Kd.S_drew)); exact HO_14.out)) k_ hn_)), Or.elim hk_ (fun hs_ => hs_.1.1.1.2) (fun hn_ => (Kd.fresh' (Kd.R_lt (by (with_reducible repeat (first | apply Kd.R_alloc | apply Kd.R_drewN | apply Kd.R_drew)); exact HO199.out)) k_ hn_)), Or.elim hk_ (fun hs_ => hs_.1.1.2) (fun hn_ => (Kd.fresh' (Kd.R_lt (by (with_reducible repeat (first | apply Kd.R_alloc | apply Kd.R_drewN | apply Kd.R_drew)); exact HO202.out)) k_ hn_))⟩)) (below_size (by repeat (first | (with_reducible first | exact HB.out | apply below_alloc | apply pw_below_drewN | apply below_drew1) | exact HB.out)))); have n6_ := Aside0.mk (below_step (by repeat (first | (with_reducible first | exact HB.out | apply below_alloc | apply pw_below_drewN | apply below_drew1) | exact HB.out)) hb); clear HO_0; clear HO_13; clear HO_14; clear HO199; clear HO202; clear HB; have HO_0 := n0_; have HO_13 := n1_; have HO_14 := n2_; have HO199 := n3_; have HO202 := n4_; have HO206 := n5_; have HB := n6_; clear n0_ n1_ n2_ n3_ n4_ n5_ n6_; (try clear hb); (try clear hb2); (try clear hk); (try clear hi); (try clear ho0)) | (go_at_call 38; (with_reducible refine (billhookref10_Control.calls k1 _ _ t174 t207 _ ?side1 ?side2 A44.out).mono ?_); (case side1 => repeat (first | exact (Kd.S_reads' HO_0.out).2.2 | (with_reducible refine Kd.C_alloc ?_ _) | (with_reducible refine Kd.C_drewN ?_ _) | (with_reducible refine Kd.C_drew ?_))); (case side2 => exact (Kd.S_reads' HO_0.out).2.1); rintro e w54 ⟨v208, rfl, ho0, hb⟩; have n0_ := Aside0.mk (Kd.S_elder' (by (with_reducible repeat (first | apply Kd.S_alloc | apply Kd.S_drewN | apply Kd.S_drew)); exact HO_0.out) (Kd.S_base ho0) hb); have n1_ := Aside0.mk (Kd.S_below (by (with_reducible repeat (first | apply Kd.S_alloc | apply Kd.S_drewN | apply Kd.S_drew)); exact HO_13.out) hb); have n2_ := Aside0.mk (Kd.S_below (by (with_reducible repeat (first | apply Kd.S_alloc | apply Kd.S_drewN | apply Kd.S_drew)); exact HO_14.out) hb); have n3_ := Aside0.mk (Kd.R_below (by (with_reducible repeat (first | apply Kd.R_alloc | apply Kd.R_drewN | apply Kd.R_drew)); exact HO199.out) hb); have n4_ := Aside0.mk (Kd.R_below (by (with_reducible repeat (first | apply Kd.R_alloc | apply Kd.R_drewN | apply Kd.R_drew)); exact HO202.out) hb); have n5_ := Aside0.mk (Kd.V_elder' (by (with_reducible repeat (first | apply Kd.V_alloc | apply Kd.V_drewN | apply Kd.V_drew)); exact HO206.out) (Kd.S_base ho0) hb); have n6_ := Aside0.mk (Kd.S_lower (Kd.S_new' (Kd.S_new' (Kd.S_new' ho0 (Kd.S_lt (by (with_reducible repeat (first | apply Kd.S_alloc | apply Kd.S_drewN | apply Kd.S_drew)); exact HO_0.out))) (Kd.R_lt (by (with_reducible repeat (first | apply Kd.R_alloc | apply Kd.R_drewN | apply Kd.R_drew)); exact HO199.out))) (Kd.R_lt (by (with_reducible repeat (first | apply Kd.R_alloc | apply Kd.R_drewN | apply Kd.R_drew)); exact HO202.out))) (below_size (by repeat (first | (with_reducible first | exact HB.out | apply below_alloc | apply pw_below_drewN | apply below_drew1) | exact HB.out)))); have n7_ := Aside0.mk (below_step (by repeat (first | (with_reducible first | exact HB.out | apply below_alloc | apply pw_below_drewN | apply below_drew1) | exact HB.out)) hb); clear HO_0; clear HO_13; clear HO_14; clear HO199; clear HO202; clear HO206; clear HB; have HO_0 := n0_; have HO_13 := n1_; have HO_14 := n2_; have HO199 := n3_; have HO202 := n4_; have HO206 := n5_; have HO209 := n6_; have HB := n7_; clear n0_ n1_ n2_ n3_ n4_ n5_ n6_ n7_; (try clear hb); (try clear hb2); (try clear hk); (try clear hi); (try clear ho0); obtain ⟨Ao55, co55, eo55⟩ := Kd.V_slice HO206.out; subst eo55; obtain ⟨Ao56, co56, eo56⟩ := Kd.S_slice HO209.out; subst eo56) | (go_at_call 36; (with_reducible refine (billhooklaw10_rows.calls k1 _ _ t204 _ _ t207 t210 _ ?side1 ?side2 ?side3 ?side4 A45.out).mono ?_); (case side1 => repeat (first | exact (Kd.V_reads' HO206.out).2.2 | (with_reducible refine Kd.C_alloc ?_ _) | (with_reducible refine Kd.C_drewN ?_ _) | (with_reducible refine Kd.C_drew ?_))); (case side2 => exact (Kd.V_reads' HO206.out).2.1); (case side3 => repeat (first | exact (Kd.S_reads' HO209.out).2.2 | (with_reducible refine Kd.C_alloc ?_ _) | (with_reducible refine Kd.C_drewN ?_ _) | (with_reducible refine Kd.C_drew ?_))); (case side4 => exact (Kd.S_reads' HO209.out).2.1); rintro e w' ⟨rfl, ⟨nd, rfl⟩⟩; (try first | exact ⟨rfl, _, World.drewN_drewN _ _ _⟩ | exact ⟨rfl, _, Eq.trans (World.drewN_drewN _ _ _) (congrArg (World.drewN _) (Nat.add_assoc _ _ _))⟩)))
              go_ret
              exact ⟨by first | rfl | (simp [errW_none, errW_some] <;> rfl) | (simp only [← hji8, ← hji13]; first | rfl | (simp [errW_none, errW_some] <;> rfl)) | (simp [*, errW_none, errW_some] <;> rfl), by repeat (first | (with_reducible first | exact HB.out | apply below_alloc | apply pw_below_drewN | apply below_drew1) | exact HB.out)⟩
             ·
              replace c48 := Bool.eq_false_iff.mpr c48
              subst c48
              have H1 : (some false) = some r := by rw [if_neg (show ¬ (false = true) by decide)] at H; exact H
              clear H
              have H := H1
              clear H1
              obtain rfl := Option.some.inj H
              go_wp2_with (first | (go_at_call 34; (with_reducible refine (dom_Least.calls k1 _ _ t174 t197 _ ?side1 ?side2 A40.out).mono ?_); (case side1 => repeat (first | exact (Kd.S_reads' HO_0.out).2.2 | (with_reducible refine Kd.C_alloc ?_ _) | (with_reducible refine Kd.C_drewN ?_ _) | (with_reducible refine Kd.C_drew ?_))); (case side2 => exact (Kd.S_reads' HO_0.out).2.1); rintro e w57 ⟨v198, rfl, ho0, hb⟩; have n0_ := Aside0.mk (Kd.S_elder' (by (with_reducible repeat (first | apply Kd.S_alloc | apply Kd.S_drewN | apply Kd.S_drew)); exact HO_0.out) (Kd.R_base ho0) hb); have n1_ := Aside0.mk (Kd.S_below (by (with_reducible repeat (first | apply Kd.S_alloc | apply Kd.S_drewN | apply Kd.S_drew)); exact HO_13.out) hb); have n2_ := Aside0.mk (Kd.S_below (by (with_reducible repeat (first | apply Kd.S_alloc | apply Kd.S_drewN | apply Kd.S_drew)); exact HO_14.out) hb); have n3_ := Aside0.mk (Kd.R_lower ho0 (below_size (by repeat (first | (with_reducible first | exact HB.out | apply below_alloc | apply pw_below_drewN | apply below_drew1) | exact HB.out)))); have n4_ := Aside0.mk (below_step (by repeat (first | (with_reducible first | exact HB.out | apply below_alloc | apply pw_below_drewN | apply below_drew1) | exact HB.out)) hb); clear HO_0; clear HO_13; clear HO_14; clear HB; have HO_0 := n0_; have HO_13 := n1_; have HO_14 := n2_; have HO199 := n3_; have HB := n4_; clear n0_ n1_ n2_ n3_ n4_; (try clear hb); (try clear hb2); (try clear hk); (try clear hi); (try clear ho0)) | (go_at_call 35; (with_reducible refine (billhookref10_Least.calls k1 _ _ t174 t200 _ ?side1 ?side2 A41.out).mono ?_); (case side1 => repeat (first | exact (Kd.S_reads' HO_0.out).2.2 | (with_reducible refine Kd.C_alloc ?_ _) | (with_reducible refine Kd.C_drewN ?_ _) | (with_reducible refine Kd.C_drew ?_))); (case side2 => exact (Kd.S_reads' HO_0.out).2.1); rintro e w58 ⟨v201, rfl, ho0, hb⟩; have n0_ := Aside0.mk (Kd.S_elder' (by (with_reducible repeat (first | apply Kd.S_alloc | apply Kd.S_drewN | apply Kd.S_drew)); exact HO_0.out) (Kd.R_base ho0) hb); have n1_ := Aside0.mk (Kd.S_below (by (with_reducible repeat (first | apply Kd.S_alloc | apply Kd.S_drewN | apply Kd.S_drew)); exact HO_13.out) hb); have n2_ := Aside0.mk (Kd.S_below (by (with_reducible repeat (first | apply Kd.S_alloc | apply Kd.S_drewN | apply Kd.S_drew)); exact HO_14.out) hb); have n3_ := Aside0.mk (Kd.R_elder' (by (with_reducible repeat (first | apply Kd.R_alloc | apply Kd.R_drewN | apply Kd.R_drew)); exact HO199.out) (Kd.R_base ho0) hb); have n4_ := Aside0.mk (Kd.R_lower (Kd.R_new' ho0 (Kd.R_lt (by (with_reducible repeat (first | apply Kd.R_alloc | apply Kd.R_drewN | apply Kd.R_drew)); exact HO199.out))) (below_size (by repeat (first | (with_reducible first | exact HB.out | apply below_alloc | apply pw_below_drewN | apply below_drew1) | exact HB.out)))); have n5_ := Aside0.mk (below_step (by repeat (first | (with_reducible first | exact HB.out | apply below_alloc | apply pw_below_drewN | apply below_drew1) | exact HB.out)) hb); clear HO_0; clear HO_13; clear HO_14; clear HO199; clear HB; have HO_0 := n0_; have HO_13 := n1_; have HO_14 := n2_; have HO199 := n3_; have HO202 := n4_; have HB := n5_; clear n0_ n1_ n2_ n3_ n4_ n5_; (try clear hb); (try clear hb2); (try clear hk); (try clear hi); (try clear ho0); obtain ⟨Ao59, co59, eo59⟩ := Kd.R_slice HO199.out; subst eo59; obtain ⟨Ao60, co60, eo60⟩ := Kd.R_slice HO202.out; subst eo60) | (go_at_call 33; (with_reducible refine (billhooklaw10_same.calls k1 _ _ t197 _ _ t200 false _ ?side1 ?side2 ?side3 ?side4 A42.out).mono ?_); (case side1 => repeat (first | exact (Kd.R_reads' HO199.out).2.2 | (with_reducible refine Kd.C_alloc ?_ _) | (with_reducible refine Kd.C_drewN ?_ _) | (with_reducible refine Kd.C_drew ?_))); (case side2 => exact (Kd.R_reads' HO199.out).2.1); (case side3 => repeat (first | exact (Kd.R_reads' HO202.out).2.2 | (with_reducible refine Kd.C_alloc ?_ _) | (with_reducible refine Kd.C_drewN ?_ _) | (with_reducible refine Kd.C_drew ?_))); (case side4 => exact (Kd.R_reads' HO202.out).2.1); rintro e w' ⟨rfl, ⟨nd, rfl⟩⟩; (try first | exact ⟨rfl, _, World.drewN_drewN _ _ _⟩ | exact ⟨rfl, _, Eq.trans (World.drewN_drewN _ _ _) (congrArg (World.drewN _) (Nat.add_assoc _ _ _))⟩)) | (go_at_call 37; (with_reducible refine (dom_Control.calls k1 (fun k_ => ((((True ∧ some k_ ≠ (.slice Ao59 t197.length co59 : Value).ownBlock) ∧ some k_ ≠ (.slice Ao60 t200.length co60 : Value).ownBlock) ∧ some k_ ≠ (.slice Ao33 t188.length co33 : Value).ownBlock) ∧ some k_ ≠ (.slice Ao34 t191.length co34 : Value).ownBlock)) _ _ t174 t204 _ ?side1 A43.out).mono ?_); (case side1 => exact Kd.S_V (Kd.S_apart' (Kd.S_apart' (HO_0.out) (Kd.S_typed HO_13.out) (by decide)) (Kd.S_typed HO_14.out) (by decide))); rintro e w61 ⟨v205, rfl, ho0, hb⟩; have n0_ := Aside0.mk (Kd.S_below (by (with_reducible repeat (first | apply Kd.S_alloc | apply Kd.S_drewN | apply Kd.S_drew)); exact HO_0.out) hb); have n1_ := Aside0.mk (Kd.S_below (by (with_reducible repeat (first | apply Kd.S_alloc | apply Kd.S_drewN | apply Kd.S_drew)); exact HO_13.out) hb); have n2_ := Aside0.mk (Kd.S_below (by (with_reducible repeat (first | apply Kd.S_alloc | apply Kd.S_drewN | apply Kd.S_drew)); exact HO_14.out) hb); have n3_ := Aside0.mk (Kd.R_below (by (with_reducible repeat (first | apply Kd.R_alloc | apply Kd.R_drewN | apply Kd.R_drew)); exact HO199.out) hb); have n4_ := Aside0.mk (Kd.R_below (by (with_reducible repeat (first | apply Kd.R_alloc | apply Kd.R_drewN | apply Kd.R_drew)); exact HO202.out) hb); have n5_ := Aside0.mk (Kd.V_lower (Kd.V_mono (ok' := fun k_ => some k_ ≠ (.slice Ao33 t188.length co33 : Value).ownBlock ∧ some k_ ≠ (.slice Ao34 t191.length co34 : Value).ownBlock ∧ some k_ ≠ (.slice Ao59 t197.length co59 : Value).ownBlock ∧ some k_ ≠ (.slice Ao60 t200.length co60 : Value).ownBlock) ho0 (fun k_ hk_ => ⟨Or.elim hk_ (fun hs_ => hs_.1.2) (fun hn_ => (Kd.fresh' (Kd.S_lt (by (with_reducible repeat (first | apply Kd.S_alloc | apply Kd.S_drewN | apply Kd.S_drew)); exact HO_13.out)) k_ hn_)), Or.elim hk_ (fun hs_ => hs_.2) (fun hn_ => (Kd.fresh' (Kd.S_lt (by (with_reducible repeat (first | apply Kd.S_alloc | apply Kd.S_drewN | apply Kd.S_drew)); exact HO_14.out)) k_ hn_)), Or.elim hk_ (fun hs_ => hs_.1.1.1.2) (fun hn_ => (Kd.fresh' (Kd.R_lt (by (with_reducible repeat (first | apply Kd.R_alloc | apply Kd.R_drewN | apply Kd.R_drew)); exact HO199.out)) k_ hn_)), Or.elim hk_ (fun hs_ => hs_.1.1.2) (fun hn_ => (Kd.fresh' (Kd.R_lt (by (with_reducible repeat (first | apply Kd.R_alloc | apply Kd.R_drewN | apply Kd.R_drew)); exact HO202.out)) k_ hn_))⟩)) (below_size (by repeat (first | (with_reducible first | exact HB.out | apply below_alloc | apply pw_below_drewN | apply below_drew1) | exact HB.out)))); have n6_ := Aside0.mk (below_step (by repeat (first | (with_reducible first | exact HB.out | apply below_alloc | apply pw_below_drewN | apply below_drew1) | exact HB.out)) hb); clear HO_0; clear HO_13; clear HO_14; clear HO199; clear HO202; clear HB; have HO_0 := n0_; have HO_13 := n1_; have HO_14 := n2_; have HO199 := n3_; have HO202 := n4_; have HO206 := n5_; have HB := n6_; clear n0_ n1_ n2_ n3_ n4_ n5_ n6_; (try clear hb); (try clear hb2); (try clear hk); (try clear hi); (try clear ho0)) | (go_at_call 38; (with_reducible refine (billhookref10_Control.calls k1 _ _ t174 t207 _ ?side1 ?side2 A44.out).mono ?_); (case side1 => repeat (first | exact (Kd.S_reads' HO_0.out).2.2 | (with_reducible refine Kd.C_alloc ?_ _) | (with_reducible refine Kd.C_drewN ?_ _) | (with_reducible refine Kd.C_drew ?_))); (case side2 => exact (Kd.S_reads' HO_0.out).2.1); rintro e w62 ⟨v208, rfl, ho0, hb⟩; have n0_ := Aside0.mk (Kd.S_elder' (by (with_reducible repeat (first | apply Kd.S_alloc | apply Kd.S_drewN | apply Kd.S_drew)); exact HO_0.out) (Kd.S_base ho0) hb); have n1_ := Aside0.mk (Kd.S_below (by (with_reducible repeat (first | apply Kd.S_alloc | apply Kd.S_drewN | apply Kd.S_drew)); exact HO_13.out) hb); have n2_ := Aside0.mk (Kd.S_below (by (with_reducible repeat (first | apply Kd.S_alloc | apply Kd.S_drewN | apply Kd.S_drew)); exact HO_14.out) hb); have n3_ := Aside0.mk (Kd.R_below (by (with_reducible repeat (first | apply Kd.R_alloc | apply Kd.R_drewN | apply Kd.R_drew)); exact HO199.out) hb); have n4_ := Aside0.mk (Kd.R_below (by (with_reducible repeat (first | apply Kd.R_alloc | apply Kd.R_drewN | apply Kd.R_drew)); exact HO202.out) hb); have n5_ := Aside0.mk (Kd.V_elder' (by (with_reducible repeat (first | apply Kd.V_alloc | apply Kd.V_drewN | apply Kd.V_drew)); exact HO206.out) (Kd.S_base ho0) hb); have n6_ := Aside0.mk (Kd.S_lower (Kd.S_new' (Kd.S_new' (Kd.S_new' ho0 (Kd.S_lt (by (with_reducible repeat (first | apply Kd.S_alloc | apply Kd.S_drewN | apply Kd.S_drew)); exact HO_0.out))) (Kd.R_lt (by (with_reducible repeat (first | apply Kd.R_alloc | apply Kd.R_drewN | apply Kd.R_drew)); exact HO199.out))) (Kd.R_lt (by (with_reducible repeat (first | apply Kd.R_alloc | apply Kd.R_drewN | apply Kd.R_drew)); exact HO202.out))) (below_size (by repeat (first | (with_reducible first | exact HB.out | apply below_alloc | apply pw_below_drewN | apply below_drew1) | exact HB.out)))); have n7_ := Aside0.mk (below_step (by repeat (first | (with_reducible first | exact HB.out | apply below_alloc | apply pw_below_drewN | apply below_drew1) | exact HB.out)) hb); clear HO_0; clear HO_13; clear HO_14; clear HO199; clear HO202; clear HO206; clear HB; have HO_0 := n0_; have HO_13 := n1_; have HO_14 := n2_; have HO199 := n3_; have HO202 := n4_; have HO206 := n5_; have HO209 := n6_; have HB := n7_; clear n0_ n1_ n2_ n3_ n4_ n5_ n6_ n7_; (try clear hb); (try clear hb2); (try clear hk); (try clear hi); (try clear ho0); obtain ⟨Ao63, co63, eo63⟩ := Kd.V_slice HO206.out; subst eo63; obtain ⟨Ao64, co64, eo64⟩ := Kd.S_slice HO209.out; subst eo64) | (go_at_call 36; (with_reducible refine (billhooklaw10_rows.calls k1 _ _ t204 _ _ t207 t210 _ ?side1 ?side2 ?side3 ?side4 A45.out).mono ?_); (case side1 => repeat (first | exact (Kd.V_reads' HO206.out).2.2 | (with_reducible refine Kd.C_alloc ?_ _) | (with_reducible refine Kd.C_drewN ?_ _) | (with_reducible refine Kd.C_drew ?_))); (case side2 => exact (Kd.V_reads' HO206.out).2.1); (case side3 => repeat (first | exact (Kd.S_reads' HO209.out).2.2 | (with_reducible refine Kd.C_alloc ?_ _) | (with_reducible refine Kd.C_drewN ?_ _) | (with_reducible refine Kd.C_drew ?_))); (case side4 => exact (Kd.S_reads' HO209.out).2.1); rintro e w' ⟨rfl, ⟨nd, rfl⟩⟩; (try first | exact ⟨rfl, _, World.drewN_drewN _ _ _⟩ | exact ⟨rfl, _, Eq.trans (World.drewN_drewN _ _ _) (congrArg (World.drewN _) (Nat.add_assoc _ _ _))⟩)))
              go_ret
              exact ⟨by first | rfl | (simp [errW_none, errW_some] <;> rfl) | (simp only [← hji8, ← hji13]; first | rfl | (simp [errW_none, errW_some] <;> rfl)) | (simp [*, errW_none, errW_some] <;> rfl), by repeat (first | (with_reducible first | exact HB.out | apply below_alloc | apply pw_below_drewN | apply below_drew1) | exact HB.out)⟩
            ·
             replace c47 := Bool.eq_false_iff.mpr c47
             subst c47
             have H1 : (some false) = some r := by rw [if_neg (show ¬ (false = true) by decide)] at H; exact H
             clear H
             have H := H1
             clear H1
             obtain rfl := Option.some.inj H
             go_wp2_with (first | (go_at_call 34; (with_reducible refine (dom_Least.calls k1 _ _ t174 t197 _ ?side1 ?side2 A40.out).mono ?_); (case side1 => repeat (first | exact (Kd.S_reads' HO_0.out).2.2 | (with_reducible refine Kd.C_alloc ?_ _) | (with_reducible refine Kd.C_drewN ?_ _) | (with_reducible refine Kd.C_drew ?_))); (case side2 => exact (Kd.S_reads' HO_0.out).2.1); rintro e w65 ⟨v198, rfl, ho0, hb⟩; have n0_ := Aside0.mk (Kd.S_elder' (by (with_reducible repeat (first | apply Kd.S_alloc | apply Kd.S_drewN | apply Kd.S_drew)); exact HO_0.out) (Kd.R_base ho0) hb); have n1_ := Aside0.mk (Kd.S_below (by (with_reducible repeat (first | apply Kd.S_alloc | apply Kd.S_drewN | apply Kd.S_drew)); exact HO_13.out) hb); have n2_ := Aside0.mk (Kd.S_below (by (with_reducible repeat (first | apply Kd.S_alloc | apply Kd.S_drewN | apply Kd.S_drew)); exact HO_14.out) hb); have n3_ := Aside0.mk (Kd.R_lower ho0 (below_size (by repeat (first | (with_reducible first | exact HB.out | apply below_alloc | apply pw_below_drewN | apply below_drew1) | exact HB.out)))); have n4_ := Aside0.mk (below_step (by repeat (first | (with_reducible first | exact HB.out | apply below_alloc | apply pw_below_drewN | apply below_drew1) | exact HB.out)) hb); clear HO_0; clear HO_13; clear HO_14; clear HB; have HO_0 := n0_; have HO_13 := n1_; have HO_14 := n2_; have HO199 := n3_; have HB := n4_; clear n0_ n1_ n2_ n3_ n4_; (try clear hb); (try clear hb2); (try clear hk); (try clear hi); (try clear ho0)) | (go_at_call 35; (with_reducible refine (billhookref10_Least.calls k1 _ _ t174 t200 _ ?side1 ?side2 A41.out).mono ?_); (case side1 => repeat (first | exact (Kd.S_reads' HO_0.out).2.2 | (with_reducible refine Kd.C_alloc ?_ _) | (with_reducible refine Kd.C_drewN ?_ _) | (with_reducible refine Kd.C_drew ?_))); (case side2 => exact (Kd.S_reads' HO_0.out).2.1); rintro e w66 ⟨v201, rfl, ho0, hb⟩; have n0_ := Aside0.mk (Kd.S_elder' (by (with_reducible repeat (first | apply Kd.S_alloc | apply Kd.S_drewN | apply Kd.S_drew)); exact HO_0.out) (Kd.R_base ho0) hb); have n1_ := Aside0.mk (Kd.S_below (by (with_reducible repeat (first | apply Kd.S_alloc | apply Kd.S_drewN | apply Kd.S_drew)); exact HO_13.out) hb); have n2_ := Aside0.mk (Kd.S_below (by (with_reducible repeat (first | apply Kd.S_alloc | apply Kd.S_drewN | apply Kd.S_drew)); exact HO_14.out) hb); have n3_ := Aside0.mk (Kd.R_elder' (by (with_reducible repeat (first | apply Kd.R_alloc | apply Kd.R_drewN | apply Kd.R_drew)); exact HO199.out) (Kd.R_base ho0) hb); have n4_ := Aside0.mk (Kd.R_lower (Kd.R_new' ho0 (Kd.R_lt (by (with_reducible repeat (first | apply Kd.R_alloc | apply Kd.R_drewN | apply Kd.R_drew)); exact HO199.out))) (below_size (by repeat (first | (with_reducible first | exact HB.out | apply below_alloc | apply pw_below_drewN | apply below_drew1) | exact HB.out)))); have n5_ := Aside0.mk (below_step (by repeat (first | (with_reducible first | exact HB.out | apply below_alloc | apply pw_below_drewN | apply below_drew1) | exact HB.out)) hb); clear HO_0; clear HO_13; clear HO_14; clear HO199; clear HB; have HO_0 := n0_; have HO_13 := n1_; have HO_14 := n2_; have HO199 := n3_; have HO202 := n4_; have HB := n5_; clear n0_ n1_ n2_ n3_ n4_ n5_; (try clear hb); (try clear hb2); (try clear hk); (try clear hi); (try clear ho0); obtain ⟨Ao67, co67, eo67⟩ := Kd.R_slice HO199.out; subst eo67; obtain ⟨Ao68, co68, eo68⟩ := Kd.R_slice HO202.out; subst eo68) | (go_at_call 33; (with_reducible refine (billhooklaw10_same.calls k1 _ _ t197 _ _ t200 t203 _ ?side1 ?side2 ?side3 ?side4 A42.out).mono ?_); (case side1 => repeat (first | exact (Kd.R_reads' HO199.out).2.2 | (with_reducible refine Kd.C_alloc ?_ _) | (with_reducible refine Kd.C_drewN ?_ _) | (with_reducible refine Kd.C_drew ?_))); (case side2 => exact (Kd.R_reads' HO199.out).2.1); (case side3 => repeat (first | exact (Kd.R_reads' HO202.out).2.2 | (with_reducible refine Kd.C_alloc ?_ _) | (with_reducible refine Kd.C_drewN ?_ _) | (with_reducible refine Kd.C_drew ?_))); (case side4 => exact (Kd.R_reads' HO202.out).2.1); rintro e w' ⟨rfl, ⟨nd, rfl⟩⟩; (try first | exact ⟨rfl, _, World.drewN_drewN _ _ _⟩ | exact ⟨rfl, _, Eq.trans (World.drewN_drewN _ _ _) (congrArg (World.drewN _) (Nat.add_assoc _ _ _))⟩)) | (go_at_call 37; (with_reducible refine (dom_Control.calls k1 (fun k_ => ((((True ∧ some k_ ≠ (.slice Ao67 t197.length co67 : Value).ownBlock) ∧ some k_ ≠ (.slice Ao68 t200.length co68 : Value).ownBlock) ∧ some k_ ≠ (.slice Ao33 t188.length co33 : Value).ownBlock) ∧ some k_ ≠ (.slice Ao34 t191.length co34 : Value).ownBlock)) _ _ t174 t204 _ ?side1 A43.out).mono ?_); (case side1 => exact Kd.S_V (Kd.S_apart' (Kd.S_apart' (HO_0.out) (Kd.S_typed HO_13.out) (by decide)) (Kd.S_typed HO_14.out) (by decide))); rintro e w69 ⟨v205, rfl, ho0, hb⟩; have n0_ := Aside0.mk (Kd.S_below (by (with_reducible repeat (first | apply Kd.S_alloc | apply Kd.S_drewN | apply Kd.S_drew)); exact HO_0.out) hb); have n1_ := Aside0.mk (Kd.S_below (by (with_reducible repeat (first | apply Kd.S_alloc | apply Kd.S_drewN | apply Kd.S_drew)); exact HO_13.out) hb); have n2_ := Aside0.mk (Kd.S_below (by (with_reducible repeat (first | apply Kd.S_alloc | apply Kd.S_drewN | apply Kd.S_drew)); exact HO_14.out) hb); have n3_ := Aside0.mk (Kd.R_below (by (with_reducible repeat (first | apply Kd.R_alloc | apply Kd.R_drewN | apply Kd.R_drew)); exact HO199.out) hb); have n4_ := Aside0.mk (Kd.R_below (by (with_reducible repeat (first | apply Kd.R_alloc | apply Kd.R_drewN | apply Kd.R_drew)); exact HO202.out) hb); have n5_ := Aside0.mk (Kd.V_lower (Kd.V_mono (ok' := fun k_ => some k_ ≠ (.slice Ao33 t188.length co33 : Value).ownBlock ∧ some k_ ≠ (.slice Ao34 t191.length co34 : Value).ownBlock ∧ some k_ ≠ (.slice Ao67 t197.length co67 : Value).ownBlock ∧ some k_ ≠ (.slice Ao68 t200.length co68 : Value).ownBlock) ho0 (fun k_ hk_ => ⟨Or.elim hk_ (fun hs_ => hs_.1.2) (fun hn_ => (Kd.fresh' (Kd.S_lt (by (with_reducible repeat (first | apply Kd.S_alloc | apply Kd.S_drewN | apply Kd.S_drew)); exact HO_13.out)) k_ hn_)), Or.elim hk_ (fun hs_ => hs_.2) (fun hn_ => (Kd.fresh' (Kd.S_lt (by (with_reducible repeat (first | apply Kd.S_alloc | apply Kd.S_drewN | apply Kd.S_drew)); exact HO_14.out)) k_ hn_)), Or.elim hk_ (fun hs_ => hs_.1.1.1.2) (fun hn_ => (Kd.fresh' (Kd.R_lt (by (with_reducible repeat (first | apply Kd.R_alloc | apply Kd.R_drewN | apply Kd.R_drew)); exact HO199.out)) k_ hn_)), Or.elim hk_ (fun hs_ => hs_.1.1.2) (fun hn_ => (Kd.fresh' (Kd.R_lt (by (with_reducible repeat (first | apply Kd.R_alloc | apply Kd.R_drewN | apply Kd.R_drew)); exact HO202.out)) k_ hn_))⟩)) (below_size (by repeat (first | (with_reducible first | exact HB.out | apply below_alloc | apply pw_below_drewN | apply below_drew1) | exact HB.out)))); have n6_ := Aside0.mk (below_step (by repeat (first | (with_reducible first | exact HB.out | apply below_alloc | apply pw_below_drewN | apply below_drew1) | exact HB.out)) hb); clear HO_0; clear HO_13; clear HO_14; clear HO199; clear HO202; clear HB; have HO_0 := n0_; have HO_13 := n1_; have HO_14 := n2_; have HO199 := n3_; have HO202 := n4_; have HO206 := n5_; have HB := n6_; clear n0_ n1_ n2_ n3_ n4_ n5_ n6_; (try clear hb); (try clear hb2); (try clear hk); (try clear hi); (try clear ho0)) | (go_at_call 38; (with_reducible refine (billhookref10_Control.calls k1 _ _ t174 t207 _ ?side1 ?side2 A44.out).mono ?_); (case side1 => repeat (first | exact (Kd.S_reads' HO_0.out).2.2 | (with_reducible refine Kd.C_alloc ?_ _) | (with_reducible refine Kd.C_drewN ?_ _) | (with_reducible refine Kd.C_drew ?_))); (case side2 => exact (Kd.S_reads' HO_0.out).2.1); rintro e w70 ⟨v208, rfl, ho0, hb⟩; have n0_ := Aside0.mk (Kd.S_elder' (by (with_reducible repeat (first | apply Kd.S_alloc | apply Kd.S_drewN | apply Kd.S_drew)); exact HO_0.out) (Kd.S_base ho0) hb); have n1_ := Aside0.mk (Kd.S_below (by (with_reducible repeat (first | apply Kd.S_alloc | apply Kd.S_drewN | apply Kd.S_drew)); exact HO_13.out) hb); have n2_ := Aside0.mk (Kd.S_below (by (with_reducible repeat (first | apply Kd.S_alloc | apply Kd.S_drewN | apply Kd.S_drew)); exact HO_14.out) hb); have n3_ := Aside0.mk (Kd.R_below (by (with_reducible repeat (first | apply Kd.R_alloc | apply Kd.R_drewN | apply Kd.R_drew)); exact HO199.out) hb); have n4_ := Aside0.mk (Kd.R_below (by (with_reducible repeat (first | apply Kd.R_alloc | apply Kd.R_drewN | apply Kd.R_drew)); exact HO202.out) hb); have n5_ := Aside0.mk (Kd.V_elder' (by (with_reducible repeat (first | apply Kd.V_alloc | apply Kd.V_drewN | apply Kd.V_drew)); exact HO206.out) (Kd.S_base ho0) hb); have n6_ := Aside0.mk (Kd.S_lower (Kd.S_new' (Kd.S_new' (Kd.S_new' ho0 (Kd.S_lt (by (with_reducible repeat (first | apply Kd.S_alloc | apply Kd.S_drewN | apply Kd.S_drew)); exact HO_0.out))) (Kd.R_lt (by (with_reducible repeat (first | apply Kd.R_alloc | apply Kd.R_drewN | apply Kd.R_drew)); exact HO199.out))) (Kd.R_lt (by (with_reducible repeat (first | apply Kd.R_alloc | apply Kd.R_drewN | apply Kd.R_drew)); exact HO202.out))) (below_size (by repeat (first | (with_reducible first | exact HB.out | apply below_alloc | apply pw_below_drewN | apply below_drew1) | exact HB.out)))); have n7_ := Aside0.mk (below_step (by repeat (first | (with_reducible first | exact HB.out | apply below_alloc | apply pw_below_drewN | apply below_drew1) | exact HB.out)) hb); clear HO_0; clear HO_13; clear HO_14; clear HO199; clear HO202; clear HO206; clear HB; have HO_0 := n0_; have HO_13 := n1_; have HO_14 := n2_; have HO199 := n3_; have HO202 := n4_; have HO206 := n5_; have HO209 := n6_; have HB := n7_; clear n0_ n1_ n2_ n3_ n4_ n5_ n6_ n7_; (try clear hb); (try clear hb2); (try clear hk); (try clear hi); (try clear ho0); obtain ⟨Ao71, co71, eo71⟩ := Kd.V_slice HO206.out; subst eo71; obtain ⟨Ao72, co72, eo72⟩ := Kd.S_slice HO209.out; subst eo72) | (go_at_call 36; (with_reducible refine (billhooklaw10_rows.calls k1 _ _ t204 _ _ t207 t210 _ ?side1 ?side2 ?side3 ?side4 A45.out).mono ?_); (case side1 => repeat (first | exact (Kd.V_reads' HO206.out).2.2 | (with_reducible refine Kd.C_alloc ?_ _) | (with_reducible refine Kd.C_drewN ?_ _) | (with_reducible refine Kd.C_drew ?_))); (case side2 => exact (Kd.V_reads' HO206.out).2.1); (case side3 => repeat (first | exact (Kd.S_reads' HO209.out).2.2 | (with_reducible refine Kd.C_alloc ?_ _) | (with_reducible refine Kd.C_drewN ?_ _) | (with_reducible refine Kd.C_drew ?_))); (case side4 => exact (Kd.S_reads' HO209.out).2.1); rintro e w' ⟨rfl, ⟨nd, rfl⟩⟩; (try first | exact ⟨rfl, _, World.drewN_drewN _ _ _⟩ | exact ⟨rfl, _, Eq.trans (World.drewN_drewN _ _ _) (congrArg (World.drewN _) (Nat.add_assoc _ _ _))⟩)))
             go_ret
             exact ⟨by first | rfl | (simp [errW_none, errW_some] <;> rfl) | (simp only [← hji8, ← hji13]; first | rfl | (simp [errW_none, errW_some] <;> rfl)) | (simp [*, errW_none, errW_some] <;> rfl), by repeat (first | (with_reducible first | exact HB.out | apply below_alloc | apply pw_below_drewN | apply below_drew1) | exact HB.out)⟩
           ·
            exact absurd rfl c46
       ·
        rw [if_neg c21] at H
        have c21b0 : ((t188.length : Int) == (t191.length : Int)) = false := beq_eq_false_iff_ne.mpr c21
        have c21b1 : ((t188.length : Int) != (t191.length : Int)) = true := bne_iff_ne.mpr c21
        have c21b2 : (t188.length == t191.length) = false := by first | simpa using c21 | (simp at c21 ⊢; omega)
        obtain rfl := Option.some.inj H
        go_enter Try.func5, Try.ntmps5
        go_wp2_with (first | (go_at_call 26; (with_reducible refine (billhooklaw10_examples.calls  true _ A6.out).mono ?_); rintro e w81 ⟨rfl, hb⟩; have n0_ := Aside0.mk (below_step (by repeat (first | (with_reducible first | exact HB.out | apply below_alloc | apply pw_below_drewN | apply below_drew1) | exact HB.out)) hb); clear HB; have HB := n0_; clear n0_; (try clear hb); (try clear hb2); (try clear hk); (try clear hi); have q82 : ((ji8) : Int) ≤ ((l0.length : Int) : Int) := of_decide_eq_true (by first | (with_reducible assumption) | assumption); obtain ⟨i082, hi082, _, hsz82, _⟩ := info_parts info54; have hroom82 : l0.length ≤ c0 := HC0.out; have hC82 : Kd.C (Kd.slice 3 (Kd.int .i64)) _ A0 l0.length l0 := HR0.out; have hcut82 := cut_to (P := Try.prog) 53 54 .i64 Try.underlying53 hi082 A0 l0.length c0 (ji8) (of_decide_eq_true (by first | (with_reducible assumption) | assumption)) q82 hroom82; have hr82 := Kd.C_take (m := ((ji8) : Int).toNat) hC82 (by omega); have hy82 : y170.length = ((ji8) : Int).toNat := (by rw [Ny170.out, List.length_take]; omega); rw [← Ny170.out] at hr82; rw [← hy82] at hcut82; have HR173 := Aside0.mk hr82; have HC173 := Aside0.mk (show y170.length ≤ c0 from by omega); clear hr82 hC82 hroom82 hi082 hsz82; have KY82 := Aside0.mk hy82; clear hy82; replace q82 := eq_true q82) | (go_at_call 27; (with_reducible refine (billhooklaw10_web.calls k _ _ l2 a3 t174 _ ?side1 ?side2 A12.out).mono ?_); (case side1 => repeat (first | exact (Kd.C_below HR2.out HB.out) | (with_reducible refine Kd.C_alloc ?_ _) | (with_reducible refine Kd.C_drewN ?_ _) | (with_reducible refine Kd.C_drew ?_))); (case side2 => exact HC2.out); rintro e w83 ⟨v175, rfl, ho0, hb⟩; have n0_ := Aside0.mk (Kd.S_lower ho0 (below_size (by repeat (first | (with_reducible first | exact HB.out | apply below_alloc | apply pw_below_drewN | apply below_drew1) | exact HB.out)))); have n1_ := Aside0.mk (below_step (by repeat (first | (with_reducible first | exact HB.out | apply below_alloc | apply pw_below_drewN | apply below_drew1) | exact HB.out)) hb); clear HB; have HO176 := n0_; have HB := n1_; clear n0_ n1_; (try clear hb); (try clear hb2); (try clear hk); (try clear hi); (try clear ho0); have q84 : ((ji13) : Int) ≤ ((l4.length : Int) : Int) := of_decide_eq_true (by first | (with_reducible assumption) | assumption); obtain ⟨i084, hi084, _, hsz84, _⟩ := info_parts info3; have hroom84 : l4.length ≤ c4 := HC4.out; have hC84 : Kd.C (Kd.int .i64) _ A4 l4.length l4 := HR4.out; have hcut84 := cut_to (P := Try.prog) 54 3 .i64 Try.underlying54 hi084 A4 l4.length c4 (ji13) (of_decide_eq_true (by first | (with_reducible assumption) | assumption)) q84 hroom84; have hr84 := Kd.C_take (m := ((ji13) : Int).toNat) hC84 (by omega); have hy84 : y177.length = ((ji13) : Int).toNat := (by rw [Ny177.out, List.length_take]; omega); rw [← Ny177.out] at hr84; rw [← hy84] at hcut84; have HR180 := Aside0.mk hr84; have HC180 := Aside0.mk (show y177.length ≤ c4 from by omega); clear hr84 hC84 hroom84 hi084 hsz84; have KY84 := Aside0.mk hy84; clear hy84; replace q84 := eq_true q84; obtain ⟨Ao85, co85, eo85⟩ := Kd.S_slice HO176.out; subst eo85) | (go_at_call 29; (with_reducible refine (dom_Reach.calls k _ _ t174 _ _ y177 t181 _ ?side1 ?side2 ?side3 ?side4 A16.out).mono ?_); (case side1 => repeat (first | exact (Kd.S_reads' HO176.out).2.2 | (with_reducible refine Kd.C_alloc ?_ _) | (with_reducible refine Kd.C_drewN ?_ _) | (with_reducible refine Kd.C_drew ?_))); (case side2 => exact (Kd.S_reads' HO176.out).2.1); (case side3 => repeat (first | exact (Kd.C_below HR180.out HB.out) | (with_reducible refine Kd.C_alloc ?_ _) | (with_reducible refine Kd.C_drewN ?_ _) | (with_reducible refine Kd.C_drew ?_))); (case side4 => exact HC180.out); rintro e w86 ⟨v182, rfl, ho0, hb⟩; have n0_ := Aside0.mk (Kd.S_below (by (with_reducible repeat (first | apply Kd.S_alloc | apply Kd.S_drewN | apply Kd.S_drew)); exact HO176.out) hb); have n1_ := Aside0.mk (Kd.R_lower ho0 (below_size (by repeat (first | (with_reducible first | exact HB.out | apply below_alloc | apply pw_below_drewN | apply below_drew1) | exact HB.out)))); have n2_ := Aside0.mk (below_step (by repeat (first | (with_reducible first | exact HB.out | apply below_alloc | apply pw_below_drewN | apply below_drew1) | exact HB.out)) hb); clear HO176; clear HB; have HO176 := n0_; have HO183 := n1_; have HB := n2_; clear n0_ n1_ n2_; (try clear hb); (try clear hb2); (try clear hk); (try clear hi); (try clear ho0)) | (go_at_call 30; (with_reducible refine (billhookref10_Reach.calls k _ _ t174 _ _ y177 t184 _ ?side1 ?side2 ?side3 ?side4 A17.out).mono ?_); (case side1 => repeat (first | exact (Kd.S_reads' HO176.out).2.2 | (with_reducible refine Kd.C_alloc ?_ _) | (with_reducible refine Kd.C_drewN ?_ _) | (with_reducible refine Kd.C_drew ?_))); (case side2 => exact (Kd.S_reads' HO176.out).2.1); (case side3 => repeat (first | exact (Kd.C_below HR180.out HB.out) | (with_reducible refine Kd.C_alloc ?_ _) | (with_reducible refine Kd.C_drewN ?_ _) | (with_reducible refine Kd.C_drew ?_))); (case side4 => exact HC180.out); rintro e w87 ⟨v185, rfl, ho0, hb⟩; have n0_ := Aside0.mk (Kd.S_below (by (with_reducible repeat (first | apply Kd.S_alloc | apply Kd.S_drewN | apply Kd.S_drew)); exact HO176.out) hb); have n1_ := Aside0.mk (Kd.R_elder' (by (with_reducible repeat (first | apply Kd.R_alloc | apply Kd.R_drewN | apply Kd.R_drew)); exact HO183.out) (Kd.R_base ho0) hb); have n2_ := Aside0.mk (Kd.R_lower (Kd.R_new' ho0 (Kd.R_lt (by (with_reducible repeat (first | apply Kd.R_alloc | apply Kd.R_drewN | apply Kd.R_drew)); exact HO183.out))) (below_size (by repeat (first | (with_reducible first | exact HB.out | apply below_alloc | apply pw_below_drewN | apply below_drew1) | exact HB.out)))); have n3_ := Aside0.mk (below_step (by repeat (first | (with_reducible first | exact HB.out | apply below_alloc | apply pw_below_drewN | apply below_drew1) | exact HB.out)) hb); clear HO176; clear HO183; clear HB; have HO176 := n0_; have HO183 := n1_; have HO186 := n2_; have HB := n3_; clear n0_ n1_ n2_ n3_; (try clear hb); (try clear hb2); (try clear hk); (try clear hi); (try clear ho0); obtain ⟨Ao88, co88, eo88⟩ := Kd.R_slice HO183.out; subst eo88; obtain ⟨Ao89, co89, eo89⟩ := Kd.R_slice HO186.out; subst eo89) | (go_at_call 28; (with_reducible refine (billhooklaw10_bools.calls k _ _ t181 _ _ t184 t187 _ ?side1 ?side2 ?side3 ?side4 A18.out).mono ?_); (case side1 => repeat (first | exact (Kd.R_reads' HO183.out).2.2 | (with_reducible refine Kd.C_alloc ?_ _) | (with_reducible refine Kd.C_drewN ?_ _) | (with_reducible refine Kd.C_drew ?_))); (case side2 => exact (Kd.R_reads' HO183.out).2.1); (case side3 => repeat (first | exact (Kd.R_reads' HO186.out).2.2 | (with_reducible refine Kd.C_alloc ?_ _) | (with_reducible refine Kd.C_drewN ?_ _) | (with_reducible refine Kd.C_drew ?_))); (case side4 => exact (Kd.R_reads' HO186.out).2.1); rintro e w' ⟨rfl, ⟨nd, rfl⟩⟩; (try first | exact ⟨rfl, _, World.drewN_drewN _ _ _⟩ | exact ⟨rfl, _, Eq.trans (World.drewN_drewN _ _ _) (congrArg (World.drewN _) (Nat.add_assoc _ _ _))⟩)) | (go_at_call 31; (with_reducible refine (dom_Post.calls k _ _ t174 t188 _ ?side1 ?side2 A19.out).mono ?_); (case side1 => repeat (first | exact (Kd.S_reads' HO176.out).2.2 | (with_reducible refine Kd.C_alloc ?_ _) | (with_reducible refine Kd.C_drewN ?_ _) | (with_reducible refine Kd.C_drew ?_))); (case side2 => exact (Kd.S_reads' HO176.out).2.1); rintro e w90 ⟨v189, rfl, ho0, hb⟩; have n0_ := Aside0.mk (Kd.S_below (by (with_reducible repeat (first | apply Kd.S_alloc | apply Kd.S_drewN | apply Kd.S_drew)); exact HO176.out) hb); have n1_ := Aside0.mk (Kd.R_below (by (with_reducible repeat (first | apply Kd.R_alloc | apply Kd.R_drewN | apply Kd.R_drew)); exact HO183.out) hb); have n2_ := Aside0.mk (Kd.R_below (by (with_reducible repeat (first | apply Kd.R_alloc | apply Kd.R_drewN | apply Kd.R_drew)); exact HO186.out) hb); have n3_ := Aside0.mk (Kd.S_lower (Kd.S_new' (Kd.S_new' ho0 (Kd.R_lt (by (with_reducible repeat (first | apply Kd.R_alloc | apply Kd.R_drewN | apply Kd.R_drew)); exact HO183.out))) (Kd.R_lt (by (with_reducible repeat (first | apply Kd.R_alloc | apply Kd.R_drewN | apply Kd.R_drew)); exact HO186.out))) (below_size (by repeat (first | (with_reducible first | exact HB.out | apply below_alloc | apply pw_below_drewN | apply below_drew1) | exact HB.out)))); have n4_ := Aside0.mk (below_step (by repeat (first | (with_reducible first | exact HB.out | apply below_alloc | apply pw_below_drewN | apply below_drew1) | exact HB.out)) hb); clear HO176; clear HO183; clear HO186; clear HB; have HO176 := n0_; have HO183 := n1_; have HO186 := n2_; have HO190 := n3_; have HB := n4_; clear n0_ n1_ n2_ n3_ n4_; (try clear hb); (try clear hb2); (try clear hk); (try clear hi); (try clear ho0)) | (go_at_call 32; (with_reducible refine (billhookref10_Post.calls k _ _ t174 t191 _ ?side1 ?side2 A20.out).mono ?_); (case side1 => repeat (first | exact (Kd.S_reads' HO176.out).2.2 | (with_reducible refine Kd.C_alloc ?_ _) | (with_reducible refine Kd.C_drewN ?_ _) | (with_reducible refine Kd.C_drew ?_))); (case side2 => exact (Kd.S_reads' HO176.out).2.1); rintro e w91 ⟨v192, rfl, ho0, hb⟩; have n0_ := Aside0.mk (Kd.S_below (by (with_reducible repeat (first | apply Kd.S_alloc | apply Kd.S_drewN | apply Kd.S_drew)); exact HO176.out) hb); have n1_ := Aside0.mk (Kd.R_below (by (with_reducible repeat (first | apply Kd.R_alloc | apply Kd.R_drewN | apply Kd.R_drew)); exact HO183.out) hb); have n2_ := Aside0.mk (Kd.R_below (by (with_reducible repeat (first | apply Kd.R_alloc | apply Kd.R_drewN | apply Kd.R_drew)); exact HO186.out) hb); have n3_ := Aside0.mk (Kd.S_elder' (by (with_reducible repeat (first | apply Kd.S_alloc | apply Kd.S_drewN | apply Kd.S_drew)); exact HO190.out) (Kd.S_base ho0) hb); have n4_ := Aside0.mk (Kd.S_lower (Kd.S_new' (Kd.S_new' (Kd.S_new' ho0 (Kd.R_lt (by (with_reducible repeat (first | apply Kd.R_alloc | apply Kd.R_drewN | apply Kd.R_drew)); exact HO183.out))) (Kd.R_lt (by (with_reducible repeat (first | apply Kd.R_alloc | apply Kd.R_drewN | apply Kd.R_drew)); exact HO186.out))) (Kd.S_lt (by (with_reducible repeat (first | apply Kd.S_alloc | apply Kd.S_drewN | apply Kd.S_drew)); exact HO190.out))) (below_size (by repeat (first | (with_reducible first | exact HB.out | apply below_alloc | apply pw_below_drewN | apply below_drew1) | exact HB.out)))); have n5_ := Aside0.mk (below_step (by repeat (first | (with_reducible first | exact HB.out | apply below_alloc | apply pw_below_drewN | apply below_drew1) | exact HB.out)) hb); clear HO176; clear HO183; clear HO186; clear HO190; clear HB; have HO176 := n0_; have HO183 := n1_; have HO186 := n2_; have HO190 := n3_; have HO193 := n4_; have HB := n5_; clear n0_ n1_ n2_ n3_ n4_ n5_; (try clear hb); (try clear hb2); (try clear hk); (try clear hi); (try clear ho0); obtain ⟨Ao92, co92, eo92⟩ := Kd.S_slice HO190.out; subst eo92; obtain ⟨Ao93, co93, eo93⟩ := Kd.S_slice HO193.out; subst eo93))
        go_ret
        exact ⟨by first | rfl | (simp [errW_none, errW_some] <;> rfl) | (simp only [← hji8, ← hji13]; first | rfl | (simp [errW_none, errW_some] <;> rfl)) | (simp [*, errW_none, errW_some] <;> rfl), by repeat (first | (with_reducible first | exact HB.out | apply below_alloc | apply pw_below_drewN | apply below_drew1) | exact HB.out)⟩
      ·
       rw [if_neg c15] at H
       exact absurd H (by simp)
     ·
      rw [if_neg c14] at H
      exact absurd H (by simp)
    ·
     replace c11 := Bool.eq_false_iff.mpr c11
     subst c11
     have H1 : (if 0 ≤ (mn (l4.length : Int) 6) then (if (mn (l4.length : Int) 6) ≤ (l4.length : Int) then ((some (l4.take ((mn (l4.length : Int) 6) : Int).toNat : List Int)).bind fun y211 => ((dom_Reach.f k y170 y211).bind fun t215 => ((billhookref10_Reach.f k y170 y211).bind fun t218 => ((billhooklaw10_bools.f k t215 t218).bind fun t221 => ((dom_Post.f k y170).bind fun t222 => ((billhookref10_Post.f k y170).bind fun t225 => (if (t222.length : Int) = (t225.length : Int) then (billhooklaw10_DomTells.l100 k y170 true t221 t222 t225 0) else (some false)))))))) else (none)) else (none)) = some r := by rw [if_neg (show ¬ (false = true) by decide)] at H; exact H
     clear H
     have H := H1
     clear H1
     obtain ⟨ji94, hji94⟩ : ∃ j_ : Int, (mn (l4.length : Int) 6) = j_ := ⟨_, rfl⟩
     replace H : (if 0 ≤ (ji94) then (if (ji94) ≤ (l4.length : Int) then ((some (l4.take ((ji94) : Int).toNat : List Int)).bind fun y211 => ((dom_Reach.f k y170 y211).bind fun t215 => ((billhookref10_Reach.f k y170 y211).bind fun t218 => ((billhooklaw10_bools.f k t215 t218).bind fun t221 => ((dom_Post.f k y170).bind fun t222 => ((billhookref10_Post.f k y170).bind fun t225 => (if (t222.length : Int) = (t225.length : Int) then (billhooklaw10_DomTells.l100 k y170 true t221 t222 t225 0) else (some false)))))))) else (none)) else (none)) = some r := by first | (rw [hji94] at H; exact H) | (simp only [hji94] at H ⊢; exact H)
     (try rw [hji94] at A6)
     (try (have hji94h : ji94 ≤ 6 := by (rw [← hji94]; unfold mn; (repeat' split) <;> omega)))
     (try (have hji94g : ji94 ≤ 64 := by omega))
     (try (have hji94l : 0 ≤ ji94 := by (rw [← hji94]; unfold mn; (repeat' split) <;> omega)))
     (try (have hji94m : 0 ≤ ji94 := by omega))
     have hji94_ : (if 6 < (l4.length : Int) then 6 else (l4.length : Int)) = ji94 := hji94
     by_cases c95 : 0 ≤ (ji94)
     ·
      rw [if_pos c95] at H
      have c95b0 := eq_true c95
      have c95b1 : decide (0 ≤ (ji94)) = true := decide_eq_true c95
      clear c95
      by_cases c96 : (ji94) ≤ (l4.length : Int)
      ·
       rw [if_pos c96] at H
       have c96b0 := eq_true c96
       have c96b1 : decide ((ji94) ≤ (l4.length : Int)) = true := decide_eq_true c96
       clear c96
       obtain ⟨y211, hy211⟩ : ∃ y_ : List Int, y_ = (l4.take ((ji94) : Int).toNat) := ⟨_, rfl⟩
       replace H : ((dom_Reach.f k y170 y211).bind fun t215 => ((billhookref10_Reach.f k y170 y211).bind fun t218 => ((billhooklaw10_bools.f k t215 t218).bind fun t221 => ((dom_Post.f k y170).bind fun t222 => ((billhookref10_Post.f k y170).bind fun t225 => (if (t222.length : Int) = (t225.length : Int) then (billhooklaw10_DomTells.l100 k y170 true t221 t222 t225 0) else (some false))))))) = some r := by first | (rw [hy211]; with_reducible exact H) | (have H2_ := (Option.bind_some _ _).symm.trans H; rw [hy211]; with_reducible exact H2_) | (have H2_ := (Option.bind_some _ _).symm.trans H; with_reducible exact H2_) | with_reducible exact H | (rw [hy211]; exact H) | exact H
       have Ny211 := Aside0.mk hy211
       clear hy211
       replace H := Option.bind_eq_some_iff.mp H
       obtain ⟨t215, A970, H⟩ := H
       replace H : ((billhookref10_Reach.f k y170 y211).bind fun t218 => ((billhooklaw10_bools.f k t215 t218).bind fun t221 => ((dom_Post.f k y170).bind fun t222 => ((billhookref10_Post.f k y170).bind fun t225 => (if (t222.length : Int) = (t225.length : Int) then (billhooklaw10_DomTells.l100 k y170 true t221 t222 t225 0) else (some false)))))) = some r := H
       have A97 := Aside0.mk A970
       clear A970
       replace H := Option.bind_eq_some_iff.mp H
       obtain ⟨t218, A980, H⟩ := H
       replace H : ((billhooklaw10_bools.f k t215 t218).bind fun t221 => ((dom_Post.f k y170).bind fun t222 => ((billhookref10_Post.f k y170).bind fun t225 => (if (t222.length : Int) = (t225.length : Int) then (billhooklaw10_DomTells.l100 k y170 true t221 t222 t225 0) else (some false))))) = some r := H
       have A98 := Aside0.mk A980
       clear A980
       replace H := Option.bind_eq_some_iff.mp H
       obtain ⟨t221, A990, H⟩ := H
       replace H : ((dom_Post.f k y170).bind fun t222 => ((billhookref10_Post.f k y170).bind fun t225 => (if (t222.length : Int) = (t225.length : Int) then (billhooklaw10_DomTells.l100 k y170 true t221 t222 t225 0) else (some false)))) = some r := H
       have A99 := Aside0.mk A990
       clear A990
       replace H := Option.bind_eq_some_iff.mp H
       obtain ⟨t222, A1000, H⟩ := H
       replace H : ((billhookref10_Post.f k y170).bind fun t225 => (if (t222.length : Int) = (t225.length : Int) then (billhooklaw10_DomTells.l100 k y170 true t221 t222 t225 0) else (some false))) = some r := H
       have A100 := Aside0.mk A1000
       clear A1000
       replace H := Option.bind_eq_some_iff.mp H
       obtain ⟨t225, A1010, H⟩ := H
       replace H : (if (t222.length : Int) = (t225.length : Int) then (billhooklaw10_DomTells.l100 k y170 true t221 t222 t225 0) else (some false)) = some r := H
       have A101 := Aside0.mk A1010
       clear A1010
       by_cases c102 : (t222.length : Int) = (t225.length : Int)
       ·
        rw [if_pos c102] at H
        have c102b0 : ((t222.length : Int) == (t225.length : Int)) = true := beq_iff_eq.mpr c102
        have c102b1 : ((t222.length : Int) != (t225.length : Int)) = false := bne_eq_false_iff_eq.mpr c102
        have c102b2 : (t222.length == t225.length) = true := by first | simpa using c102 | (simp at c102 ⊢; omega)
        clear c102
        have H' := Aside0.mk H
        clear H
        go_enter Try.func5, Try.ntmps5
        go_wp2_with (first | (go_at_call 26; (with_reducible refine (billhooklaw10_examples.calls  true _ A6.out).mono ?_); rintro e w103 ⟨rfl, hb⟩; have n0_ := Aside0.mk (below_step (by repeat (first | (with_reducible first | exact HB.out | apply below_alloc | apply pw_below_drewN | apply below_drew1) | exact HB.out)) hb); clear HB; have HB := n0_; clear n0_; (try clear hb); (try clear hb2); (try clear hk); (try clear hi); have q104 : ((ji8) : Int) ≤ ((l0.length : Int) : Int) := of_decide_eq_true (by first | (with_reducible assumption) | assumption); obtain ⟨i0104, hi0104, _, hsz104, _⟩ := info_parts info54; have hroom104 : l0.length ≤ c0 := HC0.out; have hC104 : Kd.C (Kd.slice 3 (Kd.int .i64)) _ A0 l0.length l0 := HR0.out; have hcut104 := cut_to (P := Try.prog) 53 54 .i64 Try.underlying53 hi0104 A0 l0.length c0 (ji8) (of_decide_eq_true (by first | (with_reducible assumption) | assumption)) q104 hroom104; have hr104 := Kd.C_take (m := ((ji8) : Int).toNat) hC104 (by omega); have hy104 : y170.length = ((ji8) : Int).toNat := (by rw [Ny170.out, List.length_take]; omega); rw [← Ny170.out] at hr104; rw [← hy104] at hcut104; have HR173 := Aside0.mk hr104; have HC173 := Aside0.mk (show y170.length ≤ c0 from by omega); clear hr104 hC104 hroom104 hi0104 hsz104; have KY104 := Aside0.mk hy104; clear hy104; replace q104 := eq_true q104; have q105 : ((ji94) : Int) ≤ ((l4.length : Int) : Int) := of_decide_eq_true (by first | (with_reducible assumption) | assumption); obtain ⟨i0105, hi0105, _, hsz105, _⟩ := info_parts info3; have hroom105 : l4.length ≤ c4 := HC4.out; have hC105 : Kd.C (Kd.int .i64) _ A4 l4.length l4 := HR4.out; have hcut105 := cut_to (P := Try.prog) 54 3 .i64 Try.underlying54 hi0105 A4 l4.length c4 (ji94) (of_decide_eq_true (by first | (with_reducible assumption) | assumption)) q105 hroom105; have hr105 := Kd.C_take (m := ((ji94) : Int).toNat) hC105 (by omega); have hy105 : y211.length = ((ji94) : Int).toNat := (by rw [Ny211.out, List.length_take]; omega); rw [← Ny211.out] at hr105; rw [← hy105] at hcut105; have HR214 := Aside0.mk hr105; have HC214 := Aside0.mk (show y211.length ≤ c4 from by omega); clear hr105 hC105 hroom105 hi0105 hsz105; have KY105 := Aside0.mk hy105; clear hy105; replace q105 := eq_true q105) | (go_at_call 29; (with_reducible refine (dom_Reach.calls k _ _ y170 _ _ y211 t215 _ ?side1 ?side2 ?side3 ?side4 A97.out).mono ?_); (case side1 => repeat (first | exact (Kd.C_below HR173.out HB.out) | (with_reducible refine Kd.C_alloc ?_ _) | (with_reducible refine Kd.C_drewN ?_ _) | (with_reducible refine Kd.C_drew ?_))); (case side2 => exact HC173.out); (case side3 => repeat (first | exact (Kd.C_below HR214.out HB.out) | (with_reducible refine Kd.C_alloc ?_ _) | (with_reducible refine Kd.C_drewN ?_ _) | (with_reducible refine Kd.C_drew ?_))); (case side4 => exact HC214.out); rintro e w106 ⟨v216, rfl, ho0, hb⟩; have n0_ := Aside0.mk (Kd.R_lower ho0 (below_size (by repeat (first | (with_reducible first | exact HB.out | apply below_alloc | apply pw_below_drewN | apply below_drew1) | exact HB.out)))); have n1_ := Aside0.mk (below_step (by repeat (first | (with_reducible first | exact HB.out | apply below_alloc | apply pw_below_drewN | apply below_drew1) | exact HB.out)) hb); clear HB; have HO217 := n0_; have HB := n1_; clear n0_ n1_; (try clear hb); (try clear hb2); (try clear hk); (try clear hi); (try clear ho0)) | (go_at_call 30; (with_reducible refine (billhookref10_Reach.calls k _ _ y170 _ _ y211 t218 _ ?side1 ?side2 ?side3 ?side4 A98.out).mono ?_); (case side1 => repeat (first | exact (Kd.C_below HR173.out HB.out) | (with_reducible refine Kd.C_alloc ?_ _) | (with_reducible refine Kd.C_drewN ?_ _) | (with_reducible refine Kd.C_drew ?_))); (case side2 => exact HC173.out); (case side3 => repeat (first | exact (Kd.C_below HR214.out HB.out) | (with_reducible refine Kd.C_alloc ?_ _) | (with_reducible refine Kd.C_drewN ?_ _) | (with_reducible refine Kd.C_drew ?_))); (case side4 => exact HC214.out); rintro e w107 ⟨v219, rfl, ho0, hb⟩; have n0_ := Aside0.mk (Kd.R_elder' (by (with_reducible repeat (first | apply Kd.R_alloc | apply Kd.R_drewN | apply Kd.R_drew)); exact HO217.out) (Kd.R_base ho0) hb); have n1_ := Aside0.mk (Kd.R_lower (Kd.R_new' ho0 (Kd.R_lt (by (with_reducible repeat (first | apply Kd.R_alloc | apply Kd.R_drewN | apply Kd.R_drew)); exact HO217.out))) (below_size (by repeat (first | (with_reducible first | exact HB.out | apply below_alloc | apply pw_below_drewN | apply below_drew1) | exact HB.out)))); have n2_ := Aside0.mk (below_step (by repeat (first | (with_reducible first | exact HB.out | apply below_alloc | apply pw_below_drewN | apply below_drew1) | exact HB.out)) hb); clear HO217; clear HB; have HO217 := n0_; have HO220 := n1_; have HB := n2_; clear n0_ n1_ n2_; (try clear hb); (try clear hb2); (try clear hk); (try clear hi); (try clear ho0); obtain ⟨Ao108, co108, eo108⟩ := Kd.R_slice HO217.out; subst eo108; obtain ⟨Ao109, co109, eo109⟩ := Kd.R_slice HO220.out; subst eo109) | (go_at_call 28; (with_reducible refine (billhooklaw10_bools.calls k _ _ t215 _ _ t218 t221 _ ?side1 ?side2 ?side3 ?side4 A99.out).mono ?_); (case side1 => repeat (first | exact (Kd.R_reads' HO217.out).2.2 | (with_reducible refine Kd.C_alloc ?_ _) | (with_reducible refine Kd.C_drewN ?_ _) | (with_reducible refine Kd.C_drew ?_))); (case side2 => exact (Kd.R_reads' HO217.out).2.1); (case side3 => repeat (first | exact (Kd.R_reads' HO220.out).2.2 | (with_reducible refine Kd.C_alloc ?_ _) | (with_reducible refine Kd.C_drewN ?_ _) | (with_reducible refine Kd.C_drew ?_))); (case side4 => exact (Kd.R_reads' HO220.out).2.1); rintro e w' ⟨rfl, ⟨nd, rfl⟩⟩; (try first | exact ⟨rfl, _, World.drewN_drewN _ _ _⟩ | exact ⟨rfl, _, Eq.trans (World.drewN_drewN _ _ _) (congrArg (World.drewN _) (Nat.add_assoc _ _ _))⟩)) | (go_at_call 31; (with_reducible refine (dom_Post.calls k _ _ y170 t222 _ ?side1 ?side2 A100.out).mono ?_); (case side1 => repeat (first | exact (Kd.C_below HR173.out (by repeat (first | (with_reducible first | exact HB.out | apply below_alloc | apply pw_below_drewN | apply below_drew1) | exact HB.out))) | (with_reducible refine Kd.C_alloc ?_ _) | (with_reducible refine Kd.C_drewN ?_ _) | (with_reducible refine Kd.C_drew ?_))); (case side2 => exact HC173.out); rintro e w110 ⟨v223, rfl, ho0, hb⟩; have n0_ := Aside0.mk (Kd.R_below (by (with_reducible repeat (first | apply Kd.R_alloc | apply Kd.R_drewN | apply Kd.R_drew)); exact HO217.out) hb); have n1_ := Aside0.mk (Kd.R_below (by (with_reducible repeat (first | apply Kd.R_alloc | apply Kd.R_drewN | apply Kd.R_drew)); exact HO220.out) hb); have n2_ := Aside0.mk (Kd.S_lower (Kd.S_new' (Kd.S_new' ho0 (Kd.R_lt (by (with_reducible repeat (first | apply Kd.R_alloc | apply Kd.R_drewN | apply Kd.R_drew)); exact HO217.out))) (Kd.R_lt (by (with_reducible repeat (first | apply Kd.R_alloc | apply Kd.R_drewN | apply Kd.R_drew)); exact HO220.out))) (below_size (by repeat (first | (with_reducible first | exact HB.out | apply below_alloc | apply pw_below_drewN | apply below_drew1) | exact HB.out)))); have n3_ := Aside0.mk (below_step (by repeat (first | (with_reducible first | exact HB.out | apply below_alloc | apply pw_below_drewN | apply below_drew1) | exact HB.out)) hb); clear HO217; clear HO220; clear HB; have HO217 := n0_; have HO220 := n1_; have HO224 := n2_; have HB := n3_; clear n0_ n1_ n2_ n3_; (try clear hb); (try clear hb2); (try clear hk); (try clear hi); (try clear ho0)) | (go_at_call 32; (with_reducible refine (billhookref10_Post.calls k _ _ y170 t225 _ ?side1 ?side2 A101.out).mono ?_); (case side1 => repeat (first | exact (Kd.C_below HR173.out HB.out) | (with_reducible refine Kd.C_alloc ?_ _) | (with_reducible refine Kd.C_drewN ?_ _) | (with_reducible refine Kd.C_drew ?_))); (case side2 => exact HC173.out); rintro e w111 ⟨v226, rfl, ho0, hb⟩; have n0_ := Aside0.mk (Kd.R_below (by (with_reducible repeat (first | apply Kd.R_alloc | apply Kd.R_drewN | apply Kd.R_drew)); exact HO217.out) hb); have n1_ := Aside0.mk (Kd.R_below (by (with_reducible repeat (first | apply Kd.R_alloc | apply Kd.R_drewN | apply Kd.R_drew)); exact HO220.out) hb); have n2_ := Aside0.mk (Kd.S_elder' (by (with_reducible repeat (first | apply Kd.S_alloc | apply Kd.S_drewN | apply Kd.S_drew)); exact HO224.out) (Kd.S_base ho0) hb); have n3_ := Aside0.mk (Kd.S_lower (Kd.S_new' (Kd.S_new' (Kd.S_new' ho0 (Kd.R_lt (by (with_reducible repeat (first | apply Kd.R_alloc | apply Kd.R_drewN | apply Kd.R_drew)); exact HO217.out))) (Kd.R_lt (by (with_reducible repeat (first | apply Kd.R_alloc | apply Kd.R_drewN | apply Kd.R_drew)); exact HO220.out))) (Kd.S_lt (by (with_reducible repeat (first | apply Kd.S_alloc | apply Kd.S_drewN | apply Kd.S_drew)); exact HO224.out))) (below_size (by repeat (first | (with_reducible first | exact HB.out | apply below_alloc | apply pw_below_drewN | apply below_drew1) | exact HB.out)))); have n4_ := Aside0.mk (below_step (by repeat (first | (with_reducible first | exact HB.out | apply below_alloc | apply pw_below_drewN | apply below_drew1) | exact HB.out)) hb); clear HO217; clear HO220; clear HO224; clear HB; have HO217 := n0_; have HO220 := n1_; have HO224 := n2_; have HO227 := n3_; have HB := n4_; clear n0_ n1_ n2_ n3_ n4_; (try clear hb); (try clear hb2); (try clear hk); (try clear hi); (try clear ho0); obtain ⟨Ao112, co112, eo112⟩ := Kd.S_slice HO224.out; subst eo112; obtain ⟨Ao113, co113, eo113⟩ := Kd.S_slice HO227.out; subst eo113))
        go_loopg [15] k (fun kq v15 w' => ∃ (x15_1 : Int), v15 = .int .i64 x15_1 ∧ Aside0 (billhooklaw10_DomTells.l100 kq y170 true t221 t222 t225 x15_1 = some r) ∧ Aside0 (kq ≤ k) ∧ Aside0 (Kd.S (Kd.slice 4 Kd.bool) 57 w' w.heap.size (fun k_ => some k_ ≠ ((.slice Ao113 t225.length co113) : Value).ownBlock) (.slice Ao112 t222.length co112) t222) ∧ Aside0 (Kd.S (Kd.slice 4 Kd.bool) 57 w' w.heap.size (fun k_ => some k_ ≠ ((.slice Ao112 t222.length co112) : Value).ownBlock) (.slice Ao113 t225.length co113) t225) ∧ Aside0 (Below w.heap.size w w'))
        case atStart => exact ⟨(0), (by first | rfl | (simp; done) | (simp [*]; done)), H', ⟨Nat.le_refl _⟩, ⟨by (with_reducible repeat (first | apply Kd.S_alloc | apply Kd.S_drewN | apply Kd.S_drew)); exact Kd.S_mono HO224.out (fun _ hk => hk.2)⟩, ⟨by (with_reducible repeat (first | apply Kd.S_alloc | apply Kd.S_drewN | apply Kd.S_drew)); exact Kd.S_mono HO227.out (fun _ hk => hk.2)⟩, ⟨by repeat (first | (with_reducible first | exact HB.out | apply below_alloc | apply pw_below_drewN | apply below_drew1) | exact HB.out)⟩⟩
        case round =>
         clear H'
         try clear c1
         try clear p1
         try clear q1
         try clear hx1
         try clear c2
         try clear p2
         try clear q2
         try clear c3
         try clear c4
         try clear c5
         try clear p6
         try clear c7
         try clear q8
         try clear c9
         try clear c9b0
         try clear c9b1
         try clear c10
         try clear c10b0
         try clear c10b1
         try clear q10
         try clear c11
         try clear c14
         try clear c14b0
         try clear c14b1
         try clear c15
         try clear c15b0
         try clear c15b1
         try clear c19
         try clear p19
         try clear q19
         try clear hx19
         try clear c21
         try clear c21b0
         try clear c21b1
         try clear c21b2
         try clear q23
         try clear q25
         try clear c35
         try clear c35b0
         try clear c36
         try clear c36b0
         try clear c37
         try clear c37b0
         try clear c39
         try clear c46
         try clear c47
         try clear c48
         try clear p64
         try clear q82
         try clear q84
         try clear c95
         try clear c95b0
         try clear c95b1
         try clear c96
         try clear c96b0
         try clear c96b1
         try clear c102
         try clear c102b0
         try clear c102b1
         try clear c102b2
         try clear q104
         try clear q105
         try clear hx194_0
         try clear hx195_0
         try clear p194
         try clear p195
         try clear p2
         try clear q104
         try clear q105
         try clear q194
         try clear q195
         try clear q2
         try clear q23
         try clear q25
         try clear q82
         try clear q84
         obtain ⟨x15_1, rfl, HA, HK1, HO_13, HO_14, HB⟩ := hrel
         cases gk with
         | zero => exact absurd HA.out (by simp [billhooklaw10_DomTells.l100])
         | succ k1 =>
          have H := HA.out
          clear HA
          simp only [billhooklaw10_DomTells.l100] at H
          by_cases c114 : x15_1 < (t222.length : Int)
          ·
           rw [if_pos c114] at H
           have c114b0 : decide (x15_1 < (t222.length : Int)) = true := decide_eq_true c114
           clear c114
           by_cases c115 : 0 ≤ x15_1
           ·
            rw [if_pos c115] at H
            have c115b0 : decide (0 ≤ x15_1) = true := decide_eq_true c115
            clear c115
            by_cases c116 : x15_1 < (t225.length : Int)
            ·
             rw [if_pos c116] at H
             have c116b0 : decide (x15_1 < (t225.length : Int)) = true := decide_eq_true c116
             clear c116
             replace H := Option.bind_eq_some_iff.mp H
             obtain ⟨t230, A1170, H⟩ := H
             replace H : (if t230 = true then (billhooklaw10_DomTells.l100 k1 y170 true t221 t222 t225 (wrap64 (x15_1 + 1))) else (some false)) = some r := H
             have A117 := Aside0.mk A1170
             clear A1170
             by_cases c118 : t230 = true
             ·
              subst c118
              have H1 : (billhooklaw10_DomTells.l100 k1 y170 true t221 t222 t225 (wrap64 (x15_1 + 1))) = some r := by first | (rw [if_pos rfl] at H; exact H) | (rw [if_pos trivial] at H; exact H)
              clear H
              have H := H1
              clear H1
              have H' := Aside0.mk H
              clear H
              have p228 : 0 ≤ (x15_1 : Int) := of_decide_eq_true (by first | (with_reducible assumption) | assumption)
              have q228 : x15_1 < (t222.length : Int) := of_decide_eq_true (by first | (with_reducible assumption) | assumption)
              obtain ⟨ad228, A228_0, c228_0, e228, hx228_0, hl228_0, hi228_0⟩ := at_L3 (Kd.S_reads' HO_13.out).2.2 x15_1 p228 q228
              cases e228
              obtain ⟨ce228, hce228, hMe228, hcc228⟩ := Kd.S_get HO_13.out [] x15_1 p228 (by first | exact q228 | exact of_decide_eq_true (by first | (with_reducible assumption) | assumption) | (have e_ := (Kd.S_reads' HO_13.out).1; omega))
              obtain ⟨ve228_0, rfl, ge228_0⟩ := hMe228
              have hv228_0 := hcc228 0 _ rfl
              rw [Nat.add_zero, show ((Kd.slice 4 Kd.bool)).sz = 1 from rfl, Nat.mul_one] at hv228_0
              replace hv228_0 := Option.some.inj (hv228_0.symm.trans hx228_0)
              rw [hv228_0] at ge228_0
              have HL228_0 := Aside0.mk (show Kd.R Kd.bool 4 _ _ _ _ (rd_L3 t222 x15_1) from ge228_0)
              clear hv228_0 ge228_0
              clear hcc228 hce228
              have HR228_0 := Aside0.mk hi228_0
              have HC228_0 := Aside0.mk hl228_0
              clear hi228_0 hl228_0
              replace p228 := eq_true p228
              replace q228 := eq_true q228
              have p229 : 0 ≤ (x15_1 : Int) := of_decide_eq_true (by first | (with_reducible assumption) | assumption)
              have q229 : x15_1 < (t225.length : Int) := of_decide_eq_true (by first | (with_reducible assumption) | assumption)
              obtain ⟨ad229, A229_0, c229_0, e229, hx229_0, hl229_0, hi229_0⟩ := at_L3 (Kd.S_reads' HO_14.out).2.2 x15_1 p229 q229
              cases e229
              obtain ⟨ce229, hce229, hMe229, hcc229⟩ := Kd.S_get HO_14.out [] x15_1 p229 (by first | exact q229 | exact of_decide_eq_true (by first | (with_reducible assumption) | assumption) | (have e_ := (Kd.S_reads' HO_14.out).1; omega))
              obtain ⟨ve229_0, rfl, ge229_0⟩ := hMe229
              have hv229_0 := hcc229 0 _ rfl
              rw [Nat.add_zero, show ((Kd.slice 4 Kd.bool)).sz = 1 from rfl, Nat.mul_one] at hv229_0
              replace hv229_0 := Option.some.inj (hv229_0.symm.trans hx229_0)
              rw [hv229_0] at ge229_0
              have HL229_0 := Aside0.mk (show Kd.R Kd.bool 4 _ _ _ _ (rd_L3 t225 x15_1) from ge229_0)
              clear hv229_0 ge229_0
              clear hcc229 hce229
              have HR229_0 := Aside0.mk hi229_0
              have HC229_0 := Aside0.mk hl229_0
              clear hi229_0 hl229_0
              (try (have hz_ := Option.some.inj (hx228_0.symm.trans hx229_0); injection hz_ with za_ zn_ zc_; subst za_; subst zc_; clear zn_))
              replace p229 := eq_true p229
              replace q229 := eq_true q229
              go_wp2_with (first | (go_at_call 28; (with_reducible refine (billhooklaw10_bools.calls k1 _ _ (rd_L3 t222 x15_1) _ _ (rd_L3 t225 x15_1) true _ ?side1 ?side2 ?side3 ?side4 A117.out).mono ?_); (case side1 => repeat (first | exact (by repeat (first | (with_reducible exact HR228_0.out) | (with_reducible refine Kd.C_alloc ?_ _) | (with_reducible refine Kd.C_drewN ?_ _) | (with_reducible refine Kd.C_drew ?_) | exact HR228_0.out)) | (with_reducible refine Kd.C_alloc ?_ _) | (with_reducible refine Kd.C_drewN ?_ _) | (with_reducible refine Kd.C_drew ?_))); (case side2 => exact HC228_0.out); (case side3 => repeat (first | exact (by repeat (first | (with_reducible exact HR229_0.out) | (with_reducible refine Kd.C_alloc ?_ _) | (with_reducible refine Kd.C_drewN ?_ _) | (with_reducible refine Kd.C_drew ?_) | exact HR229_0.out)) | (with_reducible refine Kd.C_alloc ?_ _) | (with_reducible refine Kd.C_drewN ?_ _) | (with_reducible refine Kd.C_drew ?_))); (case side4 => exact HC229_0.out); rintro e w' ⟨rfl, ⟨nd, rfl⟩⟩; (try first | exact ⟨rfl, _, World.drewN_drewN _ _ _⟩ | exact ⟨rfl, _, Eq.trans (World.drewN_drewN _ _ _) (congrArg (World.drewN _) (Nat.add_assoc _ _ _))⟩)))
              repeat (go_quiet (first | (go_at_call 28; (with_reducible refine (billhooklaw10_bools.calls k1 _ _ (rd_L3 t222 x15_1) _ _ (rd_L3 t225 x15_1) true _ ?side1 ?side2 ?side3 ?side4 A117.out).mono ?_); (case side1 => repeat (first | exact (by repeat (first | (with_reducible exact HR228_0.out) | (with_reducible refine Kd.C_alloc ?_ _) | (with_reducible refine Kd.C_drewN ?_ _) | (with_reducible refine Kd.C_drew ?_) | exact HR228_0.out)) | (with_reducible refine Kd.C_alloc ?_ _) | (with_reducible refine Kd.C_drewN ?_ _) | (with_reducible refine Kd.C_drew ?_))); (case side2 => exact HC228_0.out); (case side3 => repeat (first | exact (by repeat (first | (with_reducible exact HR229_0.out) | (with_reducible refine Kd.C_alloc ?_ _) | (with_reducible refine Kd.C_drewN ?_ _) | (with_reducible refine Kd.C_drew ?_) | exact HR229_0.out)) | (with_reducible refine Kd.C_alloc ?_ _) | (with_reducible refine Kd.C_drewN ?_ _) | (with_reducible refine Kd.C_drew ?_))); (case side4 => exact HC229_0.out); rintro e w' ⟨rfl, ⟨nd, rfl⟩⟩; (try first | exact ⟨rfl, _, World.drewN_drewN _ _ _⟩ | exact ⟨rfl, _, Eq.trans (World.drewN_drewN _ _ _) (congrArg (World.drewN _) (Nat.add_assoc _ _ _))⟩))); try go_wp2_with (first | (go_at_call 28; (with_reducible refine (billhooklaw10_bools.calls k1 _ _ (rd_L3 t222 x15_1) _ _ (rd_L3 t225 x15_1) true _ ?side1 ?side2 ?side3 ?side4 A117.out).mono ?_); (case side1 => repeat (first | exact (by repeat (first | (with_reducible exact HR228_0.out) | (with_reducible refine Kd.C_alloc ?_ _) | (with_reducible refine Kd.C_drewN ?_ _) | (with_reducible refine Kd.C_drew ?_) | exact HR228_0.out)) | (with_reducible refine Kd.C_alloc ?_ _) | (with_reducible refine Kd.C_drewN ?_ _) | (with_reducible refine Kd.C_drew ?_))); (case side2 => exact HC228_0.out); (case side3 => repeat (first | exact (by repeat (first | (with_reducible exact HR229_0.out) | (with_reducible refine Kd.C_alloc ?_ _) | (with_reducible refine Kd.C_drewN ?_ _) | (with_reducible refine Kd.C_drew ?_) | exact HR229_0.out)) | (with_reducible refine Kd.C_alloc ?_ _) | (with_reducible refine Kd.C_drewN ?_ _) | (with_reducible refine Kd.C_drew ?_))); (case side4 => exact HC229_0.out); rintro e w' ⟨rfl, ⟨nd, rfl⟩⟩; (try first | exact ⟨rfl, _, World.drewN_drewN _ _ _⟩ | exact ⟨rfl, _, Eq.trans (World.drewN_drewN _ _ _) (congrArg (World.drewN _) (Nat.add_assoc _ _ _))⟩))))
              go_roundg k1
              case measure => have := HK1.out; omega
              case rel => exact ⟨(wrap64 (x15_1 + 1)), (by first | rfl | (simp; done) | (simp [*]; done)), H', ⟨by have := HK1.out; omega⟩, ⟨by (with_reducible repeat (first | apply Kd.S_alloc | apply Kd.S_drewN | apply Kd.S_drew)); exact HO_13.out⟩, ⟨by (with_reducible repeat (first | apply Kd.S_alloc | apply Kd.S_drewN | apply Kd.S_drew)); exact HO_14.out⟩, ⟨by repeat (first | (with_reducible first | exact HB.out | apply below_alloc | apply pw_below_drewN | apply below_drew1) | exact HB.out)⟩⟩
             ·
              replace c118 := Bool.eq_false_iff.mpr c118
              subst c118
              have H1 : (some false) = some r := by rw [if_neg (show ¬ (false = true) by decide)] at H; exact H
              clear H
              have H := H1
              clear H1
              obtain rfl := Option.some.inj H
              have p228 : 0 ≤ (x15_1 : Int) := of_decide_eq_true (by first | (with_reducible assumption) | assumption)
              have q228 : x15_1 < (t222.length : Int) := of_decide_eq_true (by first | (with_reducible assumption) | assumption)
              obtain ⟨ad228, A228_0, c228_0, e228, hx228_0, hl228_0, hi228_0⟩ := at_L3 (Kd.S_reads' HO_13.out).2.2 x15_1 p228 q228
              cases e228
              obtain ⟨ce228, hce228, hMe228, hcc228⟩ := Kd.S_get HO_13.out [] x15_1 p228 (by first | exact q228 | exact of_decide_eq_true (by first | (with_reducible assumption) | assumption) | (have e_ := (Kd.S_reads' HO_13.out).1; omega))
              obtain ⟨ve228_0, rfl, ge228_0⟩ := hMe228
              have hv228_0 := hcc228 0 _ rfl
              rw [Nat.add_zero, show ((Kd.slice 4 Kd.bool)).sz = 1 from rfl, Nat.mul_one] at hv228_0
              replace hv228_0 := Option.some.inj (hv228_0.symm.trans hx228_0)
              rw [hv228_0] at ge228_0
              have HL228_0 := Aside0.mk (show Kd.R Kd.bool 4 _ _ _ _ (rd_L3 t222 x15_1) from ge228_0)
              clear hv228_0 ge228_0
              clear hcc228 hce228
              have HR228_0 := Aside0.mk hi228_0
              have HC228_0 := Aside0.mk hl228_0
              clear hi228_0 hl228_0
              replace p228 := eq_true p228
              replace q228 := eq_true q228
              have p229 : 0 ≤ (x15_1 : Int) := of_decide_eq_true (by first | (with_reducible assumption) | assumption)
              have q229 : x15_1 < (t225.length : Int) := of_decide_eq_true (by first | (with_reducible assumption) | assumption)
              obtain ⟨ad229, A229_0, c229_0, e229, hx229_0, hl229_0, hi229_0⟩ := at_L3 (Kd.S_reads' HO_14.out).2.2 x15_1 p229 q229
              cases e229
              obtain ⟨ce229, hce229, hMe229, hcc229⟩ := Kd.S_get HO_14.out [] x15_1 p229 (by first | exact q229 | exact of_decide_eq_true (by first | (with_reducible assumption) | assumption) | (have e_ := (Kd.S_reads' HO_14.out).1; omega))
              obtain ⟨ve229_0, rfl, ge229_0⟩ := hMe229
              have hv229_0 := hcc229 0 _ rfl
              rw [Nat.add_zero, show ((Kd.slice 4 Kd.bool)).sz = 1 from rfl, Nat.mul_one] at hv229_0
              replace hv229_0 := Option.some.inj (hv229_0.symm.trans hx229_0)
              rw [hv229_0] at ge229_0
              have HL229_0 := Aside0.mk (show Kd.R Kd.bool 4 _ _ _ _ (rd_L3 t225 x15_1) from ge229_0)
              clear hv229_0 ge229_0
              clear hcc229 hce229
              have HR229_0 := Aside0.mk hi229_0
              have HC229_0 := Aside0.mk hl229_0
              clear hi229_0 hl229_0
              (try (have hz_ := Option.some.inj (hx228_0.symm.trans hx229_0); injection hz_ with za_ zn_ zc_; subst za_; subst zc_; clear zn_))
              replace p229 := eq_true p229
              replace q229 := eq_true q229
              go_wp2_with (first | (go_at_call 28; (with_reducible refine (billhooklaw10_bools.calls k1 _ _ (rd_L3 t222 x15_1) _ _ (rd_L3 t225 x15_1) false _ ?side1 ?side2 ?side3 ?side4 A117.out).mono ?_); (case side1 => repeat (first | exact (by repeat (first | (with_reducible exact HR228_0.out) | (with_reducible refine Kd.C_alloc ?_ _) | (with_reducible refine Kd.C_drewN ?_ _) | (with_reducible refine Kd.C_drew ?_) | exact HR228_0.out)) | (with_reducible refine Kd.C_alloc ?_ _) | (with_reducible refine Kd.C_drewN ?_ _) | (with_reducible refine Kd.C_drew ?_))); (case side2 => exact HC228_0.out); (case side3 => repeat (first | exact (by repeat (first | (with_reducible exact HR229_0.out) | (with_reducible refine Kd.C_alloc ?_ _) | (with_reducible refine Kd.C_drewN ?_ _) | (with_reducible refine Kd.C_drew ?_) | exact HR229_0.out)) | (with_reducible refine Kd.C_alloc ?_ _) | (with_reducible refine Kd.C_drewN ?_ _) | (with_reducible refine Kd.C_drew ?_))); (case side4 => exact HC229_0.out); rintro e w' ⟨rfl, ⟨nd, rfl⟩⟩; (try first | exact ⟨rfl, _, World.drewN_drewN _ _ _⟩ | exact ⟨rfl, _, Eq.trans (World.drewN_drewN _ _ _) (congrArg (World.drewN _) (Nat.add_assoc _ _ _))⟩)))
              repeat (go_quiet (first | (go_at_call 28; (with_reducible refine (billhooklaw10_bools.calls k1 _ _ (rd_L3 t222 x15_1) _ _ (rd_L3 t225 x15_1) false _ ?side1 ?side2 ?side3 ?side4 A117.out).mono ?_); (case side1 => repeat (first | exact (by repeat (first | (with_reducible exact HR228_0.out) | (with_reducible refine Kd.C_alloc ?_ _) | (with_reducible refine Kd.C_drewN ?_ _) | (with_reducible refine Kd.C_drew ?_) | exact HR228_0.out)) | (with_reducible refine Kd.C_alloc ?_ _) | (with_reducible refine Kd.C_drewN ?_ _) | (with_reducible refine Kd.C_drew ?_))); (case side2 => exact HC228_0.out); (case side3 => repeat (first | exact (by repeat (first | (with_reducible exact HR229_0.out) | (with_reducible refine Kd.C_alloc ?_ _) | (with_reducible refine Kd.C_drewN ?_ _) | (with_reducible refine Kd.C_drew ?_) | exact HR229_0.out)) | (with_reducible refine Kd.C_alloc ?_ _) | (with_reducible refine Kd.C_drewN ?_ _) | (with_reducible refine Kd.C_drew ?_))); (case side4 => exact HC229_0.out); rintro e w' ⟨rfl, ⟨nd, rfl⟩⟩; (try first | exact ⟨rfl, _, World.drewN_drewN _ _ _⟩ | exact ⟨rfl, _, Eq.trans (World.drewN_drewN _ _ _) (congrArg (World.drewN _) (Nat.add_assoc _ _ _))⟩))); try go_wp2_with (first | (go_at_call 28; (with_reducible refine (billhooklaw10_bools.calls k1 _ _ (rd_L3 t222 x15_1) _ _ (rd_L3 t225 x15_1) false _ ?side1 ?side2 ?side3 ?side4 A117.out).mono ?_); (case side1 => repeat (first | exact (by repeat (first | (with_reducible exact HR228_0.out) | (with_reducible refine Kd.C_alloc ?_ _) | (with_reducible refine Kd.C_drewN ?_ _) | (with_reducible refine Kd.C_drew ?_) | exact HR228_0.out)) | (with_reducible refine Kd.C_alloc ?_ _) | (with_reducible refine Kd.C_drewN ?_ _) | (with_reducible refine Kd.C_drew ?_))); (case side2 => exact HC228_0.out); (case side3 => repeat (first | exact (by repeat (first | (with_reducible exact HR229_0.out) | (with_reducible refine Kd.C_alloc ?_ _) | (with_reducible refine Kd.C_drewN ?_ _) | (with_reducible refine Kd.C_drew ?_) | exact HR229_0.out)) | (with_reducible refine Kd.C_alloc ?_ _) | (with_reducible refine Kd.C_drewN ?_ _) | (with_reducible refine Kd.C_drew ?_))); (case side4 => exact HC229_0.out); rintro e w' ⟨rfl, ⟨nd, rfl⟩⟩; (try first | exact ⟨rfl, _, World.drewN_drewN _ _ _⟩ | exact ⟨rfl, _, Eq.trans (World.drewN_drewN _ _ _) (congrArg (World.drewN _) (Nat.add_assoc _ _ _))⟩))))
              go_ret
              exact ⟨by first | rfl | (simp [errW_none, errW_some] <;> rfl) | (simp only [← hji8, ← hji94]; first | rfl | (simp [errW_none, errW_some] <;> rfl)) | (simp [*, errW_none, errW_some] <;> rfl), by repeat (first | (with_reducible first | exact HB.out | apply below_alloc | apply pw_below_drewN | apply below_drew1) | exact HB.out)⟩
            ·
             rw [if_neg c116] at H
             exact absurd H (by simp)
           ·
            rw [if_neg c115] at H
            exact absurd H (by simp)
          ·
           rw [if_neg c114] at H
           have c114b0 : decide (x15_1 < (t222.length : Int)) = false := decide_eq_false c114
           clear c114
           replace H := Option.bind_eq_some_iff.mp H
           obtain ⟨t231, A1190, H⟩ := H
           replace H : ((billhookref10_Least.f k1 y170).bind fun t234 => ((billhooklaw10_same.f k1 t231 t234).bind fun t237 => ((dom_Control.f k1 y170).bind fun t238 => ((billhookref10_Control.f k1 y170).bind fun t241 => ((billhooklaw10_rows.f k1 t238 t241).bind fun t244 => (if true = true then (if t221 = true then (if t237 = true then (some t244) else (some false)) else (some false)) else (some false))))))) = some r := H
           have A119 := Aside0.mk A1190
           clear A1190
           replace H := Option.bind_eq_some_iff.mp H
           obtain ⟨t234, A1200, H⟩ := H
           replace H : ((billhooklaw10_same.f k1 t231 t234).bind fun t237 => ((dom_Control.f k1 y170).bind fun t238 => ((billhookref10_Control.f k1 y170).bind fun t241 => ((billhooklaw10_rows.f k1 t238 t241).bind fun t244 => (if true = true then (if t221 = true then (if t237 = true then (some t244) else (some false)) else (some false)) else (some false)))))) = some r := H
           have A120 := Aside0.mk A1200
           clear A1200
           replace H := Option.bind_eq_some_iff.mp H
           obtain ⟨t237, A1210, H⟩ := H
           replace H : ((dom_Control.f k1 y170).bind fun t238 => ((billhookref10_Control.f k1 y170).bind fun t241 => ((billhooklaw10_rows.f k1 t238 t241).bind fun t244 => (if true = true then (if t221 = true then (if t237 = true then (some t244) else (some false)) else (some false)) else (some false))))) = some r := H
           have A121 := Aside0.mk A1210
           clear A1210
           replace H := Option.bind_eq_some_iff.mp H
           obtain ⟨t238, A1220, H⟩ := H
           replace H : ((billhookref10_Control.f k1 y170).bind fun t241 => ((billhooklaw10_rows.f k1 t238 t241).bind fun t244 => (if true = true then (if t221 = true then (if t237 = true then (some t244) else (some false)) else (some false)) else (some false)))) = some r := H
           have A122 := Aside0.mk A1220
           clear A1220
           replace H := Option.bind_eq_some_iff.mp H
           obtain ⟨t241, A1230, H⟩ := H
           replace H : ((billhooklaw10_rows.f k1 t238 t241).bind fun t244 => (if true = true then (if t221 = true then (if t237 = true then (some t244) else (some false)) else (some false)) else (some false))) = some r := H
           have A123 := Aside0.mk A1230
           clear A1230
           replace H := Option.bind_eq_some_iff.mp H
           obtain ⟨t244, A1240, H⟩ := H
           replace H : (if true = true then (if t221 = true then (if t237 = true then (some t244) else (some false)) else (some false)) else (some false)) = some r := H
           have A124 := Aside0.mk A1240
           clear A1240
           by_cases c125 : true = true
           ·
            clear c125
            have H1 : (if t221 = true then (if t237 = true then (some t244) else (some false)) else (some false)) = some r := by first | (rw [if_pos rfl] at H; exact H) | (rw [if_pos trivial] at H; exact H)
            clear H
            have H := H1
            clear H1
            by_cases c126 : t221 = true
            ·
             subst c126
             have H1 : (if t237 = true then (some t244) else (some false)) = some r := by first | (rw [if_pos rfl] at H; exact H) | (rw [if_pos trivial] at H; exact H)
             clear H
             have H := H1
             clear H1
             by_cases c127 : t237 = true
             ·
              subst c127
              have H1 : (some t244) = some r := by first | (rw [if_pos rfl] at H; exact H) | (rw [if_pos trivial] at H; exact H)
              clear H
              have H := H1
              clear H1
              obtain rfl := Option.some.inj H
              go_wp2_with (first | (go_at_call 34; (with_reducible refine (dom_Least.calls k1 _ _ y170 t231 _ ?side1 ?side2 A119.out).mono ?_); (case side1 => repeat (first | exact (Kd.C_below HR173.out HB.out) | (with_reducible refine Kd.C_alloc ?_ _) | (with_reducible refine Kd.C_drewN ?_ _) | (with_reducible refine Kd.C_drew ?_))); (case side2 => exact HC173.out); rintro e w128 ⟨v232, rfl, ho0, hb⟩; have n0_ := Aside0.mk (Kd.S_below (by (with_reducible repeat (first | apply Kd.S_alloc | apply Kd.S_drewN | apply Kd.S_drew)); exact HO_13.out) hb); have n1_ := Aside0.mk (Kd.S_below (by (with_reducible repeat (first | apply Kd.S_alloc | apply Kd.S_drewN | apply Kd.S_drew)); exact HO_14.out) hb); have n2_ := Aside0.mk (Kd.R_lower ho0 (below_size (by repeat (first | (with_reducible first | exact HB.out | apply below_alloc | apply pw_below_drewN | apply below_drew1) | exact HB.out)))); have n3_ := Aside0.mk (below_step (by repeat (first | (with_reducible first | exact HB.out | apply below_alloc | apply pw_below_drewN | apply below_drew1) | exact HB.out)) hb); clear HO_13; clear HO_14; clear HB; have HO_13 := n0_; have HO_14 := n1_; have HO233 := n2_; have HB := n3_; clear n0_ n1_ n2_ n3_; (try clear hb); (try clear hb2); (try clear hk); (try clear hi); (try clear ho0)) | (go_at_call 35; (with_reducible refine (billhookref10_Least.calls k1 _ _ y170 t234 _ ?side1 ?side2 A120.out).mono ?_); (case side1 => repeat (first | exact (Kd.C_below HR173.out HB.out) | (with_reducible refine Kd.C_alloc ?_ _) | (with_reducible refine Kd.C_drewN ?_ _) | (with_reducible refine Kd.C_drew ?_))); (case side2 => exact HC173.out); rintro e w129 ⟨v235, rfl, ho0, hb⟩; have n0_ := Aside0.mk (Kd.S_below (by (with_reducible repeat (first | apply Kd.S_alloc | apply Kd.S_drewN | apply Kd.S_drew)); exact HO_13.out) hb); have n1_ := Aside0.mk (Kd.S_below (by (with_reducible repeat (first | apply Kd.S_alloc | apply Kd.S_drewN | apply Kd.S_drew)); exact HO_14.out) hb); have n2_ := Aside0.mk (Kd.R_elder' (by (with_reducible repeat (first | apply Kd.R_alloc | apply Kd.R_drewN | apply Kd.R_drew)); exact HO233.out) (Kd.R_base ho0) hb); have n3_ := Aside0.mk (Kd.R_lower (Kd.R_new' ho0 (Kd.R_lt (by (with_reducible repeat (first | apply Kd.R_alloc | apply Kd.R_drewN | apply Kd.R_drew)); exact HO233.out))) (below_size (by repeat (first | (with_reducible first | exact HB.out | apply below_alloc | apply pw_below_drewN | apply below_drew1) | exact HB.out)))); have n4_ := Aside0.mk (below_step (by repeat (first | (with_reducible first | exact HB.out | apply below_alloc | apply pw_below_drewN | apply below_drew1) | exact HB.out)) hb); clear HO_13; clear HO_14; clear HO233; clear HB; have HO_13 := n0_; have HO_14 := n1_; have HO233 := n2_; have HO236 := n3_; have HB := n4_; clear n0_ n1_ n2_ n3_ n4_; (try clear hb); (try clear hb2); (try clear hk); (try clear hi); (try clear ho0); obtain ⟨Ao130, co130, eo130⟩ := Kd.R_slice HO233.out; subst eo130; obtain ⟨Ao131, co131, eo131⟩ := Kd.R_slice HO236.out; subst eo131) | (go_at_call 33; (with_reducible refine (billhooklaw10_same.calls k1 _ _ t231 _ _ t234 true _ ?side1 ?side2 ?side3 ?side4 A121.out).mono ?_); (case side1 => repeat (first | exact (Kd.R_reads' HO233.out).2.2 | (with_reducible refine Kd.C_alloc ?_ _) | (with_reducible refine Kd.C_drewN ?_ _) | (with_reducible refine Kd.C_drew ?_))); (case side2 => exact (Kd.R_reads' HO233.out).2.1); (case side3 => repeat (first | exact (Kd.R_reads' HO236.out).2.2 | (with_reducible refine Kd.C_alloc ?_ _) | (with_reducible refine Kd.C_drewN ?_ _) | (with_reducible refine Kd.C_drew ?_))); (case side4 => exact (Kd.R_reads' HO236.out).2.1); rintro e w' ⟨rfl, ⟨nd, rfl⟩⟩; (try first | exact ⟨rfl, _, World.drewN_drewN _ _ _⟩ | exact ⟨rfl, _, Eq.trans (World.drewN_drewN _ _ _) (congrArg (World.drewN _) (Nat.add_assoc _ _ _))⟩)) | (go_at_call 37; (with_reducible refine (dom_Control.calls k1 (fun k_ => k_ < w.heap.size) _ _ y170 t238 _ ?side1 A122.out).mono ?_); (case side1 => exact Kd.V_mk HC173.out (Kd.F_below (Kd.C_F (Kd.heap_slice 3 (Kd.heap_int .i64)) HR173.out) (by repeat (first | (with_reducible first | exact HB.out | apply below_alloc | apply pw_below_drewN | apply below_drew1) | exact HB.out)))); rintro e w132 ⟨v239, rfl, ho0, hb⟩; have n0_ := Aside0.mk (Kd.S_below (by (with_reducible repeat (first | apply Kd.S_alloc | apply Kd.S_drewN | apply Kd.S_drew)); exact HO_13.out) hb); have n1_ := Aside0.mk (Kd.S_below (by (with_reducible repeat (first | apply Kd.S_alloc | apply Kd.S_drewN | apply Kd.S_drew)); exact HO_14.out) hb); have n2_ := Aside0.mk (Kd.R_below (by (with_reducible repeat (first | apply Kd.R_alloc | apply Kd.R_drewN | apply Kd.R_drew)); exact HO233.out) hb); have n3_ := Aside0.mk (Kd.R_below (by (with_reducible repeat (first | apply Kd.R_alloc | apply Kd.R_drewN | apply Kd.R_drew)); exact HO236.out) hb); have n4_ := Aside0.mk (Kd.V_lower (Kd.V_mono (ok' := fun k_ => some k_ ≠ (.slice Ao112 t222.length co112 : Value).ownBlock ∧ some k_ ≠ (.slice Ao113 t225.length co113 : Value).ownBlock ∧ some k_ ≠ (.slice Ao130 t231.length co130 : Value).ownBlock ∧ some k_ ≠ (.slice Ao131 t234.length co131 : Value).ownBlock) ho0 (fun k_ hk_ => ⟨Or.elim hk_ (fun hs_ => fun e_ => Nat.not_le.2 hs_ (Kd.S_base HO_13.out k_ e_.symm)) (fun hn_ => (Kd.fresh' (Kd.S_lt (by (with_reducible repeat (first | apply Kd.S_alloc | apply Kd.S_drewN | apply Kd.S_drew)); exact HO_13.out)) k_ hn_)), Or.elim hk_ (fun hs_ => fun e_ => Nat.not_le.2 hs_ (Kd.S_base HO_14.out k_ e_.symm)) (fun hn_ => (Kd.fresh' (Kd.S_lt (by (with_reducible repeat (first | apply Kd.S_alloc | apply Kd.S_drewN | apply Kd.S_drew)); exact HO_14.out)) k_ hn_)), Or.elim hk_ (fun hs_ => fun e_ => Nat.not_le.2 hs_ (Kd.R_base HO233.out k_ e_.symm)) (fun hn_ => (Kd.fresh' (Kd.R_lt (by (with_reducible repeat (first | apply Kd.R_alloc | apply Kd.R_drewN | apply Kd.R_drew)); exact HO233.out)) k_ hn_)), Or.elim hk_ (fun hs_ => fun e_ => Nat.not_le.2 hs_ (Kd.R_base HO236.out k_ e_.symm)) (fun hn_ => (Kd.fresh' (Kd.R_lt (by (with_reducible repeat (first | apply Kd.R_alloc | apply Kd.R_drewN | apply Kd.R_drew)); exact HO236.out)) k_ hn_))⟩)) (below_size (by repeat (first | (with_reducible first | exact HB.out | apply below_alloc | apply pw_below_drewN | apply below_drew1) | exact HB.out)))); have n5_ := Aside0.mk (below_step (by repeat (first | (with_reducible first | exact HB.out | apply below_alloc | apply pw_below_drewN | apply below_drew1) | exact HB.out)) hb); clear HO_13; clear HO_14; clear HO233; clear HO236; clear HB; have HO_13 := n0_; have HO_14 := n1_; have HO233 := n2_; have HO236 := n3_; have HO240 := n4_; have HB := n5_; clear n0_ n1_ n2_ n3_ n4_ n5_; (try clear hb); (try clear hb2); (try clear hk); (try clear hi); (try clear ho0)) | (go_at_call 38; (with_reducible refine (billhookref10_Control.calls k1 _ _ y170 t241 _ ?side1 ?side2 A123.out).mono ?_); (case side1 => repeat (first | exact (Kd.C_below HR173.out HB.out) | (with_reducible refine Kd.C_alloc ?_ _) | (with_reducible refine Kd.C_drewN ?_ _) | (with_reducible refine Kd.C_drew ?_))); (case side2 => exact HC173.out); rintro e w133 ⟨v242, rfl, ho0, hb⟩; have n0_ := Aside0.mk (Kd.S_below (by (with_reducible repeat (first | apply Kd.S_alloc | apply Kd.S_drewN | apply Kd.S_drew)); exact HO_13.out) hb); have n1_ := Aside0.mk (Kd.S_below (by (with_reducible repeat (first | apply Kd.S_alloc | apply Kd.S_drewN | apply Kd.S_drew)); exact HO_14.out) hb); have n2_ := Aside0.mk (Kd.R_below (by (with_reducible repeat (first | apply Kd.R_alloc | apply Kd.R_drewN | apply Kd.R_drew)); exact HO233.out) hb); have n3_ := Aside0.mk (Kd.R_below (by (with_reducible repeat (first | apply Kd.R_alloc | apply Kd.R_drewN | apply Kd.R_drew)); exact HO236.out) hb); have n4_ := Aside0.mk (Kd.V_elder' (by (with_reducible repeat (first | apply Kd.V_alloc | apply Kd.V_drewN | apply Kd.V_drew)); exact HO240.out) (Kd.S_base ho0) hb); have n5_ := Aside0.mk (Kd.S_lower (Kd.S_new' (Kd.S_new' ho0 (Kd.R_lt (by (with_reducible repeat (first | apply Kd.R_alloc | apply Kd.R_drewN | apply Kd.R_drew)); exact HO233.out))) (Kd.R_lt (by (with_reducible repeat (first | apply Kd.R_alloc | apply Kd.R_drewN | apply Kd.R_drew)); exact HO236.out))) (below_size (by repeat (first | (with_reducible first | exact HB.out | apply below_alloc | apply pw_below_drewN | apply below_drew1) | exact HB.out)))); have n6_ := Aside0.mk (below_step (by repeat (first | (with_reducible first | exact HB.out | apply below_alloc | apply pw_below_drewN | apply below_drew1) | exact HB.out)) hb); clear HO_13; clear HO_14; clear HO233; clear HO236; clear HO240; clear HB; have HO_13 := n0_; have HO_14 := n1_; have HO233 := n2_; have HO236 := n3_; have HO240 := n4_; have HO243 := n5_; have HB := n6_; clear n0_ n1_ n2_ n3_ n4_ n5_ n6_; (try clear hb); (try clear hb2); (try clear hk); (try clear hi); (try clear ho0); obtain ⟨Ao134, co134, eo134⟩ := Kd.V_slice HO240.out; subst eo134; obtain ⟨Ao135, co135, eo135⟩ := Kd.S_slice HO243.out; subst eo135) | (go_at_call 36; (with_reducible refine (billhooklaw10_rows.calls k1 _ _ t238 _ _ t241 t244 _ ?side1 ?side2 ?side3 ?side4 A124.out).mono ?_); (case side1 => repeat (first | exact (Kd.V_reads' HO240.out).2.2 | (with_reducible refine Kd.C_alloc ?_ _) | (with_reducible refine Kd.C_drewN ?_ _) | (with_reducible refine Kd.C_drew ?_))); (case side2 => exact (Kd.V_reads' HO240.out).2.1); (case side3 => repeat (first | exact (Kd.S_reads' HO243.out).2.2 | (with_reducible refine Kd.C_alloc ?_ _) | (with_reducible refine Kd.C_drewN ?_ _) | (with_reducible refine Kd.C_drew ?_))); (case side4 => exact (Kd.S_reads' HO243.out).2.1); rintro e w' ⟨rfl, ⟨nd, rfl⟩⟩; (try first | exact ⟨rfl, _, World.drewN_drewN _ _ _⟩ | exact ⟨rfl, _, Eq.trans (World.drewN_drewN _ _ _) (congrArg (World.drewN _) (Nat.add_assoc _ _ _))⟩)))
              go_ret
              exact ⟨by first | rfl | (simp [errW_none, errW_some] <;> rfl) | (simp only [← hji8, ← hji94]; first | rfl | (simp [errW_none, errW_some] <;> rfl)) | (simp [*, errW_none, errW_some] <;> rfl), by repeat (first | (with_reducible first | exact HB.out | apply below_alloc | apply pw_below_drewN | apply below_drew1) | exact HB.out)⟩
             ·
              replace c127 := Bool.eq_false_iff.mpr c127
              subst c127
              have H1 : (some false) = some r := by rw [if_neg (show ¬ (false = true) by decide)] at H; exact H
              clear H
              have H := H1
              clear H1
              obtain rfl := Option.some.inj H
              go_wp2_with (first | (go_at_call 34; (with_reducible refine (dom_Least.calls k1 _ _ y170 t231 _ ?side1 ?side2 A119.out).mono ?_); (case side1 => repeat (first | exact (Kd.C_below HR173.out HB.out) | (with_reducible refine Kd.C_alloc ?_ _) | (with_reducible refine Kd.C_drewN ?_ _) | (with_reducible refine Kd.C_drew ?_))); (case side2 => exact HC173.out); rintro e w136 ⟨v232, rfl, ho0, hb⟩; have n0_ := Aside0.mk (Kd.S_below (by (with_reducible repeat (first | apply Kd.S_alloc | apply Kd.S_drewN | apply Kd.S_drew)); exact HO_13.out) hb); have n1_ := Aside0.mk (Kd.S_below (by (with_reducible repeat (first | apply Kd.S_alloc | apply Kd.S_drewN | apply Kd.S_drew)); exact HO_14.out) hb); have n2_ := Aside0.mk (Kd.R_lower ho0 (below_size (by repeat (first | (with_reducible first | exact HB.out | apply below_alloc | apply pw_below_drewN | apply below_drew1) | exact HB.out)))); have n3_ := Aside0.mk (below_step (by repeat (first | (with_reducible first | exact HB.out | apply below_alloc | apply pw_below_drewN | apply below_drew1) | exact HB.out)) hb); clear HO_13; clear HO_14; clear HB; have HO_13 := n0_; have HO_14 := n1_; have HO233 := n2_; have HB := n3_; clear n0_ n1_ n2_ n3_; (try clear hb); (try clear hb2); (try clear hk); (try clear hi); (try clear ho0)) | (go_at_call 35; (with_reducible refine (billhookref10_Least.calls k1 _ _ y170 t234 _ ?side1 ?side2 A120.out).mono ?_); (case side1 => repeat (first | exact (Kd.C_below HR173.out HB.out) | (with_reducible refine Kd.C_alloc ?_ _) | (with_reducible refine Kd.C_drewN ?_ _) | (with_reducible refine Kd.C_drew ?_))); (case side2 => exact HC173.out); rintro e w137 ⟨v235, rfl, ho0, hb⟩; have n0_ := Aside0.mk (Kd.S_below (by (with_reducible repeat (first | apply Kd.S_alloc | apply Kd.S_drewN | apply Kd.S_drew)); exact HO_13.out) hb); have n1_ := Aside0.mk (Kd.S_below (by (with_reducible repeat (first | apply Kd.S_alloc | apply Kd.S_drewN | apply Kd.S_drew)); exact HO_14.out) hb); have n2_ := Aside0.mk (Kd.R_elder' (by (with_reducible repeat (first | apply Kd.R_alloc | apply Kd.R_drewN | apply Kd.R_drew)); exact HO233.out) (Kd.R_base ho0) hb); have n3_ := Aside0.mk (Kd.R_lower (Kd.R_new' ho0 (Kd.R_lt (by (with_reducible repeat (first | apply Kd.R_alloc | apply Kd.R_drewN | apply Kd.R_drew)); exact HO233.out))) (below_size (by repeat (first | (with_reducible first | exact HB.out | apply below_alloc | apply pw_below_drewN | apply below_drew1) | exact HB.out)))); have n4_ := Aside0.mk (below_step (by repeat (first | (with_reducible first | exact HB.out | apply below_alloc | apply pw_below_drewN | apply below_drew1) | exact HB.out)) hb); clear HO_13; clear HO_14; clear HO233; clear HB; have HO_13 := n0_; have HO_14 := n1_; have HO233 := n2_; have HO236 := n3_; have HB := n4_; clear n0_ n1_ n2_ n3_ n4_; (try clear hb); (try clear hb2); (try clear hk); (try clear hi); (try clear ho0); obtain ⟨Ao138, co138, eo138⟩ := Kd.R_slice HO233.out; subst eo138; obtain ⟨Ao139, co139, eo139⟩ := Kd.R_slice HO236.out; subst eo139) | (go_at_call 33; (with_reducible refine (billhooklaw10_same.calls k1 _ _ t231 _ _ t234 false _ ?side1 ?side2 ?side3 ?side4 A121.out).mono ?_); (case side1 => repeat (first | exact (Kd.R_reads' HO233.out).2.2 | (with_reducible refine Kd.C_alloc ?_ _) | (with_reducible refine Kd.C_drewN ?_ _) | (with_reducible refine Kd.C_drew ?_))); (case side2 => exact (Kd.R_reads' HO233.out).2.1); (case side3 => repeat (first | exact (Kd.R_reads' HO236.out).2.2 | (with_reducible refine Kd.C_alloc ?_ _) | (with_reducible refine Kd.C_drewN ?_ _) | (with_reducible refine Kd.C_drew ?_))); (case side4 => exact (Kd.R_reads' HO236.out).2.1); rintro e w' ⟨rfl, ⟨nd, rfl⟩⟩; (try first | exact ⟨rfl, _, World.drewN_drewN _ _ _⟩ | exact ⟨rfl, _, Eq.trans (World.drewN_drewN _ _ _) (congrArg (World.drewN _) (Nat.add_assoc _ _ _))⟩)) | (go_at_call 37; (with_reducible refine (dom_Control.calls k1 (fun k_ => k_ < w.heap.size) _ _ y170 t238 _ ?side1 A122.out).mono ?_); (case side1 => exact Kd.V_mk HC173.out (Kd.F_below (Kd.C_F (Kd.heap_slice 3 (Kd.heap_int .i64)) HR173.out) (by repeat (first | (with_reducible first | exact HB.out | apply below_alloc | apply pw_below_drewN | apply below_drew1) | exact HB.out)))); rintro e w140 ⟨v239, rfl, ho0, hb⟩; have n0_ := Aside0.mk (Kd.S_below (by (with_reducible repeat (first | apply Kd.S_alloc | apply Kd.S_drewN | apply Kd.S_drew)); exact HO_13.out) hb); have n1_ := Aside0.mk (Kd.S_below (by (with_reducible repeat (first | apply Kd.S_alloc | apply Kd.S_drewN | apply Kd.S_drew)); exact HO_14.out) hb); have n2_ := Aside0.mk (Kd.R_below (by (with_reducible repeat (first | apply Kd.R_alloc | apply Kd.R_drewN | apply Kd.R_drew)); exact HO233.out) hb); have n3_ := Aside0.mk (Kd.R_below (by (with_reducible repeat (first | apply Kd.R_alloc | apply Kd.R_drewN | apply Kd.R_drew)); exact HO236.out) hb); have n4_ := Aside0.mk (Kd.V_lower (Kd.V_mono (ok' := fun k_ => some k_ ≠ (.slice Ao112 t222.length co112 : Value).ownBlock ∧ some k_ ≠ (.slice Ao113 t225.length co113 : Value).ownBlock ∧ some k_ ≠ (.slice Ao138 t231.length co138 : Value).ownBlock ∧ some k_ ≠ (.slice Ao139 t234.length co139 : Value).ownBlock) ho0 (fun k_ hk_ => ⟨Or.elim hk_ (fun hs_ => fun e_ => Nat.not_le.2 hs_ (Kd.S_base HO_13.out k_ e_.symm)) (fun hn_ => (Kd.fresh' (Kd.S_lt (by (with_reducible repeat (first | apply Kd.S_alloc | apply Kd.S_drewN | apply Kd.S_drew)); exact HO_13.out)) k_ hn_)), Or.elim hk_ (fun hs_ => fun e_ => Nat.not_le.2 hs_ (Kd.S_base HO_14.out k_ e_.symm)) (fun hn_ => (Kd.fresh' (Kd.S_lt (by (with_reducible repeat (first | apply Kd.S_alloc | apply Kd.S_drewN | apply Kd.S_drew)); exact HO_14.out)) k_ hn_)), Or.elim hk_ (fun hs_ => fun e_ => Nat.not_le.2 hs_ (Kd.R_base HO233.out k_ e_.symm)) (fun hn_ => (Kd.fresh' (Kd.R_lt (by (with_reducible repeat (first | apply Kd.R_alloc | apply Kd.R_drewN | apply Kd.R_drew)); exact HO233.out)) k_ hn_)), Or.elim hk_ (fun hs_ => fun e_ => Nat.not_le.2 hs_ (Kd.R_base HO236.out k_ e_.symm)) (fun hn_ => (Kd.fresh' (Kd.R_lt (by (with_reducible repeat (first | apply Kd.R_alloc | apply Kd.R_drewN | apply Kd.R_drew)); exact HO236.out)) k_ hn_))⟩)) (below_size (by repeat (first | (with_reducible first | exact HB.out | apply below_alloc | apply pw_below_drewN | apply below_drew1) | exact HB.out)))); have n5_ := Aside0.mk (below_step (by repeat (first | (with_reducible first | exact HB.out | apply below_alloc | apply pw_below_drewN | apply below_drew1) | exact HB.out)) hb); clear HO_13; clear HO_14; clear HO233; clear HO236; clear HB; have HO_13 := n0_; have HO_14 := n1_; have HO233 := n2_; have HO236 := n3_; have HO240 := n4_; have HB := n5_; clear n0_ n1_ n2_ n3_ n4_ n5_; (try clear hb); (try clear hb2); (try clear hk); (try clear hi); (try clear ho0)) | (go_at_call 38; (with_reducible refine (billhookref10_Control.calls k1 _ _ y170 t241 _ ?side1 ?side2 A123.out).mono ?_); (case side1 => repeat (first | exact (Kd.C_below HR173.out HB.out) | (with_reducible refine Kd.C_alloc ?_ _) | (with_reducible refine Kd.C_drewN ?_ _) | (with_reducible refine Kd.C_drew ?_))); (case side2 => exact HC173.out); rintro e w141 ⟨v242, rfl, ho0, hb⟩; have n0_ := Aside0.mk (Kd.S_below (by (with_reducible repeat (first | apply Kd.S_alloc | apply Kd.S_drewN | apply Kd.S_drew)); exact HO_13.out) hb); have n1_ := Aside0.mk (Kd.S_below (by (with_reducible repeat (first | apply Kd.S_alloc | apply Kd.S_drewN | apply Kd.S_drew)); exact HO_14.out) hb); have n2_ := Aside0.mk (Kd.R_below (by (with_reducible repeat (first | apply Kd.R_alloc | apply Kd.R_drewN | apply Kd.R_drew)); exact HO233.out) hb); have n3_ := Aside0.mk (Kd.R_below (by (with_reducible repeat (first | apply Kd.R_alloc | apply Kd.R_drewN | apply Kd.R_drew)); exact HO236.out) hb); have n4_ := Aside0.mk (Kd.V_elder' (by (with_reducible repeat (first | apply Kd.V_alloc | apply Kd.V_drewN | apply Kd.V_drew)); exact HO240.out) (Kd.S_base ho0) hb); have n5_ := Aside0.mk (Kd.S_lower (Kd.S_new' (Kd.S_new' ho0 (Kd.R_lt (by (with_reducible repeat (first | apply Kd.R_alloc | apply Kd.R_drewN | apply Kd.R_drew)); exact HO233.out))) (Kd.R_lt (by (with_reducible repeat (first | apply Kd.R_alloc | apply Kd.R_drewN | apply Kd.R_drew)); exact HO236.out))) (below_size (by repeat (first | (with_reducible first | exact HB.out | apply below_alloc | apply pw_below_drewN | apply below_drew1) | exact HB.out)))); have n6_ := Aside0.mk (below_step (by repeat (first | (with_reducible first | exact HB.out | apply below_alloc | apply pw_below_drewN | apply below_drew1) | exact HB.out)) hb); clear HO_13; clear HO_14; clear HO233; clear HO236; clear HO240; clear HB; have HO_13 := n0_; have HO_14 := n1_; have HO233 := n2_; have HO236 := n3_; have HO240 := n4_; have HO243 := n5_; have HB := n6_; clear n0_ n1_ n2_ n3_ n4_ n5_ n6_; (try clear hb); (try clear hb2); (try clear hk); (try clear hi); (try clear ho0); obtain ⟨Ao142, co142, eo142⟩ := Kd.V_slice HO240.out; subst eo142; obtain ⟨Ao143, co143, eo143⟩ := Kd.S_slice HO243.out; subst eo143) | (go_at_call 36; (with_reducible refine (billhooklaw10_rows.calls k1 _ _ t238 _ _ t241 t244 _ ?side1 ?side2 ?side3 ?side4 A124.out).mono ?_); (case side1 => repeat (first | exact (Kd.V_reads' HO240.out).2.2 | (with_reducible refine Kd.C_alloc ?_ _) | (with_reducible refine Kd.C_drewN ?_ _) | (with_reducible refine Kd.C_drew ?_))); (case side2 => exact (Kd.V_reads' HO240.out).2.1); (case side3 => repeat (first | exact (Kd.S_reads' HO243.out).2.2 | (with_reducible refine Kd.C_alloc ?_ _) | (with_reducible refine Kd.C_drewN ?_ _) | (with_reducible refine Kd.C_drew ?_))); (case side4 => exact (Kd.S_reads' HO243.out).2.1); rintro e w' ⟨rfl, ⟨nd, rfl⟩⟩; (try first | exact ⟨rfl, _, World.drewN_drewN _ _ _⟩ | exact ⟨rfl, _, Eq.trans (World.drewN_drewN _ _ _) (congrArg (World.drewN _) (Nat.add_assoc _ _ _))⟩)))
              go_ret
              exact ⟨by first | rfl | (simp [errW_none, errW_some] <;> rfl) | (simp only [← hji8, ← hji94]; first | rfl | (simp [errW_none, errW_some] <;> rfl)) | (simp [*, errW_none, errW_some] <;> rfl), by repeat (first | (with_reducible first | exact HB.out | apply below_alloc | apply pw_below_drewN | apply below_drew1) | exact HB.out)⟩
            ·
             replace c126 := Bool.eq_false_iff.mpr c126
             subst c126
             have H1 : (some false) = some r := by rw [if_neg (show ¬ (false = true) by decide)] at H; exact H
             clear H
             have H := H1
             clear H1
             obtain rfl := Option.some.inj H
             go_wp2_with (first | (go_at_call 34; (with_reducible refine (dom_Least.calls k1 _ _ y170 t231 _ ?side1 ?side2 A119.out).mono ?_); (case side1 => repeat (first | exact (Kd.C_below HR173.out HB.out) | (with_reducible refine Kd.C_alloc ?_ _) | (with_reducible refine Kd.C_drewN ?_ _) | (with_reducible refine Kd.C_drew ?_))); (case side2 => exact HC173.out); rintro e w144 ⟨v232, rfl, ho0, hb⟩; have n0_ := Aside0.mk (Kd.S_below (by (with_reducible repeat (first | apply Kd.S_alloc | apply Kd.S_drewN | apply Kd.S_drew)); exact HO_13.out) hb); have n1_ := Aside0.mk (Kd.S_below (by (with_reducible repeat (first | apply Kd.S_alloc | apply Kd.S_drewN | apply Kd.S_drew)); exact HO_14.out) hb); have n2_ := Aside0.mk (Kd.R_lower ho0 (below_size (by repeat (first | (with_reducible first | exact HB.out | apply below_alloc | apply pw_below_drewN | apply below_drew1) | exact HB.out)))); have n3_ := Aside0.mk (below_step (by repeat (first | (with_reducible first | exact HB.out | apply below_alloc | apply pw_below_drewN | apply below_drew1) | exact HB.out)) hb); clear HO_13; clear HO_14; clear HB; have HO_13 := n0_; have HO_14 := n1_; have HO233 := n2_; have HB := n3_; clear n0_ n1_ n2_ n3_; (try clear hb); (try clear hb2); (try clear hk); (try clear hi); (try clear ho0)) | (go_at_call 35; (with_reducible refine (billhookref10_Least.calls k1 _ _ y170 t234 _ ?side1 ?side2 A120.out).mono ?_); (case side1 => repeat (first | exact (Kd.C_below HR173.out HB.out) | (with_reducible refine Kd.C_alloc ?_ _) | (with_reducible refine Kd.C_drewN ?_ _) | (with_reducible refine Kd.C_drew ?_))); (case side2 => exact HC173.out); rintro e w145 ⟨v235, rfl, ho0, hb⟩; have n0_ := Aside0.mk (Kd.S_below (by (with_reducible repeat (first | apply Kd.S_alloc | apply Kd.S_drewN | apply Kd.S_drew)); exact HO_13.out) hb); have n1_ := Aside0.mk (Kd.S_below (by (with_reducible repeat (first | apply Kd.S_alloc | apply Kd.S_drewN | apply Kd.S_drew)); exact HO_14.out) hb); have n2_ := Aside0.mk (Kd.R_elder' (by (with_reducible repeat (first | apply Kd.R_alloc | apply Kd.R_drewN | apply Kd.R_drew)); exact HO233.out) (Kd.R_base ho0) hb); have n3_ := Aside0.mk (Kd.R_lower (Kd.R_new' ho0 (Kd.R_lt (by (with_reducible repeat (first | apply Kd.R_alloc | apply Kd.R_drewN | apply Kd.R_drew)); exact HO233.out))) (below_size (by repeat (first | (with_reducible first | exact HB.out | apply below_alloc | apply pw_below_drewN | apply below_drew1) | exact HB.out)))); have n4_ := Aside0.mk (below_step (by repeat (first | (with_reducible first | exact HB.out | apply below_alloc | apply pw_below_drewN | apply below_drew1) | exact HB.out)) hb); clear HO_13; clear HO_14; clear HO233; clear HB; have HO_13 := n0_; have HO_14 := n1_; have HO233 := n2_; have HO236 := n3_; have HB := n4_; clear n0_ n1_ n2_ n3_ n4_; (try clear hb); (try clear hb2); (try clear hk); (try clear hi); (try clear ho0); obtain ⟨Ao146, co146, eo146⟩ := Kd.R_slice HO233.out; subst eo146; obtain ⟨Ao147, co147, eo147⟩ := Kd.R_slice HO236.out; subst eo147) | (go_at_call 33; (with_reducible refine (billhooklaw10_same.calls k1 _ _ t231 _ _ t234 t237 _ ?side1 ?side2 ?side3 ?side4 A121.out).mono ?_); (case side1 => repeat (first | exact (Kd.R_reads' HO233.out).2.2 | (with_reducible refine Kd.C_alloc ?_ _) | (with_reducible refine Kd.C_drewN ?_ _) | (with_reducible refine Kd.C_drew ?_))); (case side2 => exact (Kd.R_reads' HO233.out).2.1); (case side3 => repeat (first | exact (Kd.R_reads' HO236.out).2.2 | (with_reducible refine Kd.C_alloc ?_ _) | (with_reducible refine Kd.C_drewN ?_ _) | (with_reducible refine Kd.C_drew ?_))); (case side4 => exact (Kd.R_reads' HO236.out).2.1); rintro e w' ⟨rfl, ⟨nd, rfl⟩⟩; (try first | exact ⟨rfl, _, World.drewN_drewN _ _ _⟩ | exact ⟨rfl, _, Eq.trans (World.drewN_drewN _ _ _) (congrArg (World.drewN _) (Nat.add_assoc _ _ _))⟩)) | (go_at_call 37; (with_reducible refine (dom_Control.calls k1 (fun k_ => k_ < w.heap.size) _ _ y170 t238 _ ?side1 A122.out).mono ?_); (case side1 => exact Kd.V_mk HC173.out (Kd.F_below (Kd.C_F (Kd.heap_slice 3 (Kd.heap_int .i64)) HR173.out) (by repeat (first | (with_reducible first | exact HB.out | apply below_alloc | apply pw_below_drewN | apply below_drew1) | exact HB.out)))); rintro e w148 ⟨v239, rfl, ho0, hb⟩; have n0_ := Aside0.mk (Kd.S_below (by (with_reducible repeat (first | apply Kd.S_alloc | apply Kd.S_drewN | apply Kd.S_drew)); exact HO_13.out) hb); have n1_ := Aside0.mk (Kd.S_below (by (with_reducible repeat (first | apply Kd.S_alloc | apply Kd.S_drewN | apply Kd.S_drew)); exact HO_14.out) hb); have n2_ := Aside0.mk (Kd.R_below (by (with_reducible repeat (first | apply Kd.R_alloc | apply Kd.R_drewN | apply Kd.R_drew)); exact HO233.out) hb); have n3_ := Aside0.mk (Kd.R_below (by (with_reducible repeat (first | apply Kd.R_alloc | apply Kd.R_drewN | apply Kd.R_drew)); exact HO236.out) hb); have n4_ := Aside0.mk (Kd.V_lower (Kd.V_mono (ok' := fun k_ => some k_ ≠ (.slice Ao112 t222.length co112 : Value).ownBlock ∧ some k_ ≠ (.slice Ao113 t225.length co113 : Value).ownBlock ∧ some k_ ≠ (.slice Ao146 t231.length co146 : Value).ownBlock ∧ some k_ ≠ (.slice Ao147 t234.length co147 : Value).ownBlock) ho0 (fun k_ hk_ => ⟨Or.elim hk_ (fun hs_ => fun e_ => Nat.not_le.2 hs_ (Kd.S_base HO_13.out k_ e_.symm)) (fun hn_ => (Kd.fresh' (Kd.S_lt (by (with_reducible repeat (first | apply Kd.S_alloc | apply Kd.S_drewN | apply Kd.S_drew)); exact HO_13.out)) k_ hn_)), Or.elim hk_ (fun hs_ => fun e_ => Nat.not_le.2 hs_ (Kd.S_base HO_14.out k_ e_.symm)) (fun hn_ => (Kd.fresh' (Kd.S_lt (by (with_reducible repeat (first | apply Kd.S_alloc | apply Kd.S_drewN | apply Kd.S_drew)); exact HO_14.out)) k_ hn_)), Or.elim hk_ (fun hs_ => fun e_ => Nat.not_le.2 hs_ (Kd.R_base HO233.out k_ e_.symm)) (fun hn_ => (Kd.fresh' (Kd.R_lt (by (with_reducible repeat (first | apply Kd.R_alloc | apply Kd.R_drewN | apply Kd.R_drew)); exact HO233.out)) k_ hn_)), Or.elim hk_ (fun hs_ => fun e_ => Nat.not_le.2 hs_ (Kd.R_base HO236.out k_ e_.symm)) (fun hn_ => (Kd.fresh' (Kd.R_lt (by (with_reducible repeat (first | apply Kd.R_alloc | apply Kd.R_drewN | apply Kd.R_drew)); exact HO236.out)) k_ hn_))⟩)) (below_size (by repeat (first | (with_reducible first | exact HB.out | apply below_alloc | apply pw_below_drewN | apply below_drew1) | exact HB.out)))); have n5_ := Aside0.mk (below_step (by repeat (first | (with_reducible first | exact HB.out | apply below_alloc | apply pw_below_drewN | apply below_drew1) | exact HB.out)) hb); clear HO_13; clear HO_14; clear HO233; clear HO236; clear HB; have HO_13 := n0_; have HO_14 := n1_; have HO233 := n2_; have HO236 := n3_; have HO240 := n4_; have HB := n5_; clear n0_ n1_ n2_ n3_ n4_ n5_; (try clear hb); (try clear hb2); (try clear hk); (try clear hi); (try clear ho0)) | (go_at_call 38; (with_reducible refine (billhookref10_Control.calls k1 _ _ y170 t241 _ ?side1 ?side2 A123.out).mono ?_); (case side1 => repeat (first | exact (Kd.C_below HR173.out HB.out) | (with_reducible refine Kd.C_alloc ?_ _) | (with_reducible refine Kd.C_drewN ?_ _) | (with_reducible refine Kd.C_drew ?_))); (case side2 => exact HC173.out); rintro e w149 ⟨v242, rfl, ho0, hb⟩; have n0_ := Aside0.mk (Kd.S_below (by (with_reducible repeat (first | apply Kd.S_alloc | apply Kd.S_drewN | apply Kd.S_drew)); exact HO_13.out) hb); have n1_ := Aside0.mk (Kd.S_below (by (with_reducible repeat (first | apply Kd.S_alloc | apply Kd.S_drewN | apply Kd.S_drew)); exact HO_14.out) hb); have n2_ := Aside0.mk (Kd.R_below (by (with_reducible repeat (first | apply Kd.R_alloc | apply Kd.R_drewN | apply Kd.R_drew)); exact HO233.out) hb); have n3_ := Aside0.mk (Kd.R_below (by (with_reducible repeat (first | apply Kd.R_alloc | apply Kd.R_drewN | apply Kd.R_drew)); exact HO236.out) hb); have n4_ := Aside0.mk (Kd.V_elder' (by (with_reducible repeat (first | apply Kd.V_alloc | apply Kd.V_drewN | apply Kd.V_drew)); exact HO240.out) (Kd.S_base ho0) hb); have n5_ := Aside0.mk (Kd.S_lower (Kd.S_new' (Kd.S_new' ho0 (Kd.R_lt (by (with_reducible repeat (first | apply Kd.R_alloc | apply Kd.R_drewN | apply Kd.R_drew)); exact HO233.out))) (Kd.R_lt (by (with_reducible repeat (first | apply Kd.R_alloc | apply Kd.R_drewN | apply Kd.R_drew)); exact HO236.out))) (below_size (by repeat (first | (with_reducible first | exact HB.out | apply below_alloc | apply pw_below_drewN | apply below_drew1) | exact HB.out)))); have n6_ := Aside0.mk (below_step (by repeat (first | (with_reducible first | exact HB.out | apply below_alloc | apply pw_below_drewN | apply below_drew1) | exact HB.out)) hb); clear HO_13; clear HO_14; clear HO233; clear HO236; clear HO240; clear HB; have HO_13 := n0_; have HO_14 := n1_; have HO233 := n2_; have HO236 := n3_; have HO240 := n4_; have HO243 := n5_; have HB := n6_; clear n0_ n1_ n2_ n3_ n4_ n5_ n6_; (try clear hb); (try clear hb2); (try clear hk); (try clear hi); (try clear ho0); obtain ⟨Ao150, co150, eo150⟩ := Kd.V_slice HO240.out; subst eo150; obtain ⟨Ao151, co151, eo151⟩ := Kd.S_slice HO243.out; subst eo151) | (go_at_call 36; (with_reducible refine (billhooklaw10_rows.calls k1 _ _ t238 _ _ t241 t244 _ ?side1 ?side2 ?side3 ?side4 A124.out).mono ?_); (case side1 => repeat (first | exact (Kd.V_reads' HO240.out).2.2 | (with_reducible refine Kd.C_alloc ?_ _) | (with_reducible refine Kd.C_drewN ?_ _) | (with_reducible refine Kd.C_drew ?_))); (case side2 => exact (Kd.V_reads' HO240.out).2.1); (case side3 => repeat (first | exact (Kd.S_reads' HO243.out).2.2 | (with_reducible refine Kd.C_alloc ?_ _) | (with_reducible refine Kd.C_drewN ?_ _) | (with_reducible refine Kd.C_drew ?_))); (case side4 => exact (Kd.S_reads' HO243.out).2.1); rintro e w' ⟨rfl, ⟨nd, rfl⟩⟩; (try first | exact ⟨rfl, _, World.drewN_drewN _ _ _⟩ | exact ⟨rfl, _, Eq.trans (World.drewN_drewN _ _ _) (congrArg (World.drewN _) (Nat.add_assoc _ _ _))⟩)))
             go_ret
             exact ⟨by first | rfl | (simp [errW_none, errW_some] <;> rfl) | (simp only [← hji8, ← hji94]; first | rfl | (simp [errW_none, errW_some] <;> rfl)) | (simp [*, errW_none, errW_some] <;> rfl), by repeat (first | (with_reducible first | exact HB.out | apply below_alloc | apply pw_below_drewN | apply below_drew1) | exact HB.out)⟩
           ·
            exact absurd rfl c125
       ·
        rw [if_neg c102] at H
        have c102b0 : ((t222.length : Int) == (t225.length : Int)) = false := beq_eq_false_iff_ne.mpr c102
        have c102b1 : ((t222.length : Int) != (t225.length : Int)) = true := bne_iff_ne.mpr c102
        have c102b2 : (t222.length == t225.length) = false := by first | simpa using c102 | (simp at c102 ⊢; omega)
        obtain rfl := Option.some.inj H
        go_enter Try.func5, Try.ntmps5
        go_wp2_with (first | (go_at_call 26; (with_reducible refine (billhooklaw10_examples.calls  true _ A6.out).mono ?_); rintro e w160 ⟨rfl, hb⟩; have n0_ := Aside0.mk (below_step (by repeat (first | (with_reducible first | exact HB.out | apply below_alloc | apply pw_below_drewN | apply below_drew1) | exact HB.out)) hb); clear HB; have HB := n0_; clear n0_; (try clear hb); (try clear hb2); (try clear hk); (try clear hi); have q161 : ((ji8) : Int) ≤ ((l0.length : Int) : Int) := of_decide_eq_true (by first | (with_reducible assumption) | assumption); obtain ⟨i0161, hi0161, _, hsz161, _⟩ := info_parts info54; have hroom161 : l0.length ≤ c0 := HC0.out; have hC161 : Kd.C (Kd.slice 3 (Kd.int .i64)) _ A0 l0.length l0 := HR0.out; have hcut161 := cut_to (P := Try.prog) 53 54 .i64 Try.underlying53 hi0161 A0 l0.length c0 (ji8) (of_decide_eq_true (by first | (with_reducible assumption) | assumption)) q161 hroom161; have hr161 := Kd.C_take (m := ((ji8) : Int).toNat) hC161 (by omega); have hy161 : y170.length = ((ji8) : Int).toNat := (by rw [Ny170.out, List.length_take]; omega); rw [← Ny170.out] at hr161; rw [← hy161] at hcut161; have HR173 := Aside0.mk hr161; have HC173 := Aside0.mk (show y170.length ≤ c0 from by omega); clear hr161 hC161 hroom161 hi0161 hsz161; have KY161 := Aside0.mk hy161; clear hy161; replace q161 := eq_true q161; have q162 : ((ji94) : Int) ≤ ((l4.length : Int) : Int) := of_decide_eq_true (by first | (with_reducible assumption) | assumption); obtain ⟨i0162, hi0162, _, hsz162, _⟩ := info_parts info3; have hroom162 : l4.length ≤ c4 := HC4.out; have hC162 : Kd.C (Kd.int .i64) _ A4 l4.length l4 := HR4.out; have hcut162 := cut_to (P := Try.prog) 54 3 .i64 Try.underlying54 hi0162 A4 l4.length c4 (ji94) (of_decide_eq_true (by first | (with_reducible assumption) | assumption)) q162 hroom162; have hr162 := Kd.C_take (m := ((ji94) : Int).toNat) hC162 (by omega); have hy162 : y211.length = ((ji94) : Int).toNat := (by rw [Ny211.out, List.length_take]; omega); rw [← Ny211.out] at hr162; rw [← hy162] at hcut162; have HR214 := Aside0.mk hr162; have HC214 := Aside0.mk (show y211.length ≤ c4 from by omega); clear hr162 hC162 hroom162 hi0162 hsz162; have KY162 := Aside0.mk hy162; clear hy162; replace q162 := eq_true q162) | (go_at_call 29; (with_reducible refine (dom_Reach.calls k _ _ y170 _ _ y211 t215 _ ?side1 ?side2 ?side3 ?side4 A97.out).mono ?_); (case side1 => repeat (first | exact (Kd.C_below HR173.out HB.out) | (with_reducible refine Kd.C_alloc ?_ _) | (with_reducible refine Kd.C_drewN ?_ _) | (with_reducible refine Kd.C_drew ?_))); (case side2 => exact HC173.out); (case side3 => repeat (first | exact (Kd.C_below HR214.out HB.out) | (with_reducible refine Kd.C_alloc ?_ _) | (with_reducible refine Kd.C_drewN ?_ _) | (with_reducible refine Kd.C_drew ?_))); (case side4 => exact HC214.out); rintro e w163 ⟨v216, rfl, ho0, hb⟩; have n0_ := Aside0.mk (Kd.R_lower ho0 (below_size (by repeat (first | (with_reducible first | exact HB.out | apply below_alloc | apply pw_below_drewN | apply below_drew1) | exact HB.out)))); have n1_ := Aside0.mk (below_step (by repeat (first | (with_reducible first | exact HB.out | apply below_alloc | apply pw_below_drewN | apply below_drew1) | exact HB.out)) hb); clear HB; have HO217 := n0_; have HB := n1_; clear n0_ n1_; (try clear hb); (try clear hb2); (try clear hk); (try clear hi); (try clear ho0)) | (go_at_call 30; (with_reducible refine (billhookref10_Reach.calls k _ _ y170 _ _ y211 t218 _ ?side1 ?side2 ?side3 ?side4 A98.out).mono ?_); (case side1 => repeat (first | exact (Kd.C_below HR173.out HB.out) | (with_reducible refine Kd.C_alloc ?_ _) | (with_reducible refine Kd.C_drewN ?_ _) | (with_reducible refine Kd.C_drew ?_))); (case side2 => exact HC173.out); (case side3 => repeat (first | exact (Kd.C_below HR214.out HB.out) | (with_reducible refine Kd.C_alloc ?_ _) | (with_reducible refine Kd.C_drewN ?_ _) | (with_reducible refine Kd.C_drew ?_))); (case side4 => exact HC214.out); rintro e w164 ⟨v219, rfl, ho0, hb⟩; have n0_ := Aside0.mk (Kd.R_elder' (by (with_reducible repeat (first | apply Kd.R_alloc | apply Kd.R_drewN | apply Kd.R_drew)); exact HO217.out) (Kd.R_base ho0) hb); have n1_ := Aside0.mk (Kd.R_lower (Kd.R_new' ho0 (Kd.R_lt (by (with_reducible repeat (first | apply Kd.R_alloc | apply Kd.R_drewN | apply Kd.R_drew)); exact HO217.out))) (below_size (by repeat (first | (with_reducible first | exact HB.out | apply below_alloc | apply pw_below_drewN | apply below_drew1) | exact HB.out)))); have n2_ := Aside0.mk (below_step (by repeat (first | (with_reducible first | exact HB.out | apply below_alloc | apply pw_below_drewN | apply below_drew1) | exact HB.out)) hb); clear HO217; clear HB; have HO217 := n0_; have HO220 := n1_; have HB := n2_; clear n0_ n1_ n2_; (try clear hb); (try clear hb2); (try clear hk); (try clear hi); (try clear ho0); obtain ⟨Ao165, co165, eo165⟩ := Kd.R_slice HO217.out; subst eo165; obtain ⟨Ao166, co166, eo166⟩ := Kd.R_slice HO220.out; subst eo166) | (go_at_call 28; (with_reducible refine (billhooklaw10_bools.calls k _ _ t215 _ _ t218 t221 _ ?side1 ?side2 ?side3 ?side4 A99.out).mono ?_); (case side1 => repeat (first | exact (Kd.R_reads' HO217.out).2.2 | (with_reducible refine Kd.C_alloc ?_ _) | (with_reducible refine Kd.C_drewN ?_ _) | (with_reducible refine Kd.C_drew ?_))); (case side2 => exact (Kd.R_reads' HO217.out).2.1); (case side3 => repeat (first | exact (Kd.R_reads' HO220.out).2.2 | (with_reducible refine Kd.C_alloc ?_ _) | (with_reducible refine Kd.C_drewN ?_ _) | (with_reducible refine Kd.C_drew ?_))); (case side4 => exact (Kd.R_reads' HO220.out).2.1); rintro e w' ⟨rfl, ⟨nd, rfl⟩⟩; (try first | exact ⟨rfl, _, World.drewN_drewN _ _ _⟩ | exact ⟨rfl, _, Eq.trans (World.drewN_drewN _ _ _) (congrArg (World.drewN _) (Nat.add_assoc _ _ _))⟩)) | (go_at_call 31; (with_reducible refine (dom_Post.calls k _ _ y170 t222 _ ?side1 ?side2 A100.out).mono ?_); (case side1 => repeat (first | exact (Kd.C_below HR173.out (by repeat (first | (with_reducible first | exact HB.out | apply below_alloc | apply pw_below_drewN | apply below_drew1) | exact HB.out))) | (with_reducible refine Kd.C_alloc ?_ _) | (with_reducible refine Kd.C_drewN ?_ _) | (with_reducible refine Kd.C_drew ?_))); (case side2 => exact HC173.out); rintro e w167 ⟨v223, rfl, ho0, hb⟩; have n0_ := Aside0.mk (Kd.R_below (by (with_reducible repeat (first | apply Kd.R_alloc | apply Kd.R_drewN | apply Kd.R_drew)); exact HO217.out) hb); have n1_ := Aside0.mk (Kd.R_below (by (with_reducible repeat (first | apply Kd.R_alloc | apply Kd.R_drewN | apply Kd.R_drew)); exact HO220.out) hb); have n2_ := Aside0.mk (Kd.S_lower (Kd.S_new' (Kd.S_new' ho0 (Kd.R_lt (by (with_reducible repeat (first | apply Kd.R_alloc | apply Kd.R_drewN | apply Kd.R_drew)); exact HO217.out))) (Kd.R_lt (by (with_reducible repeat (first | apply Kd.R_alloc | apply Kd.R_drewN | apply Kd.R_drew)); exact HO220.out))) (below_size (by repeat (first | (with_reducible first | exact HB.out | apply below_alloc | apply pw_below_drewN | apply below_drew1) | exact HB.out)))); have n3_ := Aside0.mk (below_step (by repeat (first | (with_reducible first | exact HB.out | apply below_alloc | apply pw_below_drewN | apply below_drew1) | exact HB.out)) hb); clear HO217; clear HO220; clear HB; have HO217 := n0_; have HO220 := n1_; have HO224 := n2_; have HB := n3_; clear n0_ n1_ n2_ n3_; (try clear hb); (try clear hb2); (try clear hk); (try clear hi); (try clear ho0)) | (go_at_call 32; (with_reducible refine (billhookref10_Post.calls k _ _ y170 t225 _ ?side1 ?side2 A101.out).mono ?_); (case side1 => repeat (first | exact (Kd.C_below HR173.out HB.out) | (with_reducible refine Kd.C_alloc ?_ _) | (with_reducible refine Kd.C_drewN ?_ _) | (with_reducible refine Kd.C_drew ?_))); (case side2 => exact HC173.out); rintro e w168 ⟨v226, rfl, ho0, hb⟩; have n0_ := Aside0.mk (Kd.R_below (by (with_reducible repeat (first | apply Kd.R_alloc | apply Kd.R_drewN | apply Kd.R_drew)); exact HO217.out) hb); have n1_ := Aside0.mk (Kd.R_below (by (with_reducible repeat (first | apply Kd.R_alloc | apply Kd.R_drewN | apply Kd.R_drew)); exact HO220.out) hb); have n2_ := Aside0.mk (Kd.S_elder' (by (with_reducible repeat (first | apply Kd.S_alloc | apply Kd.S_drewN | apply Kd.S_drew)); exact HO224.out) (Kd.S_base ho0) hb); have n3_ := Aside0.mk (Kd.S_lower (Kd.S_new' (Kd.S_new' (Kd.S_new' ho0 (Kd.R_lt (by (with_reducible repeat (first | apply Kd.R_alloc | apply Kd.R_drewN | apply Kd.R_drew)); exact HO217.out))) (Kd.R_lt (by (with_reducible repeat (first | apply Kd.R_alloc | apply Kd.R_drewN | apply Kd.R_drew)); exact HO220.out))) (Kd.S_lt (by (with_reducible repeat (first | apply Kd.S_alloc | apply Kd.S_drewN | apply Kd.S_drew)); exact HO224.out))) (below_size (by repeat (first | (with_reducible first | exact HB.out | apply below_alloc | apply pw_below_drewN | apply below_drew1) | exact HB.out)))); have n4_ := Aside0.mk (below_step (by repeat (first | (with_reducible first | exact HB.out | apply below_alloc | apply pw_below_drewN | apply below_drew1) | exact HB.out)) hb); clear HO217; clear HO220; clear HO224; clear HB; have HO217 := n0_; have HO220 := n1_; have HO224 := n2_; have HO227 := n3_; have HB := n4_; clear n0_ n1_ n2_ n3_ n4_; (try clear hb); (try clear hb2); (try clear hk); (try clear hi); (try clear ho0); obtain ⟨Ao169, co169, eo169⟩ := Kd.S_slice HO224.out; subst eo169; obtain ⟨Ao170, co170, eo170⟩ := Kd.S_slice HO227.out; subst eo170))
        go_ret
        exact ⟨by first | rfl | (simp [errW_none, errW_some] <;> rfl) | (simp only [← hji8, ← hji94]; first | rfl | (simp [errW_none, errW_some] <;> rfl)) | (simp [*, errW_none, errW_some] <;> rfl), by repeat (first | (with_reducible first | exact HB.out | apply below_alloc | apply pw_below_drewN | apply below_drew1) | exact HB.out)⟩
      ·
       rw [if_neg c96] at H
       exact absurd H (by simp)
     ·
      rw [if_neg c95] at H
      exact absurd H (by simp)
   ·
    rw [if_neg c10] at H
    exact absurd H (by simp)
  ·
   rw [if_neg c9] at H
   exact absurd H (by simp)
 ·
  replace c7 := Bool.eq_false_iff.mpr c7
  subst c7
  have H1 : (some false) = some r := by rw [if_neg (show ¬ (false = true) by decide)] at H; exact H
  clear H
  have H := H1
  clear H1
  obtain rfl := Option.some.inj H
  go_enter Try.func5, Try.ntmps5
  go_wp2_with (first | (go_at_call 26; (with_reducible refine (billhooklaw10_examples.calls  false _ A6.out).mono ?_); rintro e w171 ⟨rfl, hb⟩; have n0_ := Aside0.mk (below_step (by repeat (first | (with_reducible first | exact HB.out | apply below_alloc | apply pw_below_drewN | apply below_drew1) | exact HB.out)) hb); clear HB; have HB := n0_; clear n0_; (try clear hb); (try clear hb2); (try clear hk); (try clear hi)))
  repeat (go_quiet (first | (go_at_call 26; (with_reducible refine (billhooklaw10_examples.calls  false _ A6.out).mono ?_); rintro e w171 ⟨rfl, hb⟩; have n0_ := Aside0.mk (below_step (by repeat (first | (with_reducible first | exact HB.out | apply below_alloc | apply pw_below_drewN | apply below_drew1) | exact HB.out)) hb); clear HB; have HB := n0_; clear n0_; (try clear hb); (try clear hb2); (try clear hk); (try clear hi))); try go_wp2_with (first | (go_at_call 26; (with_reducible refine (billhooklaw10_examples.calls  false _ A6.out).mono ?_); rintro e w171 ⟨rfl, hb⟩; have n0_ := Aside0.mk (below_step (by repeat (first | (with_reducible first | exact HB.out | apply below_alloc | apply pw_below_drewN | apply below_drew1) | exact HB.out)) hb); clear HB; have HB := n0_; clear n0_; (try clear hb); (try clear hb2); (try clear hk); (try clear hi))))
  go_ret
  exact ⟨by first | rfl | (simp [errW_none, errW_some] <;> rfl) | (simp [*, errW_none, errW_some] <;> rfl), by repeat (first | (with_reducible first | exact HB.out | apply below_alloc | apply pw_below_drewN | apply below_drew1) | exact HB.out)⟩
end Go.Proofs.Ytankppgafdcknaa.PTel
/- Of any graph: the program tells what the reference tells. -/
set_option linter.unusedVariables false
set_option linter.unusedSimpArgs false
set_option linter.unusedSectionVars false
set_option maxRecDepth 100000
namespace Go.Proofs.Ytankppgafdcknaa.Pure
open Go Go.RowKit Go.Proofs.YtankppgafdcknaaW.PrintWords Go.Proofs.Ytankppgafdcknaa.PPost Go.Proofs.Ytankppgafdcknaa.PDom Go.Proofs.Ytankppgafdcknaa.PTel Go.Proofs.Ytankppgafdcknaa.Gr
theorem bools_l0 (l : List Bool) (hl : l.length < 9223372036854775807) : ∀ (q i : Nat), i + q = l.length → Ev (fun k => billhooklaw10_bools.l0 k l l (i : Int)) true := by
 intro q
 induction q with
 | zero =>
  intro i hi
  refine Ev.step (f := fun _ => some true) (fun k => ?_) (Ev.now _)
  simp only [billhooklaw10_bools.l0]
  rw [if_neg (by omega)]
 | succ q ih =>
  intro i hi
  refine Ev.step (fun k => ?_) (ih (i + 1) (by omega))
  simp only [billhooklaw10_bools.l0]
  rw [if_pos (by omega), if_pos (by omega), if_pos (by omega), if_neg (by simp), w_succ _ (by omega)]
theorem bools_ev (l : List Bool) (hl : l.length < 9223372036854775807) : Ev (fun k => billhooklaw10_bools.f k l l) true := by
 refine Ev.congr (fun k => ?_) (bools_l0 l hl l.length 0 (by omega))
 unfold billhooklaw10_bools.f
 rw [if_pos rfl]
 rfl
theorem same_l0 (l : List Int) (hl : l.length < 9223372036854775807) : ∀ (q i : Nat), i + q = l.length → Ev (fun k => billhooklaw10_same.l0 k l l (i : Int)) true := by
 intro q
 induction q with
 | zero =>
  intro i hi
  refine Ev.step (f := fun _ => some true) (fun k => ?_) (Ev.now _)
  simp only [billhooklaw10_same.l0]
  rw [if_neg (by omega)]
 | succ q ih =>
  intro i hi
  refine Ev.step (fun k => ?_) (ih (i + 1) (by omega))
  simp only [billhooklaw10_same.l0]
  rw [if_pos (by omega), if_pos (by omega), if_pos (by omega), if_pos trivial, w_succ _ (by omega)]
theorem same_ev (l : List Int) (hl : l.length < 9223372036854775807) : Ev (fun k => billhooklaw10_same.f k l l) true := by
 refine Ev.congr (fun k => ?_) (same_l0 l hl l.length 0 (by omega))
 unfold billhooklaw10_same.f
 rw [if_pos rfl]
 rfl
theorem rows_l0 (xs : List (List Int)) (hl : xs.length < 9223372036854775807) (hr : ∀ i, (PDom.rd_L3 xs i).length < 9223372036854775807) : ∀ (q i : Nat), i + q = xs.length → Ev (fun k => billhooklaw10_rows.l0 k xs xs (i : Int)) true := by
 intro q
 induction q with
 | zero =>
  intro i hi
  refine Ev.step (f := fun _ => some true) (fun k => ?_) (Ev.now _)
  simp only [billhooklaw10_rows.l0]
  rw [if_neg (by omega)]
 | succ q ih =>
  intro i hi
  refine Ev.step (f := fun k => (billhooklaw10_same.f k (PDom.rd_L3 xs (i : Int)) (PDom.rd_L3 xs (i : Int))).bind fun t => if t = true then billhooklaw10_rows.l0 k xs xs (wrap64 ((i : Int) + 1)) else some false) (fun k => ?_) (Ev.bind (same_ev _ (hr _)) (Ev.congr (fun k => ?_) (ih (i + 1) (by omega))))
  ·
   simp only [billhooklaw10_rows.l0]
   rw [if_pos (by omega), if_pos (by omega), if_pos (by omega)]
  ·
   rw [if_pos rfl, w_succ _ (by omega)]
theorem rows_ev (xs : List (List Int)) (hl : xs.length < 9223372036854775807) (hr : ∀ i, (PDom.rd_L3 xs i).length < 9223372036854775807) : Ev (fun k => billhooklaw10_rows.f k xs xs) true := by
 refine Ev.congr (fun k => ?_) (rows_l0 xs hl hr xs.length 0 (by omega))
 unfold billhooklaw10_rows.f
 rw [if_pos rfl]
 rfl
theorem ctlAll_ev {g : List (List Int)} {f : Nat → Nat → Bool} (hp : Ev (fun k => dom_Post.f k g) (Mx g.length f)) (hz : gsz g < 17592186044414) (hn : g.length ≤ 1000000000000) : Ev (fun k => dom_Control.f k g) (ctl g (Mx g.length f)) := by
 refine Ev.bind (f := fun _ r => if ctlOK g r = true then some (ctl g r) else none) hp (Ev.congr (fun _ => ?_) (Ev.now _))
 have hle := len_gsz g
 have : ctlOK g (Mx g.length f) = true := by
  unfold ctlOK
  simp only [Bool.and_eq_true, decide_eq_true_eq, List.all_eq_true]
  refine ⟨⟨⟨?_, fun x hx => ?_⟩, by simp [Mx]⟩, fun x hx => ?_⟩
  ·
   exact hn
  ·
   obtain ⟨i, hi, rfl⟩ := List.mem_iff_getElem.1 hx
   have := row_len_gsz g i
   unfold row at this
   rw [getD_eq _ _ _ hi] at this
   omega
  ·
   simp only [Mx, List.mem_map] at hx
   obtain ⟨i, _, rfl⟩ := hx
   simp
 rw [if_pos this]
theorem ctl_rows (g : List (List Int)) (r : List (List Bool)) (i : Int) : (PDom.rd_L3 (ctl g r) i).length ≤ g.length := by
 unfold PDom.rd_L3 ctl
 generalize i.toNat = j
 rcases Nat.lt_or_ge j g.length with h | h
 ·
  rw [getD_eq _ _ _ (by rw [List.length_map, List.length_range]; exact h), List.getElem_map, List.getElem_range]
  unfold ctlRow
  rw [List.length_map]
  have := List.length_filter_le (ctlIf g r j) (List.range g.length)
  rw [List.length_range] at this
  exact this
 ·
  rw [List.getD_eq_getElem?_getD, List.getElem?_eq_none (by rw [List.length_map, List.length_range]; exact h)]
  exact Nat.zero_le _
section
variable {g : List (List Int)} (hz : gsz g < 17592186044400) (hn : g.length ≤ 1000000000000)
include hz hn
theorem dt_end : ∃ f : Nat → Nat → Bool, Ev (fun k => dom_Post.f k g) (Mx g.length f) ∧ Ev (fun k => billhookref10_Post.f k g) (Mx g.length f) ∧
  ∃ L, Ev (fun k => dom_Least.f k g) L ∧ Ev (fun k => billhookref10_Least.f k g) L ∧ L.length = g.length ∧
  ∃ C, Ev (fun k => dom_Control.f k g) C ∧ Ev (fun k => billhookref10_Control.f k g) C ∧ C.length = g.length ∧ ∀ i, (PDom.rd_L3 C i).length ≤ g.length := by
 have hz : gsz g < 17592186044414 := by omega
 obtain ⟨f, re, hp, hf, hre, hl⟩ := Least_ev g (by omega) hn
 exact ⟨f, hp, rPost_ev hf hz hn, _, hl, rLeast_ev hf hz hn hre, by simp, _, ctlAll_ev hp hz hn, rControl_ev hf hz hn, by simp [ctl], ctl_rows g _⟩
theorem dt_l0 (L : List (List Bool)) (hL : L.length ≤ 1000000000000) (hr : ∀ i, (PTel.rd_L3 L i).length < 9223372036854775807) (Le : List Int) (C : List (List Int)) (h1 : Ev (fun k => dom_Least.f k g) Le) (h2 : Ev (fun k => billhookref10_Least.f k g) Le) (h3 : Le.length = g.length)
  (h4 : Ev (fun k => dom_Control.f k g) C) (h5 : Ev (fun k => billhookref10_Control.f k g) C) (h6 : C.length = g.length) (h7 : ∀ i, (PDom.rd_L3 C i).length ≤ g.length) :
  ∀ (q i : Nat), i + q = L.length → Ev (fun k => billhooklaw10_DomTells.l0 k g true true L L (i : Int)) true ∧ Ev (fun k => billhooklaw10_DomTells.l100 k g true true L L (i : Int)) true := by
 have hend : Ev (fun k => (dom_Least.f k g).bind fun t246 => ((billhookref10_Least.f k g).bind fun t249 => ((billhooklaw10_same.f k t246 t249).bind fun t252 => ((dom_Control.f k g).bind fun t253 => ((billhookref10_Control.f k g).bind fun t256 => ((billhooklaw10_rows.f k t253 t256).bind fun t259 => (if true = true then (if true = true then (if t252 = true then (some t259) else (some false)) else (some false)) else (some false)))))))) true :=
  Ev.bind h1 (Ev.bind h2 (Ev.bind (same_ev Le (by omega)) (Ev.bind h4 (Ev.bind h5 (Ev.bind (rows_ev C (by omega) fun i => by have := h7 i; omega) (Ev.congr (fun _ => by simp) (Ev.now true)))))))
 intro q
 induction q with
 | zero =>
  intro i hi
  constructor
  ·
   refine Ev.step (fun k => ?_) hend
   simp only [billhooklaw10_DomTells.l0]
   rw [if_neg (by omega)]
  ·
   refine Ev.step (fun k => ?_) hend
   simp only [billhooklaw10_DomTells.l100]
   rw [if_neg (by omega)]
 | succ q ih =>
  intro i hi
  obtain ⟨ih1, ih2⟩ := ih (i + 1) (by omega)
  constructor
  ·
   refine Ev.step (f := fun k => (billhooklaw10_bools.f k (PTel.rd_L3 L (i : Int)) (PTel.rd_L3 L (i : Int))).bind fun t => if t = true then billhooklaw10_DomTells.l0 k g true true L L (wrap64 ((i : Int) + 1)) else some false) (fun k => ?_) (Ev.bind (bools_ev _ (hr _)) (Ev.congr (fun k => ?_) ih1))
   ·
    simp only [billhooklaw10_DomTells.l0]
    rw [if_pos (by omega), if_pos (by omega), if_pos (by omega)]
   ·
    rw [if_pos rfl, w_succ _ (by omega)]
  ·
   refine Ev.step (f := fun k => (billhooklaw10_bools.f k (PTel.rd_L3 L (i : Int)) (PTel.rd_L3 L (i : Int))).bind fun t => if t = true then billhooklaw10_DomTells.l100 k g true true L L (wrap64 ((i : Int) + 1)) else some false) (fun k => ?_) (Ev.bind (bools_ev _ (hr _)) (Ev.congr (fun k => ?_) ih2))
   ·
    simp only [billhooklaw10_DomTells.l100]
    rw [if_pos (by omega), if_pos (by omega), if_pos (by omega)]
   ·
    rw [if_pos rfl, w_succ _ (by omega)]
theorem dt_reach (at_ : List Int) (ha : at_.length ≤ 6) : ∃ met, Ev (fun k => dom_Reach.f k g at_) met ∧ Ev (fun k => billhookref10_Reach.f k g at_) met ∧ met.length = g.length := by
 obtain ⟨m1, h1, l1, e1⟩ := Reach_ev g at_ (by omega) (by omega)
 obtain ⟨m2, h2, l2, e2⟩ := rReach_ev g at_ (by omega)
 have : m1 = m2 := by
  apply List.ext_getElem (by omega)
  intro i hi1 hi2
  have h := (e1 i).trans (e2 i).symm
  unfold mkd at h
  rw [getD_eq _ _ _ hi1, getD_eq _ _ _ hi2] at h
  exact Bool.eq_iff_iff.2 h
 subst this
 exact ⟨m1, h1, h2, l1⟩
theorem dt_all (at_ : List Int) (ha : at_.length ≤ 6) (N : Nat → Bool → Bool → List (List Bool) → List (List Bool) → Option Bool) (hN : ∀ L, L.length ≤ 1000000000000 → (∀ i, (PTel.rd_L3 L i).length < 9223372036854775807) → ∀ (Le : List Int) (C : List (List Int)), Ev (fun k => dom_Least.f k g) Le → Ev (fun k => billhookref10_Least.f k g) Le → Le.length = g.length →
  Ev (fun k => dom_Control.f k g) C → Ev (fun k => billhookref10_Control.f k g) C → C.length = g.length → (∀ i, (PDom.rd_L3 C i).length ≤ g.length) → Ev (fun k => N k true true L L) true) :
  Ev (fun k => (dom_Reach.f k g at_).bind fun t230 => ((billhookref10_Reach.f k g at_).bind fun t233 => ((billhooklaw10_bools.f k t230 t233).bind fun t236 => ((dom_Post.f k g).bind fun t237 => ((billhookref10_Post.f k g).bind fun t240 => (if (t237.length : Int) = (t240.length : Int) then (N k true t236 t237 t240) else (some false))))))) true := by
 obtain ⟨met, r1, r2, rl⟩ := dt_reach hz hn at_ ha
 obtain ⟨f, p1, p2, Le, h1, h2, h3, C, h4, h5, h6, h7⟩ := dt_end hz hn
 refine Ev.bind r1 (Ev.bind r2 (Ev.bind (bools_ev met (by omega)) (Ev.bind p1 (Ev.bind p2 (Ev.congr (fun k => ?_) (hN (Mx g.length f) (by rw [Mx_len]; exact hn) (fun i => ?_) Le C h1 h2 h3 h4 h5 h6 h7))))))
 ·
  rw [if_pos rfl]
 ·
  unfold PTel.rd_L3
  rcases Nat.lt_or_ge i.toNat g.length with h | h
  ·
   rw [Mx_row _ _ _ h]
   simp
   omega
  ·
   rw [List.getD_eq_getElem?_getD, List.getElem?_eq_none (by simpa [Mx] using h)]
   simp
end
theorem mn_nat (a b : Nat) : mn (a : Int) (b : Int) = ((min a b : Nat) : Int) := by
 unfold mn
 split <;> omega
theorem gsz_take (l : List (List Int)) (m : Nat) : gsz (l.take m) ≤ gsz l := by
 unfold gsz
 induction l generalizing m with
 | nil => simp
 | cons a l ih =>
  cases m with
  | zero => simp
  | succ m =>
   have := ih m
   simp only [List.take_succ_cons, List.map_cons, List.sum_cons]
   omega
theorem DomTells (l0 : List (List Int)) (a1 : Bool) (l2 : List Int) (a3 : Int) (l4 : List Int) (h0 : gsz l0 ≤ 1048576) (h2 : ∀ x ∈ l2, (Lit.int .u8 x).wf = true) (h3 : (Lit.int .u8 a3).wf = true) : ∃ k, billhooklaw10_DomTells.f k l0 a1 l2 a3 l4 = some true := by
 apply Ev.rounds
 unfold billhooklaw10_DomTells.f
 have m0 : mn (l0.length : Int) 12 = ((min l0.length 12 : Nat) : Int) := mn_nat _ 12
 have m4 : mn (l4.length : Int) 6 = ((min l4.length 6 : Nat) : Int) := mn_nat _ 6
 have t4 : (l4.take (min l4.length 6)).length ≤ 6 := by rw [List.length_take]; omega
 have c1 : (0 : Int) ≤ ((min l0.length 12 : Nat) : Int) := by omega
 have c2 : ((min l0.length 12 : Nat) : Int) ≤ (l0.length : Int) := by omega
 have c3 : (0 : Int) ≤ ((min l4.length 6 : Nat) : Int) := by omega
 have c4 : ((min l4.length 6 : Nat) : Int) ≤ (l4.length : Int) := by omega
 simp only [ex_f, Option.bind_some, if_true, m0, m4, if_pos c1, if_pos c2, if_pos c3, if_pos c4, nat_toNat]
 cases a1 with
 | true =>
  obtain ⟨xs, hx, hw⟩ := web_ev l2 a3 h2 h3
  have hs := hw.gsz
  have hl := hw.le
  simp only [if_true]
  exact Ev.bind hx (dt_all (by omega) (by omega) _ t4 (fun k a b c d => billhooklaw10_DomTells.l0 k xs a b c d 0) fun L hL hr Le C e1 e2 e3 e4 e5 e6 e7 => (dt_l0 (by omega) (by omega) L hL hr Le C e1 e2 e3 e4 e5 e6 e7 L.length 0 (by omega)).1)
 | false =>
  simp only [Bool.false_eq_true, if_false]
  have hs := gsz_take l0 (min l0.length 12)
  have hl := len_gsz (l0.take (min l0.length 12))
  exact dt_all (by omega) (by omega) _ t4 (fun k a b c d => billhooklaw10_DomTells.l100 k _ a b c d 0) fun L hL hr Le C e1 e2 e3 e4 e5 e6 e7 => (dt_l0 (by omega) (by omega) L hL hr Le C e1 e2 e3 e4 e5 e6 e7 L.length 0 (by omega)).2
end Go.Proofs.Ytankppgafdcknaa.Pure
/- The statement DomTells, of inputs of bulk at most 1048576: out of the law and the walk. -/
set_option linter.unusedVariables false
set_option linter.unusedSimpArgs false
set_option maxRecDepth 100000
namespace Go.Proofs.Ytankppgafdcknaa.domTells
open Go.ChangeShapes Go.WideShapes Go.ChangeAt Go.RowKit Go.Proofs.YtankppgafdcknaaW.PrintWords
theorem own : ownKnob Try.prog.godebug = none := by kernel_rfl
theorem laidOut : laidOutB Try.prog = true := by kernel_rfl
theorem one_le {H : Type} (d : DataW H) : 1 ≤ Rows.uptoBulk d := by
 cases d with
 | lit l => cases l <;> simp [Rows.uptoBulk]
 | nil => simp [Rows.uptoBulk]
 | ptr d => simp [Rows.uptoBulk]
 | slice elems spare => simp [Rows.uptoBulk]
 | agg parts => simp [Rows.uptoBulk]
 | iface t d => simp [Rows.uptoBulk]
 | map entries => simp [Rows.uptoBulk]
 | held h => simp [Rows.uptoBulk]
theorem length_le {H : Type} (l : List (DataW H)) : l.length ≤ Rows.uptoBulkAll l := by
 induction l with
 | nil => simp [Rows.uptoBulkAll]
 | cons x r ih => have := one_le x; simp only [Rows.uptoBulkAll, List.length_cons]; omega
theorem slice_le {H : Type} (elems spare : List (DataW H)) : Rows.uptoBulkAll elems + 1 ≤ Rows.uptoBulk (.slice elems spare) := by
 simp only [Rows.uptoBulk]
 omega
section
variable {H : Type} {enc : TypeId × Value → H} {W : World} {fuel : Nat}
theorem row_of {t e : TypeId} {k : IntKind} (ht : Try.prog.underlying t = some (.slice e)) (he : Try.prog.underlying e = some (.int k)) (hc : Try.prog.cellsOf e = 1) {v : Value} {x : DataW H × List MemPlace}
  (h : DataW.trod enc Try.prog W 0 (fun _ => true) true fuel t [v] = some x) :
  ∃ (xs : List Int) (A : Option Addr) (c : Nat), v = .slice A xs.length c ∧ xs.length ≤ c ∧ Kd.C (Kd.int k) W A xs.length xs ∧ xs.length + 1 ≤ Rows.uptoBulk x.1 ∧ ∀ n ∈ xs, (Lit.int k n).wf = true := by
 rcases open_ints ht he hc h with ⟨hcs, rfl⟩ | ⟨a, len, cap, zs, hcs, _, hl, hm, hz, rfl, hcell, hwf⟩
 ·
  obtain rfl : v = .slice none 0 0 := by simpa using hcs
  exact ⟨[], none, 0, rfl, Nat.le_refl _, ⟨rfl, by simp, fun h => absurd h (by simp)⟩, by simp [Rows.uptoBulk], fun n hn => by simp at hn⟩
 ·
  obtain rfl : v = .slice (some a) len cap := by simpa using hcs
  have hz : zs.length = cap := by simpa using hz
  obtain ⟨l, rfl, hr, _, hw, hc⟩ := ReadsInt.ofRowC (k := k) (w := W) (a := some a) (len := len) (cap := cap) (zs := zs) (.inr ⟨a, rfl, hl, hm, hz, hcell, hwf⟩)
  refine ⟨l, some a, cap, rfl, hc, Kd.C_of_reads (d := (0 : Int)) (h1 := fun _ => rfl) hr, ?_, hw⟩
  have h1 := length_le (lits (H := H) k (zs.take l.length))
  have h2 := slice_le (lits (H := H) k (zs.take l.length)) (lits (H := H) k (zs.drop l.length))
  have h3 : (lits (H := H) k (zs.take l.length)).length = l.length := by simp [lits]; omega
  show l.length + 1 ≤ Rows.uptoBulk (DataW.slice (lits k (zs.take l.length)) (lits k (zs.drop l.length)))
  omega
theorem pick {α : Type} [Inhabited α] {p : Nat → α → Prop} (n : Nat) (h : ∀ i, i < n → ∃ v, p i v) : ∃ V : Nat → α, ∀ i, i < n → p i (V i) :=
 ⟨fun i => if hi : i < n then Classical.choose (h i hi) else default, fun i hi => by
  simp only [dif_pos hi]
  exact Classical.choose_spec (h i hi)⟩
theorem sum_bulk (D : Nat → DataW H) (X : Nat → List Int) : ∀ L : List Nat, (∀ i ∈ L, (X i).length + 1 ≤ Rows.uptoBulk (D i)) → ((L.map X).map fun r => r.length + 1).sum ≤ Rows.uptoBulkAll (L.map D) := by
 intro L
 induction L with
 | nil => simp
 | cons a L ih =>
  intro h
  have h1 := h a (by simp)
  have h2 := ih fun i hi => h i (by simp [hi])
  simp only [List.map_cons, List.sum_cons, Rows.uptoBulkAll]
  omega
theorem rows_of {v : Value} {x : DataW H × List MemPlace} (h : DataW.trod enc Try.prog W 0 (fun _ => true) true fuel 53 [v] = some x) :
  ∃ (l : List (List Int)) (A : Option Addr) (c : Nat), v = .slice A l.length c ∧ l.length ≤ c ∧ Kd.C (Kd.slice 3 (Kd.int .i64)) W A l.length l ∧ Gr.gsz l ≤ Rows.uptoBulk x.1 := by
 rcases Go.Deep.open_slice1 Try.underlying53 (by kernel_rfl) h with ⟨hcs, rfl⟩ | ⟨a, len, cap, m, n, V, D, Pl, hcs, _, hl, hm, hmm, rfl, hv⟩
 ·
  obtain rfl : v = .slice none 0 0 := by simpa using hcs
  exact ⟨[], none, 0, rfl, Nat.le_refl _, ⟨rfl, by simp, fun h => absurd h (by simp)⟩, by simp [Gr.gsz]⟩
 ·
  obtain rfl : v = .slice (some a) len cap := by simpa using hcs
  have hmm : m = cap := by simpa using hmm
  subst hmm
  obtain ⟨X, hX⟩ := pick (α := List Int) (p := fun i xs => ∃ (A : Option Addr) (c : Nat), V i = .slice A xs.length c ∧ xs.length ≤ c ∧ Kd.C (Kd.int .i64) W A xs.length xs ∧ xs.length + 1 ≤ Rows.uptoBulk (D i)) len (fun i hi => by
   obtain ⟨xs, A, c, h1, h2, h3, h4, _⟩ := row_of Try.underlying54 Try.underlying3 (by kernel_rfl) (hv i (by omega)).2
   exact ⟨xs, A, c, h1, h2, h3, h4⟩)
  refine ⟨(List.range len).map X, some a, m, by simp, by simpa using hl, ⟨rfl, ?_, fun _ => ⟨a, rfl, fun j p hj => ?_⟩⟩, ?_⟩
  ·
   simp only [List.length_map, List.length_range]
   unfold maxLen at hm
   omega
  ·
   obtain ⟨hj1, hj2⟩ := List.getElem?_eq_some_iff.1 hj
   simp only [List.length_map, List.length_range] at hj1
   simp only [List.getElem_map, List.getElem_range] at hj2
   subst hj2
   obtain ⟨A, c, h1, h2, h3, _⟩ := hX j hj1
   refine ⟨[V j], rfl, ⟨A, c, by rw [h1], h2, h3⟩, fun i u hu => ?_⟩
   have hi : i = 0 := by
    have := (List.getElem?_eq_some_iff.1 hu).1
    simpa using this
   subst hi
   obtain rfl : V j = u := by simpa using hu
   have := (hv j (by omega)).1
   simpa [Kd.slice] using this
  ·
   have h1 := sum_bulk D X (List.range len) fun i hi => by
    obtain ⟨_, _, _, _, _, h4⟩ := hX i (List.mem_range.1 hi)
    exact h4
   have h2 := slice_le ((List.range len).map D) ((List.range (m - len)).map fun j => D (len + j))
   unfold Gr.gsz
   show _ ≤ Rows.uptoBulk (DataW.slice ((List.range len).map D) ((List.range (m - len)).map fun j => D (len + j)))
   omega
end
theorem contract (H : Type) (enc : TypeId × Value → H) (W : World) (base : Nat) (args : Array Value) (ds gs : List (DataW H)) (before : List MemPlace)
  (hval0 : ∀ (j : Nat) t v, Try.f5.params[j]? = some t → args[j]? = some v → Value.okWide Try.prog W .any base t v)
  (hW : DataW.Whole enc Try.prog Try.f5.params.toList Rows.domTellsSpec.vars false W args.toList ds gs before) (hk : Rows.uptoSmall H (ds ++ gs) = true) :
  Calls Try.prog 5 args W fun e W' => ∃ v, e = .returned v ∧ Rows.domTellsSpec.post enc Try.prog Try.f5 false true false false W args v W' := by
 have hval : ∀ (j : Nat) t v, Try.f5.params[j]? = some t → args[j]? = some v → Value.okWide Try.prog W .any base t v := hval0
 have hW' := hW
 obtain ⟨p, q, hA0, hV, rfl, hfz, hnd⟩ := hW
 have hA : DataW.TrodAll enc Try.prog W 0 (fun _ => true) true Try.f5.params.toList args.toList ds p := hA0
 rw [Try.params5] at hA hval
 obtain ⟨v0, vs0, d0, ds0, p0, q0, hargs, rfl, rfl, h0, r0⟩ := trodAll_cons hA
 obtain ⟨v1, vs1, d1, ds1, p1, q1, rfl, rfl, rfl, h1, r1⟩ := trodAll_cons r0
 obtain ⟨v2, vs2, d2, ds2, p2, q2, rfl, rfl, rfl, h2, r2⟩ := trodAll_cons r1
 obtain ⟨v3, vs3, d3, ds3, p3, q3, rfl, rfl, rfl, h3, r3⟩ := trodAll_cons r2
 obtain ⟨v4, vs4, d4, ds4, p4, q4, rfl, rfl, rfl, h4, r4⟩ := trodAll_cons r3
 obtain ⟨rfl, rfl, rfl⟩ := trodAll_nil r4
 obtain rfl : args = #[v0, v1, v2, v3, v4] := by cases args; simp_all
 obtain ⟨rfl, rfl⟩ := trodVars_none hV
 have lt0 : ∀ x ∈ p0, x.block < W.heap.size := by obtain ⟨m, hm⟩ := h0; exact DataW.trod_lt m _ _ _ hm
 have lt2 : ∀ x ∈ p2, x.block < W.heap.size := by obtain ⟨m, hm⟩ := h2; exact DataW.trod_lt m _ _ _ hm
 have lt4 : ∀ x ∈ p4, x.block < W.heap.size := by obtain ⟨m, hm⟩ := h4; exact DataW.trod_lt m _ _ _ hm
 obtain ⟨a1, rfl, rfl, rfl⟩ := open_bool Try.underlying4 (hval 1 4 v1 rfl rfl) h1
 obtain ⟨a3, rfl, rfl, rfl, w3⟩ := open_int Try.underlying5 (hval 3 5 v3 rfl rfl) h3
 obtain ⟨A0, n0, c0, rfl⟩ := okWide_slice Try.underlying53 (hval 0 53 v0 rfl rfl)
 obtain ⟨A2, n2, c2, rfl⟩ := okWide_slice Try.underlying46 (hval 2 46 v2 rfl rfl)
 obtain ⟨A4, n4, c4, rfl⟩ := okWide_slice Try.underlying54 (hval 4 54 v4 rfl rfl)
 obtain ⟨l0, e0, y0, rd0, b0⟩ : ∃ l : List (List Int), n0 = l.length ∧ l.length ≤ c0 ∧ Kd.C (Kd.slice 3 (Kd.int .i64)) W A0 l.length l ∧ Gr.gsz l ≤ Rows.uptoBulk d0 := by
  obtain ⟨m, hm⟩ := h0
  obtain ⟨l, A, c, e, h1, h2, h3⟩ := rows_of (v := .slice A0 n0 c0) (by simpa [Value.cells] using hm)
  injection e with e1 e2 e3
  subst e1; subst e2; subst e3
  exact ⟨l, rfl, h1, h2, h3⟩
 obtain ⟨l2, e2, y2, rd2, w2⟩ : ∃ l : List Int, n2 = l.length ∧ l.length ≤ c2 ∧ Kd.C (Kd.int .u8) W A2 l.length l ∧ ∀ n ∈ l, (Lit.int .u8 n).wf = true := by
  obtain ⟨m, hm⟩ := h2
  obtain ⟨l, A, c, e, h1, h2, h3, h4⟩ := row_of Try.underlying46 Try.underlying5 (by kernel_rfl) (v := .slice A2 n2 c2) (by simpa [Value.cells] using hm)
  injection e with e1 e2 e3
  subst e1; subst e2; subst e3
  exact ⟨l, rfl, h1, h2, h4⟩
 obtain ⟨l4, e4, y4, rd4⟩ : ∃ l : List Int, n4 = l.length ∧ l.length ≤ c4 ∧ Kd.C (Kd.int .i64) W A4 l.length l := by
  obtain ⟨m, hm⟩ := h4
  obtain ⟨l, A, c, e, h1, h2, h3, h4⟩ := row_of Try.underlying54 Try.underlying3 (by kernel_rfl) (v := .slice A4 n4 c4) (by simpa [Value.cells] using hm)
  injection e with e1 e2 e3
  subst e1; subst e2; subst e3
  exact ⟨l, rfl, h1, h2⟩
 subst e0
 subst e2
 subst e4
 have hb : Gr.gsz l0 ≤ 1048576 := by
  have h := of_decide_eq_true hk
  simp only [List.append_nil, Rows.uptoBulkAll] at h
  omega
 obtain ⟨k, hf⟩ := Pure.DomTells l0 a1 l2 a3 l4 hb w2 w3
 refine (PTel.billhooklaw10_DomTells.calls k _ _ l0 a1 _ _ l2 a3 _ _ l4 true W rd0 y0 rd2 y2 rd4 y4 hf).mono fun e W' ⟨he, bel⟩ => ?_
 subst he
 exact ⟨_, rfl, _, _, _, [], _, [], hW', trodAll_mk1 (shut_bool Try.underlying4 _), (trodAll_cons_mk (Below.trod laidOut (by kernel_rfl) (of_decide_eq_true (by kernel_rfl)) h0 bel lt0) (trodAll_cons_mk (shut_bool Try.underlying4 _) (trodAll_cons_mk (Below.trod laidOut (by kernel_rfl) (of_decide_eq_true (by kernel_rfl)) h2 bel lt2) (trodAll_cons_mk (shut_int Try.underlying5 w3) (trodAll_cons_mk (Below.trod laidOut (by kernel_rfl) (of_decide_eq_true (by kernel_rfl)) h4 bel lt4) trodAll_mk0))))), rfl, bel.frame _, fun h => by cases h⟩
theorem lifted (os : Os) (started : os.Started) (H : Type) (enc : TypeId × Value → H) (F : Stop.Interp) :
  ReturnsInHanded {} Try.checked os 5 .any ((Rows.OpenSpec.upto Rows.domTellsSpec).pre6 enc Try.prog Try.f5 Rows.domTellsUptoRow.domain false) (((Rows.OpenSpec.upto Rows.domTellsSpec).at F).post enc Try.prog Try.f5 false true false false) := by
 refine returnsInHanded_of_cond (C := Try.checked) (s := Rows.OpenSpec.upto Rows.domTellsSpec) (k := Rows.uptoSmall) rfl own started (by kernel_rfl) Try.func5
  (OpenSpec.witness (enc := enc) (C := Try.checked) (s := Rows.OpenSpec.upto Rows.domTellsSpec) (k := Rows.uptoSmall) rfl false ⟨#[], #[.slice none 0 0, .bool false, .slice none 0 0, .int .u8 0, .slice none 0 0], []⟩ 8 (by kernel_rfl) (by kernel_rfl) (by kernel_rfl)
   (x := ([.nil, .lit (.bool false), .nil, .lit (.int .u8 0), .nil], [], [])) (by kernel_rfl) rfl (by kernel_rfl)) ?_
 intro W base args ds gs before hval hW _ hk _
 exact contract H enc W base args ds gs before hval hW hk
theorem proved : Rows.DomTellsUptoSaid :=
 OpenClaim.holds_of_cond 5 Try.f5 rfl rfl rfl rfl rfl rfl rfl ⟨rfl, rfl, rfl, rfl, rfl⟩ rfl rfl rfl rfl rfl (by kernel_rfl) Try.func5 (by kernel_rfl)
  (of_decide_eq_true (by kernel_rfl)) (by unfold Func.isWrapper; first | (rw [if_pos (by decide +kernel)]; kernel_rfl) | (rw [if_neg (by decide +kernel)]; exact ⟨rfl, rfl⟩))
  (fun os started H enc _ F => lifted os started H enc F)
end Go.Proofs.Ytankppgafdcknaa.domTells
namespace Go.Proofs.Ytankppgafdcknaa
theorem domTellsUpto_holds : Rows.DomTellsUptoSaid := domTells.proved
end Go.Proofs.Ytankppgafdcknaa