/- Texts joined into one: PDomx8 PureDomCut LawDomCut. -/
import Derived.Test.YtankppgafdcknaaKg
import Derived.Test.YtankppgafdcknaaRows
import Derived.WalkKit
import Derived.ProofKit
import Derived.OpenShut
import Derived.ShutString
import Derived.ChangeOld
import Derived.Below
import Derived.SizedLaws
import Derived.Test.YtankppgafdcknaaKw
/- Printed for this claim by a program. -/
namespace Go.Proofs.Ytankppgafdcknaa.PDom
open Go.Proofs.Ytankppgafdcknaa.PPost
open Go.RowKit Go.Proofs.YtankppgafdcknaaW.PrintWords Go.Proofs.YtankppgafdcknaaW.PrintLast Go.Proofs.YtankppgafdcknaaW.PrintMore
attribute [local go_sem] max2_int min2_int max_two min_two max_three min_three max_four min_four   -- for this text's walks alone
set_option linter.unusedVariables false
set_option linter.unusedSimpArgs false

/-! ### billhooklaw10_DomCut: function 10 -/
mutual
def billhooklaw10_DomCut.l0 : Nat → Bool → List (List Int) → Int → Int → List (List Bool) → List (List Int) → Int → Option (Bool)
  | 0, _, _, _, _, _, _, _ => none
  | k + 1, x9, x10, x11, x12, x13, x14, x15 => if x15 < (x10.length : Int) then (billhooklaw10_DomCut.l1 k x9 x10 x11 x12 x13 x14 x15 ([] : List Int) 0) else ((dom_Reach.f k x14 (([x11] : List Int))).bind fun t274 => (if (x13.length : Int) = (x10.length : Int) then (if 0 ≤ x11 then (if x11 < (x13.length : Int) then (if ((rd_L2 x13 x11).length : Int) = (x10.length : Int) then (if (t274.length : Int) = (x10.length : Int) then (if x11 = x12 then (if x9 = true then (if 0 ≤ x12 then (if x12 < ((rd_L2 x13 x11).length : Int) then (some ((rdOf false (rd_L2 x13 x11) x12) == (!false))) else (none)) else (none)) else (some false)) else (if x12 = (wrap64 ((x10.length : Int) - 1)) then (if x9 = true then (if 0 ≤ x12 then (if x12 < ((rd_L2 x13 x11).length : Int) then (some ((rdOf false (rd_L2 x13 x11) x12) == (!false))) else (none)) else (none)) else (some false)) else (if 0 ≤ (wrap64 ((x10.length : Int) - 1)) then (if (wrap64 ((x10.length : Int) - 1)) < (t274.length : Int) then (if x9 = true then (if 0 ≤ x12 then (if x12 < ((rd_L2 x13 x11).length : Int) then (some ((rdOf false (rd_L2 x13 x11) x12) == (!(rdOf false t274 (wrap64 ((x10.length : Int) - 1)))))) else (none)) else (none)) else (some false)) else (none)) else (none)))) else (some false)) else (some false)) else (none)) else (none)) else (some false)))
def billhooklaw10_DomCut.l1 : Nat → Bool → List (List Int) → Int → Int → List (List Bool) → List (List Int) → Int → List Int → Int → Option (Bool)
  | 0, _, _, _, _, _, _, _, _, _ => none
  | k + 1, x9, x10, x11, x12, x13, x14, x15, x16, x17 => if 0 ≤ x15 then (if x15 < (x10.length : Int) then (if x17 < ((rd_L3 x10 x15).length : Int) then (if 0 ≤ x17 then (if (rd (rd_L3 x10 x15) x17) = x12 then (billhooklaw10_DomCut.l1 k x9 x10 x11 x12 x13 x14 x15 x16 (wrap64 (x17 + 1))) else (if x15 = x12 then (billhooklaw10_DomCut.l1 k x9 x10 x11 x12 x13 x14 x15 x16 (wrap64 (x17 + 1))) else (if x16.length < 17592186044416 then (billhooklaw10_DomCut.l1 k x9 x10 x11 x12 x13 x14 x15 (x16 ++ [rd (rd_L3 x10 x15) x17]) (wrap64 (x17 + 1))) else (none)))) else (none)) else (if x14.length < 5864062014805 then (billhooklaw10_DomCut.l0 k x9 x10 x11 x12 x13 (x14 ++ [x16]) (wrap64 (x15 + 1))) else (none))) else (none)) else (none)
end
def billhooklaw10_DomCut.f (k : Nat) (l0 : List Int) (a1 : Int) (a2 : Int) (a3 : Int) : Option (Bool) := (billhooklaw10_examples.f).bind fun t264 => (if t264 = true then ((billhooklaw10_web.f k l0 a1).bind fun t265 => (if (t265.length : Int) = 0 then (none) else ((dom_Post.f k t265).bind fun t268 => (billhooklaw10_DomCut.l0 k t264 t265 (Int.tmod (wrap64 (a2)) (t265.length : Int)) (Int.tmod (wrap64 (a3)) (t265.length : Int)) t268 ([] : List (List Int)) 0)))) else (some false))
theorem billhooklaw10_DomCut.mono_l : ∀ k, (∀ y0 y1 y2 y3 y4 y5 y6, LeO (billhooklaw10_DomCut.l0 k y0 y1 y2 y3 y4 y5 y6) (billhooklaw10_DomCut.l0 (k + 1) y0 y1 y2 y3 y4 y5 y6)) ∧ (∀ y0 y1 y2 y3 y4 y5 y6 y7 y8, LeO (billhooklaw10_DomCut.l1 k y0 y1 y2 y3 y4 y5 y6 y7 y8) (billhooklaw10_DomCut.l1 (k + 1) y0 y1 y2 y3 y4 y5 y6 y7 y8))
  | 0 => ⟨fun _ _ _ _ _ _ _ r h => by simp [billhooklaw10_DomCut.l0] at h, fun _ _ _ _ _ _ _ _ _ r h => by simp [billhooklaw10_DomCut.l1] at h⟩
  | k + 1 => by
    obtain ⟨ih0, ih1⟩ := billhooklaw10_DomCut.mono_l k
    refine ⟨?_, ?_⟩
    · intro y0 y1 y2 y3 y4 y5 y6
      unfold billhooklaw10_DomCut.l0
      repeat' first
      | (with_reducible exact ih0 _ _ _ _ _ _ _)
      | (with_reducible exact ih1 _ _ _ _ _ _ _ _ _)
      | (with_reducible exact billhooklaw10_web.mono _ _ _)
      | (with_reducible exact dom_Post.mono _ _)
      | (with_reducible exact dom_Reach.mono _ _ _)
      | (with_reducible exact LeO.refl _)
      | (with_reducible exact LeO.none _)
      | (with_reducible refine LeO.ite ?_ ?_)
      | (with_reducible refine LeO.bind ?_ (fun _ => ?_))
      | exact ih0 _ _ _ _ _ _ _
      | exact ih1 _ _ _ _ _ _ _ _ _
      | exact billhooklaw10_web.mono _ _ _
      | exact dom_Post.mono _ _
      | exact dom_Reach.mono _ _ _
      | exact LeO.none _
      | refine LeO.ite ?_ ?_
      | refine LeO.bind ?_ (fun _ => ?_)
    · intro y0 y1 y2 y3 y4 y5 y6 y7 y8
      unfold billhooklaw10_DomCut.l1
      repeat' first
      | (with_reducible exact ih0 _ _ _ _ _ _ _)
      | (with_reducible exact ih1 _ _ _ _ _ _ _ _ _)
      | (with_reducible exact billhooklaw10_web.mono _ _ _)
      | (with_reducible exact dom_Post.mono _ _)
      | (with_reducible exact dom_Reach.mono _ _ _)
      | (with_reducible exact LeO.refl _)
      | (with_reducible exact LeO.none _)
      | (with_reducible refine LeO.ite ?_ ?_)
      | (with_reducible refine LeO.bind ?_ (fun _ => ?_))
      | exact ih0 _ _ _ _ _ _ _
      | exact ih1 _ _ _ _ _ _ _ _ _
      | exact billhooklaw10_web.mono _ _ _
      | exact dom_Post.mono _ _
      | exact dom_Reach.mono _ _ _
      | exact LeO.none _
      | refine LeO.ite ?_ ?_
      | refine LeO.bind ?_ (fun _ => ?_)
theorem billhooklaw10_DomCut.mono : ∀ a0 a1 a2 a3 k, LeO (billhooklaw10_DomCut.f k a0 a1 a2 a3) (billhooklaw10_DomCut.f (k + 1) a0 a1 a2 a3) := by
  intro a0 a1 a2 a3 k
  obtain ⟨ih0, ih1⟩ := billhooklaw10_DomCut.mono_l k
  unfold billhooklaw10_DomCut.f
  repeat' first
      | (with_reducible exact ih0 _ _ _ _ _ _ _)
      | (with_reducible exact ih1 _ _ _ _ _ _ _ _ _)
      | (with_reducible exact billhooklaw10_web.mono _ _ _)
      | (with_reducible exact dom_Post.mono _ _)
      | (with_reducible exact dom_Reach.mono _ _ _)
      | (with_reducible exact LeO.refl _)
      | (with_reducible exact LeO.none _)
      | (with_reducible refine LeO.ite ?_ ?_)
      | (with_reducible refine LeO.bind ?_ (fun _ => ?_))
      | exact ih0 _ _ _ _ _ _ _
      | exact ih1 _ _ _ _ _ _ _ _ _
      | exact billhooklaw10_web.mono _ _ _
      | exact dom_Post.mono _ _
      | exact dom_Reach.mono _ _ _
      | exact LeO.none _
      | refine LeO.ite ?_ ?_
      | refine LeO.bind ?_ (fun _ => ?_)
set_option maxHeartbeats 8000000 in
set_option maxRecDepth 100000 in
theorem billhooklaw10_DomCut.calls (k : Nat) (A0 : Option Addr) (c0 : Nat) (l0 : List Int) (a1 : Int) (a2 : Int) (a3 : Int) (r : Bool) (w : World) (hr0 : Kd.C (Kd.int .u8) w A0 l0.length l0) (hc0 : l0.length ≤ c0) (h : billhooklaw10_DomCut.f k l0 a1 a2 a3 = some r) :
    Calls Try.prog 10 #[.slice A0 l0.length c0, .int .u8 a1, .int .u8 a2, .int .u8 a3] w fun e w' => e = .returned (.bool r) ∧ Below w.heap.size w w' := by
  have HR0 := Aside0.mk hr0
  have HC0 := Aside0.mk hc0
  clear hr0 hc0
  have HB := Aside0.mk (Below.refl w.heap.size w)
  have H : ((billhooklaw10_examples.f).bind fun t264 => (if t264 = true then ((billhooklaw10_web.f k l0 a1).bind fun t265 => (if (t265.length : Int) = 0 then (none) else ((dom_Post.f k t265).bind fun t268 => (billhooklaw10_DomCut.l0 k t264 t265 (Int.tmod (wrap64 (a2)) (t265.length : Int)) (Int.tmod (wrap64 (a3)) (t265.length : Int)) t268 ([] : List (List Int)) 0)))) else (some false))) = some r := h
  clear h
  replace H := Option.bind_eq_some_iff.mp H
  obtain ⟨t264, A50, H⟩ := H
  replace H : (if t264 = true then ((billhooklaw10_web.f k l0 a1).bind fun t265 => (if (t265.length : Int) = 0 then (none) else ((dom_Post.f k t265).bind fun t268 => (billhooklaw10_DomCut.l0 k t264 t265 (Int.tmod (wrap64 (a2)) (t265.length : Int)) (Int.tmod (wrap64 (a3)) (t265.length : Int)) t268 ([] : List (List Int)) 0)))) else (some false)) = some r := H
  have A5 := Aside0.mk A50
  clear A50
  by_cases c6 : t264 = true
  · subst c6
    have H1 : ((billhooklaw10_web.f k l0 a1).bind fun t265 => (if (t265.length : Int) = 0 then (none) else ((dom_Post.f k t265).bind fun t268 => (billhooklaw10_DomCut.l0 k true t265 (Int.tmod (wrap64 (a2)) (t265.length : Int)) (Int.tmod (wrap64 (a3)) (t265.length : Int)) t268 ([] : List (List Int)) 0)))) = some r := by first | (rw [if_pos rfl] at H; exact H) | (rw [if_pos trivial] at H; exact H)
    clear H
    have H := H1
    clear H1
    replace H := Option.bind_eq_some_iff.mp H
    obtain ⟨t265, A70, H⟩ := H
    replace H : (if (t265.length : Int) = 0 then (none) else ((dom_Post.f k t265).bind fun t268 => (billhooklaw10_DomCut.l0 k true t265 (Int.tmod (wrap64 (a2)) (t265.length : Int)) (Int.tmod (wrap64 (a3)) (t265.length : Int)) t268 ([] : List (List Int)) 0))) = some r := H
    have A7 := Aside0.mk A70
    clear A70
    by_cases c8 : (t265.length : Int) = 0
    · rw [if_pos c8] at H
      exact absurd H (by simp)
    · rw [if_neg c8] at H
      have c8b0 : ((t265.length : Int) == 0) = false := beq_eq_false_iff_ne.mpr c8
      have c8b1 : ((t265.length : Int) != 0) = true := bne_iff_ne.mpr c8
      have c8b2 : ¬ (t265 = []) := fun h_ => c8 (by rw [h_]; rfl)
      replace H := Option.bind_eq_some_iff.mp H
      obtain ⟨t268, A90, H⟩ := H
      replace H : (billhooklaw10_DomCut.l0 k true t265 (Int.tmod (wrap64 (a2)) (t265.length : Int)) (Int.tmod (wrap64 (a3)) (t265.length : Int)) t268 ([] : List (List Int)) 0) = some r := H
      have A9 := Aside0.mk A90
      clear A90
      have H' := Aside0.mk H
      clear H
      go_enter Try.func10, Try.ntmps10
      go_wp2_with (first | ((with_reducible refine gate_callee (f := 26) rfl ?_); refine goesL_ (some 20) rfl rfl Try.func26 (by kernel_rfl) rfl #[] rfl (by (try simp only [List.map_toArray, List.map_cons, List.map_nil]); first | done | rfl | (simp only [List.length_drop, List.length_take]; rfl)) ?_; (with_reducible refine (billhooklaw10_examples.calls  true _ A5.out).mono ?_); rintro e w10 ⟨rfl, hb⟩; refine ⟨_, rfl, ?_⟩; have n0_ := Aside0.mk (below_step (by repeat (first | (with_reducible first | exact HB.out | apply below_alloc | apply pw_below_drewN | apply below_drew1) | exact HB.out)) hb); clear HB; have HB := n0_; clear n0_; (try clear hb); (try clear hb2); (try clear hk); (try clear hi)) | ((with_reducible refine gate_callee (f := 27) rfl ?_); refine goesL_ (some 25) rfl rfl Try.func27 (by kernel_rfl) rfl #[.slice A0 l0.length c0, .int .u8 a1] rfl (by (try simp only [List.map_toArray, List.map_cons, List.map_nil]); first | done | rfl | (simp only [List.length_drop, List.length_take]; rfl)) ?_; (with_reducible refine (billhooklaw10_web.calls k _ _ l0 a1 t265 _ ?side1 ?side2 A7.out).mono ?_); (case side1 => repeat (first | exact (Kd.C_below HR0.out HB.out) | (with_reducible refine Kd.C_alloc ?_ _) | (with_reducible refine Kd.C_drewN ?_ _) | (with_reducible refine Kd.C_drew ?_))); (case side2 => exact HC0.out); rintro e w11 ⟨v266, rfl, ho0, hb⟩; refine ⟨_, rfl, ?_⟩; have n0_ := Aside0.mk (Kd.S_lower ho0 (below_size (by repeat (first | (with_reducible first | exact HB.out | apply below_alloc | apply pw_below_drewN | apply below_drew1) | exact HB.out)))); have n1_ := Aside0.mk (below_step (by repeat (first | (with_reducible first | exact HB.out | apply below_alloc | apply pw_below_drewN | apply below_drew1) | exact HB.out)) hb); clear HB; have HO267 := n0_; have HB := n1_; clear n0_ n1_; (try clear hb); (try clear hb2); (try clear hk); (try clear hi); (try clear ho0); obtain ⟨Ao12, co12, eo12⟩ := Kd.S_slice HO267.out; subst eo12) | ((with_reducible refine gate_callee (f := 31) rfl ?_); refine goesL_ (some 37) rfl rfl Try.func31 (by kernel_rfl) rfl #[.slice Ao12 t265.length co12] rfl (by (try simp only [List.map_toArray, List.map_cons, List.map_nil]); first | done | rfl | (simp only [List.length_drop, List.length_take]; rfl)) ?_; (with_reducible refine (dom_Post.calls k _ _ t265 t268 _ ?side1 ?side2 A9.out).mono ?_); (case side1 => repeat (first | exact (Kd.S_reads' HO267.out).2.2 | (with_reducible refine Kd.C_alloc ?_ _) | (with_reducible refine Kd.C_drewN ?_ _) | (with_reducible refine Kd.C_drew ?_))); (case side2 => exact (Kd.S_reads' HO267.out).2.1); rintro e w13 ⟨v269, rfl, ho0, hb⟩; refine ⟨_, rfl, ?_⟩; have n0_ := Aside0.mk (Kd.S_below (by (with_reducible repeat (first | apply Kd.S_alloc | apply Kd.S_drewN | apply Kd.S_drew)); exact HO267.out) hb); have n1_ := Aside0.mk (Kd.S_lower ho0 (below_size (by repeat (first | (with_reducible first | exact HB.out | apply below_alloc | apply pw_below_drewN | apply below_drew1) | exact HB.out)))); have n2_ := Aside0.mk (below_step (by repeat (first | (with_reducible first | exact HB.out | apply below_alloc | apply pw_below_drewN | apply below_drew1) | exact HB.out)) hb); clear HO267; clear HB; have HO267 := n0_; have HO270 := n1_; have HB := n2_; clear n0_ n1_ n2_; (try clear hb); (try clear hb2); (try clear hk); (try clear hi); (try clear ho0)))
      go_loopg [14, 15] k (fun kq v14 v15 w' => ∃ (x14_1 : List (List Int)) (x15_1 : Int), v15 = .int .i64 x15_1 ∧ Aside0 (billhooklaw10_DomCut.l0 kq true t265 (Int.tmod (wrap64 (a2)) (t265.length : Int)) (Int.tmod (wrap64 (a3)) (t265.length : Int)) t268 x14_1 x15_1 = some r) ∧ Aside0 (kq ≤ k) ∧ Aside0 (Kd.S (Kd.slice 3 (Kd.int .i64)) 54 w' w.heap.size (fun k_ => some k_ ≠ (v14 : Value).ownBlock) (.slice Ao12 t265.length co12) t265) ∧ Aside0 (Kd.S (Kd.slice 4 Kd.bool) 57 w' w.heap.size (fun _ => True) v269 t268) ∧ Aside0 (Kd.S (Kd.slice 3 (Kd.int .i64)) 54 w' w.heap.size (fun k_ => some k_ ≠ ((.slice Ao12 t265.length co12) : Value).ownBlock) v14 x14_1) ∧ Aside0 (Below w.heap.size w w'))
      case atStart => exact ⟨(([] : List (List Int))), (0), (by first | rfl | (simp; done) | (simp [*]; done)), H', ⟨Nat.le_refl _⟩, ⟨by (with_reducible repeat (first | apply Kd.S_alloc | apply Kd.S_drewN | apply Kd.S_drew)); exact Kd.S_mono HO267.out (fun _ hk => (by simp [Value.ownBlock]))⟩, ⟨by (with_reducible repeat (first | apply Kd.S_alloc | apply Kd.S_drewN | apply Kd.S_drew)); exact HO270.out⟩, ⟨by first | exact Kd.S_nil _ _ _ _ _ | exact Kd.N_nil _ _ _ _ _ | exact Kd.V_nil _ _ _ _ _ | exact Kd.Q_nil _ _ _ _ _ | exact Kd.R_nil _ _ _ _ _⟩, ⟨by repeat (first | (with_reducible first | exact HB.out | apply below_alloc | apply pw_below_drewN | apply below_drew1) | exact HB.out)⟩⟩
      case round =>
        clear H'
        try clear c1
        try clear c2
        try clear p2
        try clear c3
        try clear c6
        try clear p6
        try clear c8
        try clear c8b0
        try clear c8b1
        try clear c8b2
        try clear c10
        obtain ⟨x14_1, x15_1, rfl, HA, HK1, HO_10, HO_13, HO_14, HB⟩ := hrel
        cases gk with
        | zero => exact absurd HA.out (by simp [billhooklaw10_DomCut.l0])
        | succ k1 =>
          have H := HA.out
          clear HA
          simp only [billhooklaw10_DomCut.l0] at H
          by_cases c14 : x15_1 < (t265.length : Int)
          · rw [if_pos c14] at H
            have c14b0 : decide (x15_1 < (t265.length : Int)) = true := decide_eq_true c14
            clear c14
            have H' := Aside0.mk H
            clear H
            go_wp2
            go_loopg [16, 17] k1 (fun kq v16 v17 w' => ∃ (x16_2 : List Int) (x17_2 : Int), v17 = .int .i64 x17_2 ∧ Aside0 (billhooklaw10_DomCut.l1 kq true t265 (Int.tmod (wrap64 (a2)) (t265.length : Int)) (Int.tmod (wrap64 (a3)) (t265.length : Int)) t268 x14_1 x15_1 x16_2 x17_2 = some r) ∧ Aside0 (kq ≤ k1) ∧ Aside0 (Kd.S (Kd.slice 3 (Kd.int .i64)) 54 w' w.heap.size (fun k_ => some k_ ≠ (u14 : Value).ownBlock ∧ some k_ ≠ (v16 : Value).ownBlock) (.slice Ao12 t265.length co12) t265) ∧ Aside0 (Kd.S (Kd.slice 4 Kd.bool) 57 w' w.heap.size (fun _ => True) v269 t268) ∧ Aside0 (Kd.S (Kd.slice 3 (Kd.int .i64)) 54 w' w.heap.size (fun k_ => some k_ ≠ ((.slice Ao12 t265.length co12) : Value).ownBlock ∧ some k_ ≠ (v16 : Value).ownBlock) u14 x14_1) ∧ Aside0 (Kd.R (Kd.int .i64) 3 w' w.heap.size (fun _ => True) v16 x16_2) ∧ Aside0 (Below w.heap.size w w'))
            case atStart => exact ⟨(([] : List Int)), (0), (by first | rfl | (simp; done) | (simp [*]; done)), H', ⟨Nat.le_refl _⟩, ⟨by (with_reducible repeat (first | apply Kd.S_alloc | apply Kd.S_drewN | apply Kd.S_drew)); exact Kd.S_mono HO_10.out (fun _ hk => ⟨hk, (by simp [Value.ownBlock])⟩)⟩, ⟨by (with_reducible repeat (first | apply Kd.S_alloc | apply Kd.S_drewN | apply Kd.S_drew)); exact HO_13.out⟩, ⟨by (with_reducible repeat (first | apply Kd.S_alloc | apply Kd.S_drewN | apply Kd.S_drew)); exact Kd.S_mono HO_14.out (fun _ hk => ⟨hk, (by simp [Value.ownBlock])⟩)⟩, ⟨by first | exact Kd.R_nil _ _ _ _ _ | exact Kd.N_nil _ _ _ _ _ | exact Kd.V_nil _ _ _ _ _ | exact Kd.Q_nil _ _ _ _ _ | exact Kd.S_nil _ _ _ _ _⟩, ⟨by repeat (first | (with_reducible first | exact HB.out | apply below_alloc | apply pw_below_drewN | apply below_drew1) | exact HB.out)⟩⟩
            case round =>
              clear H'
              try clear c1
              try clear c2
              try clear p2
              try clear c3
              try clear c6
              try clear p6
              try clear c8
              try clear c8b0
              try clear c8b1
              try clear c8b2
              try clear c10
              try clear c14
              try clear c14b0
              try clear p2
              try clear p6
              obtain ⟨x16_2, x17_2, rfl, HA, HK2, HO_10, HO_13, HO_14, HO_16, HB⟩ := hrel
              cases gk with
              | zero => exact absurd HA.out (by simp [billhooklaw10_DomCut.l1])
              | succ k2 =>
                have H := HA.out
                clear HA
                simp only [billhooklaw10_DomCut.l1] at H
                by_cases c15 : 0 ≤ x15_1
                · rw [if_pos c15] at H
                  have c15b0 : decide (0 ≤ x15_1) = true := decide_eq_true c15
                  clear c15
                  by_cases c16 : x15_1 < (t265.length : Int)
                  · rw [if_pos c16] at H
                    have c16b0 : decide (x15_1 < (t265.length : Int)) = true := decide_eq_true c16
                    clear c16
                    by_cases c17 : x17_2 < ((rd_L3 t265 x15_1).length : Int)
                    · rw [if_pos c17] at H
                      have c17b0 : decide (x17_2 < ((rd_L3 t265 x15_1).length : Int)) = true := decide_eq_true c17
                      clear c17
                      by_cases c18 : 0 ≤ x17_2
                      · rw [if_pos c18] at H
                        have c18b0 : decide (0 ≤ x17_2) = true := decide_eq_true c18
                        clear c18
                        by_cases c19 : (rd (rd_L3 t265 x15_1) x17_2) = (Int.tmod (wrap64 (a3)) (t265.length : Int))
                        · rw [if_pos c19] at H
                          have c19b0 : ((rd (rd_L3 t265 x15_1) x17_2) == (Int.tmod (wrap64 (a3)) (t265.length : Int))) = true := beq_iff_eq.mpr c19
                          have c19b1 : ((rd (rd_L3 t265 x15_1) x17_2) != (Int.tmod (wrap64 (a3)) (t265.length : Int))) = false := bne_eq_false_iff_eq.mpr c19
                          clear c19
                          have H' := Aside0.mk H
                          clear H
                          have p285 : 0 ≤ (x15_1 : Int) := of_decide_eq_true (by first | (with_reducible assumption) | assumption)
                          have q285 : x15_1 < (t265.length : Int) := of_decide_eq_true (by first | (with_reducible assumption) | assumption)
                          obtain ⟨ad285, A285_0, c285_0, e285, hx285_0, hl285_0, hi285_0⟩ := at_L3 (Kd.S_reads' HO_10.out).2.2 x15_1 p285 q285
                          cases e285
                          obtain ⟨ce285, hce285, hMe285, hcc285⟩ := Kd.S_get HO_10.out [] x15_1 p285 (by first | exact q285 | exact of_decide_eq_true (by first | (with_reducible assumption) | assumption) | (have e_ := (Kd.S_reads' HO_10.out).1; omega))
                          obtain ⟨ve285_0, rfl, ge285_0⟩ := hMe285
                          have hv285_0 := hcc285 0 _ rfl
                          rw [Nat.add_zero, show ((Kd.slice 3 (Kd.int .i64))).sz = 1 from rfl, Nat.mul_one] at hv285_0
                          replace hv285_0 := Option.some.inj (hv285_0.symm.trans hx285_0)
                          rw [hv285_0] at ge285_0
                          have HL285_0 := Aside0.mk (show Kd.R (Kd.int .i64) 3 _ _ _ _ (rd_L3 t265 x15_1) from ge285_0)
                          clear hv285_0 ge285_0
                          clear hcc285 hce285
                          have HR285_0 := Aside0.mk hi285_0
                          have HC285_0 := Aside0.mk hl285_0
                          clear hi285_0 hl285_0
                          replace p285 := eq_true p285
                          replace q285 := eq_true q285
                          have p286 : 0 ≤ (x15_1 : Int) := of_decide_eq_true (by first | (with_reducible assumption) | assumption)
                          have q286 : x15_1 < (t265.length : Int) := of_decide_eq_true (by first | (with_reducible assumption) | assumption)
                          obtain ⟨ad286, A286_0, c286_0, e286, hx286_0, hl286_0, hi286_0⟩ := at_L3 (Kd.S_reads' HO_10.out).2.2 x15_1 p286 q286
                          obtain rfl : ad285 = ad286 := (by injection e286)
                          obtain ⟨ce286, hce286, hMe286, hcc286⟩ := Kd.S_get HO_10.out [] x15_1 p286 (by first | exact q286 | exact of_decide_eq_true (by first | (with_reducible assumption) | assumption) | (have e_ := (Kd.S_reads' HO_10.out).1; omega))
                          obtain ⟨ve286_0, rfl, ge286_0⟩ := hMe286
                          have hv286_0 := hcc286 0 _ rfl
                          rw [Nat.add_zero, show ((Kd.slice 3 (Kd.int .i64))).sz = 1 from rfl, Nat.mul_one] at hv286_0
                          replace hv286_0 := Option.some.inj (hv286_0.symm.trans hx286_0)
                          rw [hv286_0] at ge286_0
                          have HL286_0 := Aside0.mk (show Kd.R (Kd.int .i64) 3 _ _ _ _ (rd_L3 t265 x15_1) from ge286_0)
                          clear hv286_0 ge286_0
                          clear hcc286 hce286
                          have HR286_0 := Aside0.mk hi286_0
                          have HC286_0 := Aside0.mk hl286_0
                          clear hi286_0 hl286_0
                          replace p286 := eq_true p286
                          replace q286 := eq_true q286
                          have ea_ := Option.some.inj (hx285_0.symm.trans hx286_0)
                          injection ea_ with ea_ en_ ec_
                          subst ea_
                          subst ec_
                          clear en_
                          have p287 : 0 ≤ (x17_2 : Int) := of_decide_eq_true (by first | (with_reducible assumption) | assumption)
                          have q287 : x17_2 < ((rd_L3 t265 x15_1).length : Int) := of_decide_eq_true (by first | (with_reducible assumption) | assumption)
                          obtain ⟨ad287, e287, hx287_0⟩ := Kd.at_int (by repeat (first | (with_reducible exact HR286_0.out) | (with_reducible refine Kd.C_alloc ?_ _) | (with_reducible refine Kd.C_drewN ?_ _) | (with_reducible refine Kd.C_drew ?_) | exact HR286_0.out)) x17_2 p287 q287
                          cases e287
                          replace p287 := eq_true p287
                          replace q287 := eq_true q287
                          go_wp2
                          go_roundg k2
                          case measure => have := HK1.out; have := HK2.out; omega
                          case rel => exact ⟨(x16_2), (wrap64 (x17_2 + 1)), (by first | rfl | (simp; done) | (simp [*]; done)), H', ⟨by have := HK1.out; have := HK2.out; omega⟩, ⟨by (with_reducible repeat (first | apply Kd.S_alloc | apply Kd.S_drewN | apply Kd.S_drew)); exact HO_10.out⟩, ⟨by (with_reducible repeat (first | apply Kd.S_alloc | apply Kd.S_drewN | apply Kd.S_drew)); exact HO_13.out⟩, ⟨by (with_reducible repeat (first | apply Kd.S_alloc | apply Kd.S_drewN | apply Kd.S_drew)); exact HO_14.out⟩, ⟨by (with_reducible repeat (first | apply Kd.R_alloc | apply Kd.R_drewN | apply Kd.R_drew)); exact HO_16.out⟩, ⟨by repeat (first | (with_reducible first | exact HB.out | apply below_alloc | apply pw_below_drewN | apply below_drew1) | exact HB.out)⟩⟩
                        · rw [if_neg c19] at H
                          have c19b0 : ((rd (rd_L3 t265 x15_1) x17_2) == (Int.tmod (wrap64 (a3)) (t265.length : Int))) = false := beq_eq_false_iff_ne.mpr c19
                          have c19b1 : ((rd (rd_L3 t265 x15_1) x17_2) != (Int.tmod (wrap64 (a3)) (t265.length : Int))) = true := bne_iff_ne.mpr c19
                          by_cases c20 : x15_1 = (Int.tmod (wrap64 (a3)) (t265.length : Int))
                          · rw [if_pos c20] at H
                            have c20b0 : (x15_1 == (Int.tmod (wrap64 (a3)) (t265.length : Int))) = true := beq_iff_eq.mpr c20
                            have c20b1 : (x15_1 != (Int.tmod (wrap64 (a3)) (t265.length : Int))) = false := bne_eq_false_iff_eq.mpr c20
                            clear c20
                            have H' := Aside0.mk H
                            clear H
                            have p285 : 0 ≤ (x15_1 : Int) := of_decide_eq_true (by first | (with_reducible assumption) | assumption)
                            have q285 : x15_1 < (t265.length : Int) := of_decide_eq_true (by first | (with_reducible assumption) | assumption)
                            obtain ⟨ad285, A285_0, c285_0, e285, hx285_0, hl285_0, hi285_0⟩ := at_L3 (Kd.S_reads' HO_10.out).2.2 x15_1 p285 q285
                            cases e285
                            obtain ⟨ce285, hce285, hMe285, hcc285⟩ := Kd.S_get HO_10.out [] x15_1 p285 (by first | exact q285 | exact of_decide_eq_true (by first | (with_reducible assumption) | assumption) | (have e_ := (Kd.S_reads' HO_10.out).1; omega))
                            obtain ⟨ve285_0, rfl, ge285_0⟩ := hMe285
                            have hv285_0 := hcc285 0 _ rfl
                            rw [Nat.add_zero, show ((Kd.slice 3 (Kd.int .i64))).sz = 1 from rfl, Nat.mul_one] at hv285_0
                            replace hv285_0 := Option.some.inj (hv285_0.symm.trans hx285_0)
                            rw [hv285_0] at ge285_0
                            have HL285_0 := Aside0.mk (show Kd.R (Kd.int .i64) 3 _ _ _ _ (rd_L3 t265 x15_1) from ge285_0)
                            clear hv285_0 ge285_0
                            clear hcc285 hce285
                            have HR285_0 := Aside0.mk hi285_0
                            have HC285_0 := Aside0.mk hl285_0
                            clear hi285_0 hl285_0
                            replace p285 := eq_true p285
                            replace q285 := eq_true q285
                            have p286 : 0 ≤ (x15_1 : Int) := of_decide_eq_true (by first | (with_reducible assumption) | assumption)
                            have q286 : x15_1 < (t265.length : Int) := of_decide_eq_true (by first | (with_reducible assumption) | assumption)
                            obtain ⟨ad286, A286_0, c286_0, e286, hx286_0, hl286_0, hi286_0⟩ := at_L3 (Kd.S_reads' HO_10.out).2.2 x15_1 p286 q286
                            obtain rfl : ad285 = ad286 := (by injection e286)
                            obtain ⟨ce286, hce286, hMe286, hcc286⟩ := Kd.S_get HO_10.out [] x15_1 p286 (by first | exact q286 | exact of_decide_eq_true (by first | (with_reducible assumption) | assumption) | (have e_ := (Kd.S_reads' HO_10.out).1; omega))
                            obtain ⟨ve286_0, rfl, ge286_0⟩ := hMe286
                            have hv286_0 := hcc286 0 _ rfl
                            rw [Nat.add_zero, show ((Kd.slice 3 (Kd.int .i64))).sz = 1 from rfl, Nat.mul_one] at hv286_0
                            replace hv286_0 := Option.some.inj (hv286_0.symm.trans hx286_0)
                            rw [hv286_0] at ge286_0
                            have HL286_0 := Aside0.mk (show Kd.R (Kd.int .i64) 3 _ _ _ _ (rd_L3 t265 x15_1) from ge286_0)
                            clear hv286_0 ge286_0
                            clear hcc286 hce286
                            have HR286_0 := Aside0.mk hi286_0
                            have HC286_0 := Aside0.mk hl286_0
                            clear hi286_0 hl286_0
                            replace p286 := eq_true p286
                            replace q286 := eq_true q286
                            have ea_ := Option.some.inj (hx285_0.symm.trans hx286_0)
                            injection ea_ with ea_ en_ ec_
                            subst ea_
                            subst ec_
                            clear en_
                            have p287 : 0 ≤ (x17_2 : Int) := of_decide_eq_true (by first | (with_reducible assumption) | assumption)
                            have q287 : x17_2 < ((rd_L3 t265 x15_1).length : Int) := of_decide_eq_true (by first | (with_reducible assumption) | assumption)
                            obtain ⟨ad287, e287, hx287_0⟩ := Kd.at_int (by repeat (first | (with_reducible exact HR286_0.out) | (with_reducible refine Kd.C_alloc ?_ _) | (with_reducible refine Kd.C_drewN ?_ _) | (with_reducible refine Kd.C_drew ?_) | exact HR286_0.out)) x17_2 p287 q287
                            cases e287
                            replace p287 := eq_true p287
                            replace q287 := eq_true q287
                            go_wp2
                            go_roundg k2
                            case measure => have := HK1.out; have := HK2.out; omega
                            case rel => exact ⟨(x16_2), (wrap64 (x17_2 + 1)), (by first | rfl | (simp; done) | (simp [*]; done)), H', ⟨by have := HK1.out; have := HK2.out; omega⟩, ⟨by (with_reducible repeat (first | apply Kd.S_alloc | apply Kd.S_drewN | apply Kd.S_drew)); exact HO_10.out⟩, ⟨by (with_reducible repeat (first | apply Kd.S_alloc | apply Kd.S_drewN | apply Kd.S_drew)); exact HO_13.out⟩, ⟨by (with_reducible repeat (first | apply Kd.S_alloc | apply Kd.S_drewN | apply Kd.S_drew)); exact HO_14.out⟩, ⟨by (with_reducible repeat (first | apply Kd.R_alloc | apply Kd.R_drewN | apply Kd.R_drew)); exact HO_16.out⟩, ⟨by repeat (first | (with_reducible first | exact HB.out | apply below_alloc | apply pw_below_drewN | apply below_drew1) | exact HB.out)⟩⟩
                          · rw [if_neg c20] at H
                            have c20b0 : (x15_1 == (Int.tmod (wrap64 (a3)) (t265.length : Int))) = false := beq_eq_false_iff_ne.mpr c20
                            have c20b1 : (x15_1 != (Int.tmod (wrap64 (a3)) (t265.length : Int))) = true := bne_iff_ne.mpr c20
                            by_cases c21 : x16_2.length < 17592186044416
                            · rw [if_pos c21] at H
                              have LMc21 := Aside0.mk c21
                              clear c21
                              obtain ⟨y290, hy290⟩ : ∃ y_ : List Int, y_ = (x16_2 ++ [rd (rd_L3 t265 x15_1) x17_2]) := ⟨_, rfl⟩
                              replace H : (billhooklaw10_DomCut.l1 k2 true t265 (Int.tmod (wrap64 (a2)) (t265.length : Int)) (Int.tmod (wrap64 (a3)) (t265.length : Int)) t268 x14_1 x15_1 y290 (wrap64 (x17_2 + 1))) = some r := by first | (rw [hy290]; with_reducible exact H) | (have H2_ := (Option.bind_some _ _).symm.trans H; rw [hy290]; with_reducible exact H2_) | (have H2_ := (Option.bind_some _ _).symm.trans H; with_reducible exact H2_) | with_reducible exact H | (rw [hy290]; exact H) | exact H
                              have Ny290 := Aside0.mk hy290
                              clear hy290
                              have H' := Aside0.mk H
                              clear H
                              have p285 : 0 ≤ (x15_1 : Int) := of_decide_eq_true (by first | (with_reducible assumption) | assumption)
                              have q285 : x15_1 < (t265.length : Int) := of_decide_eq_true (by first | (with_reducible assumption) | assumption)
                              obtain ⟨ad285, A285_0, c285_0, e285, hx285_0, hl285_0, hi285_0⟩ := at_L3 (Kd.S_reads' HO_10.out).2.2 x15_1 p285 q285
                              cases e285
                              obtain ⟨ce285, hce285, hMe285, hcc285⟩ := Kd.S_get HO_10.out [] x15_1 p285 (by first | exact q285 | exact of_decide_eq_true (by first | (with_reducible assumption) | assumption) | (have e_ := (Kd.S_reads' HO_10.out).1; omega))
                              obtain ⟨ve285_0, rfl, ge285_0⟩ := hMe285
                              have hv285_0 := hcc285 0 _ rfl
                              rw [Nat.add_zero, show ((Kd.slice 3 (Kd.int .i64))).sz = 1 from rfl, Nat.mul_one] at hv285_0
                              replace hv285_0 := Option.some.inj (hv285_0.symm.trans hx285_0)
                              rw [hv285_0] at ge285_0
                              have HL285_0 := Aside0.mk (show Kd.R (Kd.int .i64) 3 _ _ _ _ (rd_L3 t265 x15_1) from ge285_0)
                              clear hv285_0 ge285_0
                              clear hcc285 hce285
                              have HR285_0 := Aside0.mk hi285_0
                              have HC285_0 := Aside0.mk hl285_0
                              clear hi285_0 hl285_0
                              replace p285 := eq_true p285
                              replace q285 := eq_true q285
                              have p286 : 0 ≤ (x15_1 : Int) := of_decide_eq_true (by first | (with_reducible assumption) | assumption)
                              have q286 : x15_1 < (t265.length : Int) := of_decide_eq_true (by first | (with_reducible assumption) | assumption)
                              obtain ⟨ad286, A286_0, c286_0, e286, hx286_0, hl286_0, hi286_0⟩ := at_L3 (Kd.S_reads' HO_10.out).2.2 x15_1 p286 q286
                              obtain rfl : ad285 = ad286 := (by injection e286)
                              obtain ⟨ce286, hce286, hMe286, hcc286⟩ := Kd.S_get HO_10.out [] x15_1 p286 (by first | exact q286 | exact of_decide_eq_true (by first | (with_reducible assumption) | assumption) | (have e_ := (Kd.S_reads' HO_10.out).1; omega))
                              obtain ⟨ve286_0, rfl, ge286_0⟩ := hMe286
                              have hv286_0 := hcc286 0 _ rfl
                              rw [Nat.add_zero, show ((Kd.slice 3 (Kd.int .i64))).sz = 1 from rfl, Nat.mul_one] at hv286_0
                              replace hv286_0 := Option.some.inj (hv286_0.symm.trans hx286_0)
                              rw [hv286_0] at ge286_0
                              have HL286_0 := Aside0.mk (show Kd.R (Kd.int .i64) 3 _ _ _ _ (rd_L3 t265 x15_1) from ge286_0)
                              clear hv286_0 ge286_0
                              clear hcc286 hce286
                              have HR286_0 := Aside0.mk hi286_0
                              have HC286_0 := Aside0.mk hl286_0
                              clear hi286_0 hl286_0
                              replace p286 := eq_true p286
                              replace q286 := eq_true q286
                              have ea_ := Option.some.inj (hx285_0.symm.trans hx286_0)
                              injection ea_ with ea_ en_ ec_
                              subst ea_
                              subst ec_
                              clear en_
                              have p287 : 0 ≤ (x17_2 : Int) := of_decide_eq_true (by first | (with_reducible assumption) | assumption)
                              have q287 : x17_2 < ((rd_L3 t265 x15_1).length : Int) := of_decide_eq_true (by first | (with_reducible assumption) | assumption)
                              obtain ⟨ad287, e287, hx287_0⟩ := Kd.at_int (by repeat (first | (with_reducible exact HR286_0.out) | (with_reducible refine Kd.C_alloc ?_ _) | (with_reducible refine Kd.C_drewN ?_ _) | (with_reducible refine Kd.C_drew ?_) | exact HR286_0.out)) x17_2 p287 q287
                              cases e287
                              replace p287 := eq_true p287
                              replace q287 := eq_true q287
                              have p288 : 0 ≤ (x15_1 : Int) := of_decide_eq_true (by first | (with_reducible assumption) | assumption)
                              have q288 : x15_1 < (t265.length : Int) := of_decide_eq_true (by first | (with_reducible assumption) | assumption)
                              obtain ⟨ad288, A288_0, c288_0, e288, hx288_0, hl288_0, hi288_0⟩ := at_L3 (Kd.S_reads' HO_10.out).2.2 x15_1 p288 q288
                              obtain rfl : ad285 = ad288 := (by injection e288)
                              obtain ⟨ce288, hce288, hMe288, hcc288⟩ := Kd.S_get HO_10.out [] x15_1 p288 (by first | exact q288 | exact of_decide_eq_true (by first | (with_reducible assumption) | assumption) | (have e_ := (Kd.S_reads' HO_10.out).1; omega))
                              obtain ⟨ve288_0, rfl, ge288_0⟩ := hMe288
                              have hv288_0 := hcc288 0 _ rfl
                              rw [Nat.add_zero, show ((Kd.slice 3 (Kd.int .i64))).sz = 1 from rfl, Nat.mul_one] at hv288_0
                              replace hv288_0 := Option.some.inj (hv288_0.symm.trans hx288_0)
                              rw [hv288_0] at ge288_0
                              have HL288_0 := Aside0.mk (show Kd.R (Kd.int .i64) 3 _ _ _ _ (rd_L3 t265 x15_1) from ge288_0)
                              clear hv288_0 ge288_0
                              clear hcc288 hce288
                              have HR288_0 := Aside0.mk hi288_0
                              have HC288_0 := Aside0.mk hl288_0
                              clear hi288_0 hl288_0
                              replace p288 := eq_true p288
                              replace q288 := eq_true q288
                              have ea_ := Option.some.inj (hx285_0.symm.trans hx288_0)
                              injection ea_ with ea_ en_ ec_
                              subst ea_
                              subst ec_
                              clear en_
                              have p289 : 0 ≤ (x17_2 : Int) := of_decide_eq_true (by first | (with_reducible assumption) | assumption)
                              have q289 : x17_2 < ((rd_L3 t265 x15_1).length : Int) := of_decide_eq_true (by first | (with_reducible assumption) | assumption)
                              obtain ⟨ad289, e289, hx289_0⟩ := Kd.at_int (by repeat (first | (with_reducible exact HR288_0.out) | (with_reducible refine Kd.C_alloc ?_ _) | (with_reducible refine Kd.C_drewN ?_ _) | (with_reducible refine Kd.C_drew ?_) | exact HR288_0.out)) x17_2 p289 q289
                              cases e289
                              replace p289 := eq_true p289
                              replace q289 := eq_true q289
                              go_wp2_with (first | ((with_reducible refine gate_builtin (b := .append) (xs := #[.tmp 67, .tmp 75]) rfl ?_); (try (refine gate_guard (by rfl) ?_; dsimp only)); at_builtin; refine Kd.R_append (Kd.int .i64) (w0 := w) w.heap.size rfl (.tmp 67) (.tmp 75) 54 3 (.int .i64 0) 8 rfl Try.underlying54 info3 rfl (by decide) (by omega) u16 x16_2 (rd (rd_L3 t265 x15_1) x17_2) [.int .i64 (rd (rd_L3 t265 x15_1) x17_2)] (fun _ => True) (fun _ => False) rfl rfl ?aP (fun _ hk => hk.elim) ?aF ?aO ?aB ?aS ?aL ?_; (case aP => first | exact rfl | exact ⟨_, rfl, Kd.R_nil _ _ _ _ _⟩); (case aB => exact (by repeat (first | (with_reducible first | exact HB.out | apply below_alloc | apply pw_below_drewN | apply below_drew1) | exact HB.out))); (case aF => exact (fun _ _ => trivial)); (case aO => exact (by (with_reducible repeat (first | apply Kd.R_alloc | apply Kd.R_drewN | apply Kd.R_drew)); exact HO_16.out)); (case aS => exact (below_size (by repeat (first | (with_reducible first | exact HB.out | apply below_alloc | apply pw_below_drewN | apply below_drew1) | exact HB.out)))); (case aL => have := LMc21.out; omega); intro v291 w22 ho hb hg hat; rw [← Ny290.out] at ho; have n0_ := Aside0.mk (Kd.S_after (ok := (fun k_ => some k_ ≠ (u14 : Value).ownBlock)) (by (with_reducible repeat (first | apply Kd.S_alloc | apply Kd.S_drewN | apply Kd.S_drew)); exact HO_10.out) hg hat); have n1_ := Aside0.mk (Kd.S_over' (by (with_reducible repeat (first | apply Kd.S_alloc | apply Kd.S_drewN | apply Kd.S_drew)); exact HO_13.out) (Kd.R_typed (by (with_reducible repeat (first | apply Kd.R_alloc | apply Kd.R_drewN | apply Kd.R_drew)); exact HO_16.out)) (by decide) hg); have n2_ := Aside0.mk (Kd.S_after (ok := (fun k_ => some k_ ≠ (.slice (some ad285) t265.length co12 : Value).ownBlock)) (by (with_reducible repeat (first | apply Kd.S_alloc | apply Kd.S_drewN | apply Kd.S_drew)); exact HO_14.out) hg hat); have n3_ := Aside0.mk (Kd.R_after (ok := (fun k_ => some k_ ≠ (.slice (some ad285) t265.length co12 : Value).ownBlock ∧ some k_ ≠ (u14 : Value).ownBlock)) (by (with_reducible repeat (first | apply Kd.R_alloc | apply Kd.R_drewN | apply Kd.R_drew)); exact Kd.R_mono HL285_0.out (fun _ hk => ⟨⟨hk.2, hk.1.1⟩, hk.1.2⟩)) hg hat); have n4_ := Aside0.mk (Kd.R_after (ok := (fun k_ => some k_ ≠ (.slice (some ad285) t265.length co12 : Value).ownBlock ∧ some k_ ≠ (u14 : Value).ownBlock)) (by (with_reducible repeat (first | apply Kd.R_alloc | apply Kd.R_drewN | apply Kd.R_drew)); exact Kd.R_mono HL286_0.out (fun _ hk => ⟨⟨hk.2, hk.1.1⟩, hk.1.2⟩)) hg hat); have n5_ := Aside0.mk (Kd.R_after (ok := (fun k_ => some k_ ≠ (.slice (some ad285) t265.length co12 : Value).ownBlock ∧ some k_ ≠ (u14 : Value).ownBlock)) (by (with_reducible repeat (first | apply Kd.R_alloc | apply Kd.R_drewN | apply Kd.R_drew)); exact Kd.R_mono HL288_0.out (fun _ hk => ⟨⟨hk.2, hk.1.1⟩, hk.1.2⟩)) hg hat); have n6_ := Aside0.mk (hb); have n7_ := Aside0.mk (ho); clear HO_10; clear HO_13; clear HO_14; clear HL285_0; clear HL286_0; clear HL288_0; clear HB; clear HO_16; have HO_10 := n0_; have HO_13 := n1_; have HO_14 := n2_; have HL285_0 := n3_; have HL286_0 := n4_; have HL288_0 := n5_; have HB := n6_; have HO292 := n7_; clear n0_ n1_ n2_ n3_ n4_ n5_ n6_ n7_; clear ho hb hg hat))
                              go_roundg k2
                              case measure => have := HK1.out; have := HK2.out; omega
                              case rel => exact ⟨(y290), (wrap64 (x17_2 + 1)), (by first | rfl | (simp; done) | (simp [*]; done)), H', ⟨by have := HK1.out; have := HK2.out; omega⟩, ⟨by (with_reducible repeat (first | apply Kd.S_alloc | apply Kd.S_drewN | apply Kd.S_drew)); exact HO_10.out⟩, ⟨by (with_reducible repeat (first | apply Kd.S_alloc | apply Kd.S_drewN | apply Kd.S_drew)); exact HO_13.out⟩, ⟨by (with_reducible repeat (first | apply Kd.S_alloc | apply Kd.S_drewN | apply Kd.S_drew)); exact HO_14.out⟩, ⟨by (with_reducible repeat (first | apply Kd.R_alloc | apply Kd.R_drewN | apply Kd.R_drew)); exact HO292.out⟩, ⟨by repeat (first | (with_reducible first | exact HB.out | apply below_alloc | apply pw_below_drewN | apply below_drew1) | exact HB.out)⟩⟩
                            · rw [if_neg c21] at H
                              exact absurd H (by simp)
                      · rw [if_neg c18] at H
                        exact absurd H (by simp)
                    · rw [if_neg c17] at H
                      have c17b0 : decide (x17_2 < ((rd_L3 t265 x15_1).length : Int)) = false := decide_eq_false c17
                      clear c17
                      by_cases c23 : x14_1.length < 5864062014805
                      · rw [if_pos c23] at H
                        have LMc23 := Aside0.mk c23
                        clear c23
                        obtain ⟨y293, hy293⟩ : ∃ y_ : List (List Int), y_ = (x14_1 ++ [x16_2]) := ⟨_, rfl⟩
                        replace H : (billhooklaw10_DomCut.l0 k2 true t265 (Int.tmod (wrap64 (a2)) (t265.length : Int)) (Int.tmod (wrap64 (a3)) (t265.length : Int)) t268 y293 (wrap64 (x15_1 + 1))) = some r := by first | (rw [hy293]; with_reducible exact H) | (have H2_ := (Option.bind_some _ _).symm.trans H; rw [hy293]; with_reducible exact H2_) | (have H2_ := (Option.bind_some _ _).symm.trans H; with_reducible exact H2_) | with_reducible exact H | (rw [hy293]; exact H) | exact H
                        have Ny293 := Aside0.mk hy293
                        clear hy293
                        have H' := Aside0.mk H
                        clear H
                        have p285 : 0 ≤ (x15_1 : Int) := of_decide_eq_true (by first | (with_reducible assumption) | assumption)
                        have q285 : x15_1 < (t265.length : Int) := of_decide_eq_true (by first | (with_reducible assumption) | assumption)
                        obtain ⟨ad285, A285_0, c285_0, e285, hx285_0, hl285_0, hi285_0⟩ := at_L3 (Kd.S_reads' HO_10.out).2.2 x15_1 p285 q285
                        cases e285
                        obtain ⟨ce285, hce285, hMe285, hcc285⟩ := Kd.S_get HO_10.out [] x15_1 p285 (by first | exact q285 | exact of_decide_eq_true (by first | (with_reducible assumption) | assumption) | (have e_ := (Kd.S_reads' HO_10.out).1; omega))
                        obtain ⟨ve285_0, rfl, ge285_0⟩ := hMe285
                        have hv285_0 := hcc285 0 _ rfl
                        rw [Nat.add_zero, show ((Kd.slice 3 (Kd.int .i64))).sz = 1 from rfl, Nat.mul_one] at hv285_0
                        replace hv285_0 := Option.some.inj (hv285_0.symm.trans hx285_0)
                        rw [hv285_0] at ge285_0
                        have HL285_0 := Aside0.mk (show Kd.R (Kd.int .i64) 3 _ _ _ _ (rd_L3 t265 x15_1) from ge285_0)
                        clear hv285_0 ge285_0
                        clear hcc285 hce285
                        have HR285_0 := Aside0.mk hi285_0
                        have HC285_0 := Aside0.mk hl285_0
                        clear hi285_0 hl285_0
                        replace p285 := eq_true p285
                        replace q285 := eq_true q285
                        obtain ⟨Ao25, co25, eo25⟩ := Kd.R_slice HO_16.out
                        subst eo25
                        go_wp2_with (first | ((with_reducible refine gate_builtin (b := .append) (xs := #[.tmp 77, .tmp 79]) rfl ?_); (try (refine gate_guard (by rfl) ?_; dsimp only)); at_builtin; refine Kd.S_append (Kd.slice 3 (Kd.int .i64)) (w0 := w) w.heap.size rfl (.tmp 77) (.tmp 79) 53 54 (.slice none 0 0) 24 rfl Try.underlying53 info54 rfl (by decide) (by omega) u14 x14_1 x16_2 [.slice Ao25 x16_2.length co25] (fun k_ => some k_ ≠ (.slice (some ad285) t265.length co12 : Value).ownBlock) (fun k_ => some k_ = (.slice Ao25 x16_2.length co25 : Value).ownBlock) rfl rfl ?aP (fun k_ hk_ => ((Kd.R_mono (ok' := fun k_ => ((fun k_ => some k_ ≠ (.slice (some ad285) t265.length co12 : Value).ownBlock)) k_ ∧ some k_ ≠ (u14 : Value).ownBlock) (Kd.R_apart' (Kd.R_apart' (HO_16.out) (Kd.S_typed HO_10.out) (by decide)) (Kd.S_typed HO_14.out) (by decide)) (fun k_ hk => ⟨hk.1.2, hk.2⟩))).1 k_ hk_.symm) ?aF ?aO ?aB ?aS ?aL ?_; (case aP => exact Kd.M_row (Kd.R_mono (Kd.R_tight rfl (Kd.R_mono (ok' := fun k_ => ((fun k_ => some k_ ≠ (.slice (some ad285) t265.length co12 : Value).ownBlock)) k_ ∧ some k_ ≠ (u14 : Value).ownBlock) (Kd.R_apart' (Kd.R_apart' (HO_16.out) (Kd.S_typed HO_10.out) (by decide)) (Kd.S_typed HO_14.out) (by decide)) (fun k_ hk => ⟨hk.1.2, hk.2⟩))) (fun _ h_ => h_))); (case aB => exact (by repeat (first | (with_reducible first | exact HB.out | apply below_alloc | apply pw_below_drewN | apply below_drew1) | exact HB.out))); (case aF => exact (fun k_ hk => Kd.fresh' (Kd.S_lt (by (with_reducible repeat (first | apply Kd.S_alloc | apply Kd.S_drewN | apply Kd.S_drew)); exact HO_10.out)) k_ hk)); (case aO => exact (by (with_reducible repeat (first | apply Kd.S_alloc | apply Kd.S_drewN | apply Kd.S_drew)); exact Kd.S_mono HO_14.out (fun k_ hk => ⟨hk.1, fun e_ => hk.2 e_⟩))); (case aS => exact (below_size (by repeat (first | (with_reducible first | exact HB.out | apply below_alloc | apply pw_below_drewN | apply below_drew1) | exact HB.out)))); (case aL => have := LMc23.out; omega); intro v294 w24 ho hb hg hat; rw [← Ny293.out] at ho; have n0_ := Aside0.mk (Kd.S_after (ok := (fun k_ => some k_ ≠ (.slice Ao25 x16_2.length co25 : Value).ownBlock)) (by (with_reducible repeat (first | apply Kd.S_alloc | apply Kd.S_drewN | apply Kd.S_drew)); exact Kd.S_mono HO_10.out (fun _ hk => ⟨hk.2, hk.1⟩)) hg hat); have n1_ := Aside0.mk (Kd.S_over' (by (with_reducible repeat (first | apply Kd.S_alloc | apply Kd.S_drewN | apply Kd.S_drew)); exact HO_13.out) (Kd.S_typed (by (with_reducible repeat (first | apply Kd.S_alloc | apply Kd.S_drewN | apply Kd.S_drew)); exact HO_14.out)) (by decide) hg); have n2_ := Aside0.mk (Kd.R_after (ok := (fun k_ => some k_ ≠ (.slice (some ad285) t265.length co12 : Value).ownBlock ∧ some k_ ≠ (.slice Ao25 x16_2.length co25 : Value).ownBlock)) (by (with_reducible repeat (first | apply Kd.R_alloc | apply Kd.R_drewN | apply Kd.R_drew)); exact Kd.R_mono HL285_0.out (fun _ hk => ⟨⟨hk.2, hk.1.2⟩, hk.1.1⟩)) hg hat); have n3_ := Aside0.mk (hb); have n4_ := Aside0.mk (ho); clear HO_10; clear HO_13; clear HL285_0; clear HB; clear HO_14; clear HO_16; have HO_10 := n0_; have HO_13 := n1_; have HL285_0 := n2_; have HB := n3_; have HO295 := n4_; clear n0_ n1_ n2_ n3_ n4_; clear ho hb hg hat))
                        go_roundg k2
                        case measure => have := HK1.out; have := HK2.out; omega
                        case rel => exact ⟨(y293), (wrap64 (x15_1 + 1)), (by first | rfl | (simp; done) | (simp [*]; done)), H', ⟨by have := HK1.out; have := HK2.out; omega⟩, ⟨by (with_reducible repeat (first | apply Kd.S_alloc | apply Kd.S_drewN | apply Kd.S_drew)); exact Kd.S_mono HO_10.out (fun _ hk => hk.2)⟩, ⟨by (with_reducible repeat (first | apply Kd.S_alloc | apply Kd.S_drewN | apply Kd.S_drew)); exact HO_13.out⟩, ⟨by (with_reducible repeat (first | apply Kd.S_alloc | apply Kd.S_drewN | apply Kd.S_drew)); exact HO295.out⟩, ⟨by repeat (first | (with_reducible first | exact HB.out | apply below_alloc | apply pw_below_drewN | apply below_drew1) | exact HB.out)⟩⟩
                      · rw [if_neg c23] at H
                        exact absurd H (by simp)
                  · rw [if_neg c16] at H
                    exact absurd H (by simp)
                · rw [if_neg c15] at H
                  exact absurd H (by simp)
          · rw [if_neg c14] at H
            have c14b0 : decide (x15_1 < (t265.length : Int)) = false := decide_eq_false c14
            clear c14
            obtain ⟨y271, hy271⟩ : ∃ y_ : List Int, y_ = (([(Int.tmod (wrap64 (a2)) (t265.length : Int))] : List Int)) := ⟨_, rfl⟩
            replace H : ((dom_Reach.f k1 x14_1 y271).bind fun t274 => (if (t268.length : Int) = (t265.length : Int) then (if 0 ≤ (Int.tmod (wrap64 (a2)) (t265.length : Int)) then (if (Int.tmod (wrap64 (a2)) (t265.length : Int)) < (t268.length : Int) then (if ((rd_L2 t268 (Int.tmod (wrap64 (a2)) (t265.length : Int))).length : Int) = (t265.length : Int) then (if (t274.length : Int) = (t265.length : Int) then (if (Int.tmod (wrap64 (a2)) (t265.length : Int)) = (Int.tmod (wrap64 (a3)) (t265.length : Int)) then (if true = true then (if 0 ≤ (Int.tmod (wrap64 (a3)) (t265.length : Int)) then (if (Int.tmod (wrap64 (a3)) (t265.length : Int)) < ((rd_L2 t268 (Int.tmod (wrap64 (a2)) (t265.length : Int))).length : Int) then (some ((rdOf false (rd_L2 t268 (Int.tmod (wrap64 (a2)) (t265.length : Int))) (Int.tmod (wrap64 (a3)) (t265.length : Int))) == (!false))) else (none)) else (none)) else (some false)) else (if (Int.tmod (wrap64 (a3)) (t265.length : Int)) = (wrap64 ((t265.length : Int) - 1)) then (if true = true then (if 0 ≤ (Int.tmod (wrap64 (a3)) (t265.length : Int)) then (if (Int.tmod (wrap64 (a3)) (t265.length : Int)) < ((rd_L2 t268 (Int.tmod (wrap64 (a2)) (t265.length : Int))).length : Int) then (some ((rdOf false (rd_L2 t268 (Int.tmod (wrap64 (a2)) (t265.length : Int))) (Int.tmod (wrap64 (a3)) (t265.length : Int))) == (!false))) else (none)) else (none)) else (some false)) else (if 0 ≤ (wrap64 ((t265.length : Int) - 1)) then (if (wrap64 ((t265.length : Int) - 1)) < (t274.length : Int) then (if true = true then (if 0 ≤ (Int.tmod (wrap64 (a3)) (t265.length : Int)) then (if (Int.tmod (wrap64 (a3)) (t265.length : Int)) < ((rd_L2 t268 (Int.tmod (wrap64 (a2)) (t265.length : Int))).length : Int) then (some ((rdOf false (rd_L2 t268 (Int.tmod (wrap64 (a2)) (t265.length : Int))) (Int.tmod (wrap64 (a3)) (t265.length : Int))) == (!(rdOf false t274 (wrap64 ((t265.length : Int) - 1)))))) else (none)) else (none)) else (some false)) else (none)) else (none)))) else (some false)) else (some false)) else (none)) else (none)) else (some false))) = some r := by first | (rw [hy271]; with_reducible exact H) | (have H2_ := (Option.bind_some _ _).symm.trans H; rw [hy271]; with_reducible exact H2_) | (have H2_ := (Option.bind_some _ _).symm.trans H; with_reducible exact H2_) | with_reducible exact H | (rw [hy271]; exact H) | exact H
            have Ny271 := Aside0.mk hy271
            clear hy271
            replace H := Option.bind_eq_some_iff.mp H
            obtain ⟨t274, A260, H⟩ := H
            replace H : (if (t268.length : Int) = (t265.length : Int) then (if 0 ≤ (Int.tmod (wrap64 (a2)) (t265.length : Int)) then (if (Int.tmod (wrap64 (a2)) (t265.length : Int)) < (t268.length : Int) then (if ((rd_L2 t268 (Int.tmod (wrap64 (a2)) (t265.length : Int))).length : Int) = (t265.length : Int) then (if (t274.length : Int) = (t265.length : Int) then (if (Int.tmod (wrap64 (a2)) (t265.length : Int)) = (Int.tmod (wrap64 (a3)) (t265.length : Int)) then (if true = true then (if 0 ≤ (Int.tmod (wrap64 (a3)) (t265.length : Int)) then (if (Int.tmod (wrap64 (a3)) (t265.length : Int)) < ((rd_L2 t268 (Int.tmod (wrap64 (a2)) (t265.length : Int))).length : Int) then (some ((rdOf false (rd_L2 t268 (Int.tmod (wrap64 (a2)) (t265.length : Int))) (Int.tmod (wrap64 (a3)) (t265.length : Int))) == (!false))) else (none)) else (none)) else (some false)) else (if (Int.tmod (wrap64 (a3)) (t265.length : Int)) = (wrap64 ((t265.length : Int) - 1)) then (if true = true then (if 0 ≤ (Int.tmod (wrap64 (a3)) (t265.length : Int)) then (if (Int.tmod (wrap64 (a3)) (t265.length : Int)) < ((rd_L2 t268 (Int.tmod (wrap64 (a2)) (t265.length : Int))).length : Int) then (some ((rdOf false (rd_L2 t268 (Int.tmod (wrap64 (a2)) (t265.length : Int))) (Int.tmod (wrap64 (a3)) (t265.length : Int))) == (!false))) else (none)) else (none)) else (some false)) else (if 0 ≤ (wrap64 ((t265.length : Int) - 1)) then (if (wrap64 ((t265.length : Int) - 1)) < (t274.length : Int) then (if true = true then (if 0 ≤ (Int.tmod (wrap64 (a3)) (t265.length : Int)) then (if (Int.tmod (wrap64 (a3)) (t265.length : Int)) < ((rd_L2 t268 (Int.tmod (wrap64 (a2)) (t265.length : Int))).length : Int) then (some ((rdOf false (rd_L2 t268 (Int.tmod (wrap64 (a2)) (t265.length : Int))) (Int.tmod (wrap64 (a3)) (t265.length : Int))) == (!(rdOf false t274 (wrap64 ((t265.length : Int) - 1)))))) else (none)) else (none)) else (some false)) else (none)) else (none)))) else (some false)) else (some false)) else (none)) else (none)) else (some false)) = some r := H
            have A26 := Aside0.mk A260
            clear A260
            by_cases c27 : (t268.length : Int) = (t265.length : Int)
            · rw [if_pos c27] at H
              have c27b0 : ((t268.length : Int) == (t265.length : Int)) = true := beq_iff_eq.mpr c27
              have c27b1 : ((t268.length : Int) != (t265.length : Int)) = false := bne_eq_false_iff_eq.mpr c27
              have c27b2 : (t268.length == t265.length) = true := by first | simpa using c27 | (simp at c27 ⊢; omega)
              clear c27
              obtain ⟨ji28, hji28⟩ : ∃ j_ : Int, (Int.tmod (wrap64 (a2)) (t265.length : Int)) = j_ := ⟨_, rfl⟩
              replace H : (if 0 ≤ (ji28) then (if (ji28) < (t268.length : Int) then (if ((rd_L2 t268 (ji28)).length : Int) = (t265.length : Int) then (if (t274.length : Int) = (t265.length : Int) then (if (ji28) = (Int.tmod (wrap64 (a3)) (t265.length : Int)) then (if true = true then (if 0 ≤ (Int.tmod (wrap64 (a3)) (t265.length : Int)) then (if (Int.tmod (wrap64 (a3)) (t265.length : Int)) < ((rd_L2 t268 (ji28)).length : Int) then (some ((rdOf false (rd_L2 t268 (ji28)) (Int.tmod (wrap64 (a3)) (t265.length : Int))) == (!false))) else (none)) else (none)) else (some false)) else (if (Int.tmod (wrap64 (a3)) (t265.length : Int)) = (wrap64 ((t265.length : Int) - 1)) then (if true = true then (if 0 ≤ (Int.tmod (wrap64 (a3)) (t265.length : Int)) then (if (Int.tmod (wrap64 (a3)) (t265.length : Int)) < ((rd_L2 t268 (ji28)).length : Int) then (some ((rdOf false (rd_L2 t268 (ji28)) (Int.tmod (wrap64 (a3)) (t265.length : Int))) == (!false))) else (none)) else (none)) else (some false)) else (if 0 ≤ (wrap64 ((t265.length : Int) - 1)) then (if (wrap64 ((t265.length : Int) - 1)) < (t274.length : Int) then (if true = true then (if 0 ≤ (Int.tmod (wrap64 (a3)) (t265.length : Int)) then (if (Int.tmod (wrap64 (a3)) (t265.length : Int)) < ((rd_L2 t268 (ji28)).length : Int) then (some ((rdOf false (rd_L2 t268 (ji28)) (Int.tmod (wrap64 (a3)) (t265.length : Int))) == (!(rdOf false t274 (wrap64 ((t265.length : Int) - 1)))))) else (none)) else (none)) else (some false)) else (none)) else (none)))) else (some false)) else (some false)) else (none)) else (none)) = some r := by first | (rw [hji28] at H; exact H) | (simp only [hji28] at H ⊢; exact H)
              (try rw [hji28] at Ny271)
              (try rw [hji28] at A26)
              by_cases c29 : 0 ≤ (ji28)
              · rw [if_pos c29] at H
                have c29b0 : decide (0 ≤ (ji28)) = true := decide_eq_true c29
                clear c29
                by_cases c30 : (ji28) < (t268.length : Int)
                · rw [if_pos c30] at H
                  have c30b0 : decide ((ji28) < (t268.length : Int)) = true := decide_eq_true c30
                  clear c30
                  by_cases c31 : ((rd_L2 t268 (ji28)).length : Int) = (t265.length : Int)
                  · rw [if_pos c31] at H
                    have c31b0 : (((rd_L2 t268 (ji28)).length : Int) == (t265.length : Int)) = true := beq_iff_eq.mpr c31
                    have c31b1 : (((rd_L2 t268 (ji28)).length : Int) != (t265.length : Int)) = false := bne_eq_false_iff_eq.mpr c31
                    have c31b2 : ((rd_L2 t268 (ji28)).length == t265.length) = true := by first | simpa using c31 | (simp at c31 ⊢; omega)
                    clear c31
                    by_cases c32 : (t274.length : Int) = (t265.length : Int)
                    · rw [if_pos c32] at H
                      have c32b0 : ((t274.length : Int) == (t265.length : Int)) = true := beq_iff_eq.mpr c32
                      have c32b1 : ((t274.length : Int) != (t265.length : Int)) = false := bne_eq_false_iff_eq.mpr c32
                      have c32b2 : (t274.length == t265.length) = true := by first | simpa using c32 | (simp at c32 ⊢; omega)
                      clear c32
                      by_cases c33 : (ji28) = (Int.tmod (wrap64 (a3)) (t265.length : Int))
                      · rw [if_pos c33] at H
                        have c33b0 : ((ji28) == (Int.tmod (wrap64 (a3)) (t265.length : Int))) = true := beq_iff_eq.mpr c33
                        have c33b1 : ((ji28) != (Int.tmod (wrap64 (a3)) (t265.length : Int))) = false := bne_eq_false_iff_eq.mpr c33
                        clear c33
                        by_cases c34 : true = true
                        · clear c34
                          have H1 : (if 0 ≤ (Int.tmod (wrap64 (a3)) (t265.length : Int)) then (if (Int.tmod (wrap64 (a3)) (t265.length : Int)) < ((rd_L2 t268 (ji28)).length : Int) then (some ((rdOf false (rd_L2 t268 (ji28)) (Int.tmod (wrap64 (a3)) (t265.length : Int))) == (!false))) else (none)) else (none)) = some r := by first | (rw [if_pos rfl] at H; exact H) | (rw [if_pos trivial] at H; exact H)
                          clear H
                          have H := H1
                          clear H1
                          obtain ⟨ji35, hji35⟩ : ∃ j_ : Int, (Int.tmod (wrap64 (a3)) (t265.length : Int)) = j_ := ⟨_, rfl⟩
                          replace H : (if 0 ≤ (ji35) then (if (ji35) < ((rd_L2 t268 (ji28)).length : Int) then (some ((rdOf false (rd_L2 t268 (ji28)) (ji35)) == (!false))) else (none)) else (none)) = some r := by first | (rw [hji35] at H; exact H) | (simp only [hji35] at H ⊢; exact H)
                          (try rw [hji35] at c33b0)
                          (try rw [hji35] at c33b1)
                          (try rw [hji35] at A26)
                          by_cases c36 : 0 ≤ (ji35)
                          · rw [if_pos c36] at H
                            have c36b0 : decide (0 ≤ (ji35)) = true := decide_eq_true c36
                            clear c36
                            by_cases c37 : (ji35) < ((rd_L2 t268 (ji28)).length : Int)
                            · rw [if_pos c37] at H
                              have c37b0 : decide ((ji35) < ((rd_L2 t268 (ji28)).length : Int)) = true := decide_eq_true c37
                              clear c37
                              obtain rfl := Option.some.inj H
                              go_wp2_with (first | ((with_reducible refine gate_dst (N := 83) rfl ?_); (try (refine gate_guard (by rfl) ?_; dsimp only)); refine Kd.R_lit (Kd.int .i64) _ 3 ?hg (N := 83) ?hd (xs := ([(ji28)] : List Int)) (inner := [.int .i64 (ji28)]) (ok := fun _ => True) (okp := fun _ => True) ?hr ?hp (fun _ hk => hk) trivial (Below.refl _ _) (Nat.le_refl _) (by simp) ?_; (case hd => rfl); (case hg => rfl); (case hr => first | (go_simp; done) | (go_simp; rfl)); (case hp => exact (Reps.one (show Kd.M (Kd.int .i64) _ _ _ (ji28) [.int .i64 (ji28)] from rfl) (Reps.none _ _))); intro v272 w38 ho39 hb hg_ hnew_; clear hg_ hnew_; (first | rw [← Ny271.out] at ho39 | (simp only [Int.reduceToNat] at ho39; rw [← Ny271.out] at ho39)); have n0_ := Aside0.mk (Kd.S_elder' (by (with_reducible repeat (first | apply Kd.S_alloc | apply Kd.S_drewN | apply Kd.S_drew)); exact HO_10.out) (Kd.R_base ho39) hb); have n1_ := Aside0.mk (Kd.S_below (by (with_reducible repeat (first | apply Kd.S_alloc | apply Kd.S_drewN | apply Kd.S_drew)); exact HO_13.out) hb); have n2_ := Aside0.mk (Kd.S_elder' (by (with_reducible repeat (first | apply Kd.S_alloc | apply Kd.S_drewN | apply Kd.S_drew)); exact HO_14.out) (Kd.R_base ho39) hb); have n3_ := Aside0.mk (Kd.R_lower ho39 (below_size (by repeat (first | (with_reducible first | exact HB.out | apply below_alloc | apply pw_below_drewN | apply below_drew1) | exact HB.out)))); have n4_ := Aside0.mk (below_step (by repeat (first | (with_reducible first | exact HB.out | apply below_alloc | apply pw_below_drewN | apply below_drew1) | exact HB.out)) hb); clear HO_10; clear HO_13; clear HO_14; clear HB; have HO_10 := n0_; have HO_13 := n1_; have HO_14 := n2_; have HO273 := n3_; have HB := n4_; clear n0_ n1_ n2_ n3_ n4_; clear hb ho39; obtain ⟨Ao40, co40, eo40⟩ := Kd.S_slice HO_14.out; subst eo40; obtain ⟨Ao41, co41, eo41⟩ := Kd.R_slice HO273.out; subst eo41) | ((with_reducible refine gate_callee (f := 29) rfl ?_); refine goesL_ (some 84) rfl rfl Try.func29 (by kernel_rfl) rfl #[.slice Ao40 x14_1.length co40, .slice Ao41 y271.length co41] rfl (by (try simp only [List.map_toArray, List.map_cons, List.map_nil]); first | done | rfl | (simp only [List.length_drop, List.length_take]; rfl)) ?_; (with_reducible refine (dom_Reach.calls k1 _ _ x14_1 _ _ y271 t274 _ ?side1 ?side2 ?side3 ?side4 A26.out).mono ?_); (case side1 => repeat (first | exact (Kd.S_reads' HO_14.out).2.2 | (with_reducible refine Kd.C_alloc ?_ _) | (with_reducible refine Kd.C_drewN ?_ _) | (with_reducible refine Kd.C_drew ?_))); (case side2 => exact (Kd.S_reads' HO_14.out).2.1); (case side3 => repeat (first | exact (Kd.R_reads' HO273.out).2.2 | (with_reducible refine Kd.C_alloc ?_ _) | (with_reducible refine Kd.C_drewN ?_ _) | (with_reducible refine Kd.C_drew ?_))); (case side4 => exact (Kd.R_reads' HO273.out).2.1); rintro e w42 ⟨v275, rfl, ho0, hb⟩; refine ⟨_, rfl, ?_⟩; have n0_ := Aside0.mk (Kd.S_below (by (with_reducible repeat (first | apply Kd.S_alloc | apply Kd.S_drewN | apply Kd.S_drew)); exact HO_10.out) hb); have n1_ := Aside0.mk (Kd.S_elder' (by (with_reducible repeat (first | apply Kd.S_alloc | apply Kd.S_drewN | apply Kd.S_drew)); exact HO_13.out) (Kd.R_base ho0) hb); have n2_ := Aside0.mk (Kd.S_below (by (with_reducible repeat (first | apply Kd.S_alloc | apply Kd.S_drewN | apply Kd.S_drew)); exact HO_14.out) hb); have n3_ := Aside0.mk (Kd.R_below (by (with_reducible repeat (first | apply Kd.R_alloc | apply Kd.R_drewN | apply Kd.R_drew)); exact HO273.out) hb); have n4_ := Aside0.mk (Kd.R_lower ho0 (below_size (by repeat (first | (with_reducible first | exact HB.out | apply below_alloc | apply pw_below_drewN | apply below_drew1) | exact HB.out)))); have n5_ := Aside0.mk (below_step (by repeat (first | (with_reducible first | exact HB.out | apply below_alloc | apply pw_below_drewN | apply below_drew1) | exact HB.out)) hb); clear HO_10; clear HO_13; clear HO_14; clear HO273; clear HB; have HO_10 := n0_; have HO_13 := n1_; have HO_14 := n2_; have HO273 := n3_; have HO276 := n4_; have HB := n5_; clear n0_ n1_ n2_ n3_ n4_ n5_; (try clear hb); (try clear hb2); (try clear hk); (try clear hi); (try clear ho0); obtain ⟨Ao43, co43, eo43⟩ := Kd.S_slice HO_13.out; subst eo43; have p277 : 0 ≤ ((ji28) : Int) := of_decide_eq_true (by first | (with_reducible assumption) | assumption); have q277 : (ji28) < (t268.length : Int) := of_decide_eq_true (by first | (with_reducible assumption) | assumption); obtain ⟨ad277, A277_0, c277_0, e277, hx277_0, hl277_0, hi277_0⟩ := at_L2 (Kd.S_reads' HO_13.out).2.2 (ji28) p277 q277; cases e277; obtain ⟨ce277, hce277, hMe277, hcc277⟩ := Kd.S_get HO_13.out [] (ji28) p277 (by first | exact q277 | exact of_decide_eq_true (by first | (with_reducible assumption) | assumption) | (have e_ := (Kd.S_reads' HO_13.out).1; omega)); obtain ⟨ve277_0, rfl, ge277_0⟩ := hMe277; have hv277_0 := hcc277 0 _ rfl; rw [Nat.add_zero, show ((Kd.slice 4 Kd.bool)).sz = 1 from rfl, Nat.mul_one] at hv277_0; replace hv277_0 := Option.some.inj (hv277_0.symm.trans hx277_0); rw [hv277_0] at ge277_0; have HL277_0 := Aside0.mk (show Kd.R Kd.bool 4 _ _ _ _ (rd_L2 t268 (ji28)) from ge277_0); clear hv277_0 ge277_0; clear hcc277 hce277; have HR277_0 := Aside0.mk hi277_0; have HC277_0 := Aside0.mk hl277_0; clear hi277_0 hl277_0; replace p277 := eq_true p277; replace q277 := eq_true q277; obtain ⟨Ao44, co44, eo44⟩ := Kd.R_slice HO276.out; subst eo44; have p278 : 0 ≤ ((ji28) : Int) := of_decide_eq_true (by first | (with_reducible assumption) | assumption); have q278 : (ji28) < (t268.length : Int) := of_decide_eq_true (by first | (with_reducible assumption) | assumption); obtain ⟨ad278, A278_0, c278_0, e278, hx278_0, hl278_0, hi278_0⟩ := at_L2 (Kd.S_reads' HO_13.out).2.2 (ji28) p278 q278; obtain rfl : ad277 = ad278 := (by injection e278); obtain ⟨ce278, hce278, hMe278, hcc278⟩ := Kd.S_get HO_13.out [] (ji28) p278 (by first | exact q278 | exact of_decide_eq_true (by first | (with_reducible assumption) | assumption) | (have e_ := (Kd.S_reads' HO_13.out).1; omega)); obtain ⟨ve278_0, rfl, ge278_0⟩ := hMe278; have hv278_0 := hcc278 0 _ rfl; rw [Nat.add_zero, show ((Kd.slice 4 Kd.bool)).sz = 1 from rfl, Nat.mul_one] at hv278_0; replace hv278_0 := Option.some.inj (hv278_0.symm.trans hx278_0); rw [hv278_0] at ge278_0; have HL278_0 := Aside0.mk (show Kd.R Kd.bool 4 _ _ _ _ (rd_L2 t268 (ji28)) from ge278_0); clear hv278_0 ge278_0; clear hcc278 hce278; have HR278_0 := Aside0.mk hi278_0; have HC278_0 := Aside0.mk hl278_0; clear hi278_0 hl278_0; replace p278 := eq_true p278; replace q278 := eq_true q278; have ea_ := Option.some.inj (hx277_0.symm.trans hx278_0); injection ea_ with ea_ en_ ec_; subst ea_; subst ec_; clear en_; have p279 : 0 ≤ ((ji35) : Int) := of_decide_eq_true (by first | (with_reducible assumption) | assumption); have q279 : (ji35) < ((rd_L2 t268 (ji28)).length : Int) := of_decide_eq_true (by first | (with_reducible assumption) | assumption); obtain ⟨ad279, e279, hx279_0⟩ := Kd.at_bool (by repeat (first | (with_reducible exact HR278_0.out) | (with_reducible refine Kd.C_alloc ?_ _) | (with_reducible refine Kd.C_drewN ?_ _) | (with_reducible refine Kd.C_drew ?_) | exact HR278_0.out)) (ji35) p279 q279; cases e279; replace p279 := eq_true p279; replace q279 := eq_true q279))
                              go_ret
                              exact ⟨by first | rfl | (simp [errW_none, errW_some] <;> rfl) | (simp only [← hji28, ← hji35]; first | rfl | (simp [errW_none, errW_some] <;> rfl)) | (simp [*, errW_none, errW_some] <;> rfl), by repeat (first | (with_reducible first | exact HB.out | apply below_alloc | apply pw_below_drewN | apply below_drew1) | exact HB.out)⟩
                            · rw [if_neg c37] at H
                              exact absurd H (by simp)
                          · rw [if_neg c36] at H
                            exact absurd H (by simp)
                        · exact absurd rfl c34
                      · rw [if_neg c33] at H
                        have c33b0 : ((ji28) == (Int.tmod (wrap64 (a3)) (t265.length : Int))) = false := beq_eq_false_iff_ne.mpr c33
                        have c33b1 : ((ji28) != (Int.tmod (wrap64 (a3)) (t265.length : Int))) = true := bne_iff_ne.mpr c33
                        by_cases c52 : (Int.tmod (wrap64 (a3)) (t265.length : Int)) = (wrap64 ((t265.length : Int) - 1))
                        · rw [if_pos c52] at H
                          have c52b0 : ((Int.tmod (wrap64 (a3)) (t265.length : Int)) == (wrap64 ((t265.length : Int) - 1))) = true := beq_iff_eq.mpr c52
                          have c52b1 : ((Int.tmod (wrap64 (a3)) (t265.length : Int)) != (wrap64 ((t265.length : Int) - 1))) = false := bne_eq_false_iff_eq.mpr c52
                          clear c52
                          by_cases c53 : true = true
                          · clear c53
                            have H1 : (if 0 ≤ (Int.tmod (wrap64 (a3)) (t265.length : Int)) then (if (Int.tmod (wrap64 (a3)) (t265.length : Int)) < ((rd_L2 t268 (ji28)).length : Int) then (some ((rdOf false (rd_L2 t268 (ji28)) (Int.tmod (wrap64 (a3)) (t265.length : Int))) == (!false))) else (none)) else (none)) = some r := by first | (rw [if_pos rfl] at H; exact H) | (rw [if_pos trivial] at H; exact H)
                            clear H
                            have H := H1
                            clear H1
                            obtain ⟨ji54, hji54⟩ : ∃ j_ : Int, (Int.tmod (wrap64 (a3)) (t265.length : Int)) = j_ := ⟨_, rfl⟩
                            replace H : (if 0 ≤ (ji54) then (if (ji54) < ((rd_L2 t268 (ji28)).length : Int) then (some ((rdOf false (rd_L2 t268 (ji28)) (ji54)) == (!false))) else (none)) else (none)) = some r := by first | (rw [hji54] at H; exact H) | (simp only [hji54] at H ⊢; exact H)
                            (try rw [hji54] at c33b0)
                            (try rw [hji54] at c33b1)
                            (try rw [hji54] at c52b0)
                            (try rw [hji54] at c52b1)
                            (try rw [hji54] at A26)
                            by_cases c55 : 0 ≤ (ji54)
                            · rw [if_pos c55] at H
                              have c55b0 : decide (0 ≤ (ji54)) = true := decide_eq_true c55
                              clear c55
                              by_cases c56 : (ji54) < ((rd_L2 t268 (ji28)).length : Int)
                              · rw [if_pos c56] at H
                                have c56b0 : decide ((ji54) < ((rd_L2 t268 (ji28)).length : Int)) = true := decide_eq_true c56
                                clear c56
                                obtain rfl := Option.some.inj H
                                go_wp2_with (first | ((with_reducible refine gate_dst (N := 83) rfl ?_); (try (refine gate_guard (by rfl) ?_; dsimp only)); refine Kd.R_lit (Kd.int .i64) _ 3 ?hg (N := 83) ?hd (xs := ([(ji28)] : List Int)) (inner := [.int .i64 (ji28)]) (ok := fun _ => True) (okp := fun _ => True) ?hr ?hp (fun _ hk => hk) trivial (Below.refl _ _) (Nat.le_refl _) (by simp) ?_; (case hd => rfl); (case hg => rfl); (case hr => first | (go_simp; done) | (go_simp; rfl)); (case hp => exact (Reps.one (show Kd.M (Kd.int .i64) _ _ _ (ji28) [.int .i64 (ji28)] from rfl) (Reps.none _ _))); intro v272 w57 ho58 hb hg_ hnew_; clear hg_ hnew_; (first | rw [← Ny271.out] at ho58 | (simp only [Int.reduceToNat] at ho58; rw [← Ny271.out] at ho58)); have n0_ := Aside0.mk (Kd.S_elder' (by (with_reducible repeat (first | apply Kd.S_alloc | apply Kd.S_drewN | apply Kd.S_drew)); exact HO_10.out) (Kd.R_base ho58) hb); have n1_ := Aside0.mk (Kd.S_below (by (with_reducible repeat (first | apply Kd.S_alloc | apply Kd.S_drewN | apply Kd.S_drew)); exact HO_13.out) hb); have n2_ := Aside0.mk (Kd.S_elder' (by (with_reducible repeat (first | apply Kd.S_alloc | apply Kd.S_drewN | apply Kd.S_drew)); exact HO_14.out) (Kd.R_base ho58) hb); have n3_ := Aside0.mk (Kd.R_lower ho58 (below_size (by repeat (first | (with_reducible first | exact HB.out | apply below_alloc | apply pw_below_drewN | apply below_drew1) | exact HB.out)))); have n4_ := Aside0.mk (below_step (by repeat (first | (with_reducible first | exact HB.out | apply below_alloc | apply pw_below_drewN | apply below_drew1) | exact HB.out)) hb); clear HO_10; clear HO_13; clear HO_14; clear HB; have HO_10 := n0_; have HO_13 := n1_; have HO_14 := n2_; have HO273 := n3_; have HB := n4_; clear n0_ n1_ n2_ n3_ n4_; clear hb ho58; obtain ⟨Ao59, co59, eo59⟩ := Kd.S_slice HO_14.out; subst eo59; obtain ⟨Ao60, co60, eo60⟩ := Kd.R_slice HO273.out; subst eo60) | ((with_reducible refine gate_callee (f := 29) rfl ?_); refine goesL_ (some 84) rfl rfl Try.func29 (by kernel_rfl) rfl #[.slice Ao59 x14_1.length co59, .slice Ao60 y271.length co60] rfl (by (try simp only [List.map_toArray, List.map_cons, List.map_nil]); first | done | rfl | (simp only [List.length_drop, List.length_take]; rfl)) ?_; (with_reducible refine (dom_Reach.calls k1 _ _ x14_1 _ _ y271 t274 _ ?side1 ?side2 ?side3 ?side4 A26.out).mono ?_); (case side1 => repeat (first | exact (Kd.S_reads' HO_14.out).2.2 | (with_reducible refine Kd.C_alloc ?_ _) | (with_reducible refine Kd.C_drewN ?_ _) | (with_reducible refine Kd.C_drew ?_))); (case side2 => exact (Kd.S_reads' HO_14.out).2.1); (case side3 => repeat (first | exact (Kd.R_reads' HO273.out).2.2 | (with_reducible refine Kd.C_alloc ?_ _) | (with_reducible refine Kd.C_drewN ?_ _) | (with_reducible refine Kd.C_drew ?_))); (case side4 => exact (Kd.R_reads' HO273.out).2.1); rintro e w61 ⟨v275, rfl, ho0, hb⟩; refine ⟨_, rfl, ?_⟩; have n0_ := Aside0.mk (Kd.S_below (by (with_reducible repeat (first | apply Kd.S_alloc | apply Kd.S_drewN | apply Kd.S_drew)); exact HO_10.out) hb); have n1_ := Aside0.mk (Kd.S_elder' (by (with_reducible repeat (first | apply Kd.S_alloc | apply Kd.S_drewN | apply Kd.S_drew)); exact HO_13.out) (Kd.R_base ho0) hb); have n2_ := Aside0.mk (Kd.S_below (by (with_reducible repeat (first | apply Kd.S_alloc | apply Kd.S_drewN | apply Kd.S_drew)); exact HO_14.out) hb); have n3_ := Aside0.mk (Kd.R_below (by (with_reducible repeat (first | apply Kd.R_alloc | apply Kd.R_drewN | apply Kd.R_drew)); exact HO273.out) hb); have n4_ := Aside0.mk (Kd.R_lower ho0 (below_size (by repeat (first | (with_reducible first | exact HB.out | apply below_alloc | apply pw_below_drewN | apply below_drew1) | exact HB.out)))); have n5_ := Aside0.mk (below_step (by repeat (first | (with_reducible first | exact HB.out | apply below_alloc | apply pw_below_drewN | apply below_drew1) | exact HB.out)) hb); clear HO_10; clear HO_13; clear HO_14; clear HO273; clear HB; have HO_10 := n0_; have HO_13 := n1_; have HO_14 := n2_; have HO273 := n3_; have HO276 := n4_; have HB := n5_; clear n0_ n1_ n2_ n3_ n4_ n5_; (try clear hb); (try clear hb2); (try clear hk); (try clear hi); (try clear ho0); obtain ⟨Ao62, co62, eo62⟩ := Kd.S_slice HO_13.out; subst eo62; have p277 : 0 ≤ ((ji28) : Int) := of_decide_eq_true (by first | (with_reducible assumption) | assumption); have q277 : (ji28) < (t268.length : Int) := of_decide_eq_true (by first | (with_reducible assumption) | assumption); obtain ⟨ad277, A277_0, c277_0, e277, hx277_0, hl277_0, hi277_0⟩ := at_L2 (Kd.S_reads' HO_13.out).2.2 (ji28) p277 q277; cases e277; obtain ⟨ce277, hce277, hMe277, hcc277⟩ := Kd.S_get HO_13.out [] (ji28) p277 (by first | exact q277 | exact of_decide_eq_true (by first | (with_reducible assumption) | assumption) | (have e_ := (Kd.S_reads' HO_13.out).1; omega)); obtain ⟨ve277_0, rfl, ge277_0⟩ := hMe277; have hv277_0 := hcc277 0 _ rfl; rw [Nat.add_zero, show ((Kd.slice 4 Kd.bool)).sz = 1 from rfl, Nat.mul_one] at hv277_0; replace hv277_0 := Option.some.inj (hv277_0.symm.trans hx277_0); rw [hv277_0] at ge277_0; have HL277_0 := Aside0.mk (show Kd.R Kd.bool 4 _ _ _ _ (rd_L2 t268 (ji28)) from ge277_0); clear hv277_0 ge277_0; clear hcc277 hce277; have HR277_0 := Aside0.mk hi277_0; have HC277_0 := Aside0.mk hl277_0; clear hi277_0 hl277_0; replace p277 := eq_true p277; replace q277 := eq_true q277; obtain ⟨Ao63, co63, eo63⟩ := Kd.R_slice HO276.out; subst eo63; have p280 : 0 ≤ ((ji28) : Int) := of_decide_eq_true (by first | (with_reducible assumption) | assumption); have q280 : (ji28) < (t268.length : Int) := of_decide_eq_true (by first | (with_reducible assumption) | assumption); obtain ⟨ad280, A280_0, c280_0, e280, hx280_0, hl280_0, hi280_0⟩ := at_L2 (Kd.S_reads' HO_13.out).2.2 (ji28) p280 q280; obtain rfl : ad277 = ad280 := (by injection e280); obtain ⟨ce280, hce280, hMe280, hcc280⟩ := Kd.S_get HO_13.out [] (ji28) p280 (by first | exact q280 | exact of_decide_eq_true (by first | (with_reducible assumption) | assumption) | (have e_ := (Kd.S_reads' HO_13.out).1; omega)); obtain ⟨ve280_0, rfl, ge280_0⟩ := hMe280; have hv280_0 := hcc280 0 _ rfl; rw [Nat.add_zero, show ((Kd.slice 4 Kd.bool)).sz = 1 from rfl, Nat.mul_one] at hv280_0; replace hv280_0 := Option.some.inj (hv280_0.symm.trans hx280_0); rw [hv280_0] at ge280_0; have HL280_0 := Aside0.mk (show Kd.R Kd.bool 4 _ _ _ _ (rd_L2 t268 (ji28)) from ge280_0); clear hv280_0 ge280_0; clear hcc280 hce280; have HR280_0 := Aside0.mk hi280_0; have HC280_0 := Aside0.mk hl280_0; clear hi280_0 hl280_0; replace p280 := eq_true p280; replace q280 := eq_true q280; have ea_ := Option.some.inj (hx277_0.symm.trans hx280_0); injection ea_ with ea_ en_ ec_; subst ea_; subst ec_; clear en_; have p281 : 0 ≤ ((ji54) : Int) := of_decide_eq_true (by first | (with_reducible assumption) | assumption); have q281 : (ji54) < ((rd_L2 t268 (ji28)).length : Int) := of_decide_eq_true (by first | (with_reducible assumption) | assumption); obtain ⟨ad281, e281, hx281_0⟩ := Kd.at_bool (by repeat (first | (with_reducible exact HR280_0.out) | (with_reducible refine Kd.C_alloc ?_ _) | (with_reducible refine Kd.C_drewN ?_ _) | (with_reducible refine Kd.C_drew ?_) | exact HR280_0.out)) (ji54) p281 q281; cases e281; replace p281 := eq_true p281; replace q281 := eq_true q281))
                                go_ret
                                exact ⟨by first | rfl | (simp [errW_none, errW_some] <;> rfl) | (simp only [← hji28, ← hji54]; first | rfl | (simp [errW_none, errW_some] <;> rfl)) | (simp [*, errW_none, errW_some] <;> rfl), by repeat (first | (with_reducible first | exact HB.out | apply below_alloc | apply pw_below_drewN | apply below_drew1) | exact HB.out)⟩
                              · rw [if_neg c56] at H
                                exact absurd H (by simp)
                            · rw [if_neg c55] at H
                              exact absurd H (by simp)
                          · exact absurd rfl c53
                        · rw [if_neg c52] at H
                          have c52b0 : ((Int.tmod (wrap64 (a3)) (t265.length : Int)) == (wrap64 ((t265.length : Int) - 1))) = false := beq_eq_false_iff_ne.mpr c52
                          have c52b1 : ((Int.tmod (wrap64 (a3)) (t265.length : Int)) != (wrap64 ((t265.length : Int) - 1))) = true := bne_iff_ne.mpr c52
                          obtain ⟨ji71, hji71⟩ : ∃ j_ : Int, (wrap64 ((t265.length : Int) - 1)) = j_ := ⟨_, rfl⟩
                          replace H : (if 0 ≤ (ji71) then (if (ji71) < (t274.length : Int) then (if true = true then (if 0 ≤ (Int.tmod (wrap64 (a3)) (t265.length : Int)) then (if (Int.tmod (wrap64 (a3)) (t265.length : Int)) < ((rd_L2 t268 (ji28)).length : Int) then (some ((rdOf false (rd_L2 t268 (ji28)) (Int.tmod (wrap64 (a3)) (t265.length : Int))) == (!(rdOf false t274 (ji71))))) else (none)) else (none)) else (some false)) else (none)) else (none)) = some r := by first | (rw [hji71] at H; exact H) | (simp only [hji71] at H ⊢; exact H)
                          (try rw [hji71] at c52b0)
                          (try rw [hji71] at c52b1)
                          (try rw [hji71] at A26)
                          have hji71w : (IntKind.i64.wrap ((t265.length : Int) - 1)) = ji71 := (i64_w _).trans hji71
                          by_cases c72 : 0 ≤ (ji71)
                          · rw [if_pos c72] at H
                            have c72b0 : decide (0 ≤ (ji71)) = true := decide_eq_true c72
                            clear c72
                            by_cases c73 : (ji71) < (t274.length : Int)
                            · rw [if_pos c73] at H
                              have c73b0 : decide ((ji71) < (t274.length : Int)) = true := decide_eq_true c73
                              clear c73
                              by_cases c74 : true = true
                              · clear c74
                                have H1 : (if 0 ≤ (Int.tmod (wrap64 (a3)) (t265.length : Int)) then (if (Int.tmod (wrap64 (a3)) (t265.length : Int)) < ((rd_L2 t268 (ji28)).length : Int) then (some ((rdOf false (rd_L2 t268 (ji28)) (Int.tmod (wrap64 (a3)) (t265.length : Int))) == (!(rdOf false t274 (ji71))))) else (none)) else (none)) = some r := by first | (rw [if_pos rfl] at H; exact H) | (rw [if_pos trivial] at H; exact H)
                                clear H
                                have H := H1
                                clear H1
                                obtain ⟨ji75, hji75⟩ : ∃ j_ : Int, (Int.tmod (wrap64 (a3)) (t265.length : Int)) = j_ := ⟨_, rfl⟩
                                replace H : (if 0 ≤ (ji75) then (if (ji75) < ((rd_L2 t268 (ji28)).length : Int) then (some ((rdOf false (rd_L2 t268 (ji28)) (ji75)) == (!(rdOf false t274 (ji71))))) else (none)) else (none)) = some r := by first | (rw [hji75] at H; exact H) | (simp only [hji75] at H ⊢; exact H)
                                (try rw [hji75] at c33b0)
                                (try rw [hji75] at c33b1)
                                (try rw [hji75] at c52b0)
                                (try rw [hji75] at c52b1)
                                (try rw [hji75] at A26)
                                by_cases c76 : 0 ≤ (ji75)
                                · rw [if_pos c76] at H
                                  have c76b0 : decide (0 ≤ (ji75)) = true := decide_eq_true c76
                                  clear c76
                                  by_cases c77 : (ji75) < ((rd_L2 t268 (ji28)).length : Int)
                                  · rw [if_pos c77] at H
                                    have c77b0 : decide ((ji75) < ((rd_L2 t268 (ji28)).length : Int)) = true := decide_eq_true c77
                                    clear c77
                                    obtain rfl := Option.some.inj H
                                    go_wp2_with (first | ((with_reducible refine gate_dst (N := 83) rfl ?_); (try (refine gate_guard (by rfl) ?_; dsimp only)); refine Kd.R_lit (Kd.int .i64) _ 3 ?hg (N := 83) ?hd (xs := ([(ji28)] : List Int)) (inner := [.int .i64 (ji28)]) (ok := fun _ => True) (okp := fun _ => True) ?hr ?hp (fun _ hk => hk) trivial (Below.refl _ _) (Nat.le_refl _) (by simp) ?_; (case hd => rfl); (case hg => rfl); (case hr => first | (go_simp; done) | (go_simp; rfl)); (case hp => exact (Reps.one (show Kd.M (Kd.int .i64) _ _ _ (ji28) [.int .i64 (ji28)] from rfl) (Reps.none _ _))); intro v272 w78 ho79 hb hg_ hnew_; clear hg_ hnew_; (first | rw [← Ny271.out] at ho79 | (simp only [Int.reduceToNat] at ho79; rw [← Ny271.out] at ho79)); have n0_ := Aside0.mk (Kd.S_elder' (by (with_reducible repeat (first | apply Kd.S_alloc | apply Kd.S_drewN | apply Kd.S_drew)); exact HO_10.out) (Kd.R_base ho79) hb); have n1_ := Aside0.mk (Kd.S_below (by (with_reducible repeat (first | apply Kd.S_alloc | apply Kd.S_drewN | apply Kd.S_drew)); exact HO_13.out) hb); have n2_ := Aside0.mk (Kd.S_elder' (by (with_reducible repeat (first | apply Kd.S_alloc | apply Kd.S_drewN | apply Kd.S_drew)); exact HO_14.out) (Kd.R_base ho79) hb); have n3_ := Aside0.mk (Kd.R_lower ho79 (below_size (by repeat (first | (with_reducible first | exact HB.out | apply below_alloc | apply pw_below_drewN | apply below_drew1) | exact HB.out)))); have n4_ := Aside0.mk (below_step (by repeat (first | (with_reducible first | exact HB.out | apply below_alloc | apply pw_below_drewN | apply below_drew1) | exact HB.out)) hb); clear HO_10; clear HO_13; clear HO_14; clear HB; have HO_10 := n0_; have HO_13 := n1_; have HO_14 := n2_; have HO273 := n3_; have HB := n4_; clear n0_ n1_ n2_ n3_ n4_; clear hb ho79; obtain ⟨Ao80, co80, eo80⟩ := Kd.S_slice HO_14.out; subst eo80; obtain ⟨Ao81, co81, eo81⟩ := Kd.R_slice HO273.out; subst eo81) | ((with_reducible refine gate_callee (f := 29) rfl ?_); refine goesL_ (some 84) rfl rfl Try.func29 (by kernel_rfl) rfl #[.slice Ao80 x14_1.length co80, .slice Ao81 y271.length co81] rfl (by (try simp only [List.map_toArray, List.map_cons, List.map_nil]); first | done | rfl | (simp only [List.length_drop, List.length_take]; rfl)) ?_; (with_reducible refine (dom_Reach.calls k1 _ _ x14_1 _ _ y271 t274 _ ?side1 ?side2 ?side3 ?side4 A26.out).mono ?_); (case side1 => repeat (first | exact (Kd.S_reads' HO_14.out).2.2 | (with_reducible refine Kd.C_alloc ?_ _) | (with_reducible refine Kd.C_drewN ?_ _) | (with_reducible refine Kd.C_drew ?_))); (case side2 => exact (Kd.S_reads' HO_14.out).2.1); (case side3 => repeat (first | exact (Kd.R_reads' HO273.out).2.2 | (with_reducible refine Kd.C_alloc ?_ _) | (with_reducible refine Kd.C_drewN ?_ _) | (with_reducible refine Kd.C_drew ?_))); (case side4 => exact (Kd.R_reads' HO273.out).2.1); rintro e w82 ⟨v275, rfl, ho0, hb⟩; refine ⟨_, rfl, ?_⟩; have n0_ := Aside0.mk (Kd.S_below (by (with_reducible repeat (first | apply Kd.S_alloc | apply Kd.S_drewN | apply Kd.S_drew)); exact HO_10.out) hb); have n1_ := Aside0.mk (Kd.S_elder' (by (with_reducible repeat (first | apply Kd.S_alloc | apply Kd.S_drewN | apply Kd.S_drew)); exact HO_13.out) (Kd.R_base ho0) hb); have n2_ := Aside0.mk (Kd.S_below (by (with_reducible repeat (first | apply Kd.S_alloc | apply Kd.S_drewN | apply Kd.S_drew)); exact HO_14.out) hb); have n3_ := Aside0.mk (Kd.R_below (by (with_reducible repeat (first | apply Kd.R_alloc | apply Kd.R_drewN | apply Kd.R_drew)); exact HO273.out) hb); have n4_ := Aside0.mk (Kd.R_lower ho0 (below_size (by repeat (first | (with_reducible first | exact HB.out | apply below_alloc | apply pw_below_drewN | apply below_drew1) | exact HB.out)))); have n5_ := Aside0.mk (below_step (by repeat (first | (with_reducible first | exact HB.out | apply below_alloc | apply pw_below_drewN | apply below_drew1) | exact HB.out)) hb); clear HO_10; clear HO_13; clear HO_14; clear HO273; clear HB; have HO_10 := n0_; have HO_13 := n1_; have HO_14 := n2_; have HO273 := n3_; have HO276 := n4_; have HB := n5_; clear n0_ n1_ n2_ n3_ n4_ n5_; (try clear hb); (try clear hb2); (try clear hk); (try clear hi); (try clear ho0); obtain ⟨Ao83, co83, eo83⟩ := Kd.S_slice HO_13.out; subst eo83; have p277 : 0 ≤ ((ji28) : Int) := of_decide_eq_true (by first | (with_reducible assumption) | assumption); have q277 : (ji28) < (t268.length : Int) := of_decide_eq_true (by first | (with_reducible assumption) | assumption); obtain ⟨ad277, A277_0, c277_0, e277, hx277_0, hl277_0, hi277_0⟩ := at_L2 (Kd.S_reads' HO_13.out).2.2 (ji28) p277 q277; cases e277; obtain ⟨ce277, hce277, hMe277, hcc277⟩ := Kd.S_get HO_13.out [] (ji28) p277 (by first | exact q277 | exact of_decide_eq_true (by first | (with_reducible assumption) | assumption) | (have e_ := (Kd.S_reads' HO_13.out).1; omega)); obtain ⟨ve277_0, rfl, ge277_0⟩ := hMe277; have hv277_0 := hcc277 0 _ rfl; rw [Nat.add_zero, show ((Kd.slice 4 Kd.bool)).sz = 1 from rfl, Nat.mul_one] at hv277_0; replace hv277_0 := Option.some.inj (hv277_0.symm.trans hx277_0); rw [hv277_0] at ge277_0; have HL277_0 := Aside0.mk (show Kd.R Kd.bool 4 _ _ _ _ (rd_L2 t268 (ji28)) from ge277_0); clear hv277_0 ge277_0; clear hcc277 hce277; have HR277_0 := Aside0.mk hi277_0; have HC277_0 := Aside0.mk hl277_0; clear hi277_0 hl277_0; replace p277 := eq_true p277; replace q277 := eq_true q277; obtain ⟨Ao84, co84, eo84⟩ := Kd.R_slice HO276.out; subst eo84; have p282 : 0 ≤ ((ji71) : Int) := of_decide_eq_true (by first | (with_reducible assumption) | assumption); have q282 : (ji71) < (t274.length : Int) := of_decide_eq_true (by first | (with_reducible assumption) | assumption); obtain ⟨ad282, e282, hx282_0⟩ := Kd.at_bool (Kd.R_reads' HO276.out).2.2 (ji71) p282 q282; cases e282; replace p282 := eq_true p282; replace q282 := eq_true q282; have p283 : 0 ≤ ((ji28) : Int) := of_decide_eq_true (by first | (with_reducible assumption) | assumption); have q283 : (ji28) < (t268.length : Int) := of_decide_eq_true (by first | (with_reducible assumption) | assumption); obtain ⟨ad283, A283_0, c283_0, e283, hx283_0, hl283_0, hi283_0⟩ := at_L2 (Kd.S_reads' HO_13.out).2.2 (ji28) p283 q283; obtain rfl : ad277 = ad283 := (by injection e283); obtain ⟨ce283, hce283, hMe283, hcc283⟩ := Kd.S_get HO_13.out [] (ji28) p283 (by first | exact q283 | exact of_decide_eq_true (by first | (with_reducible assumption) | assumption) | (have e_ := (Kd.S_reads' HO_13.out).1; omega)); obtain ⟨ve283_0, rfl, ge283_0⟩ := hMe283; have hv283_0 := hcc283 0 _ rfl; rw [Nat.add_zero, show ((Kd.slice 4 Kd.bool)).sz = 1 from rfl, Nat.mul_one] at hv283_0; replace hv283_0 := Option.some.inj (hv283_0.symm.trans hx283_0); rw [hv283_0] at ge283_0; have HL283_0 := Aside0.mk (show Kd.R Kd.bool 4 _ _ _ _ (rd_L2 t268 (ji28)) from ge283_0); clear hv283_0 ge283_0; clear hcc283 hce283; have HR283_0 := Aside0.mk hi283_0; have HC283_0 := Aside0.mk hl283_0; clear hi283_0 hl283_0; replace p283 := eq_true p283; replace q283 := eq_true q283; have ea_ := Option.some.inj (hx277_0.symm.trans hx283_0); injection ea_ with ea_ en_ ec_; subst ea_; subst ec_; clear en_; have p284 : 0 ≤ ((ji75) : Int) := of_decide_eq_true (by first | (with_reducible assumption) | assumption); have q284 : (ji75) < ((rd_L2 t268 (ji28)).length : Int) := of_decide_eq_true (by first | (with_reducible assumption) | assumption); obtain ⟨ad284, e284, hx284_0⟩ := Kd.at_bool (by repeat (first | (with_reducible exact HR283_0.out) | (with_reducible refine Kd.C_alloc ?_ _) | (with_reducible refine Kd.C_drewN ?_ _) | (with_reducible refine Kd.C_drew ?_) | exact HR283_0.out)) (ji75) p284 q284; cases e284; replace p284 := eq_true p284; replace q284 := eq_true q284))
                                    go_ret
                                    exact ⟨by first | rfl | (simp [errW_none, errW_some] <;> rfl) | (simp only [← hji28, ← hji71, ← hji75]; first | rfl | (simp [errW_none, errW_some] <;> rfl)) | (simp [*, errW_none, errW_some] <;> rfl), by repeat (first | (with_reducible first | exact HB.out | apply below_alloc | apply pw_below_drewN | apply below_drew1) | exact HB.out)⟩
                                  · rw [if_neg c77] at H
                                    exact absurd H (by simp)
                                · rw [if_neg c76] at H
                                  exact absurd H (by simp)
                              · exact absurd rfl c74
                            · rw [if_neg c73] at H
                              exact absurd H (by simp)
                          · rw [if_neg c72] at H
                            exact absurd H (by simp)
                    · rw [if_neg c32] at H
                      have c32b0 : ((t274.length : Int) == (t265.length : Int)) = false := beq_eq_false_iff_ne.mpr c32
                      have c32b1 : ((t274.length : Int) != (t265.length : Int)) = true := bne_iff_ne.mpr c32
                      have c32b2 : (t274.length == t265.length) = false := by first | simpa using c32 | (simp at c32 ⊢; omega)
                      obtain rfl := Option.some.inj H
                      go_wp2_with (first | ((with_reducible refine gate_dst (N := 83) rfl ?_); (try (refine gate_guard (by rfl) ?_; dsimp only)); refine Kd.R_lit (Kd.int .i64) _ 3 ?hg (N := 83) ?hd (xs := ([(ji28)] : List Int)) (inner := [.int .i64 (ji28)]) (ok := fun _ => True) (okp := fun _ => True) ?hr ?hp (fun _ hk => hk) trivial (Below.refl _ _) (Nat.le_refl _) (by simp) ?_; (case hd => rfl); (case hg => rfl); (case hr => first | (go_simp; done) | (go_simp; rfl)); (case hp => exact (Reps.one (show Kd.M (Kd.int .i64) _ _ _ (ji28) [.int .i64 (ji28)] from rfl) (Reps.none _ _))); intro v272 w92 ho93 hb hg_ hnew_; clear hg_ hnew_; (first | rw [← Ny271.out] at ho93 | (simp only [Int.reduceToNat] at ho93; rw [← Ny271.out] at ho93)); have n0_ := Aside0.mk (Kd.S_elder' (by (with_reducible repeat (first | apply Kd.S_alloc | apply Kd.S_drewN | apply Kd.S_drew)); exact HO_10.out) (Kd.R_base ho93) hb); have n1_ := Aside0.mk (Kd.S_below (by (with_reducible repeat (first | apply Kd.S_alloc | apply Kd.S_drewN | apply Kd.S_drew)); exact HO_13.out) hb); have n2_ := Aside0.mk (Kd.S_elder' (by (with_reducible repeat (first | apply Kd.S_alloc | apply Kd.S_drewN | apply Kd.S_drew)); exact HO_14.out) (Kd.R_base ho93) hb); have n3_ := Aside0.mk (Kd.R_lower ho93 (below_size (by repeat (first | (with_reducible first | exact HB.out | apply below_alloc | apply pw_below_drewN | apply below_drew1) | exact HB.out)))); have n4_ := Aside0.mk (below_step (by repeat (first | (with_reducible first | exact HB.out | apply below_alloc | apply pw_below_drewN | apply below_drew1) | exact HB.out)) hb); clear HO_10; clear HO_13; clear HO_14; clear HB; have HO_10 := n0_; have HO_13 := n1_; have HO_14 := n2_; have HO273 := n3_; have HB := n4_; clear n0_ n1_ n2_ n3_ n4_; clear hb ho93; obtain ⟨Ao94, co94, eo94⟩ := Kd.S_slice HO_14.out; subst eo94; obtain ⟨Ao95, co95, eo95⟩ := Kd.R_slice HO273.out; subst eo95) | ((with_reducible refine gate_callee (f := 29) rfl ?_); refine goesL_ (some 84) rfl rfl Try.func29 (by kernel_rfl) rfl #[.slice Ao94 x14_1.length co94, .slice Ao95 y271.length co95] rfl (by (try simp only [List.map_toArray, List.map_cons, List.map_nil]); first | done | rfl | (simp only [List.length_drop, List.length_take]; rfl)) ?_; (with_reducible refine (dom_Reach.calls k1 _ _ x14_1 _ _ y271 t274 _ ?side1 ?side2 ?side3 ?side4 A26.out).mono ?_); (case side1 => repeat (first | exact (Kd.S_reads' HO_14.out).2.2 | (with_reducible refine Kd.C_alloc ?_ _) | (with_reducible refine Kd.C_drewN ?_ _) | (with_reducible refine Kd.C_drew ?_))); (case side2 => exact (Kd.S_reads' HO_14.out).2.1); (case side3 => repeat (first | exact (Kd.R_reads' HO273.out).2.2 | (with_reducible refine Kd.C_alloc ?_ _) | (with_reducible refine Kd.C_drewN ?_ _) | (with_reducible refine Kd.C_drew ?_))); (case side4 => exact (Kd.R_reads' HO273.out).2.1); rintro e w96 ⟨v275, rfl, ho0, hb⟩; refine ⟨_, rfl, ?_⟩; have n0_ := Aside0.mk (Kd.S_below (by (with_reducible repeat (first | apply Kd.S_alloc | apply Kd.S_drewN | apply Kd.S_drew)); exact HO_10.out) hb); have n1_ := Aside0.mk (Kd.S_elder' (by (with_reducible repeat (first | apply Kd.S_alloc | apply Kd.S_drewN | apply Kd.S_drew)); exact HO_13.out) (Kd.R_base ho0) hb); have n2_ := Aside0.mk (Kd.S_below (by (with_reducible repeat (first | apply Kd.S_alloc | apply Kd.S_drewN | apply Kd.S_drew)); exact HO_14.out) hb); have n3_ := Aside0.mk (Kd.R_below (by (with_reducible repeat (first | apply Kd.R_alloc | apply Kd.R_drewN | apply Kd.R_drew)); exact HO273.out) hb); have n4_ := Aside0.mk (Kd.R_lower ho0 (below_size (by repeat (first | (with_reducible first | exact HB.out | apply below_alloc | apply pw_below_drewN | apply below_drew1) | exact HB.out)))); have n5_ := Aside0.mk (below_step (by repeat (first | (with_reducible first | exact HB.out | apply below_alloc | apply pw_below_drewN | apply below_drew1) | exact HB.out)) hb); clear HO_10; clear HO_13; clear HO_14; clear HO273; clear HB; have HO_10 := n0_; have HO_13 := n1_; have HO_14 := n2_; have HO273 := n3_; have HO276 := n4_; have HB := n5_; clear n0_ n1_ n2_ n3_ n4_ n5_; (try clear hb); (try clear hb2); (try clear hk); (try clear hi); (try clear ho0); obtain ⟨Ao97, co97, eo97⟩ := Kd.S_slice HO_13.out; subst eo97; have p277 : 0 ≤ ((ji28) : Int) := of_decide_eq_true (by first | (with_reducible assumption) | assumption); have q277 : (ji28) < (t268.length : Int) := of_decide_eq_true (by first | (with_reducible assumption) | assumption); obtain ⟨ad277, A277_0, c277_0, e277, hx277_0, hl277_0, hi277_0⟩ := at_L2 (Kd.S_reads' HO_13.out).2.2 (ji28) p277 q277; cases e277; obtain ⟨ce277, hce277, hMe277, hcc277⟩ := Kd.S_get HO_13.out [] (ji28) p277 (by first | exact q277 | exact of_decide_eq_true (by first | (with_reducible assumption) | assumption) | (have e_ := (Kd.S_reads' HO_13.out).1; omega)); obtain ⟨ve277_0, rfl, ge277_0⟩ := hMe277; have hv277_0 := hcc277 0 _ rfl; rw [Nat.add_zero, show ((Kd.slice 4 Kd.bool)).sz = 1 from rfl, Nat.mul_one] at hv277_0; replace hv277_0 := Option.some.inj (hv277_0.symm.trans hx277_0); rw [hv277_0] at ge277_0; have HL277_0 := Aside0.mk (show Kd.R Kd.bool 4 _ _ _ _ (rd_L2 t268 (ji28)) from ge277_0); clear hv277_0 ge277_0; clear hcc277 hce277; have HR277_0 := Aside0.mk hi277_0; have HC277_0 := Aside0.mk hl277_0; clear hi277_0 hl277_0; replace p277 := eq_true p277; replace q277 := eq_true q277; obtain ⟨Ao98, co98, eo98⟩ := Kd.R_slice HO276.out; subst eo98))
                      go_ret
                      exact ⟨by first | rfl | (simp [errW_none, errW_some] <;> rfl) | (simp only [← hji28]; first | rfl | (simp [errW_none, errW_some] <;> rfl)) | (simp [*, errW_none, errW_some] <;> rfl), by repeat (first | (with_reducible first | exact HB.out | apply below_alloc | apply pw_below_drewN | apply below_drew1) | exact HB.out)⟩
                  · rw [if_neg c31] at H
                    have c31b0 : (((rd_L2 t268 (ji28)).length : Int) == (t265.length : Int)) = false := beq_eq_false_iff_ne.mpr c31
                    have c31b1 : (((rd_L2 t268 (ji28)).length : Int) != (t265.length : Int)) = true := bne_iff_ne.mpr c31
                    have c31b2 : ((rd_L2 t268 (ji28)).length == t265.length) = false := by first | simpa using c31 | (simp at c31 ⊢; omega)
                    obtain rfl := Option.some.inj H
                    go_wp2_with (first | ((with_reducible refine gate_dst (N := 83) rfl ?_); (try (refine gate_guard (by rfl) ?_; dsimp only)); refine Kd.R_lit (Kd.int .i64) _ 3 ?hg (N := 83) ?hd (xs := ([(ji28)] : List Int)) (inner := [.int .i64 (ji28)]) (ok := fun _ => True) (okp := fun _ => True) ?hr ?hp (fun _ hk => hk) trivial (Below.refl _ _) (Nat.le_refl _) (by simp) ?_; (case hd => rfl); (case hg => rfl); (case hr => first | (go_simp; done) | (go_simp; rfl)); (case hp => exact (Reps.one (show Kd.M (Kd.int .i64) _ _ _ (ji28) [.int .i64 (ji28)] from rfl) (Reps.none _ _))); intro v272 w99 ho100 hb hg_ hnew_; clear hg_ hnew_; (first | rw [← Ny271.out] at ho100 | (simp only [Int.reduceToNat] at ho100; rw [← Ny271.out] at ho100)); have n0_ := Aside0.mk (Kd.S_elder' (by (with_reducible repeat (first | apply Kd.S_alloc | apply Kd.S_drewN | apply Kd.S_drew)); exact HO_10.out) (Kd.R_base ho100) hb); have n1_ := Aside0.mk (Kd.S_below (by (with_reducible repeat (first | apply Kd.S_alloc | apply Kd.S_drewN | apply Kd.S_drew)); exact HO_13.out) hb); have n2_ := Aside0.mk (Kd.S_elder' (by (with_reducible repeat (first | apply Kd.S_alloc | apply Kd.S_drewN | apply Kd.S_drew)); exact HO_14.out) (Kd.R_base ho100) hb); have n3_ := Aside0.mk (Kd.R_lower ho100 (below_size (by repeat (first | (with_reducible first | exact HB.out | apply below_alloc | apply pw_below_drewN | apply below_drew1) | exact HB.out)))); have n4_ := Aside0.mk (below_step (by repeat (first | (with_reducible first | exact HB.out | apply below_alloc | apply pw_below_drewN | apply below_drew1) | exact HB.out)) hb); clear HO_10; clear HO_13; clear HO_14; clear HB; have HO_10 := n0_; have HO_13 := n1_; have HO_14 := n2_; have HO273 := n3_; have HB := n4_; clear n0_ n1_ n2_ n3_ n4_; clear hb ho100; obtain ⟨Ao101, co101, eo101⟩ := Kd.S_slice HO_14.out; subst eo101; obtain ⟨Ao102, co102, eo102⟩ := Kd.R_slice HO273.out; subst eo102) | ((with_reducible refine gate_callee (f := 29) rfl ?_); refine goesL_ (some 84) rfl rfl Try.func29 (by kernel_rfl) rfl #[.slice Ao101 x14_1.length co101, .slice Ao102 y271.length co102] rfl (by (try simp only [List.map_toArray, List.map_cons, List.map_nil]); first | done | rfl | (simp only [List.length_drop, List.length_take]; rfl)) ?_; (with_reducible refine (dom_Reach.calls k1 _ _ x14_1 _ _ y271 t274 _ ?side1 ?side2 ?side3 ?side4 A26.out).mono ?_); (case side1 => repeat (first | exact (Kd.S_reads' HO_14.out).2.2 | (with_reducible refine Kd.C_alloc ?_ _) | (with_reducible refine Kd.C_drewN ?_ _) | (with_reducible refine Kd.C_drew ?_))); (case side2 => exact (Kd.S_reads' HO_14.out).2.1); (case side3 => repeat (first | exact (Kd.R_reads' HO273.out).2.2 | (with_reducible refine Kd.C_alloc ?_ _) | (with_reducible refine Kd.C_drewN ?_ _) | (with_reducible refine Kd.C_drew ?_))); (case side4 => exact (Kd.R_reads' HO273.out).2.1); rintro e w103 ⟨v275, rfl, ho0, hb⟩; refine ⟨_, rfl, ?_⟩; have n0_ := Aside0.mk (Kd.S_below (by (with_reducible repeat (first | apply Kd.S_alloc | apply Kd.S_drewN | apply Kd.S_drew)); exact HO_10.out) hb); have n1_ := Aside0.mk (Kd.S_elder' (by (with_reducible repeat (first | apply Kd.S_alloc | apply Kd.S_drewN | apply Kd.S_drew)); exact HO_13.out) (Kd.R_base ho0) hb); have n2_ := Aside0.mk (Kd.S_below (by (with_reducible repeat (first | apply Kd.S_alloc | apply Kd.S_drewN | apply Kd.S_drew)); exact HO_14.out) hb); have n3_ := Aside0.mk (Kd.R_below (by (with_reducible repeat (first | apply Kd.R_alloc | apply Kd.R_drewN | apply Kd.R_drew)); exact HO273.out) hb); have n4_ := Aside0.mk (Kd.R_lower ho0 (below_size (by repeat (first | (with_reducible first | exact HB.out | apply below_alloc | apply pw_below_drewN | apply below_drew1) | exact HB.out)))); have n5_ := Aside0.mk (below_step (by repeat (first | (with_reducible first | exact HB.out | apply below_alloc | apply pw_below_drewN | apply below_drew1) | exact HB.out)) hb); clear HO_10; clear HO_13; clear HO_14; clear HO273; clear HB; have HO_10 := n0_; have HO_13 := n1_; have HO_14 := n2_; have HO273 := n3_; have HO276 := n4_; have HB := n5_; clear n0_ n1_ n2_ n3_ n4_ n5_; (try clear hb); (try clear hb2); (try clear hk); (try clear hi); (try clear ho0); obtain ⟨Ao104, co104, eo104⟩ := Kd.S_slice HO_13.out; subst eo104; have p277 : 0 ≤ ((ji28) : Int) := of_decide_eq_true (by first | (with_reducible assumption) | assumption); have q277 : (ji28) < (t268.length : Int) := of_decide_eq_true (by first | (with_reducible assumption) | assumption); obtain ⟨ad277, A277_0, c277_0, e277, hx277_0, hl277_0, hi277_0⟩ := at_L2 (Kd.S_reads' HO_13.out).2.2 (ji28) p277 q277; cases e277; obtain ⟨ce277, hce277, hMe277, hcc277⟩ := Kd.S_get HO_13.out [] (ji28) p277 (by first | exact q277 | exact of_decide_eq_true (by first | (with_reducible assumption) | assumption) | (have e_ := (Kd.S_reads' HO_13.out).1; omega)); obtain ⟨ve277_0, rfl, ge277_0⟩ := hMe277; have hv277_0 := hcc277 0 _ rfl; rw [Nat.add_zero, show ((Kd.slice 4 Kd.bool)).sz = 1 from rfl, Nat.mul_one] at hv277_0; replace hv277_0 := Option.some.inj (hv277_0.symm.trans hx277_0); rw [hv277_0] at ge277_0; have HL277_0 := Aside0.mk (show Kd.R Kd.bool 4 _ _ _ _ (rd_L2 t268 (ji28)) from ge277_0); clear hv277_0 ge277_0; clear hcc277 hce277; have HR277_0 := Aside0.mk hi277_0; have HC277_0 := Aside0.mk hl277_0; clear hi277_0 hl277_0; replace p277 := eq_true p277; replace q277 := eq_true q277))
                    go_ret
                    exact ⟨by first | rfl | (simp [errW_none, errW_some] <;> rfl) | (simp only [← hji28]; first | rfl | (simp [errW_none, errW_some] <;> rfl)) | (simp [*, errW_none, errW_some] <;> rfl), by repeat (first | (with_reducible first | exact HB.out | apply below_alloc | apply pw_below_drewN | apply below_drew1) | exact HB.out)⟩
                · rw [if_neg c30] at H
                  exact absurd H (by simp)
              · rw [if_neg c29] at H
                exact absurd H (by simp)
            · rw [if_neg c27] at H
              have c27b0 : ((t268.length : Int) == (t265.length : Int)) = false := beq_eq_false_iff_ne.mpr c27
              have c27b1 : ((t268.length : Int) != (t265.length : Int)) = true := bne_iff_ne.mpr c27
              have c27b2 : (t268.length == t265.length) = false := by first | simpa using c27 | (simp at c27 ⊢; omega)
              obtain rfl := Option.some.inj H
              go_wp2_with (first | ((with_reducible refine gate_dst (N := 83) rfl ?_); (try (refine gate_guard (by rfl) ?_; dsimp only)); refine Kd.R_lit (Kd.int .i64) _ 3 ?hg (N := 83) ?hd (xs := ([(Int.tmod (wrap64 (a2)) (t265.length : Int))] : List Int)) (inner := [.int .i64 (Int.tmod (wrap64 (a2)) (t265.length : Int))]) (ok := fun _ => True) (okp := fun _ => True) ?hr ?hp (fun _ hk => hk) trivial (Below.refl _ _) (Nat.le_refl _) (by simp) ?_; (case hd => rfl); (case hg => rfl); (case hr => first | (go_simp; done) | (go_simp; rfl)); (case hp => exact (Reps.one (show Kd.M (Kd.int .i64) _ _ _ (Int.tmod (wrap64 (a2)) (t265.length : Int)) [.int .i64 (Int.tmod (wrap64 (a2)) (t265.length : Int))] from rfl) (Reps.none _ _))); intro v272 w105 ho106 hb hg_ hnew_; clear hg_ hnew_; (first | rw [← Ny271.out] at ho106 | (simp only [Int.reduceToNat] at ho106; rw [← Ny271.out] at ho106)); have n0_ := Aside0.mk (Kd.S_elder' (by (with_reducible repeat (first | apply Kd.S_alloc | apply Kd.S_drewN | apply Kd.S_drew)); exact HO_10.out) (Kd.R_base ho106) hb); have n1_ := Aside0.mk (Kd.S_below (by (with_reducible repeat (first | apply Kd.S_alloc | apply Kd.S_drewN | apply Kd.S_drew)); exact HO_13.out) hb); have n2_ := Aside0.mk (Kd.S_elder' (by (with_reducible repeat (first | apply Kd.S_alloc | apply Kd.S_drewN | apply Kd.S_drew)); exact HO_14.out) (Kd.R_base ho106) hb); have n3_ := Aside0.mk (Kd.R_lower ho106 (below_size (by repeat (first | (with_reducible first | exact HB.out | apply below_alloc | apply pw_below_drewN | apply below_drew1) | exact HB.out)))); have n4_ := Aside0.mk (below_step (by repeat (first | (with_reducible first | exact HB.out | apply below_alloc | apply pw_below_drewN | apply below_drew1) | exact HB.out)) hb); clear HO_10; clear HO_13; clear HO_14; clear HB; have HO_10 := n0_; have HO_13 := n1_; have HO_14 := n2_; have HO273 := n3_; have HB := n4_; clear n0_ n1_ n2_ n3_ n4_; clear hb ho106; obtain ⟨Ao107, co107, eo107⟩ := Kd.S_slice HO_14.out; subst eo107; obtain ⟨Ao108, co108, eo108⟩ := Kd.R_slice HO273.out; subst eo108) | ((with_reducible refine gate_callee (f := 29) rfl ?_); refine goesL_ (some 84) rfl rfl Try.func29 (by kernel_rfl) rfl #[.slice Ao107 x14_1.length co107, .slice Ao108 y271.length co108] rfl (by (try simp only [List.map_toArray, List.map_cons, List.map_nil]); first | done | rfl | (simp only [List.length_drop, List.length_take]; rfl)) ?_; (with_reducible refine (dom_Reach.calls k1 _ _ x14_1 _ _ y271 t274 _ ?side1 ?side2 ?side3 ?side4 A26.out).mono ?_); (case side1 => repeat (first | exact (Kd.S_reads' HO_14.out).2.2 | (with_reducible refine Kd.C_alloc ?_ _) | (with_reducible refine Kd.C_drewN ?_ _) | (with_reducible refine Kd.C_drew ?_))); (case side2 => exact (Kd.S_reads' HO_14.out).2.1); (case side3 => repeat (first | exact (Kd.R_reads' HO273.out).2.2 | (with_reducible refine Kd.C_alloc ?_ _) | (with_reducible refine Kd.C_drewN ?_ _) | (with_reducible refine Kd.C_drew ?_))); (case side4 => exact (Kd.R_reads' HO273.out).2.1); rintro e w109 ⟨v275, rfl, ho0, hb⟩; refine ⟨_, rfl, ?_⟩; have n0_ := Aside0.mk (Kd.S_below (by (with_reducible repeat (first | apply Kd.S_alloc | apply Kd.S_drewN | apply Kd.S_drew)); exact HO_10.out) hb); have n1_ := Aside0.mk (Kd.S_elder' (by (with_reducible repeat (first | apply Kd.S_alloc | apply Kd.S_drewN | apply Kd.S_drew)); exact HO_13.out) (Kd.R_base ho0) hb); have n2_ := Aside0.mk (Kd.S_below (by (with_reducible repeat (first | apply Kd.S_alloc | apply Kd.S_drewN | apply Kd.S_drew)); exact HO_14.out) hb); have n3_ := Aside0.mk (Kd.R_below (by (with_reducible repeat (first | apply Kd.R_alloc | apply Kd.R_drewN | apply Kd.R_drew)); exact HO273.out) hb); have n4_ := Aside0.mk (Kd.R_lower ho0 (below_size (by repeat (first | (with_reducible first | exact HB.out | apply below_alloc | apply pw_below_drewN | apply below_drew1) | exact HB.out)))); have n5_ := Aside0.mk (below_step (by repeat (first | (with_reducible first | exact HB.out | apply below_alloc | apply pw_below_drewN | apply below_drew1) | exact HB.out)) hb); clear HO_10; clear HO_13; clear HO_14; clear HO273; clear HB; have HO_10 := n0_; have HO_13 := n1_; have HO_14 := n2_; have HO273 := n3_; have HO276 := n4_; have HB := n5_; clear n0_ n1_ n2_ n3_ n4_ n5_; (try clear hb); (try clear hb2); (try clear hk); (try clear hi); (try clear ho0); obtain ⟨Ao110, co110, eo110⟩ := Kd.S_slice HO_13.out; subst eo110))
              go_ret
              exact ⟨by first | rfl | (simp [errW_none, errW_some] <;> rfl) | (simp [*, errW_none, errW_some] <;> rfl), by repeat (first | (with_reducible first | exact HB.out | apply below_alloc | apply pw_below_drewN | apply below_drew1) | exact HB.out)⟩
  · replace c6 := Bool.eq_false_iff.mpr c6
    subst c6
    have H1 : (some false) = some r := by rw [if_neg (show ¬ (false = true) by decide)] at H; exact H
    clear H
    have H := H1
    clear H1
    obtain rfl := Option.some.inj H
    go_enter Try.func10, Try.ntmps10
    go_wp2_with (first | ((with_reducible refine gate_callee (f := 26) rfl ?_); refine goesL_ (some 20) rfl rfl Try.func26 (by kernel_rfl) rfl #[] rfl (by (try simp only [List.map_toArray, List.map_cons, List.map_nil]); first | done | rfl | (simp only [List.length_drop, List.length_take]; rfl)) ?_; (with_reducible refine (billhooklaw10_examples.calls  false _ A5.out).mono ?_); rintro e w111 ⟨rfl, hb⟩; refine ⟨_, rfl, ?_⟩; have n0_ := Aside0.mk (below_step (by repeat (first | (with_reducible first | exact HB.out | apply below_alloc | apply pw_below_drewN | apply below_drew1) | exact HB.out)) hb); clear HB; have HB := n0_; clear n0_; (try clear hb); (try clear hb2); (try clear hk); (try clear hi)))
    go_ret
    exact ⟨by first | rfl | (simp [errW_none, errW_some] <;> rfl) | (simp [*, errW_none, errW_some] <;> rfl), by repeat (first | (with_reducible first | exact HB.out | apply below_alloc | apply pw_below_drewN | apply below_drew1) | exact HB.out)⟩

/-- THE ONE PURE STATEMENT of billhooklaw10_DomCut: yours. -/
def billhooklaw10_DomCut.Pure : Prop := ∀ (l0 : List Int) (a1 : Int) (a2 : Int) (a3 : Int), l0.length ≤ maxLen → l0.length * 1 ≤ 140737488351232 → (∀ x ∈ l0, (Lit.int .u8 x).wf = true) → (Lit.int .u8 a1).wf = true → (Lit.int .u8 a2).wf = true → (Lit.int .u8 a3).wf = true → ∃ k, billhooklaw10_DomCut.f k l0 a1 a2 a3 = some true
theorem billhooklaw10_DomCut.walk (P : billhooklaw10_DomCut.Pure) (a0 : Option Addr) (len0 cap0 : Nat) (z0 : List Int) (a1 : Int) (a2 : Int) (a3 : Int) (w : World) (w0 : (a0 = none ∧ len0 = 0 ∧ cap0 = 0 ∧ z0 = []) ∨ ∃ x, a0 = some x ∧ len0 ≤ cap0 ∧ cap0 ≤ maxLen ∧ z0.length = cap0 ∧ (∀ i, i < z0.length → w.cell? (x.add i) = some (.int .u8 (z0.getD i 0))) ∧ ∀ n ∈ z0, (Lit.int .u8 n).wf = true) (y0 : len0 * 1 ≤ 140737488351232) (w1 : (Lit.int .u8 a1).wf = true) (w2 : (Lit.int .u8 a2).wf = true) (w3 : (Lit.int .u8 a3).wf = true) :
    Calls Try.prog 10 #[.slice a0 len0 cap0, .int .u8 a1, .int .u8 a2, .int .u8 a3] w fun e w' => e = .returned (.bool true) ∧ Below w.heap.size w w' := by
  obtain ⟨l0, rfl, hr0, hm0, hw0, hc0⟩ := ReadsInt.ofRowC w0
  obtain ⟨k, h⟩ := P l0 a1 a2 a3 hm0 y0 hw0 w1 w2 w3
  refine (billhooklaw10_DomCut.calls k _ _ l0 a1 a2 a3 true w (Kd.C_of_reads (d := (0 : Int)) (h1 := fun _ => rfl) hr0) hc0 h).mono ?_
  rintro e w' ⟨rfl, hd⟩
  exact ⟨rfl, hd⟩

end Go.Proofs.Ytankppgafdcknaa.PDom

/- Of any web, and two nodes: what does not postdominate a node can be passed by: with it cut out one comes to Exit still. -/
set_option linter.unusedVariables false
set_option linter.unusedSimpArgs false
set_option linter.unusedSectionVars false
namespace Go.Proofs.Ytankppgafdcknaa.Pure
open Go Go.RowKit Go.Proofs.YtankppgafdcknaaW.PrintWords Go.Proofs.Ytankppgafdcknaa.PPost Go.Proofs.Ytankppgafdcknaa.PDom Go.Proofs.Ytankppgafdcknaa.Gr

def cutRow (xs : List (List Int)) (d i : Nat) : List Int := (row xs i).filter fun s => decide (s ≠ (d : Int)) && decide (i ≠ d)
def cutG (xs : List (List Int)) (d : Nat) : List (List Int) := (List.range xs.length).map (cutRow xs d)
theorem cut_row (xs : List (List Int)) (d i : Nat) (hi : i < xs.length) : row (cutG xs d) i = cutRow xs d i := by
  unfold row cutG
  rw [getD_eq _ _ _ (by simpa using hi)]
  simp
theorem cut_edge (xs : List (List Int)) (d i j : Nat) : Gr.Edge (cutG xs d) i j ↔ Gr.Edge xs i j ∧ j ≠ d ∧ i ≠ d := by
  have hl : (cutG xs d).length = xs.length := by simp [cutG]
  unfold Gr.Edge
  rw [hl]
  constructor
  · rintro ⟨h1, h2, h3⟩
    rw [cut_row xs d i h1] at h3
    simp only [cutRow, List.mem_filter, Bool.and_eq_true, decide_eq_true_eq] at h3
    exact ⟨⟨h1, h2, h3.1⟩, by have := h3.2.1; omega, h3.2.2⟩
  · rintro ⟨⟨h1, h2, h3⟩, h4, h5⟩
    refine ⟨h1, h2, ?_⟩
    rw [cut_row xs d i h1]
    simp only [cutRow, List.mem_filter, Bool.and_eq_true, decide_eq_true_eq]
    exact ⟨h3, by omega, h5⟩
theorem cut_av (xs : List (List Int)) (d n : Nat) (hn : n < xs.length) (hd : d ≠ xs.length - 1) : Rc (cutG xs d) n (xs.length - 1) ↔ Av xs d n := by
  have hl : (cutG xs d).length = xs.length := by simp [cutG]
  constructor
  · intro h
    have key : ∀ j, Rc (cutG xs d) n j → Av xs d j → Av xs d n := by
      intro j hj
      induction hj with
      | refl _ => exact fun h => h
      | tail k j _ e ih =>
        intro ha
        have := (cut_edge xs d k j).1 e
        exact ih (.step k j this.2.2 this.1 ha)
    exact key _ h (.exit (by omega) (Ne.symm hd))
  · intro h
    induction h with
    | exit _ _ => exact .refl (by omega)
    | step i j hi e ha ih => exact .head ((cut_edge xs d i j).2 ⟨e, ha.ne.1, hi⟩) (ih e.2.1)
section
variable {xs : List (List Int)} {f : Nat → Nat → Bool} (hw : Web xs) (hf : ∀ i d, i < xs.length → d < xs.length → (f i d = true ↔ ¬ Av xs d i))
include hw hf
theorem dc_l1 (n d i : Nat) (hi : i < xs.length) (K : Ev (fun k => billhooklaw10_DomCut.l0 k true xs (n : Int) (d : Int) (Mx xs.length f) ((List.range (i + 1)).map (cutRow xs d)) ((i + 1 : Nat) : Int)) true) :
    ∀ (q t : Nat), t + q = (row xs i).length → Ev (fun k => billhooklaw10_DomCut.l1 k true xs (n : Int) (d : Int) (Mx xs.length f) ((List.range i).map (cutRow xs d)) (i : Int) (((row xs i).take t).filter fun s => decide (s ≠ (d : Int)) && decide (i ≠ d)) (t : Int)) true := by
  have hle := hw.le
  have hrw := hw.rw_ i (by omega)
  have hrl := hrw.1
  intro q
  induction q with
  | zero =>
    intro t ht
    refine Ev.step (fun k => ?_) K
    have ht : t = (row xs i).length := by omega
    simp only [billhooklaw10_DomCut.l1, L3_row]
    rw [if_pos (by omega), if_pos (by omega), if_neg (by omega), if_pos (by simp; omega), w_succ _ (by omega)]
    congr 1
    rw [List.range_succ, List.map_append, ht, List.take_length]
    rfl
  | succ q ih =>
    intro t ht
    have htl : t < (row xs i).length := by omega
    refine Ev.step (fun k => ?_) (ih (t + 1) (by omega))
    simp only [billhooklaw10_DomCut.l1, L3_row, rd_at _ _ htl]
    rw [if_pos (by omega), if_pos (by omega), if_pos (by omega), if_pos (by omega), w_succ _ (by omega), List.take_succ_eq_append_getElem htl, List.filter_append]
    have hfl := List.length_filter_le (fun s => decide (s ≠ (d : Int)) && decide (i ≠ d)) ((row xs i).take t)
    simp only [List.length_take] at hfl
    by_cases h1 : (row xs i)[t] = (d : Int)
    · rw [if_pos h1]
      simp [List.filter_cons, h1]
    · by_cases h2 : i = d
      · rw [if_neg h1, if_pos (by omega)]
        simp [List.filter_cons, h2]
      · rw [if_neg h1, if_neg (by omega), if_pos (by omega)]
        simp [List.filter_cons, h1, h2]
theorem dc_l0 (n d : Nat) (hn : n < xs.length) (hd : d < xs.length) : ∀ (q i : Nat), i + q = xs.length → Ev (fun k => billhooklaw10_DomCut.l0 k true xs (n : Int) (d : Int) (Mx xs.length f) ((List.range i).map (cutRow xs d)) (i : Int)) true := by
  have hle := hw.le
  intro q
  induction q with
  | zero =>
    intro i hi
    have hi : i = xs.length := by omega
    have hsz : gsz (cutG xs d) ≤ gsz xs := by
      unfold gsz
      have e : (xs.map fun r => r.length + 1) = (List.range xs.length).map fun i => (row xs i).length + 1 := by
        apply List.ext_getElem
        · simp
        · intro i h1 h2
          simp only [List.length_map] at h1
          simp [row, List.getD_eq_getElem?_getD, h1]
      rw [e]
      unfold cutG
      rw [List.map_map]
      refine sum_le_of _ fun i _ => ?_
      have := List.length_filter_le (fun s => decide (s ≠ (d : Int)) && decide (i ≠ d)) (row xs i)
      simp only [Function.comp_apply, cutRow]
      omega
    obtain ⟨met, hm, hml, hmr⟩ := Reach_ev (cutG xs d) [(n : Int)] (by have := hw.gsz; omega) (by simp)
    have hl : (cutG xs d).length = xs.length := by simp [cutG]
    have hmx : ∀ i, mkd met i = true ↔ Rc (cutG xs d) n i := fun i => by
      rw [hmr i]
      constructor
      · rintro ⟨s, hs, hr⟩
        have : s = n := by have := List.mem_singleton.1 hs; omega
        rwa [this] at hr
      · exact fun hr => ⟨n, List.mem_singleton.2 rfl, hr⟩
    obtain ⟨K, hK⟩ := hm
    refine ⟨K + 1, fun k hk => ?_⟩
    obtain ⟨m, rfl⟩ : ∃ m, k = m + 1 := ⟨k - 1, by omega⟩
    have hm : dom_Reach.f m (cutG xs d) [(n : Int)] = some met := hK m (by omega)
    subst hi
    simp only [billhooklaw10_DomCut.l0]
    rw [if_neg (by omega)]
    change ((dom_Reach.f m (cutG xs d) [(n : Int)]).bind _) = some true
    rw [hm, Option.bind_some, Mx_len, if_pos rfl, if_pos (by omega), if_pos (by omega), L2_row _ _ _ hn, if_pos (by simp), if_pos (by rw [hml, hl]), w_pred _ (by omega) (by omega), of_row _ _ _ hd]
    by_cases h1 : n = d
    · have : f n d = true := by rw [h1]; exact post_self hf d hd
      rw [if_pos (by omega), if_pos trivial, if_pos (by omega), if_pos (by simp; omega), this]
      rfl
    · by_cases h2 : d = xs.length - 1
      · have : f n d = true := by rw [h2]; exact post_exit hf n hn
        rw [if_neg (by omega), if_pos (by omega), if_pos trivial, if_pos (by omega), if_pos (by simp; omega), this]
        rfl
      · have hv : rdOf false met ((xs.length - 1 : Nat) : Int) = mkd met (xs.length - 1) := by unfold rdOf mkd; rw [nat_toNat]
        rw [if_neg (by omega), if_neg (by omega), if_pos (by omega), if_pos (by rw [hml, hl]; omega), if_pos trivial, if_pos (by omega), if_pos (by simp; omega), hv]
        have : f n d = !(mkd met (xs.length - 1)) := by
          rw [Bool.eq_iff_iff, hf n d hn hd, ← cut_av xs d n hn h2, ← hmx]
          cases mkd met (xs.length - 1) <;> simp
        rw [this]
        simp
  | succ q ih =>
    intro i hi
    refine Ev.step (fun k => ?_) (dc_l1 hw hf n d i (by omega) (ih (i + 1) (by omega)) (row xs i).length 0 (by omega))
    simp only [billhooklaw10_DomCut.l0]
    rw [if_pos (by omega)]
    rfl
end
theorem tmod_nat (a : Int) (n : Nat) (h0 : 0 < n) (ha : 0 ≤ a ∧ a ≤ 255) : ∃ i : Nat, i < n ∧ Int.tmod (wrap64 a) (n : Int) = (i : Int) := by
  have h1 := Int.tmod_nonneg (b := (n : Int)) ha.1
  have h2 := Int.tmod_lt_of_pos a (show (0 : Int) < n by omega)
  exact ⟨(Int.tmod a n).toNat, by omega, by rw [w64 (by omega) (by omega)]; omega⟩
theorem DomCut : billhooklaw10_DomCut.Pure := by
  intro l a b c _ _ hl ha hb hc
  obtain ⟨xs, hx, hw⟩ := web_ev l a hl ha
  obtain ⟨f, hp, hf⟩ := hw.post
  have hle := hw.le
  have h0 := hw.pos
  obtain ⟨n, hn, en⟩ := tmod_nat b xs.length h0 (u8_wf hb)
  obtain ⟨d, hd, ed⟩ := tmod_nat c xs.length h0 (u8_wf hc)
  refine Ev.rounds (g := fun k => billhooklaw10_DomCut.f k l a b c) ?_
  refine Ev.congr (f := fun k => (billhooklaw10_web.f k l a).bind fun t265 => (if (t265.length : Int) = 0 then (none) else ((dom_Post.f k t265).bind fun t268 => (billhooklaw10_DomCut.l0 k true t265 (Int.tmod (wrap64 b) (t265.length : Int)) (Int.tmod (wrap64 c) (t265.length : Int)) t268 ([] : List (List Int)) 0)))) (fun k => ?_)
    (Ev.bind hx (Ev.congr (f := fun k => (dom_Post.f k xs).bind fun t268 => billhooklaw10_DomCut.l0 k true xs (n : Int) (d : Int) t268 [] 0) (fun k => ?_) (Ev.bind hp (dc_l0 hw hf n d hn hd xs.length 0 (by omega)))))
  · unfold billhooklaw10_DomCut.f
    rw [ex_f]
    simp
  · rw [if_neg (by omega), en, ed]
end Go.Proofs.Ytankppgafdcknaa.Pure

/- Printed for this claim by a program. -/
namespace Go.Proofs.Ytankppgafdcknaa.domCut
open Go.ChangeShapes Go.WideShapes Go.ChangeAt Go.RowKit
open Go.ChangeMaps (open_string shut_string)
set_option linter.unusedVariables false
theorem own : ownKnob Try.prog.godebug = none := by kernel_rfl
theorem laidOut : laidOutB Try.prog = true := by kernel_rfl
def IsRow (k : IntKind) (w : World) (a : Option Addr) (len cap : Nat) (zs : List Int) : Prop :=
  (a = none ∧ len = 0 ∧ cap = 0 ∧ zs = []) ∨
  ∃ x, a = some x ∧ len ≤ cap ∧ cap ≤ maxLen ∧ zs.length = cap ∧ (∀ i, i < zs.length → w.cell? (x.add i) = some (.int k (zs.getD i 0))) ∧ ∀ n ∈ zs, (Lit.int k n).wf = true
set_option maxRecDepth 100000 in
theorem lifted (os : Os) (started : os.Started) (H : Type) (enc : TypeId × Value → H) :
    ReturnsInHanded {} Try.checked os 10 .any (Rows.domCutSpec.pre6 enc Try.prog Try.f10 Rows.domCutRow.domain false) (Rows.domCutSpec.post enc Try.prog Try.f10 false true false false) := by
  refine returnsInHanded_of_change_sized (C := Try.checked) own started (by kernel_rfl) Try.func10
    (ChangeSpec.witness6 (enc := enc) (C := Try.checked) false ⟨#[], #[.slice none 0 0, .int .u8 0, .int .u8 0, .int .u8 0], []⟩ 8 (by kernel_rfl) (by kernel_rfl) (by kernel_rfl) (by kernel_rfl)) ?_
  intro W base args ds gs before hval0 hW hcnd hsz0 _
  have hsz : (DataW.weightsEach Try.prog (Try.f10.params.toList ++ Rows.domCutSpec.plain.varTypes Try.prog) (ds ++ gs)).all (· ≤ reachBytes) = true := hsz0
  have hval : ∀ (j : Nat) t v, Try.f10.params[j]? = some t → args[j]? = some v → Value.okWide Try.prog W .any base t v := hval0
  have hW' := hW
  obtain ⟨p, q, hA0, hV, rfl, hfz, hnd⟩ := hW
  have hA : DataW.TrodAll enc Try.prog W 0 (fun _ => true) true Try.f10.params.toList args.toList ds p := hA0
  rw [Try.params10] at hA hval hsz
  obtain ⟨v0, vs0, d0, ds0, p0, q0, hargs, rfl, rfl, h0, r0⟩ := trodAll_cons hA
  obtain ⟨v1, vs1, d1, ds1, p1, q1, rfl, rfl, rfl, h1, r1⟩ := trodAll_cons r0
  obtain ⟨v2, vs2, d2, ds2, p2, q2, rfl, rfl, rfl, h2, r2⟩ := trodAll_cons r1
  obtain ⟨v3, vs3, d3, ds3, p3, q3, rfl, rfl, rfl, h3, r3⟩ := trodAll_cons r2
  obtain ⟨rfl, rfl, rfl⟩ := trodAll_nil r3
  obtain rfl : args = #[v0, v1, v2, v3] := by cases args; simp_all
  obtain ⟨rfl, rfl⟩ := trodVars_none hV
  obtain ⟨a0, len0, cap0, rfl⟩ := okWide_slice Try.underlying46 (hval 0 46 v0 rfl rfl)
  have k0 := h0
  have lt0 : ∀ x ∈ p0, x.block < W.heap.size := by obtain ⟨m, hm⟩ := k0; exact DataW.trod_lt m _ _ _ hm
  obtain ⟨z0, w0⟩ : ∃ zs, IsRow .u8 W a0 len0 cap0 zs := by
    obtain ⟨fuel, hf⟩ := h0
    rcases open_ints Try.underlying46 Try.underlying5 (by kernel_rfl) hf with ⟨hcs, _⟩ | ⟨x, l, c, zs, hcs, _, hl, hm, hz, _, hcell, hwz⟩
    · simp [Value.cells] at hcs
      obtain ⟨rfl, rfl, rfl⟩ := hcs
      exact ⟨[], .inl ⟨rfl, rfl, rfl, rfl⟩⟩
    · simp [Value.cells] at hcs
      obtain ⟨rfl, rfl, rfl⟩ := hcs
      exact ⟨zs, .inr ⟨_, rfl, hl, hm, by simpa using hz, hcell, hwz⟩⟩
  have y0 : len0 * 1 ≤ 140737488351232 := Go.Proofs.YtankppgafdcknaaW.PrintWords.sized_ints hsz (j := 0) (t := 46) rfl rfl Try.underlying46 Try.underlying5 (by kernel_rfl) (by kernel_rfl) h0
  obtain ⟨a1, rfl, rfl, rfl, w1⟩ := open_int Try.underlying5 (hval 1 5 v1 rfl rfl) h1
  obtain ⟨a2, rfl, rfl, rfl, w2⟩ := open_int Try.underlying5 (hval 2 5 v2 rfl rfl) h2
  obtain ⟨a3, rfl, rfl, rfl, w3⟩ := open_int Try.underlying5 (hval 3 5 v3 rfl rfl) h3
  clear hA0 hval0 hsz0 hsz
  refine (PDom.billhooklaw10_DomCut.walk Pure.DomCut a0 len0 cap0 z0 a1 a2 a3 W w0 y0 w1 w2 w3).mono fun e W' ⟨he, bel⟩ => ?_
  subst he
  exact ⟨_, rfl, _, _, _, [], _, [], hW', trodAll_mk1 (shut_bool Try.underlying4 _), (trodAll_cons_mk (Below.trod laidOut (by kernel_rfl) (of_decide_eq_true (by kernel_rfl)) k0 bel lt0) (trodAll_cons_mk (shut_int Try.underlying5 w1) (trodAll_cons_mk (shut_int Try.underlying5 w2) (trodAll_cons_mk (shut_int Try.underlying5 w3) trodAll_mk0)))), rfl, bel.frame _, fun h => by cases h⟩
theorem over : Rows.domCutRow.holds Try.pinned (OpenSpec.ofChange Rows.domCutSpec) :=
  OpenClaim.holds_of_wide 10 Try.f10 rfl rfl rfl rfl rfl rfl rfl ⟨rfl, rfl, rfl, rfl, rfl⟩ rfl rfl rfl rfl rfl (by kernel_rfl) Try.func10 (by kernel_rfl)
    (of_decide_eq_true (by kernel_rfl)) (by unfold Func.isWrapper; first | (rw [if_pos (by decide +kernel)]; kernel_rfl) | (rw [if_neg (by decide +kernel)]; exact ⟨rfl, rfl⟩))
    (fun os started H enc _ => lifted os started H enc)
theorem proved : Rows.DomCutSaid := over
#print axioms proved
end Go.Proofs.Ytankppgafdcknaa.domCut
namespace Go.Proofs.Ytankppgafdcknaa
/-- The row, under a short name, for the claim. -/
theorem domCut_holds : Rows.DomCutSaid := domCut.proved
end Go.Proofs.Ytankppgafdcknaa
