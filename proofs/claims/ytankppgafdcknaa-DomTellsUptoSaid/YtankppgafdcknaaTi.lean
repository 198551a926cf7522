/- Texts joined into one: PTelx3 G6 G7. -/
import Derived.Test.YtankppgafdcknaaTh
/- Printed for this claim by a program. -/
namespace Go.Proofs.Ytankppgafdcknaa.PTel
open Go.Proofs.Ytankppgafdcknaa.PPost Go.Proofs.Ytankppgafdcknaa.PDom
open Go.RowKit Go.Proofs.YtankppgafdcknaaW.PrintWords Go.Proofs.YtankppgafdcknaaW.PrintLast Go.Proofs.YtankppgafdcknaaW.PrintMore
attribute [local go_sem] max2_int min2_int max_two min_two max_three min_three max_four min_four   -- for this text's walks alone
set_option linter.unusedVariables false
set_option linter.unusedSimpArgs false
/-! ### billhookref10_Control: function 38 -/
mutual
def billhookref10_Control.l0 : Nat → List (List Int) → List (List Bool) → List (List Int) → Int → Option ((List (List Int)))
 | 0, _, _, _, _ => none
 | k + 1, x0, x3, x4, x5 => if x5 < (x0.length : Int) then (billhookref10_Control.l1 k x0 x3 x4 x5 ([] : List Int) 0) else (some x4)
def billhookref10_Control.l1 : Nat → List (List Int) → List (List Bool) → List (List Int) → Int → List Int → Int → Option ((List (List Int)))
 | 0, _, _, _, _, _, _ => none
 | k + 1, x0, x3, x4, x5, x6, x7 => if x7 < (x0.length : Int) then (billhookref10_Control.l2 k x0 x3 x4 x5 x6 x7 false 0) else (if x4.length < 5864062014805 then (billhookref10_Control.l0 k x0 x3 (x4 ++ [x6]) (wrap64 (x5 + 1))) else (none))
def billhookref10_Control.l2 : Nat → List (List Int) → List (List Bool) → List (List Int) → Int → List Int → Int → Bool → Int → Option ((List (List Int)))
 | 0, _, _, _, _, _, _, _, _ => none
 | k + 1, x0, x3, x4, x5, x6, x7, x8, x9 => if 0 ≤ x7 then (if x7 < (x0.length : Int) then (if x9 < ((rd_L1 x0 x7).length : Int) then (if 0 ≤ x9 then (if x8 = true then (billhookref10_Control.l2 k x0 x3 x4 x5 x6 x7 true (wrap64 (x9 + 1))) else (if (rd (rd_L1 x0 x7) x9) ≥ 0 then (if (rd (rd_L1 x0 x7) x9) < (x0.length : Int) then (if 0 ≤ (rd (rd_L1 x0 x7) x9) then (if (rd (rd_L1 x0 x7) x9) < (x3.length : Int) then (if 0 ≤ x5 then (if x5 < ((rd_L3 x3 (rd (rd_L1 x0 x7) x9)).length : Int) then (billhookref10_Control.l2 k x0 x3 x4 x5 x6 x7 (rdOf false (rd_L3 x3 (rd (rd_L1 x0 x7) x9)) x5) (wrap64 (x9 + 1))) else (none)) else (none)) else (none)) else (none)) else (billhookref10_Control.l2 k x0 x3 x4 x5 x6 x7 false (wrap64 (x9 + 1)))) else (billhookref10_Control.l2 k x0 x3 x4 x5 x6 x7 false (wrap64 (x9 + 1))))) else (none)) else (if x8 = true then (if x7 < (x3.length : Int) then (if 0 ≤ x5 then (if x5 < ((rd_L3 x3 x7).length : Int) then (if (rdOf false (rd_L3 x3 x7) x5 = true) then (if x5 = x7 then (if x6.length < 17592186044416 then (billhookref10_Control.l1 k x0 x3 x4 x5 (x6 ++ [x7]) (wrap64 (x7 + 1))) else (none)) else (billhookref10_Control.l1 k x0 x3 x4 x5 x6 (wrap64 (x7 + 1)))) else (if x6.length < 17592186044416 then (billhookref10_Control.l1 k x0 x3 x4 x5 (x6 ++ [x7]) (wrap64 (x7 + 1))) else (none))) else (none)) else (none)) else (none)) else (billhookref10_Control.l1 k x0 x3 x4 x5 x6 (wrap64 (x7 + 1))))) else (none)) else (none)
end
def billhookref10_Control.f (k : Nat) (l0 : List (List Int)) : Option ((List (List Int))) := (billhookref10_Post.f k l0).bind fun t150 => (billhookref10_Control.l0 k l0 t150 ([] : List (List Int)) 0)
theorem billhookref10_Control.mono_l : ∀ k, (∀ y0 y1 y2 y3, LeO (billhookref10_Control.l0 k y0 y1 y2 y3) (billhookref10_Control.l0 (k + 1) y0 y1 y2 y3)) ∧ (∀ y0 y1 y2 y3 y4 y5, LeO (billhookref10_Control.l1 k y0 y1 y2 y3 y4 y5) (billhookref10_Control.l1 (k + 1) y0 y1 y2 y3 y4 y5)) ∧ (∀ y0 y1 y2 y3 y4 y5 y6 y7, LeO (billhookref10_Control.l2 k y0 y1 y2 y3 y4 y5 y6 y7) (billhookref10_Control.l2 (k + 1) y0 y1 y2 y3 y4 y5 y6 y7))
 | 0 => ⟨fun _ _ _ _ r h => by simp [billhookref10_Control.l0] at h, fun _ _ _ _ _ _ r h => by simp [billhookref10_Control.l1] at h, fun _ _ _ _ _ _ _ _ r h => by simp [billhookref10_Control.l2] at h⟩
 | k + 1 => by
  obtain ⟨ih0, ih1, ih2⟩ := billhookref10_Control.mono_l k
  refine ⟨?_, ?_, ?_⟩
  ·
   intro y0 y1 y2 y3
   unfold billhookref10_Control.l0
   repeat' first
   | (with_reducible exact ih0 _ _ _ _)
   | (with_reducible exact ih1 _ _ _ _ _ _)
   | (with_reducible exact ih2 _ _ _ _ _ _ _ _)
   | (with_reducible exact billhookref10_Post.mono _ _)
   | (with_reducible exact LeO.refl _)
   | (with_reducible exact LeO.none _)
   | (with_reducible refine LeO.ite ?_ ?_)
   | (with_reducible refine LeO.bind ?_ (fun _ => ?_))
   | exact ih0 _ _ _ _
   | exact ih1 _ _ _ _ _ _
   | exact ih2 _ _ _ _ _ _ _ _
   | exact billhookref10_Post.mono _ _
   | exact LeO.none _
   | refine LeO.ite ?_ ?_
   | refine LeO.bind ?_ (fun _ => ?_)
  ·
   intro y0 y1 y2 y3 y4 y5
   unfold billhookref10_Control.l1
   repeat' first
   | (with_reducible exact ih0 _ _ _ _)
   | (with_reducible exact ih1 _ _ _ _ _ _)
   | (with_reducible exact ih2 _ _ _ _ _ _ _ _)
   | (with_reducible exact billhookref10_Post.mono _ _)
   | (with_reducible exact LeO.refl _)
   | (with_reducible exact LeO.none _)
   | (with_reducible refine LeO.ite ?_ ?_)
   | (with_reducible refine LeO.bind ?_ (fun _ => ?_))
   | exact ih0 _ _ _ _
   | exact ih1 _ _ _ _ _ _
   | exact ih2 _ _ _ _ _ _ _ _
   | exact billhookref10_Post.mono _ _
   | exact LeO.none _
   | refine LeO.ite ?_ ?_
   | refine LeO.bind ?_ (fun _ => ?_)
  ·
   intro y0 y1 y2 y3 y4 y5 y6 y7
   unfold billhookref10_Control.l2
   repeat' first
   | (with_reducible exact ih0 _ _ _ _)
   | (with_reducible exact ih1 _ _ _ _ _ _)
   | (with_reducible exact ih2 _ _ _ _ _ _ _ _)
   | (with_reducible exact billhookref10_Post.mono _ _)
   | (with_reducible exact LeO.refl _)
   | (with_reducible exact LeO.none _)
   | (with_reducible refine LeO.ite ?_ ?_)
   | (with_reducible refine LeO.bind ?_ (fun _ => ?_))
   | exact ih0 _ _ _ _
   | exact ih1 _ _ _ _ _ _
   | exact ih2 _ _ _ _ _ _ _ _
   | exact billhookref10_Post.mono _ _
   | exact LeO.none _
   | refine LeO.ite ?_ ?_
   | refine LeO.bind ?_ (fun _ => ?_)
theorem billhookref10_Control.mono : ∀ a0 k, LeO (billhookref10_Control.f k a0) (billhookref10_Control.f (k + 1) a0) := by
 intro a0 k
 obtain ⟨ih0, ih1, ih2⟩ := billhookref10_Control.mono_l k
 unfold billhookref10_Control.f
 repeat' first
   | (with_reducible exact ih0 _ _ _ _)
   | (with_reducible exact ih1 _ _ _ _ _ _)
   | (with_reducible exact ih2 _ _ _ _ _ _ _ _)
   | (with_reducible exact billhookref10_Post.mono _ _)
   | (with_reducible exact LeO.refl _)
   | (with_reducible exact LeO.none _)
   | (with_reducible refine LeO.ite ?_ ?_)
   | (with_reducible refine LeO.bind ?_ (fun _ => ?_))
   | exact ih0 _ _ _ _
   | exact ih1 _ _ _ _ _ _
   | exact ih2 _ _ _ _ _ _ _ _
   | exact billhookref10_Post.mono _ _
   | exact LeO.none _
   | refine LeO.ite ?_ ?_
   | refine LeO.bind ?_ (fun _ => ?_)
set_option maxHeartbeats 8000000 in
set_option maxRecDepth 100000 in
theorem billhookref10_Control.calls (k : Nat) (A0 : Option Addr) (c0 : Nat) (l0 : List (List Int)) (r : List (List Int)) (w : World) (hr0 : Kd.C (Kd.slice 3 (Kd.int .i64)) w A0 l0.length l0) (hc0 : l0.length ≤ c0) (h : billhookref10_Control.f k l0 = some r) :
  Calls Try.prog 38 #[.slice A0 l0.length c0] w fun e w' => ∃ v0_ : Value, e = .returned (v0_) ∧ Kd.S (Kd.slice 3 (Kd.int .i64)) 54 w' w.heap.size (fun _ => True) v0_ r ∧ Below w.heap.size w w' := by
 have HR0 := Aside0.mk hr0
 have HC0 := Aside0.mk hc0
 clear hr0 hc0
 have HB := Aside0.mk (Below.refl w.heap.size w)
 have H : ((billhookref10_Post.f k l0).bind fun t150 => (billhookref10_Control.l0 k l0 t150 ([] : List (List Int)) 0)) = some r := h
 clear h
 replace H := Option.bind_eq_some_iff.mp H
 obtain ⟨t150, A20, H⟩ := H
 replace H : (billhookref10_Control.l0 k l0 t150 ([] : List (List Int)) 0) = some r := H
 have A2 := Aside0.mk A20
 clear A20
 have H' := Aside0.mk H
 clear H
 go_enter Try.func38, Try.ntmps38
 go_wp2_with (first | ((with_reducible refine gate_callee (f := 32) rfl ?_); refine goesL_ (some 12) rfl rfl Try.func32 (by kernel_rfl) rfl #[.slice A0 l0.length c0] rfl (by (try simp only [List.map_toArray, List.map_cons, List.map_nil]); first | done | rfl | (simp only [List.length_drop, List.length_take]; rfl)) ?_; (with_reducible refine (billhookref10_Post.calls k _ _ l0 t150 _ ?side1 ?side2 A2.out).mono ?_); (case side1 => repeat (first | exact HR0.out | (with_reducible refine Kd.C_alloc ?_ _) | (with_reducible refine Kd.C_drewN ?_ _) | (with_reducible refine Kd.C_drew ?_))); (case side2 => exact HC0.out); rintro e w3 ⟨v151, rfl, ho0, hb⟩; refine ⟨_, rfl, ?_⟩; have n0_ := Aside0.mk (Kd.S_lower ho0 (below_size (by repeat (first | (with_reducible first | exact HB.out | apply below_alloc | apply pw_below_drewN | apply below_drew1) | exact HB.out)))); have n1_ := Aside0.mk (below_step (by repeat (first | (with_reducible first | exact HB.out | apply below_alloc | apply pw_below_drewN | apply below_drew1) | exact HB.out)) hb); clear HB; have HO152 := n0_; have HB := n1_; clear n0_ n1_; (try clear hb); (try clear hb2); (try clear hk); (try clear hi); (try clear ho0)))
 go_loopg [4, 5] k (fun kq v4 v5 w' => ∃ (x4_1 : List (List Int)) (x5_1 : Int), v5 = .int .i64 x5_1 ∧ Aside0 (billhookref10_Control.l0 kq l0 t150 x4_1 x5_1 = some r) ∧ Aside0 (kq ≤ k) ∧ Aside0 (Kd.S (Kd.slice 4 Kd.bool) 57 w' w.heap.size (fun _ => True) v151 t150) ∧ Aside0 (Kd.S (Kd.slice 3 (Kd.int .i64)) 54 w' w.heap.size (fun _ => True) v4 x4_1) ∧ Aside0 (Below w.heap.size w w'))
 case atStart => exact ⟨(([] : List (List Int))), (0), (by first | rfl | (simp; done) | (simp [*]; done)), H', ⟨Nat.le_refl _⟩, ⟨by (with_reducible repeat (first | apply Kd.S_alloc | apply Kd.S_drewN | apply Kd.S_drew)); exact HO152.out⟩, ⟨by first | exact Kd.S_nil _ _ _ _ _ | exact Kd.N_nil _ _ _ _ _ | exact Kd.V_nil _ _ _ _ _ | exact Kd.Q_nil _ _ _ _ _ | exact Kd.R_nil _ _ _ _ _⟩, ⟨by repeat (first | (with_reducible first | exact HB.out | apply below_alloc | apply pw_below_drewN | apply below_drew1) | exact HB.out)⟩⟩
 case round =>
  clear H'
  try clear p2
  try clear c3
  obtain ⟨x4_1, x5_1, rfl, HA, HK1, HO_3, HO_4, HB⟩ := hrel
  cases gk with
  | zero => exact absurd HA.out (by simp [billhookref10_Control.l0])
  | succ k1 =>
   have H := HA.out
   clear HA
   simp only [billhookref10_Control.l0] at H
   by_cases c4 : x5_1 < (l0.length : Int)
   ·
    rw [if_pos c4] at H
    have c4b0 : decide (x5_1 < (l0.length : Int)) = true := decide_eq_true c4
    clear c4
    have H' := Aside0.mk H
    clear H
    go_wp2
    go_loopg [6, 7] k1 (fun kq v6 v7 w' => ∃ (x6_2 : List Int) (x7_2 : Int), v7 = .int .i64 x7_2 ∧ Aside0 (billhookref10_Control.l1 kq l0 t150 x4_1 x5_1 x6_2 x7_2 = some r) ∧ Aside0 (kq ≤ k1) ∧ Aside0 (Kd.S (Kd.slice 4 Kd.bool) 57 w' w.heap.size (fun _ => True) v151 t150) ∧ Aside0 (Kd.S (Kd.slice 3 (Kd.int .i64)) 54 w' w.heap.size (fun k_ => some k_ ≠ (v6 : Value).ownBlock) u4 x4_1) ∧ Aside0 (Kd.R (Kd.int .i64) 3 w' w.heap.size (fun _ => True) v6 x6_2) ∧ Aside0 (Below w.heap.size w w'))
    case atStart => exact ⟨(([] : List Int)), (0), (by first | rfl | (simp; done) | (simp [*]; done)), H', ⟨Nat.le_refl _⟩, ⟨by (with_reducible repeat (first | apply Kd.S_alloc | apply Kd.S_drewN | apply Kd.S_drew)); exact HO_3.out⟩, ⟨by (with_reducible repeat (first | apply Kd.S_alloc | apply Kd.S_drewN | apply Kd.S_drew)); exact Kd.S_mono HO_4.out (fun _ hk => (by simp [Value.ownBlock]))⟩, ⟨by first | exact Kd.R_nil _ _ _ _ _ | exact Kd.N_nil _ _ _ _ _ | exact Kd.V_nil _ _ _ _ _ | exact Kd.Q_nil _ _ _ _ _ | exact Kd.S_nil _ _ _ _ _⟩, ⟨by repeat (first | (with_reducible first | exact HB.out | apply below_alloc | apply pw_below_drewN | apply below_drew1) | exact HB.out)⟩⟩
    case round =>
     clear H'
     try clear p2
     try clear c3
     try clear c4
     try clear c4b0
     try clear p2
     obtain ⟨x6_2, x7_2, rfl, HA, HK2, HO_3, HO_4, HO_6, HB⟩ := hrel
     cases gk with
     | zero => exact absurd HA.out (by simp [billhookref10_Control.l1])
     | succ k2 =>
      have H := HA.out
      clear HA
      simp only [billhookref10_Control.l1] at H
      by_cases c5 : x7_2 < (l0.length : Int)
      ·
       rw [if_pos c5] at H
       have c5b0 : decide (x7_2 < (l0.length : Int)) = true := decide_eq_true c5
       clear c5
       have H' := Aside0.mk H
       clear H
       go_wp2
       go_loopg [8, 9] k2 (fun kq v8 v9 w' => ∃ (x8_3 : Bool) (x9_3 : Int), v8 = .bool x8_3 ∧ v9 = .int .i64 x9_3 ∧ Aside0 (billhookref10_Control.l2 kq l0 t150 x4_1 x5_1 x6_2 x7_2 x8_3 x9_3 = some r) ∧ Aside0 (kq ≤ k2) ∧ Aside0 (Kd.S (Kd.slice 4 Kd.bool) 57 w' w.heap.size (fun _ => True) v151 t150) ∧ Aside0 (Kd.S (Kd.slice 3 (Kd.int .i64)) 54 w' w.heap.size (fun k_ => some k_ ≠ (u6 : Value).ownBlock) u4 x4_1) ∧ Aside0 (Kd.R (Kd.int .i64) 3 w' w.heap.size (fun _ => True) u6 x6_2) ∧ Aside0 (Below w.heap.size w w'))
       case atStart => exact ⟨(false), (0), (by first | rfl | (simp; done) | (simp [*]; done)), (by first | rfl | (simp; done) | (simp [*]; done)), H', ⟨Nat.le_refl _⟩, ⟨by (with_reducible repeat (first | apply Kd.S_alloc | apply Kd.S_drewN | apply Kd.S_drew)); exact HO_3.out⟩, ⟨by (with_reducible repeat (first | apply Kd.S_alloc | apply Kd.S_drewN | apply Kd.S_drew)); exact HO_4.out⟩, ⟨by (with_reducible repeat (first | apply Kd.R_alloc | apply Kd.R_drewN | apply Kd.R_drew)); exact HO_6.out⟩, ⟨by repeat (first | (with_reducible first | exact HB.out | apply below_alloc | apply pw_below_drewN | apply below_drew1) | exact HB.out)⟩⟩
       case round =>
        clear H'
        try clear p2
        try clear c3
        try clear c4
        try clear c4b0
        try clear c5
        try clear c5b0
        try clear p2
        obtain ⟨x8_3, x9_3, rfl, rfl, HA, HK3, HO_3, HO_4, HO_6, HB⟩ := hrel
        cases gk with
        | zero => exact absurd HA.out (by simp [billhookref10_Control.l2])
        | succ k3 =>
         have H := HA.out
         clear HA
         simp only [billhookref10_Control.l2] at H
         by_cases c6 : 0 ≤ x7_2
         ·
          rw [if_pos c6] at H
          have c6b0 : decide (0 ≤ x7_2) = true := decide_eq_true c6
          clear c6
          by_cases c7 : x7_2 < (l0.length : Int)
          ·
           rw [if_pos c7] at H
           have c7b0 : decide (x7_2 < (l0.length : Int)) = true := decide_eq_true c7
           clear c7
           by_cases c8 : x9_3 < ((rd_L1 l0 x7_2).length : Int)
           ·
            rw [if_pos c8] at H
            have c8b0 : decide (x9_3 < ((rd_L1 l0 x7_2).length : Int)) = true := decide_eq_true c8
            clear c8
            by_cases c9 : 0 ≤ x9_3
            ·
             rw [if_pos c9] at H
             have c9b0 : decide (0 ≤ x9_3) = true := decide_eq_true c9
             clear c9
             by_cases c10 : x8_3 = true
             ·
              subst c10
              have H1 : (billhookref10_Control.l2 k3 l0 t150 x4_1 x5_1 x6_2 x7_2 true (wrap64 (x9_3 + 1))) = some r := by first | (rw [if_pos rfl] at H; exact H) | (rw [if_pos trivial] at H; exact H)
              clear H
              have H := H1
              clear H1
              have H' := Aside0.mk H
              clear H
              have p156 : 0 ≤ (x7_2 : Int) := of_decide_eq_true (by first | (with_reducible assumption) | assumption)
              have q156 : x7_2 < (l0.length : Int) := of_decide_eq_true (by first | (with_reducible assumption) | assumption)
              obtain ⟨ad156, A156_0, c156_0, e156, hx156_0, hl156_0, hi156_0⟩ := at_L1 HR0.out x7_2 p156 q156
              cases e156
              (try replace hx156_0 := (HB.out.cell (World.block_lt_of_cell? w _ hx156_0)).trans hx156_0)
              have HR156_0 := Aside0.mk hi156_0
              have HC156_0 := Aside0.mk hl156_0
              clear hi156_0 hl156_0
              replace p156 := eq_true p156
              replace q156 := eq_true q156
              have p157 : 0 ≤ (x7_2 : Int) := of_decide_eq_true (by first | (with_reducible assumption) | assumption)
              have q157 : x7_2 < (l0.length : Int) := of_decide_eq_true (by first | (with_reducible assumption) | assumption)
              obtain ⟨ad157, A157_0, c157_0, e157, hx157_0, hl157_0, hi157_0⟩ := at_L1 HR0.out x7_2 p157 q157
              obtain rfl : ad156 = ad157 := (by injection e157)
              (try replace hx157_0 := (HB.out.cell (World.block_lt_of_cell? w _ hx157_0)).trans hx157_0)
              have HR157_0 := Aside0.mk hi157_0
              have HC157_0 := Aside0.mk hl157_0
              clear hi157_0 hl157_0
              replace p157 := eq_true p157
              replace q157 := eq_true q157
              have ea_ := Option.some.inj (hx156_0.symm.trans hx157_0)
              injection ea_ with ea_ en_ ec_
              subst ea_
              subst ec_
              clear en_
              have p158 : 0 ≤ (x9_3 : Int) := of_decide_eq_true (by first | (with_reducible assumption) | assumption)
              have q158 : x9_3 < ((rd_L1 l0 x7_2).length : Int) := of_decide_eq_true (by first | (with_reducible assumption) | assumption)
              obtain ⟨ad158, e158, hx158_0⟩ := Kd.at_int HR157_0.out x9_3 p158 q158
              cases e158
              (try replace hx158_0 := (HB.out.cell (World.block_lt_of_cell? w _ hx158_0)).trans hx158_0)
              replace p158 := eq_true p158
              replace q158 := eq_true q158
              go_wp2
              go_roundg k3
              case measure => have := HK1.out; have := HK2.out; have := HK3.out; omega
              case rel => exact ⟨(true), (wrap64 (x9_3 + 1)), (by first | rfl | (simp; done) | (simp [*]; done)), (by first | rfl | (simp; done) | (simp [*]; done)), H', ⟨by have := HK1.out; have := HK2.out; have := HK3.out; omega⟩, ⟨by (with_reducible repeat (first | apply Kd.S_alloc | apply Kd.S_drewN | apply Kd.S_drew)); exact HO_3.out⟩, ⟨by (with_reducible repeat (first | apply Kd.S_alloc | apply Kd.S_drewN | apply Kd.S_drew)); exact HO_4.out⟩, ⟨by (with_reducible repeat (first | apply Kd.R_alloc | apply Kd.R_drewN | apply Kd.R_drew)); exact HO_6.out⟩, ⟨by repeat (first | (with_reducible first | exact HB.out | apply below_alloc | apply pw_below_drewN | apply below_drew1) | exact HB.out)⟩⟩
             ·
              replace c10 := Bool.eq_false_iff.mpr c10
              subst c10
              have H1 : (if (rd (rd_L1 l0 x7_2) x9_3) ≥ 0 then (if (rd (rd_L1 l0 x7_2) x9_3) < (l0.length : Int) then (if 0 ≤ (rd (rd_L1 l0 x7_2) x9_3) then (if (rd (rd_L1 l0 x7_2) x9_3) < (t150.length : Int) then (if 0 ≤ x5_1 then (if x5_1 < ((rd_L3 t150 (rd (rd_L1 l0 x7_2) x9_3)).length : Int) then (billhookref10_Control.l2 k3 l0 t150 x4_1 x5_1 x6_2 x7_2 (rdOf false (rd_L3 t150 (rd (rd_L1 l0 x7_2) x9_3)) x5_1) (wrap64 (x9_3 + 1))) else (none)) else (none)) else (none)) else (none)) else (billhookref10_Control.l2 k3 l0 t150 x4_1 x5_1 x6_2 x7_2 false (wrap64 (x9_3 + 1)))) else (billhookref10_Control.l2 k3 l0 t150 x4_1 x5_1 x6_2 x7_2 false (wrap64 (x9_3 + 1)))) = some r := by rw [if_neg (show ¬ (false = true) by decide)] at H; exact H
              clear H
              have H := H1
              clear H1
              by_cases c11 : (rd (rd_L1 l0 x7_2) x9_3) ≥ 0
              ·
               rw [if_pos c11] at H
               have c11b0 : decide (0 ≤ (rd (rd_L1 l0 x7_2) x9_3)) = true := decide_eq_true c11
               clear c11
               by_cases c12 : (rd (rd_L1 l0 x7_2) x9_3) < (l0.length : Int)
               ·
                rw [if_pos c12] at H
                have c12b0 : decide ((rd (rd_L1 l0 x7_2) x9_3) < (l0.length : Int)) = true := decide_eq_true c12
                clear c12
                by_cases c13 : 0 ≤ (rd (rd_L1 l0 x7_2) x9_3)
                ·
                 rw [if_pos c13] at H
                 have c13b0 : decide (0 ≤ (rd (rd_L1 l0 x7_2) x9_3)) = true := decide_eq_true c13
                 clear c13
                 by_cases c14 : (rd (rd_L1 l0 x7_2) x9_3) < (t150.length : Int)
                 ·
                  rw [if_pos c14] at H
                  have c14b0 : decide ((rd (rd_L1 l0 x7_2) x9_3) < (t150.length : Int)) = true := decide_eq_true c14
                  clear c14
                  by_cases c15 : 0 ≤ x5_1
                  ·
                   rw [if_pos c15] at H
                   have c15b0 : decide (0 ≤ x5_1) = true := decide_eq_true c15
                   clear c15
                   by_cases c16 : x5_1 < ((rd_L3 t150 (rd (rd_L1 l0 x7_2) x9_3)).length : Int)
                   ·
                    rw [if_pos c16] at H
                    have c16b0 : decide (x5_1 < ((rd_L3 t150 (rd (rd_L1 l0 x7_2) x9_3)).length : Int)) = true := decide_eq_true c16
                    clear c16
                    have H' := Aside0.mk H
                    clear H
                    have p156 : 0 ≤ (x7_2 : Int) := of_decide_eq_true (by first | (with_reducible assumption) | assumption)
                    have q156 : x7_2 < (l0.length : Int) := of_decide_eq_true (by first | (with_reducible assumption) | assumption)
                    obtain ⟨ad156, A156_0, c156_0, e156, hx156_0, hl156_0, hi156_0⟩ := at_L1 HR0.out x7_2 p156 q156
                    cases e156
                    (try replace hx156_0 := (HB.out.cell (World.block_lt_of_cell? w _ hx156_0)).trans hx156_0)
                    have HR156_0 := Aside0.mk hi156_0
                    have HC156_0 := Aside0.mk hl156_0
                    clear hi156_0 hl156_0
                    replace p156 := eq_true p156
                    replace q156 := eq_true q156
                    have p157 : 0 ≤ (x7_2 : Int) := of_decide_eq_true (by first | (with_reducible assumption) | assumption)
                    have q157 : x7_2 < (l0.length : Int) := of_decide_eq_true (by first | (with_reducible assumption) | assumption)
                    obtain ⟨ad157, A157_0, c157_0, e157, hx157_0, hl157_0, hi157_0⟩ := at_L1 HR0.out x7_2 p157 q157
                    obtain rfl : ad156 = ad157 := (by injection e157)
                    (try replace hx157_0 := (HB.out.cell (World.block_lt_of_cell? w _ hx157_0)).trans hx157_0)
                    have HR157_0 := Aside0.mk hi157_0
                    have HC157_0 := Aside0.mk hl157_0
                    clear hi157_0 hl157_0
                    replace p157 := eq_true p157
                    replace q157 := eq_true q157
                    have ea_ := Option.some.inj (hx156_0.symm.trans hx157_0)
                    injection ea_ with ea_ en_ ec_
                    subst ea_
                    subst ec_
                    clear en_
                    have p158 : 0 ≤ (x9_3 : Int) := of_decide_eq_true (by first | (with_reducible assumption) | assumption)
                    have q158 : x9_3 < ((rd_L1 l0 x7_2).length : Int) := of_decide_eq_true (by first | (with_reducible assumption) | assumption)
                    obtain ⟨ad158, e158, hx158_0⟩ := Kd.at_int HR157_0.out x9_3 p158 q158
                    cases e158
                    (try replace hx158_0 := (HB.out.cell (World.block_lt_of_cell? w _ hx158_0)).trans hx158_0)
                    replace p158 := eq_true p158
                    replace q158 := eq_true q158
                    obtain ⟨Ao17, co17, eo17⟩ := Kd.S_slice HO_3.out
                    subst eo17
                    have p159 : 0 ≤ ((rd (rd_L1 l0 x7_2) x9_3) : Int) := of_decide_eq_true (by first | (with_reducible assumption) | assumption)
                    have q159 : (rd (rd_L1 l0 x7_2) x9_3) < (t150.length : Int) := of_decide_eq_true (by first | (with_reducible assumption) | assumption)
                    obtain ⟨ad159, A159_0, c159_0, e159, hx159_0, hl159_0, hi159_0⟩ := at_L3 (Kd.S_reads' HO_3.out).2.2 (rd (rd_L1 l0 x7_2) x9_3) p159 q159
                    cases e159
                    obtain ⟨ce159, hce159, hMe159, hcc159⟩ := Kd.S_get HO_3.out [] (rd (rd_L1 l0 x7_2) x9_3) p159 (by first | exact q159 | exact of_decide_eq_true (by first | (with_reducible assumption) | assumption) | (have e_ := (Kd.S_reads' HO_3.out).1; omega))
                    obtain ⟨ve159_0, rfl, ge159_0⟩ := hMe159
                    have hv159_0 := hcc159 0 _ rfl
                    rw [Nat.add_zero, show ((Kd.slice 4 Kd.bool)).sz = 1 from rfl, Nat.mul_one] at hv159_0
                    replace hv159_0 := Option.some.inj (hv159_0.symm.trans hx159_0)
                    rw [hv159_0] at ge159_0
                    have HL159_0 := Aside0.mk (show Kd.R Kd.bool 4 _ _ _ _ (rd_L3 t150 (rd (rd_L1 l0 x7_2) x9_3)) from ge159_0)
                    clear hv159_0 ge159_0
                    clear hcc159 hce159
                    have HR159_0 := Aside0.mk hi159_0
                    have HC159_0 := Aside0.mk hl159_0
                    clear hi159_0 hl159_0
                    (try (have hz_ := Option.some.inj (hx156_0.symm.trans hx159_0); injection hz_ with za_ zn_ zc_; subst za_; subst zc_; clear zn_))
                    (try (have hz_ := Option.some.inj (hx157_0.symm.trans hx159_0); injection hz_ with za_ zn_ zc_; subst za_; subst zc_; clear zn_))
                    replace p159 := eq_true p159
                    replace q159 := eq_true q159
                    have p160 : 0 ≤ (x5_1 : Int) := of_decide_eq_true (by first | (with_reducible assumption) | assumption)
                    have q160 : x5_1 < ((rd_L3 t150 (rd (rd_L1 l0 x7_2) x9_3)).length : Int) := of_decide_eq_true (by first | (with_reducible assumption) | assumption)
                    obtain ⟨ad160, e160, hx160_0⟩ := Kd.at_bool (by repeat (first | (with_reducible exact HR159_0.out) | (with_reducible refine Kd.C_alloc ?_ _) | (with_reducible refine Kd.C_drewN ?_ _) | (with_reducible refine Kd.C_drew ?_) | exact HR159_0.out)) x5_1 p160 q160
                    cases e160
                    replace p160 := eq_true p160
                    replace q160 := eq_true q160
                    go_wp2
                    go_roundg k3
                    case measure => have := HK1.out; have := HK2.out; have := HK3.out; omega
                    case rel => exact ⟨(rdOf false (rd_L3 t150 (rd (rd_L1 l0 x7_2) x9_3)) x5_1), (wrap64 (x9_3 + 1)), (by first | rfl | (simp; done) | (simp [*]; done)), (by first | rfl | (simp; done) | (simp [*]; done)), H', ⟨by have := HK1.out; have := HK2.out; have := HK3.out; omega⟩, ⟨by (with_reducible repeat (first | apply Kd.S_alloc | apply Kd.S_drewN | apply Kd.S_drew)); exact HO_3.out⟩, ⟨by (with_reducible repeat (first | apply Kd.S_alloc | apply Kd.S_drewN | apply Kd.S_drew)); exact HO_4.out⟩, ⟨by (with_reducible repeat (first | apply Kd.R_alloc | apply Kd.R_drewN | apply Kd.R_drew)); exact HO_6.out⟩, ⟨by repeat (first | (with_reducible first | exact HB.out | apply below_alloc | apply pw_below_drewN | apply below_drew1) | exact HB.out)⟩⟩
                   ·
                    rw [if_neg c16] at H
                    exact absurd H (by simp)
                  ·
                   rw [if_neg c15] at H
                   exact absurd H (by simp)
                 ·
                  rw [if_neg c14] at H
                  exact absurd H (by simp)
                ·
                 rw [if_neg c13] at H
                 exact absurd H (by simp)
               ·
                rw [if_neg c12] at H
                have c12b0 : decide ((rd (rd_L1 l0 x7_2) x9_3) < (l0.length : Int)) = false := decide_eq_false c12
                clear c12
                have H' := Aside0.mk H
                clear H
                have p156 : 0 ≤ (x7_2 : Int) := of_decide_eq_true (by first | (with_reducible assumption) | assumption)
                have q156 : x7_2 < (l0.length : Int) := of_decide_eq_true (by first | (with_reducible assumption) | assumption)
                obtain ⟨ad156, A156_0, c156_0, e156, hx156_0, hl156_0, hi156_0⟩ := at_L1 HR0.out x7_2 p156 q156
                cases e156
                (try replace hx156_0 := (HB.out.cell (World.block_lt_of_cell? w _ hx156_0)).trans hx156_0)
                have HR156_0 := Aside0.mk hi156_0
                have HC156_0 := Aside0.mk hl156_0
                clear hi156_0 hl156_0
                replace p156 := eq_true p156
                replace q156 := eq_true q156
                have p157 : 0 ≤ (x7_2 : Int) := of_decide_eq_true (by first | (with_reducible assumption) | assumption)
                have q157 : x7_2 < (l0.length : Int) := of_decide_eq_true (by first | (with_reducible assumption) | assumption)
                obtain ⟨ad157, A157_0, c157_0, e157, hx157_0, hl157_0, hi157_0⟩ := at_L1 HR0.out x7_2 p157 q157
                obtain rfl : ad156 = ad157 := (by injection e157)
                (try replace hx157_0 := (HB.out.cell (World.block_lt_of_cell? w _ hx157_0)).trans hx157_0)
                have HR157_0 := Aside0.mk hi157_0
                have HC157_0 := Aside0.mk hl157_0
                clear hi157_0 hl157_0
                replace p157 := eq_true p157
                replace q157 := eq_true q157
                have ea_ := Option.some.inj (hx156_0.symm.trans hx157_0)
                injection ea_ with ea_ en_ ec_
                subst ea_
                subst ec_
                clear en_
                have p158 : 0 ≤ (x9_3 : Int) := of_decide_eq_true (by first | (with_reducible assumption) | assumption)
                have q158 : x9_3 < ((rd_L1 l0 x7_2).length : Int) := of_decide_eq_true (by first | (with_reducible assumption) | assumption)
                obtain ⟨ad158, e158, hx158_0⟩ := Kd.at_int HR157_0.out x9_3 p158 q158
                cases e158
                (try replace hx158_0 := (HB.out.cell (World.block_lt_of_cell? w _ hx158_0)).trans hx158_0)
                replace p158 := eq_true p158
                replace q158 := eq_true q158
                go_wp2
                go_roundg k3
                case measure => have := HK1.out; have := HK2.out; have := HK3.out; omega
                case rel => exact ⟨(false), (wrap64 (x9_3 + 1)), (by first | rfl | (simp; done) | (simp [*]; done)), (by first | rfl | (simp; done) | (simp [*]; done)), H', ⟨by have := HK1.out; have := HK2.out; have := HK3.out; omega⟩, ⟨by (with_reducible repeat (first | apply Kd.S_alloc | apply Kd.S_drewN | apply Kd.S_drew)); exact HO_3.out⟩, ⟨by (with_reducible repeat (first | apply Kd.S_alloc | apply Kd.S_drewN | apply Kd.S_drew)); exact HO_4.out⟩, ⟨by (with_reducible repeat (first | apply Kd.R_alloc | apply Kd.R_drewN | apply Kd.R_drew)); exact HO_6.out⟩, ⟨by repeat (first | (with_reducible first | exact HB.out | apply below_alloc | apply pw_below_drewN | apply below_drew1) | exact HB.out)⟩⟩
              ·
               rw [if_neg c11] at H
               have c11b0 : decide (0 ≤ (rd (rd_L1 l0 x7_2) x9_3)) = false := decide_eq_false c11
               clear c11
               have H' := Aside0.mk H
               clear H
               have p156 : 0 ≤ (x7_2 : Int) := of_decide_eq_true (by first | (with_reducible assumption) | assumption)
               have q156 : x7_2 < (l0.length : Int) := of_decide_eq_true (by first | (with_reducible assumption) | assumption)
               obtain ⟨ad156, A156_0, c156_0, e156, hx156_0, hl156_0, hi156_0⟩ := at_L1 HR0.out x7_2 p156 q156
               cases e156
               (try replace hx156_0 := (HB.out.cell (World.block_lt_of_cell? w _ hx156_0)).trans hx156_0)
               have HR156_0 := Aside0.mk hi156_0
               have HC156_0 := Aside0.mk hl156_0
               clear hi156_0 hl156_0
               replace p156 := eq_true p156
               replace q156 := eq_true q156
               have p157 : 0 ≤ (x7_2 : Int) := of_decide_eq_true (by first | (with_reducible assumption) | assumption)
               have q157 : x7_2 < (l0.length : Int) := of_decide_eq_true (by first | (with_reducible assumption) | assumption)
               obtain ⟨ad157, A157_0, c157_0, e157, hx157_0, hl157_0, hi157_0⟩ := at_L1 HR0.out x7_2 p157 q157
               obtain rfl : ad156 = ad157 := (by injection e157)
               (try replace hx157_0 := (HB.out.cell (World.block_lt_of_cell? w _ hx157_0)).trans hx157_0)
               have HR157_0 := Aside0.mk hi157_0
               have HC157_0 := Aside0.mk hl157_0
               clear hi157_0 hl157_0
               replace p157 := eq_true p157
               replace q157 := eq_true q157
               have ea_ := Option.some.inj (hx156_0.symm.trans hx157_0)
               injection ea_ with ea_ en_ ec_
               subst ea_
               subst ec_
               clear en_
               have p158 : 0 ≤ (x9_3 : Int) := of_decide_eq_true (by first | (with_reducible assumption) | assumption)
               have q158 : x9_3 < ((rd_L1 l0 x7_2).length : Int) := of_decide_eq_true (by first | (with_reducible assumption) | assumption)
               obtain ⟨ad158, e158, hx158_0⟩ := Kd.at_int HR157_0.out x9_3 p158 q158
               cases e158
               (try replace hx158_0 := (HB.out.cell (World.block_lt_of_cell? w _ hx158_0)).trans hx158_0)
               replace p158 := eq_true p158
               replace q158 := eq_true q158
               go_wp2
               go_roundg k3
               case measure => have := HK1.out; have := HK2.out; have := HK3.out; omega
               case rel => exact ⟨(false), (wrap64 (x9_3 + 1)), (by first | rfl | (simp; done) | (simp [*]; done)), (by first | rfl | (simp; done) | (simp [*]; done)), H', ⟨by have := HK1.out; have := HK2.out; have := HK3.out; omega⟩, ⟨by (with_reducible repeat (first | apply Kd.S_alloc | apply Kd.S_drewN | apply Kd.S_drew)); exact HO_3.out⟩, ⟨by (with_reducible repeat (first | apply Kd.S_alloc | apply Kd.S_drewN | apply Kd.S_drew)); exact HO_4.out⟩, ⟨by (with_reducible repeat (first | apply Kd.R_alloc | apply Kd.R_drewN | apply Kd.R_drew)); exact HO_6.out⟩, ⟨by repeat (first | (with_reducible first | exact HB.out | apply below_alloc | apply pw_below_drewN | apply below_drew1) | exact HB.out)⟩⟩
            ·
             rw [if_neg c9] at H
             exact absurd H (by simp)
           ·
            rw [if_neg c8] at H
            have c8b0 : decide (x9_3 < ((rd_L1 l0 x7_2).length : Int)) = false := decide_eq_false c8
            clear c8
            by_cases c18 : x8_3 = true
            ·
             subst c18
             have H1 : (if x7_2 < (t150.length : Int) then (if 0 ≤ x5_1 then (if x5_1 < ((rd_L3 t150 x7_2).length : Int) then (if (rdOf false (rd_L3 t150 x7_2) x5_1 = true) then (if x5_1 = x7_2 then (if x6_2.length < 17592186044416 then (billhookref10_Control.l1 k3 l0 t150 x4_1 x5_1 (x6_2 ++ [x7_2]) (wrap64 (x7_2 + 1))) else (none)) else (billhookref10_Control.l1 k3 l0 t150 x4_1 x5_1 x6_2 (wrap64 (x7_2 + 1)))) else (if x6_2.length < 17592186044416 then (billhookref10_Control.l1 k3 l0 t150 x4_1 x5_1 (x6_2 ++ [x7_2]) (wrap64 (x7_2 + 1))) else (none))) else (none)) else (none)) else (none)) = some r := by first | (rw [if_pos rfl] at H; exact H) | (rw [if_pos trivial] at H; exact H)
             clear H
             have H := H1
             clear H1
             by_cases c19 : x7_2 < (t150.length : Int)
             ·
              rw [if_pos c19] at H
              have c19b0 : decide (x7_2 < (t150.length : Int)) = true := decide_eq_true c19
              clear c19
              by_cases c20 : 0 ≤ x5_1
              ·
               rw [if_pos c20] at H
               have c20b0 : decide (0 ≤ x5_1) = true := decide_eq_true c20
               clear c20
               by_cases c21 : x5_1 < ((rd_L3 t150 x7_2).length : Int)
               ·
                rw [if_pos c21] at H
                have c21b0 : decide (x5_1 < ((rd_L3 t150 x7_2).length : Int)) = true := decide_eq_true c21
                clear c21
                obtain ⟨bq22, hbq22⟩ : ∃ b_ : Bool, b_ = (rdOf false (rd_L3 t150 x7_2) x5_1) := ⟨_, rfl⟩
                replace H : (if (bq22 = true) then (if x5_1 = x7_2 then (if x6_2.length < 17592186044416 then (billhookref10_Control.l1 k3 l0 t150 x4_1 x5_1 (x6_2 ++ [x7_2]) (wrap64 (x7_2 + 1))) else (none)) else (billhookref10_Control.l1 k3 l0 t150 x4_1 x5_1 x6_2 (wrap64 (x7_2 + 1)))) else (if x6_2.length < 17592186044416 then (billhookref10_Control.l1 k3 l0 t150 x4_1 x5_1 (x6_2 ++ [x7_2]) (wrap64 (x7_2 + 1))) else (none))) = some r := by rw [← hbq22] at H; exact H
                have Nbq22 := Aside0.mk hbq22
                clear hbq22
                by_cases c23 : (bq22 = true)
                ·
                 subst c23
                 have H1 : (if x5_1 = x7_2 then (if x6_2.length < 17592186044416 then (billhookref10_Control.l1 k3 l0 t150 x4_1 x5_1 (x6_2 ++ [x7_2]) (wrap64 (x7_2 + 1))) else (none)) else (billhookref10_Control.l1 k3 l0 t150 x4_1 x5_1 x6_2 (wrap64 (x7_2 + 1)))) = some r := by first | (rw [if_pos rfl] at H; exact H) | (rw [if_pos trivial] at H; exact H)
                 clear H
                 have H := H1
                 clear H1
                 by_cases c24 : x5_1 = x7_2
                 ·
                  rw [if_pos c24] at H
                  have c24b0 : (x5_1 == x7_2) = true := beq_iff_eq.mpr c24
                  have c24b1 : (x5_1 != x7_2) = false := bne_eq_false_iff_eq.mpr c24
                  clear c24
                  by_cases c25 : x6_2.length < 17592186044416
                  ·
                   rw [if_pos c25] at H
                   have LMc25 := Aside0.mk c25
                   clear c25
                   obtain ⟨y163, hy163⟩ : ∃ y_ : List Int, y_ = (x6_2 ++ [x7_2]) := ⟨_, rfl⟩
                   replace H : (billhookref10_Control.l1 k3 l0 t150 x4_1 x5_1 y163 (wrap64 (x7_2 + 1))) = some r := by first | (rw [hy163]; with_reducible exact H) | (have H2_ := (Option.bind_some _ _).symm.trans H; rw [hy163]; with_reducible exact H2_) | (have H2_ := (Option.bind_some _ _).symm.trans H; with_reducible exact H2_) | with_reducible exact H | (rw [hy163]; exact H) | exact H
                   have Ny163 := Aside0.mk hy163
                   clear hy163
                   have H' := Aside0.mk H
                   clear H
                   have p156 : 0 ≤ (x7_2 : Int) := of_decide_eq_true (by first | (with_reducible assumption) | assumption)
                   have q156 : x7_2 < (l0.length : Int) := of_decide_eq_true (by first | (with_reducible assumption) | assumption)
                   obtain ⟨ad156, A156_0, c156_0, e156, hx156_0, hl156_0, hi156_0⟩ := at_L1 HR0.out x7_2 p156 q156
                   cases e156
                   (try replace hx156_0 := (HB.out.cell (World.block_lt_of_cell? w _ hx156_0)).trans hx156_0)
                   have HR156_0 := Aside0.mk hi156_0
                   have HC156_0 := Aside0.mk hl156_0
                   clear hi156_0 hl156_0
                   replace p156 := eq_true p156
                   replace q156 := eq_true q156
                   obtain ⟨Ao26, co26, eo26⟩ := Kd.S_slice HO_3.out
                   subst eo26
                   have p161 : 0 ≤ (x7_2 : Int) := of_decide_eq_true (by first | (with_reducible assumption) | assumption)
                   have q161 : x7_2 < (t150.length : Int) := of_decide_eq_true (by first | (with_reducible assumption) | assumption)
                   obtain ⟨ad161, A161_0, c161_0, e161, hx161_0, hl161_0, hi161_0⟩ := at_L3 (Kd.S_reads' HO_3.out).2.2 x7_2 p161 q161
                   cases e161
                   obtain ⟨ce161, hce161, hMe161, hcc161⟩ := Kd.S_get HO_3.out [] x7_2 p161 (by first | exact q161 | exact of_decide_eq_true (by first | (with_reducible assumption) | assumption) | (have e_ := (Kd.S_reads' HO_3.out).1; omega))
                   obtain ⟨ve161_0, rfl, ge161_0⟩ := hMe161
                   have hv161_0 := hcc161 0 _ rfl
                   rw [Nat.add_zero, show ((Kd.slice 4 Kd.bool)).sz = 1 from rfl, Nat.mul_one] at hv161_0
                   replace hv161_0 := Option.some.inj (hv161_0.symm.trans hx161_0)
                   rw [hv161_0] at ge161_0
                   have HL161_0 := Aside0.mk (show Kd.R Kd.bool 4 _ _ _ _ (rd_L3 t150 x7_2) from ge161_0)
                   clear hv161_0 ge161_0
                   clear hcc161 hce161
                   have HR161_0 := Aside0.mk hi161_0
                   have HC161_0 := Aside0.mk hl161_0
                   clear hi161_0 hl161_0
                   (try (have hz_ := Option.some.inj (hx156_0.symm.trans hx161_0); injection hz_ with za_ zn_ zc_; subst za_; subst zc_; clear zn_))
                   replace p161 := eq_true p161
                   replace q161 := eq_true q161
                   have p162 : 0 ≤ (x5_1 : Int) := of_decide_eq_true (by first | (with_reducible assumption) | assumption)
                   have q162 : x5_1 < ((rd_L3 t150 x7_2).length : Int) := of_decide_eq_true (by first | (with_reducible assumption) | assumption)
                   obtain ⟨ad162, e162, hx162_0⟩ := Kd.at_bool (by repeat (first | (with_reducible exact HR161_0.out) | (with_reducible refine Kd.C_alloc ?_ _) | (with_reducible refine Kd.C_drewN ?_ _) | (with_reducible refine Kd.C_drew ?_) | exact HR161_0.out)) x5_1 p162 q162
                   (try rw [← Nbq22.out] at hx162_0)
                   cases e162
                   replace p162 := eq_true p162
                   replace q162 := eq_true q162
                   go_wp2_with (first | ((with_reducible refine gate_builtin (b := .append) (xs := #[.tmp 77, .tmp 79]) rfl ?_); (try (refine gate_guard (by rfl) ?_; dsimp only)); at_builtin; refine Kd.R_append (Kd.int .i64) (w0 := w) w.heap.size rfl (.tmp 77) (.tmp 79) 54 3 (.int .i64 0) 8 rfl Try.underlying54 info3 rfl (by decide) (by omega) u6 x6_2 x7_2 [.int .i64 x7_2] (fun _ => True) (fun _ => False) rfl rfl ?aP (fun _ hk => hk.elim) ?aF ?aO ?aB ?aS ?aL ?_; (case aP => first | exact rfl | exact ⟨_, rfl, Kd.R_nil _ _ _ _ _⟩); (case aB => exact (by repeat (first | (with_reducible first | exact HB.out | apply below_alloc | apply pw_below_drewN | apply below_drew1) | exact HB.out))); (case aF => exact (fun _ _ => trivial)); (case aO => exact (by (with_reducible repeat (first | apply Kd.R_alloc | apply Kd.R_drewN | apply Kd.R_drew)); exact HO_6.out)); (case aS => exact (below_size (by repeat (first | (with_reducible first | exact HB.out | apply below_alloc | apply pw_below_drewN | apply below_drew1) | exact HB.out)))); (case aL => have := LMc25.out; omega); intro v164 w27 ho hb hg hat; rw [← Ny163.out] at ho; have n0_ := Aside0.mk (Kd.S_over' (by (with_reducible repeat (first | apply Kd.S_alloc | apply Kd.S_drewN | apply Kd.S_drew)); exact HO_3.out) (Kd.R_typed (by (with_reducible repeat (first | apply Kd.R_alloc | apply Kd.R_drewN | apply Kd.R_drew)); exact HO_6.out)) (by decide) hg); have n1_ := Aside0.mk (Kd.S_after (ok := (fun _ => True)) (by (with_reducible repeat (first | apply Kd.S_alloc | apply Kd.S_drewN | apply Kd.S_drew)); exact Kd.S_mono HO_4.out (fun _ hk => ⟨trivial, hk⟩)) hg hat); have n2_ := Aside0.mk (Kd.R_over' (by (with_reducible repeat (first | apply Kd.R_alloc | apply Kd.R_drewN | apply Kd.R_drew)); exact HL161_0.out) (Kd.R_typed (by (with_reducible repeat (first | apply Kd.R_alloc | apply Kd.R_drewN | apply Kd.R_drew)); exact HO_6.out)) (by decide) hg); have n3_ := Aside0.mk (hb); have n4_ := Aside0.mk (ho); clear HO_3; clear HO_4; clear HL161_0; clear HB; clear HO_6; have HO_3 := n0_; have HO_4 := n1_; have HL161_0 := n2_; have HB := n3_; have HO165 := n4_; clear n0_ n1_ n2_ n3_ n4_; clear ho hb hg hat))
                   go_roundg k3
                   case measure => have := HK1.out; have := HK2.out; have := HK3.out; omega
                   case rel => exact ⟨(y163), (wrap64 (x7_2 + 1)), (by first | rfl | (simp; done) | (simp [*]; done)), H', ⟨by have := HK1.out; have := HK2.out; have := HK3.out; omega⟩, ⟨by (with_reducible repeat (first | apply Kd.S_alloc | apply Kd.S_drewN | apply Kd.S_drew)); exact HO_3.out⟩, ⟨by (with_reducible repeat (first | apply Kd.S_alloc | apply Kd.S_drewN | apply Kd.S_drew)); exact Kd.S_mono HO_4.out (fun _ hk => hk.2)⟩, ⟨by (with_reducible repeat (first | apply Kd.R_alloc | apply Kd.R_drewN | apply Kd.R_drew)); exact HO165.out⟩, ⟨by repeat (first | (with_reducible first | exact HB.out | apply below_alloc | apply pw_below_drewN | apply below_drew1) | exact HB.out)⟩⟩
                  ·
                   rw [if_neg c25] at H
                   exact absurd H (by simp)
                 ·
                  rw [if_neg c24] at H
                  have c24b0 : (x5_1 == x7_2) = false := beq_eq_false_iff_ne.mpr c24
                  have c24b1 : (x5_1 != x7_2) = true := bne_iff_ne.mpr c24
                  have H' := Aside0.mk H
                  clear H
                  have p156 : 0 ≤ (x7_2 : Int) := of_decide_eq_true (by first | (with_reducible assumption) | assumption)
                  have q156 : x7_2 < (l0.length : Int) := of_decide_eq_true (by first | (with_reducible assumption) | assumption)
                  obtain ⟨ad156, A156_0, c156_0, e156, hx156_0, hl156_0, hi156_0⟩ := at_L1 HR0.out x7_2 p156 q156
                  cases e156
                  (try replace hx156_0 := (HB.out.cell (World.block_lt_of_cell? w _ hx156_0)).trans hx156_0)
                  have HR156_0 := Aside0.mk hi156_0
                  have HC156_0 := Aside0.mk hl156_0
                  clear hi156_0 hl156_0
                  replace p156 := eq_true p156
                  replace q156 := eq_true q156
                  obtain ⟨Ao28, co28, eo28⟩ := Kd.S_slice HO_3.out
                  subst eo28
                  have p161 : 0 ≤ (x7_2 : Int) := of_decide_eq_true (by first | (with_reducible assumption) | assumption)
                  have q161 : x7_2 < (t150.length : Int) := of_decide_eq_true (by first | (with_reducible assumption) | assumption)
                  obtain ⟨ad161, A161_0, c161_0, e161, hx161_0, hl161_0, hi161_0⟩ := at_L3 (Kd.S_reads' HO_3.out).2.2 x7_2 p161 q161
                  cases e161
                  obtain ⟨ce161, hce161, hMe161, hcc161⟩ := Kd.S_get HO_3.out [] x7_2 p161 (by first | exact q161 | exact of_decide_eq_true (by first | (with_reducible assumption) | assumption) | (have e_ := (Kd.S_reads' HO_3.out).1; omega))
                  obtain ⟨ve161_0, rfl, ge161_0⟩ := hMe161
                  have hv161_0 := hcc161 0 _ rfl
                  rw [Nat.add_zero, show ((Kd.slice 4 Kd.bool)).sz = 1 from rfl, Nat.mul_one] at hv161_0
                  replace hv161_0 := Option.some.inj (hv161_0.symm.trans hx161_0)
                  rw [hv161_0] at ge161_0
                  have HL161_0 := Aside0.mk (show Kd.R Kd.bool 4 _ _ _ _ (rd_L3 t150 x7_2) from ge161_0)
                  clear hv161_0 ge161_0
                  clear hcc161 hce161
                  have HR161_0 := Aside0.mk hi161_0
                  have HC161_0 := Aside0.mk hl161_0
                  clear hi161_0 hl161_0
                  (try (have hz_ := Option.some.inj (hx156_0.symm.trans hx161_0); injection hz_ with za_ zn_ zc_; subst za_; subst zc_; clear zn_))
                  replace p161 := eq_true p161
                  replace q161 := eq_true q161
                  have p162 : 0 ≤ (x5_1 : Int) := of_decide_eq_true (by first | (with_reducible assumption) | assumption)
                  have q162 : x5_1 < ((rd_L3 t150 x7_2).length : Int) := of_decide_eq_true (by first | (with_reducible assumption) | assumption)
                  obtain ⟨ad162, e162, hx162_0⟩ := Kd.at_bool (by repeat (first | (with_reducible exact HR161_0.out) | (with_reducible refine Kd.C_alloc ?_ _) | (with_reducible refine Kd.C_drewN ?_ _) | (with_reducible refine Kd.C_drew ?_) | exact HR161_0.out)) x5_1 p162 q162
                  (try rw [← Nbq22.out] at hx162_0)
                  cases e162
                  replace p162 := eq_true p162
                  replace q162 := eq_true q162
                  go_wp2
                  go_roundg k3
                  case measure => have := HK1.out; have := HK2.out; have := HK3.out; omega
                  case rel => exact ⟨(x6_2), (wrap64 (x7_2 + 1)), (by first | rfl | (simp; done) | (simp [*]; done)), H', ⟨by have := HK1.out; have := HK2.out; have := HK3.out; omega⟩, ⟨by (with_reducible repeat (first | apply Kd.S_alloc | apply Kd.S_drewN | apply Kd.S_drew)); exact HO_3.out⟩, ⟨by (with_reducible repeat (first | apply Kd.S_alloc | apply Kd.S_drewN | apply Kd.S_drew)); exact HO_4.out⟩, ⟨by (with_reducible repeat (first | apply Kd.R_alloc | apply Kd.R_drewN | apply Kd.R_drew)); exact HO_6.out⟩, ⟨by repeat (first | (with_reducible first | exact HB.out | apply below_alloc | apply pw_below_drewN | apply below_drew1) | exact HB.out)⟩⟩
                ·
                 replace c23 := Bool.eq_false_iff.mpr c23
                 subst c23
                 have H1 : (if x6_2.length < 17592186044416 then (billhookref10_Control.l1 k3 l0 t150 x4_1 x5_1 (x6_2 ++ [x7_2]) (wrap64 (x7_2 + 1))) else (none)) = some r := by rw [if_neg (show ¬ (false = true) by decide)] at H; exact H
                 clear H
                 have H := H1
                 clear H1
                 by_cases c29 : x6_2.length < 17592186044416
                 ·
                  rw [if_pos c29] at H
                  have LMc29 := Aside0.mk c29
                  clear c29
                  obtain ⟨y166, hy166⟩ : ∃ y_ : List Int, y_ = (x6_2 ++ [x7_2]) := ⟨_, rfl⟩
                  replace H : (billhookref10_Control.l1 k3 l0 t150 x4_1 x5_1 y166 (wrap64 (x7_2 + 1))) = some r := by first | (rw [hy166]; with_reducible exact H) | (have H2_ := (Option.bind_some _ _).symm.trans H; rw [hy166]; with_reducible exact H2_) | (have H2_ := (Option.bind_some _ _).symm.trans H; with_reducible exact H2_) | with_reducible exact H | (rw [hy166]; exact H) | exact H
                  have Ny166 := Aside0.mk hy166
                  clear hy166
                  have H' := Aside0.mk H
                  clear H
                  have p156 : 0 ≤ (x7_2 : Int) := of_decide_eq_true (by first | (with_reducible assumption) | assumption)
                  have q156 : x7_2 < (l0.length : Int) := of_decide_eq_true (by first | (with_reducible assumption) | assumption)
                  obtain ⟨ad156, A156_0, c156_0, e156, hx156_0, hl156_0, hi156_0⟩ := at_L1 HR0.out x7_2 p156 q156
                  cases e156
                  (try replace hx156_0 := (HB.out.cell (World.block_lt_of_cell? w _ hx156_0)).trans hx156_0)
                  have HR156_0 := Aside0.mk hi156_0
                  have HC156_0 := Aside0.mk hl156_0
                  clear hi156_0 hl156_0
                  replace p156 := eq_true p156
                  replace q156 := eq_true q156
                  obtain ⟨Ao30, co30, eo30⟩ := Kd.S_slice HO_3.out
                  subst eo30
                  have p161 : 0 ≤ (x7_2 : Int) := of_decide_eq_true (by first | (with_reducible assumption) | assumption)
                  have q161 : x7_2 < (t150.length : Int) := of_decide_eq_true (by first | (with_reducible assumption) | assumption)
                  obtain ⟨ad161, A161_0, c161_0, e161, hx161_0, hl161_0, hi161_0⟩ := at_L3 (Kd.S_reads' HO_3.out).2.2 x7_2 p161 q161
                  cases e161
                  obtain ⟨ce161, hce161, hMe161, hcc161⟩ := Kd.S_get HO_3.out [] x7_2 p161 (by first | exact q161 | exact of_decide_eq_true (by first | (with_reducible assumption) | assumption) | (have e_ := (Kd.S_reads' HO_3.out).1; omega))
                  obtain ⟨ve161_0, rfl, ge161_0⟩ := hMe161
                  have hv161_0 := hcc161 0 _ rfl
                  rw [Nat.add_zero, show ((Kd.slice 4 Kd.bool)).sz = 1 from rfl, Nat.mul_one] at hv161_0
                  replace hv161_0 := Option.some.inj (hv161_0.symm.trans hx161_0)
                  rw [hv161_0] at ge161_0
                  have HL161_0 := Aside0.mk (show Kd.R Kd.bool 4 _ _ _ _ (rd_L3 t150 x7_2) from ge161_0)
                  clear hv161_0 ge161_0
                  clear hcc161 hce161
                  have HR161_0 := Aside0.mk hi161_0
                  have HC161_0 := Aside0.mk hl161_0
                  clear hi161_0 hl161_0
                  (try (have hz_ := Option.some.inj (hx156_0.symm.trans hx161_0); injection hz_ with za_ zn_ zc_; subst za_; subst zc_; clear zn_))
                  replace p161 := eq_true p161
                  replace q161 := eq_true q161
                  have p162 : 0 ≤ (x5_1 : Int) := of_decide_eq_true (by first | (with_reducible assumption) | assumption)
                  have q162 : x5_1 < ((rd_L3 t150 x7_2).length : Int) := of_decide_eq_true (by first | (with_reducible assumption) | assumption)
                  obtain ⟨ad162, e162, hx162_0⟩ := Kd.at_bool (by repeat (first | (with_reducible exact HR161_0.out) | (with_reducible refine Kd.C_alloc ?_ _) | (with_reducible refine Kd.C_drewN ?_ _) | (with_reducible refine Kd.C_drew ?_) | exact HR161_0.out)) x5_1 p162 q162
                  (try rw [← Nbq22.out] at hx162_0)
                  cases e162
                  replace p162 := eq_true p162
                  replace q162 := eq_true q162
                  go_wp2_with (first | ((with_reducible refine gate_builtin (b := .append) (xs := #[.tmp 77, .tmp 79]) rfl ?_); (try (refine gate_guard (by rfl) ?_; dsimp only)); at_builtin; refine Kd.R_append (Kd.int .i64) (w0 := w) w.heap.size rfl (.tmp 77) (.tmp 79) 54 3 (.int .i64 0) 8 rfl Try.underlying54 info3 rfl (by decide) (by omega) u6 x6_2 x7_2 [.int .i64 x7_2] (fun _ => True) (fun _ => False) rfl rfl ?aP (fun _ hk => hk.elim) ?aF ?aO ?aB ?aS ?aL ?_; (case aP => first | exact rfl | exact ⟨_, rfl, Kd.R_nil _ _ _ _ _⟩); (case aB => exact (by repeat (first | (with_reducible first | exact HB.out | apply below_alloc | apply pw_below_drewN | apply below_drew1) | exact HB.out))); (case aF => exact (fun _ _ => trivial)); (case aO => exact (by (with_reducible repeat (first | apply Kd.R_alloc | apply Kd.R_drewN | apply Kd.R_drew)); exact HO_6.out)); (case aS => exact (below_size (by repeat (first | (with_reducible first | exact HB.out | apply below_alloc | apply pw_below_drewN | apply below_drew1) | exact HB.out)))); (case aL => have := LMc29.out; omega); intro v167 w31 ho hb hg hat; rw [← Ny166.out] at ho; have n0_ := Aside0.mk (Kd.S_over' (by (with_reducible repeat (first | apply Kd.S_alloc | apply Kd.S_drewN | apply Kd.S_drew)); exact HO_3.out) (Kd.R_typed (by (with_reducible repeat (first | apply Kd.R_alloc | apply Kd.R_drewN | apply Kd.R_drew)); exact HO_6.out)) (by decide) hg); have n1_ := Aside0.mk (Kd.S_after (ok := (fun _ => True)) (by (with_reducible repeat (first | apply Kd.S_alloc | apply Kd.S_drewN | apply Kd.S_drew)); exact Kd.S_mono HO_4.out (fun _ hk => ⟨trivial, hk⟩)) hg hat); have n2_ := Aside0.mk (Kd.R_over' (by (with_reducible repeat (first | apply Kd.R_alloc | apply Kd.R_drewN | apply Kd.R_drew)); exact HL161_0.out) (Kd.R_typed (by (with_reducible repeat (first | apply Kd.R_alloc | apply Kd.R_drewN | apply Kd.R_drew)); exact HO_6.out)) (by decide) hg); have n3_ := Aside0.mk (hb); have n4_ := Aside0.mk (ho); clear HO_3; clear HO_4; clear HL161_0; clear HB; clear HO_6; have HO_3 := n0_; have HO_4 := n1_; have HL161_0 := n2_; have HB := n3_; have HO168 := n4_; clear n0_ n1_ n2_ n3_ n4_; clear ho hb hg hat))
                  go_roundg k3
                  case measure => have := HK1.out; have := HK2.out; have := HK3.out; omega
                  case rel => exact ⟨(y166), (wrap64 (x7_2 + 1)), (by first | rfl | (simp; done) | (simp [*]; done)), H', ⟨by have := HK1.out; have := HK2.out; have := HK3.out; omega⟩, ⟨by (with_reducible repeat (first | apply Kd.S_alloc | apply Kd.S_drewN | apply Kd.S_drew)); exact HO_3.out⟩, ⟨by (with_reducible repeat (first | apply Kd.S_alloc | apply Kd.S_drewN | apply Kd.S_drew)); exact Kd.S_mono HO_4.out (fun _ hk => hk.2)⟩, ⟨by (with_reducible repeat (first | apply Kd.R_alloc | apply Kd.R_drewN | apply Kd.R_drew)); exact HO168.out⟩, ⟨by repeat (first | (with_reducible first | exact HB.out | apply below_alloc | apply pw_below_drewN | apply below_drew1) | exact HB.out)⟩⟩
                 ·
                  rw [if_neg c29] at H
                  exact absurd H (by simp)
               ·
                rw [if_neg c21] at H
                exact absurd H (by simp)
              ·
               rw [if_neg c20] at H
               exact absurd H (by simp)
             ·
              rw [if_neg c19] at H
              exact absurd H (by simp)
            ·
             replace c18 := Bool.eq_false_iff.mpr c18
             subst c18
             have H1 : (billhookref10_Control.l1 k3 l0 t150 x4_1 x5_1 x6_2 (wrap64 (x7_2 + 1))) = some r := by rw [if_neg (show ¬ (false = true) by decide)] at H; exact H
             clear H
             have H := H1
             clear H1
             have H' := Aside0.mk H
             clear H
             have p156 : 0 ≤ (x7_2 : Int) := of_decide_eq_true (by first | (with_reducible assumption) | assumption)
             have q156 : x7_2 < (l0.length : Int) := of_decide_eq_true (by first | (with_reducible assumption) | assumption)
             obtain ⟨ad156, A156_0, c156_0, e156, hx156_0, hl156_0, hi156_0⟩ := at_L1 HR0.out x7_2 p156 q156
             cases e156
             (try replace hx156_0 := (HB.out.cell (World.block_lt_of_cell? w _ hx156_0)).trans hx156_0)
             have HR156_0 := Aside0.mk hi156_0
             have HC156_0 := Aside0.mk hl156_0
             clear hi156_0 hl156_0
             replace p156 := eq_true p156
             replace q156 := eq_true q156
             go_wp2
             go_roundg k3
             case measure => have := HK1.out; have := HK2.out; have := HK3.out; omega
             case rel => exact ⟨(x6_2), (wrap64 (x7_2 + 1)), (by first | rfl | (simp; done) | (simp [*]; done)), H', ⟨by have := HK1.out; have := HK2.out; have := HK3.out; omega⟩, ⟨by (with_reducible repeat (first | apply Kd.S_alloc | apply Kd.S_drewN | apply Kd.S_drew)); exact HO_3.out⟩, ⟨by (with_reducible repeat (first | apply Kd.S_alloc | apply Kd.S_drewN | apply Kd.S_drew)); exact HO_4.out⟩, ⟨by (with_reducible repeat (first | apply Kd.R_alloc | apply Kd.R_drewN | apply Kd.R_drew)); exact HO_6.out⟩, ⟨by repeat (first | (with_reducible first | exact HB.out | apply below_alloc | apply pw_below_drewN | apply below_drew1) | exact HB.out)⟩⟩
          ·
           rw [if_neg c7] at H
           exact absurd H (by simp)
         ·
          rw [if_neg c6] at H
          exact absurd H (by simp)
      ·
       rw [if_neg c5] at H
       have c5b0 : decide (x7_2 < (l0.length : Int)) = false := decide_eq_false c5
       clear c5
       by_cases c32 : x4_1.length < 5864062014805
       ·
        rw [if_pos c32] at H
        have LMc32 := Aside0.mk c32
        clear c32
        obtain ⟨y153, hy153⟩ : ∃ y_ : List (List Int), y_ = (x4_1 ++ [x6_2]) := ⟨_, rfl⟩
        replace H : (billhookref10_Control.l0 k2 l0 t150 y153 (wrap64 (x5_1 + 1))) = some r := by first | (rw [hy153]; with_reducible exact H) | (have H2_ := (Option.bind_some _ _).symm.trans H; rw [hy153]; with_reducible exact H2_) | (have H2_ := (Option.bind_some _ _).symm.trans H; with_reducible exact H2_) | with_reducible exact H | (rw [hy153]; exact H) | exact H
        have Ny153 := Aside0.mk hy153
        clear hy153
        have H' := Aside0.mk H
        clear H
        obtain ⟨Ao34, co34, eo34⟩ := Kd.R_slice HO_6.out
        subst eo34
        go_wp2_with (first | ((with_reducible refine gate_builtin (b := .append) (xs := #[.tmp 81, .tmp 83]) rfl ?_); (try (refine gate_guard (by rfl) ?_; dsimp only)); at_builtin; refine Kd.S_append (Kd.slice 3 (Kd.int .i64)) (w0 := w) w.heap.size rfl (.tmp 81) (.tmp 83) 53 54 (.slice none 0 0) 24 rfl Try.underlying53 info54 rfl (by decide) (by omega) u4 x4_1 x6_2 [.slice Ao34 x6_2.length co34] (fun _ => True) (fun k_ => some k_ = (.slice Ao34 x6_2.length co34 : Value).ownBlock) rfl rfl ?aP (fun k_ hk_ => ((Kd.R_mono (ok' := fun k_ => ((fun _ => True)) k_ ∧ some k_ ≠ (u4 : Value).ownBlock) (Kd.R_apart' (HO_6.out) (Kd.S_typed HO_4.out) (by decide)) (fun k_ hk => ⟨trivial, hk.2⟩))).1 k_ hk_.symm) ?aF ?aO ?aB ?aS ?aL ?_; (case aP => exact Kd.M_row (Kd.R_mono (Kd.R_tight rfl (Kd.R_mono (ok' := fun k_ => ((fun _ => True)) k_ ∧ some k_ ≠ (u4 : Value).ownBlock) (Kd.R_apart' (HO_6.out) (Kd.S_typed HO_4.out) (by decide)) (fun k_ hk => ⟨trivial, hk.2⟩))) (fun _ h_ => h_))); (case aB => exact (by repeat (first | (with_reducible first | exact HB.out | apply below_alloc | apply pw_below_drewN | apply below_drew1) | exact HB.out))); (case aF => exact (fun _ _ => trivial)); (case aO => exact (by (with_reducible repeat (first | apply Kd.S_alloc | apply Kd.S_drewN | apply Kd.S_drew)); exact Kd.S_mono HO_4.out (fun k_ hk => ⟨trivial, fun e_ => hk e_⟩))); (case aS => exact (below_size (by repeat (first | (with_reducible first | exact HB.out | apply below_alloc | apply pw_below_drewN | apply below_drew1) | exact HB.out)))); (case aL => have := LMc32.out; omega); intro v154 w33 ho hb hg hat; rw [← Ny153.out] at ho; have n0_ := Aside0.mk (Kd.S_over' (by (with_reducible repeat (first | apply Kd.S_alloc | apply Kd.S_drewN | apply Kd.S_drew)); exact HO_3.out) (Kd.S_typed (by (with_reducible repeat (first | apply Kd.S_alloc | apply Kd.S_drewN | apply Kd.S_drew)); exact HO_4.out)) (by decide) hg); have n1_ := Aside0.mk (hb); have n2_ := Aside0.mk (ho); clear HO_3; clear HB; clear HO_4; clear HO_6; have HO_3 := n0_; have HB := n1_; have HO155 := n2_; clear n0_ n1_ n2_; clear ho hb hg hat))
        go_roundg k2
        case measure => have := HK1.out; have := HK2.out; omega
        case rel => exact ⟨(y153), (wrap64 (x5_1 + 1)), (by first | rfl | (simp; done) | (simp [*]; done)), H', ⟨by have := HK1.out; have := HK2.out; omega⟩, ⟨by (with_reducible repeat (first | apply Kd.S_alloc | apply Kd.S_drewN | apply Kd.S_drew)); exact HO_3.out⟩, ⟨by (with_reducible repeat (first | apply Kd.S_alloc | apply Kd.S_drewN | apply Kd.S_drew)); exact HO155.out⟩, ⟨by repeat (first | (with_reducible first | exact HB.out | apply below_alloc | apply pw_below_drewN | apply below_drew1) | exact HB.out)⟩⟩
       ·
        rw [if_neg c32] at H
        exact absurd H (by simp)
   ·
    rw [if_neg c4] at H
    have c4b0 : decide (x5_1 < (l0.length : Int)) = false := decide_eq_false c4
    clear c4
    obtain rfl := Option.some.inj H
    go_wp2
    go_ret
    exact ⟨_, by first | rfl | (simp [errW_none, errW_some] <;> rfl) | (simp [*, errW_none, errW_some] <;> rfl), by (with_reducible repeat (first | apply Kd.S_alloc | apply Kd.S_drewN | apply Kd.S_drew)); exact HO_4.out, by repeat (first | (with_reducible first | exact HB.out | apply below_alloc | apply pw_below_drewN | apply below_drew1) | exact HB.out)⟩
end Go.Proofs.Ytankppgafdcknaa.PTel
/- The reference's answers: what one comes to by none of one; what postdominates what. -/
set_option linter.unusedVariables false
set_option linter.unusedSimpArgs false
namespace Go.Proofs.Ytankppgafdcknaa.Gr
open Go Go.RowKit Go.Proofs.YtankppgafdcknaaW.PrintWords Go.Proofs.Ytankppgafdcknaa.PPost Go.Proofs.Ytankppgafdcknaa.PDom Go.Proofs.Ytankppgafdcknaa.PTel
inductive Rb (g : List (List Int)) (b : Int) (s : Nat) : Nat → Prop
 | refl (h : s < g.length) (hb : (s : Int) ≠ b) : Rb g b s s
 | tail (k j : Nat) (h : Rb g b s k) (e : Edge g k j) (hb : (j : Int) ≠ b) : Rb g b s j
theorem Rb.ne {g : List (List Int)} {b : Int} {s j : Nat} (h : Rb g b s j) : (s : Int) ≠ b ∧ (j : Int) ≠ b ∧ s < g.length ∧ j < g.length := by
 induction h with
 | refl h hb => exact ⟨hb, hb, h, h⟩
 | tail k j _ e hb ih => exact ⟨ih.1, hb, ih.2.2.1, e.2.1⟩
theorem Rb.head {g : List (List Int)} {b : Int} {i j t : Nat} (hi : (i : Int) ≠ b) (e : Edge g i j) (h : Rb g b j t) : Rb g b i t := by
 induction h with
 | refl h hb => exact .tail i j (.refl e.1 hi) e hb
 | tail k l _ e2 hb ih => exact .tail k l ih e2 hb
theorem Rb.av {g : List (List Int)} {d i : Nat} : Rb g (d : Int) i (g.length - 1) ↔ Av g d i := by
 constructor
 ·
  intro h
  have hn := h.ne
  have key : ∀ k, Rb g (d : Int) i k → Av g d k → Av g d i := by
   intro k h
   induction h with
   | refl _ _ => exact fun h => h
   | tail k j h e hb ih => exact fun ha => ih (.step k j (by have := h.ne.2.1; omega) e ha)
  exact key _ h (.exit (by omega) (by omega))
 ·
  intro h
  induction h with
  | exit h hd => exact .refl (by omega) (by omega)
  | step i j hi e _ ih => exact .head (by omega) e ih
theorem Rb.rc {g : List (List Int)} {i j : Nat} : Rb g (-1) i j ↔ Rc g i j := by
 constructor
 ·
  intro h
  induction h with
  | refl h _ => exact .refl h
  | tail k j _ e _ ih => exact .tail k j ih e
 ·
  intro h
  induction h with
  | refl h => exact .refl h (by omega)
  | tail k j _ e ih => exact .tail k j ih e (by omega)
structure Qu (g : List (List Int)) (b : Int) (from_ : List Int) (met : List Bool) (q : List Int) (x : Nat) : Prop where
 len : met.length = g.length
 hx : x ≤ q.length
 sz : q.length + unm g met ≤ from_.length + gsz g
 done : ∀ i : Nat, i < g.length → (i : Int) ≠ b → (i : Int) ∈ q.take x → mkd met i = true
 came : ∀ i, mkd met i = true → ∃ s : Nat, (s : Int) ∈ from_ ∧ Rb g b s i
 rows : ∀ i, mkd met i = true → ∀ s ∈ row g i, s ∈ q
 src : ∀ s ∈ q, s ∈ from_ ∨ ∃ i, mkd met i = true ∧ s ∈ row g i
 frm : ∀ s ∈ from_, s ∈ q
section
variable {g : List (List Int)} {b : Int} {from_ : List Int} {met : List Bool} {q : List Int} {x : Nat} (h : Qu g b from_ met q x)
include h
theorem Qu.skip (hx : x < q.length) (hd : ∀ i : Nat, i < g.length → (i : Int) ≠ b → q[x] = (i : Int) → mkd met i = true) : Qu g b from_ met q (x + 1) := by
 refine ⟨h.len, hx, h.sz, fun i hi hb hm => ?_, h.came, h.rows, h.src, h.frm⟩
 rw [List.take_succ_eq_append_getElem hx, List.mem_append, List.mem_singleton] at hm
 rcases hm with hm | hm
 ·
  exact h.done i hi hb hm
 ·
  exact hd i hi hb hm.symm
theorem Qu.mark (hx : x < q.length) (s : Nat) (hs : q[x] = (s : Int)) (hl : s < g.length) (hb : (s : Int) ≠ b) (hm : mkd met s = false) : Qu g b from_ (met.set s true) (q ++ row g s) (x + 1) := by
 have hms := fun i => mk_set met s i (by have := h.len; omega)
 have hq : (s : Int) ∈ q := by rw [← hs]; exact List.getElem_mem hx
 refine ⟨by simpa using h.len, by simp; omega, ?_, fun i hi hb2 hmem => ?_, fun i hi => ?_, fun i hi t ht => ?_, fun t ht => ?_, fun t ht => ?_⟩
 ·
  have h1 := unm_set g met h.len s hl hm
  have h2 := h.sz
  simp only [List.length_append]
  omega
 ·
  rw [hms]
  rw [List.take_append_of_le_length hx, List.take_succ_eq_append_getElem hx, List.mem_append, List.mem_singleton] at hmem
  rcases hmem with hmem | hmem
  ·
   rw [h.done i hi hb2 hmem]; rfl
  ·
   rw [hs] at hmem
   have : i = s := by omega
   simp [this]
 ·
  rw [hms] at hi
  simp only [Bool.or_eq_true, decide_eq_true_eq] at hi
  rcases hi with hi | rfl
  ·
   exact h.came i hi
  ·
   rcases h.src _ hq with hq | ⟨j, hj, hjr⟩
   ·
    exact ⟨i, hq, .refl hl hb⟩
   ·
    obtain ⟨t, ht, hr⟩ := h.came j hj
    exact ⟨t, ht, .tail j i hr ⟨hr.ne.2.2.2, hl, hjr⟩ hb⟩
 ·
  rw [hms] at hi
  simp only [Bool.or_eq_true, decide_eq_true_eq] at hi
  rw [List.mem_append]
  rcases hi with hi | rfl
  ·
   exact .inl (h.rows i hi t ht)
  ·
   exact .inr ht
 ·
  rw [List.mem_append] at ht
  rcases ht with ht | ht
  ·
   rcases h.src t ht with h1 | ⟨j, hj, hjr⟩
   ·
    exact .inl h1
   ·
    exact .inr ⟨j, by rw [hms, hj]; rfl, hjr⟩
  ·
   exact .inr ⟨s, by rw [hms]; simp, ht⟩
 ·
  exact List.mem_append.2 (.inl (h.frm t ht))
end
theorem Qu.all {g : List (List Int)} {b : Int} {from_ : List Int} {met : List Bool} {q : List Int} (h : Qu g b from_ met q q.length) (i : Nat) : mkd met i = true ↔ ∃ s : Nat, (s : Int) ∈ from_ ∧ Rb g b s i := by
 refine ⟨h.came i, ?_⟩
 rintro ⟨s, hs, hr⟩
 have hd := h.done
 rw [List.take_length] at hd
 induction hr with
 | refl hl hb => exact hd s hl hb (h.frm _ hs)
 | tail k j _ e hb ih => exact hd j e.2.1 hb (h.rows k ih _ e.2.2)
theorem T3_row (xs : List (List Int)) (i : Nat) : PTel.rd_L1 xs (i : Int) = row xs i := by
 unfold PTel.rd_L1 row
 rw [nat_toNat]
theorem of_mkd (met : List Bool) (i : Nat) : rdOf false met (i : Int) = mkd met i := by
 unfold rdOf mkd
 rw [nat_toNat]
theorem rr_ev (g : List (List Int)) (b : Int) (from_ : List Int) (hz : from_.length + gsz g < 17592186044415) : ∀ (m x : Nat) (met : List Bool) (q : List Int), Qu g b from_ met q x → from_.length + gsz g ≤ x + m →
  ∃ met' q', Ev (fun k => billhookref10_reach.l0 k g b met q (x : Int)) met' ∧ Qu g b from_ met' q' q'.length := by
 intro m
 induction m with
 | zero =>
  intro x met q h hm
  have h1 := h.sz
  have h2 := h.hx
  obtain rfl : x = q.length := by omega
  refine ⟨met, q, Ev.step (fun k => ?_) (Ev.now met), h⟩
  simp only [billhookref10_reach.l0]
  rw [if_neg (by omega)]
 | succ m ih =>
  intro x met q h hm
  have h1 := h.sz
  have h2 := h.hx
  have hl := h.len
  rcases Nat.lt_or_ge x q.length with hx | hx
  rotate_left
  ·
   obtain rfl : x = q.length := by omega
   refine ⟨met, q, Ev.step (fun k => ?_) (Ev.now met), h⟩
   simp only [billhookref10_reach.l0]
   rw [if_neg (by omega)]
  ·
   have hxi : (x : Int) < (q.length : Int) := by omega
   have hx0 : (0 : Int) ≤ (x : Int) := by omega
   have hw : wrap64 ((x : Int) + 1) = ((x + 1 : Nat) : Int) := w_succ x (by omega)
   have hrd := rd_at q x hx
   by_cases c1 : q[x] < 0
   ·
    obtain ⟨met', q', he, hq⟩ := ih (x + 1) met q (h.skip hx fun i hi hb e => by omega) (by omega)
    refine ⟨met', q', Ev.step (fun k => ?_) he, hq⟩
    simp only [billhookref10_reach.l0]
    rw [if_pos hxi, if_pos hx0, hrd, if_pos c1, hw]
   ·
    by_cases c2 : q[x] ≥ (met.length : Int)
    ·
     obtain ⟨met', q', he, hq⟩ := ih (x + 1) met q (h.skip hx fun i hi hb e => by omega) (by omega)
     refine ⟨met', q', Ev.step (fun k => ?_) he, hq⟩
     simp only [billhookref10_reach.l0]
     rw [if_pos hxi, if_pos hx0, hrd, if_neg c1, if_pos c2, hw]
    ·
     by_cases c3 : q[x] = b
     ·
      obtain ⟨met', q', he, hq⟩ := ih (x + 1) met q (h.skip hx fun i hi hb e => absurd (e.symm.trans c3) hb) (by omega)
      refine ⟨met', q', Ev.step (fun k => ?_) he, hq⟩
      simp only [billhookref10_reach.l0]
      rw [if_pos hxi, if_pos hx0, hrd, if_neg c1, if_neg c2, if_pos c3, hw]
     ·
      obtain ⟨s, hs⟩ : ∃ s : Nat, q[x] = (s : Int) := ⟨q[x].toNat, by omega⟩
      have hsl : s < g.length := by omega
      have hsb : (s : Int) ≠ b := by rw [← hs]; exact c3
      cases hmk : mkd met s with
      | true =>
       obtain ⟨met', q', he, hq⟩ := ih (x + 1) met q (h.skip hx fun i hi hb e => by
        have : i = s := by omega
        rw [this, hmk]) (by omega)
       refine ⟨met', q', Ev.step (fun k => ?_) he, hq⟩
       simp only [billhookref10_reach.l0]
       rw [if_pos hxi, if_pos hx0, hrd, if_neg c1, if_neg c2, if_neg c3, if_pos (by omega), if_pos (by omega), hs, of_mkd, hmk, if_pos rfl, hw]
      | false =>
       have hu := unm_set g met hl s hsl hmk
       obtain ⟨met', q', he, hq⟩ := ih (x + 1) (met.set s true) (q ++ row g s) (h.mark hx s hs hsl hsb hmk) (by omega)
       refine ⟨met', q', Ev.step (fun k => ?_) he, hq⟩
       simp only [billhookref10_reach.l0]
       rw [if_pos hxi, if_pos hx0, hrd, if_neg c1, if_neg c2, if_neg c3, if_pos (by omega), if_pos (by omega), hs, of_mkd, hmk, if_neg (by simp), if_pos (by omega), T3_row, if_pos (by omega), nat_toNat, hw]
theorem rreach_ev (g : List (List Int)) (from_ : List Int) (b : Int) (hz : from_.length + gsz g < 17592186044415) :
  ∃ met, Ev (fun k => billhookref10_reach.f k g from_ b) met ∧ met.length = g.length ∧ ∀ i, mkd met i = true ↔ ∃ s : Nat, (s : Int) ∈ from_ ∧ Rb g b s i := by
 have hz0 : ∀ i, mkd (List.replicate g.length false) i = false := fun i => by
  unfold mkd
  simp [List.getD_eq_getElem?_getD, List.getElem?_replicate]
  split <;> rfl
 have hgl := len_gsz g
 obtain ⟨met, q, he, hq⟩ := rr_ev g b from_ hz (from_.length + gsz g) 0 (List.replicate g.length false) from_ ⟨by simp, by omega, by have := unm_le g (List.replicate g.length false); unfold gsz; omega, fun i _ _ h => by simp at h, fun i h => by (rw [hz0] at h; cases h), fun i h => by (rw [hz0] at h; cases h), fun s hs => .inl hs, fun s hs => hs⟩ (by omega)
 refine ⟨met, Ev.congr (fun k => ?_) he, hq.len, hq.all⟩
 unfold billhookref10_reach.f
 rw [if_pos (by omega), if_pos (by rw [nat_toNat]; omega), if_pos (by simp; omega), nat_toNat]
 rfl
theorem rReach_ev (g : List (List Int)) (from_ : List Int) (hz : from_.length + gsz g < 17592186044415) :
  ∃ met, Ev (fun k => billhookref10_Reach.f k g from_) met ∧ met.length = g.length ∧ ∀ i, mkd met i = true ↔ ∃ s : Nat, (s : Int) ∈ from_ ∧ Rc g s i := by
 obtain ⟨met, he, hl, hm⟩ := rreach_ev g from_ (-1) hz
 refine ⟨met, Ev.bind (f := fun _ t => some t) he (Ev.now met), hl, fun i => ?_⟩
 rw [hm]
 simp only [Rb.rc]
section
variable {g : List (List Int)} {f : Nat → Nat → Bool} (hf : ∀ i d, i < g.length → d < g.length → (f i d = true ↔ ¬ Av g d i)) (hz : gsz g < 17592186044414) (hn : g.length ≤ 1000000000000)
include hf hz hn
theorem rp_l1 {r : List (List Bool)} (out : List (List Bool)) (i : Nat) (hi : i < g.length) (ho : out.length = i) (K : Ev (fun k => billhookref10_Post.l0 k g (out ++ [(List.range g.length).map (f i)]) ((i + 1 : Nat) : Int)) r) :
  ∀ (q d : Nat), d + q = g.length → Ev (fun k => billhookref10_Post.l1 k g out (i : Int) ((List.range g.length).map fun j => if j < d then f i j else false) (d : Int)) r := by
 intro q
 induction q with
 | zero =>
  intro d hd
  have hd : d = g.length := by omega
  subst hd
  refine Ev.step (fun k => ?_) K
  simp only [billhookref10_Post.l1]
  rw [if_neg (by omega), if_pos (by omega), w_succ _ (by omega)]
  have : ((List.range g.length).map fun j => if j < g.length then f i j else false) = (List.range g.length).map (f i) := by
   apply List.map_congr_left
   intro j hj
   rw [if_pos (List.mem_range.1 hj)]
  rw [this]
 | succ q ih =>
  intro d hd
  obtain ⟨met, he, hl, hm⟩ := rreach_ev g [(i : Int)] (d : Int) (by simp only [List.length_singleton]; omega)
  have hv : (!(mkd met (g.length - 1))) = f i d := by
   have h1 := hf i d hi (by omega)
   have h2 := hm (g.length - 1)
   have h3 : (∃ s : Nat, (s : Int) ∈ [(i : Int)] ∧ Rb g (d : Int) s (g.length - 1)) ↔ Av g d i := by
    rw [← Rb.av]
    constructor
    ·
     rintro ⟨s, hs, h⟩
     have : s = i := by have := List.mem_singleton.1 hs; omega
     rwa [this] at h
    ·
     exact fun h => ⟨i, by simp, h⟩
   rw [h3] at h2
   rw [Bool.eq_iff_iff, h1, ← h2]
   simp
  refine Ev.step (f := fun k => (billhookref10_reach.f k g [(i : Int)] (d : Int)).bind fun t => if 0 ≤ wrap64 ((g.length : Int) - 1) then (if wrap64 ((g.length : Int) - 1) < (t.length : Int) then (if 0 ≤ (d : Int) then (if (d : Int) < (((List.range g.length).map fun j => if j < d then f i j else false).length : Int) then (billhookref10_Post.l1 k g out (i : Int) (((List.range g.length).map fun j => if j < d then f i j else false).set ((d : Int) : Int).toNat (!(rdOf false t (wrap64 ((g.length : Int) - 1))))) (wrap64 ((d : Int) + 1))) else none) else none) else none) else none) (fun k => ?_) (Ev.bind he (Ev.congr (fun k => ?_) (ih (d + 1) (by omega))))
  ·
   simp only [billhookref10_Post.l1]
   rw [if_pos (by omega)]
  ·
   rw [w_pred g.length (by omega) (by omega), if_pos (by omega), if_pos (by omega), if_pos (by omega), if_pos (by simp; omega), w_succ _ (by omega), of_mkd, hv, nat_toNat, range_set]
   congr 1
   apply List.map_congr_left
   intro j hj
   by_cases h1 : j = d
   ·
    subst h1
    rw [if_pos rfl, if_pos (by omega)]
   ·
    rw [if_neg h1]
    by_cases h2 : j < d
    ·
     rw [if_pos h2, if_pos (by omega)]
    ·
     rw [if_neg h2, if_neg (by omega)]
theorem rp_l0 : ∀ (q i : Nat), i + q = g.length → Ev (fun k => billhookref10_Post.l0 k g ((List.range i).map fun p => (List.range g.length).map (f p)) (i : Int)) (Mx g.length f) := by
 intro q
 induction q with
 | zero =>
  intro i hi
  have hi : i = g.length := by omega
  subst hi
  refine Ev.step (f := fun _ => some (Mx g.length f)) (fun k => ?_) (Ev.now _)
  simp only [billhookref10_Post.l0]
  rw [if_neg (by omega)]
  rfl
 | succ q ih =>
  intro i hi
  have h := rp_l1 hf hz hn ((List.range i).map fun p => (List.range g.length).map (f p)) i (by omega) (by simp) (by
   have := ih (i + 1) (by omega)
   rw [List.range_succ, List.map_append] at this
   exact this) g.length 0 (by omega)
  refine Ev.step (fun k => ?_) h
  simp only [billhookref10_Post.l0]
  rw [if_pos (by omega), if_pos (by omega), if_pos (by rw [nat_toNat]; omega), nat_toNat]
  congr 1
  simp [List.map_const']
theorem rPost_ev : Ev (fun k => billhookref10_Post.f k g) (Mx g.length f) := by
 have := rp_l0 hf hz hn g.length 0 (by omega)
 exact this
end
end Go.Proofs.Ytankppgafdcknaa.Gr
/- The reference's Least and Control are the program's. -/
set_option linter.unusedVariables false
set_option linter.unusedSimpArgs false
set_option linter.unusedSectionVars false
namespace Go.Proofs.Ytankppgafdcknaa.Gr
open Go Go.RowKit Go.Proofs.YtankppgafdcknaaW.PrintWords Go.Proofs.Ytankppgafdcknaa.PPost Go.Proofs.Ytankppgafdcknaa.PDom Go.Proofs.Ytankppgafdcknaa.PTel
theorem T2_row (n : Nat) (f : Nat → Nat → Bool) (i : Nat) (hi : i < n) : PTel.rd_L3 (Mx n f) (i : Int) = (List.range n).map (f i) := by
 unfold PTel.rd_L3
 rw [nat_toNat]
 exact Mx_row n f i hi
def bst (f : Nat → Nat → Bool) (re : Nat → Bool) (n i m : Nat) : Int := if re i = true then oval (srch f n i m) else -1
theorem bst_skip (f : Nat → Nat → Bool) (re : Nat → Bool) (n i m : Nat) (hm : m < n) (h : re i = true → good f n i m = false) : bst f re n i m = bst f re n i (m + 1) := by
 unfold bst
 cases hr : re i with
 | false => rfl
 | true => rw [srch_step f n i m hm, h hr]; rfl
theorem bst_take (f : Nat → Nat → Bool) (re : Nat → Bool) (n i m : Nat) (hm : m < n) (hr : re i = true) (h : good f n i m = true) : bst f re n i m = (m : Int) := by
 unfold bst
 rw [srch_step f n i m hm, h, hr]
 rfl
theorem w_m1 (m : Nat) (h : m < 9223372036854775807) : wrap64 ((m : Int) - 1) = (m : Int) - 1 := w64 (by omega) (by omega)
section
variable {g : List (List Int)} {f : Nat → Nat → Bool} {re : Nat → Bool} {r : List Int} (hn : g.length ≤ 1000000000000)
include hn
theorem rl_l2 (L : List Int) (i m : Nat) (B : Int) (hi : i < g.length) (hm : m < g.length)
  (K1 : (List.range g.length).all (fun k => okK f i m k) = true → Ev (fun k => billhookref10_Least.l1 k g (Mx g.length f) L (i : Int) (m : Int) ((m : Int) - 1)) r)
  (K2 : (List.range g.length).all (fun k => okK f i m k) = false → Ev (fun k => billhookref10_Least.l1 k g (Mx g.length f) L (i : Int) B ((m : Int) - 1)) r) :
  ∀ (q t : Nat), t + q = g.length → Ev (fun k => billhookref10_Least.l2 k g (Mx g.length f) L (i : Int) B (m : Int) ((List.range t).all fun k => okK f i m k) (t : Int)) r := by
 intro q
 induction q with
 | zero =>
  intro t ht
  have ht : t = g.length := by omega
  subst ht
  cases hb : (List.range g.length).all fun k => okK f i m k with
  | true =>
   refine Ev.step (fun k => ?_) (K1 hb)
   simp only [billhookref10_Least.l2]
   rw [if_neg (by omega), if_pos trivial, w_m1 _ (by omega)]
  | false =>
   refine Ev.step (fun k => ?_) (K2 hb)
   simp only [billhookref10_Least.l2]
   rw [if_neg (by omega), if_neg (by simp), w_m1 _ (by omega)]
 | succ q ih =>
  intro t ht
  have htl : t < g.length := by omega
  have hs : ((List.range (t + 1)).all fun k => okK f i m k) = (((List.range t).all fun k => okK f i m k) && okK f i m t) := by
   simp only [List.range_succ, List.all_append, List.all_cons, List.all_nil, Bool.and_true]
  have ih := ih (t + 1) (by omega)
  rw [hs] at ih
  refine Ev.step (fun k => ?_) ih
  simp only [billhookref10_Least.l2]
  rw [if_pos (by omega), w_succ _ (by omega)]
  cases hb : (List.range t).all fun k => okK f i m k with
  | false => rw [if_neg (by simp)]; rfl
  | true =>
   rw [if_pos rfl]
   by_cases h1 : t = i
   ·
    rw [if_pos (by omega)]; simp [okK, h1]
   ·
    by_cases h2 : t = m
    ·
     rw [if_neg (by omega), if_pos (by omega)]; simp [okK, h2]
    ·
     rw [if_neg (by omega), if_neg (by omega), if_pos (by omega), if_pos (by rw [Mx_len]; omega), if_pos (by omega), T2_row _ _ _ hi, if_pos (by simp; omega), of_row _ _ _ htl]
     cases h3 : f i t with
     | false => rw [if_neg (by simp)]; simp [okK, h3]
     | true =>
      rw [if_pos rfl, if_pos (by omega), if_pos (by rw [Mx_len]; omega), T2_row _ _ _ hm, if_pos (by simp; omega), of_row _ _ _ htl]
      simp [okK, h1, h2, h3]
theorem rl_l1 (hz : gsz g < 17592186044414) (hre : ∀ i, i < g.length → (re i = true ↔ Rc g i (g.length - 1))) (L : List Int) (i : Nat) (hi : i < g.length) (hL : L.length = i)
  (K : Ev (fun k => billhookref10_Least.l0 k g (Mx g.length f) (L ++ [bst f re g.length i 0]) ((i + 1 : Nat) : Int)) r) :
  ∀ m : Nat, m ≤ g.length → Ev (fun k => billhookref10_Least.l1 k g (Mx g.length f) L (i : Int) (bst f re g.length i m) ((m : Int) - 1)) r := by
 intro m
 induction m with
 | zero =>
  intro _
  refine Ev.step (fun k => ?_) K
  simp only [billhookref10_Least.l1]
  rw [if_neg (by omega), if_pos (by omega), w_succ _ (by omega)]
 | succ m ih =>
  intro hm
  have ih := ih (by omega)
  have e : ((m + 1 : Nat) : Int) - 1 = (m : Int) := by omega
  rw [e]
  have hj : (re i = true → good f g.length i m = false) → Ev (fun k => billhookref10_Least.j2 k g (Mx g.length f) L (i : Int) (bst f re g.length i (m + 1)) (m : Int) true) r := fun h => by
   rw [bst_skip f re g.length i m (by omega) h] at ih
   refine Ev.step (fun k => ?_) ih
   simp only [billhookref10_Least.j2]
   rw [if_pos trivial, w_m1 _ (by omega)]
  by_cases hmi : m = i
  ·
   refine Ev.step (fun k => ?_) (hj fun _ => by simp [good, hmi])
   simp only [billhookref10_Least.l1]
   rw [if_pos (by omega), if_pos (by omega)]
  ·
   cases hfm : f i m with
   | false =>
    refine Ev.step (fun k => ?_) (hj fun _ => by simp [good, hfm])
    simp only [billhookref10_Least.l1]
    rw [if_pos (by omega), if_neg (by omega), if_pos (by omega), if_pos (by rw [Mx_len]; omega), if_pos (by omega), T2_row _ _ _ hi, if_pos (by simp; omega), of_row _ _ _ (by omega), hfm, if_neg (by simp)]
   | true =>
    have hgd : good f g.length i m = (List.range g.length).all fun k => okK f i m k := by simp [good, hfm, hmi]
    obtain ⟨met, he, hl, hme⟩ := rReach_ev g [(i : Int)] (by simp only [List.length_singleton]; omega)
    have hv : mkd met (g.length - 1) = re i := by
     rw [Bool.eq_iff_iff, hme, hre i hi]
     constructor
     ·
      rintro ⟨s, hs, h⟩
      have : s = i := by have := List.mem_singleton.1 hs; omega
      rwa [this] at h
     ·
      exact fun h => ⟨i, by simp, h⟩
    have hc : Ev (fun k => billhookref10_Least.j2 k g (Mx g.length f) L (i : Int) (bst f re g.length i (m + 1)) (m : Int) (!(re i))) r := by
     cases hr : re i with
     | false => exact hj fun h => by (rw [hr] at h; cases h)
     | true =>
      have h2 := rl_l2 hn (f := f) (r := r) L i m (bst f re g.length i (m + 1)) hi (by omega) (fun h => by
       have ih := ih
       rw [bst_take f re g.length i m (by omega) hr (by rw [hgd, h])] at ih
       exact ih) (fun h => by
       rw [← bst_skip f re g.length i m (by omega) fun _ => by rw [hgd, h]]
       exact ih) g.length 0 (by omega)
      refine Ev.step (fun k => ?_) h2
      simp only [billhookref10_Least.j2]
      rw [if_neg (by simp)]
      rfl
    refine Ev.step (f := fun k => (billhookref10_Reach.f k g [(i : Int)]).bind fun t => if 0 ≤ wrap64 ((g.length : Int) - 1) then (if wrap64 ((g.length : Int) - 1) < (t.length : Int) then billhookref10_Least.j2 k g (Mx g.length f) L (i : Int) (bst f re g.length i (m + 1)) (m : Int) (!(rdOf false t (wrap64 ((g.length : Int) - 1)))) else none) else none) (fun k => ?_) (Ev.bind he (Ev.congr (fun k => ?_) hc))
    ·
     simp only [billhookref10_Least.l1]
     rw [if_pos (by omega), if_neg (by omega), if_pos (by omega), if_pos (by rw [Mx_len]; omega), if_pos (by omega), T2_row _ _ _ hi, if_pos (by simp; omega), of_row _ _ _ (by omega), hfm, if_pos rfl]
    ·
     rw [w_pred g.length (by omega) (by omega), if_pos (by omega), if_pos (by omega), of_mkd, hv]
theorem rl_l0 (hz : gsz g < 17592186044414) (hre : ∀ i, i < g.length → (re i = true ↔ Rc g i (g.length - 1))) : ∀ (q i : Nat), i + q = g.length →
  Ev (fun k => billhookref10_Least.l0 k g (Mx g.length f) ((List.range i).map (lval f re g.length)) (i : Int)) ((List.range g.length).map (lval f re g.length)) := by
 intro q
 induction q with
 | zero =>
  intro i hi
  have hi : i = g.length := by omega
  subst hi
  refine Ev.step (f := fun _ => some ((List.range g.length).map (lval f re g.length))) (fun k => ?_) (Ev.now _)
  simp only [billhookref10_Least.l0]
  rw [if_neg (by omega)]
 | succ q ih =>
  intro i hi
  have hl : bst f re g.length i 0 = lval f re g.length i := by
   unfold bst lval oval
   rfl
  have h := rl_l1 hn (f := f) (re := re) (r := (List.range g.length).map (lval f re g.length)) hz hre ((List.range i).map (lval f re g.length)) i (by omega) (by simp) (by
   have := ih (i + 1) (by omega)
   rw [List.range_succ, List.map_append] at this
   rw [hl]
   exact this) g.length (Nat.le_refl _)
  have hb : bst f re g.length i g.length = -1 := by
   unfold bst
   rw [srch_end]
   split <;> rfl
  rw [hb] at h
  refine Ev.step (fun k => ?_) h
  simp only [billhookref10_Least.l0]
  rw [if_pos (by omega), w_m1 _ (by omega)]
end
theorem rLeast_ev {g : List (List Int)} {f : Nat → Nat → Bool} {re : Nat → Bool} (hf : ∀ i d, i < g.length → d < g.length → (f i d = true ↔ ¬ Av g d i)) (hz : gsz g < 17592186044414) (hn : g.length ≤ 1000000000000) (hre : ∀ i, i < g.length → (re i = true ↔ Rc g i (g.length - 1))) :
  Ev (fun k => billhookref10_Least.f k g) ((List.range g.length).map (lval f re g.length)) :=
 Ev.bind (f := fun k t => billhookref10_Least.l0 k g t [] 0) (rPost_ev hf hz hn) (rl_l0 hn hz hre g.length 0 (by omega))
section
variable {g : List (List Int)} {f : Nat → Nat → Bool} {r : List (List Int)} (hn : g.length ≤ 1000000000000)
include hn
def ldK (g : List (List Int)) (f : Nat → Nat → Bool) (i : Nat) (s : Int) : Bool := isN g.length s && f s.toNat i
theorem rc_l2 (C : List (List Int)) (R : List Int) (i p : Nat) (hi : i < g.length) (hp : p < g.length) (hR : R.length ≤ p) (hw : (row g p).length < 9223372036854775807)
  (K : Ev (fun k => billhookref10_Control.l1 k g (Mx g.length f) C (i : Int) (if ((row g p).any (ldK g f i) && (!(f p i) || i == p)) = true then R ++ [(p : Int)] else R) ((p + 1 : Nat) : Int)) r) :
  ∀ (q t : Nat), t + q = (row g p).length → Ev (fun k => billhookref10_Control.l2 k g (Mx g.length f) C (i : Int) R (p : Int) (((row g p).take t).any (ldK g f i)) (t : Int)) r := by
 intro q
 induction q with
 | zero =>
  intro t ht
  have ht : t = (row g p).length := by omega
  subst ht
  rw [List.take_length]
  refine Ev.step (fun k => ?_) K
  simp only [billhookref10_Control.l2]
  rw [if_pos (by omega), if_pos (by omega), T3_row, if_neg (by omega), w_succ _ (by omega)]
  cases ha : (row g p).any (ldK g f i) with
  | false => rw [if_neg (by simp), if_neg (by simp)]
  | true =>
   rw [if_pos rfl, if_pos (by rw [Mx_len]; omega), if_pos (by omega), T2_row _ _ _ hp, if_pos (by simp; omega), of_row _ _ _ hi, if_pos (show R.length < 17592186044416 by omega)]
   cases h3 : f p i with
   | false => rw [if_neg (by simp), if_pos (by simp)]
   | true =>
    rw [if_pos rfl]
    by_cases h4 : i = p
    ·
     rw [if_pos (by omega), if_pos (by simp [h4])]
    ·
     rw [if_neg (by omega), if_neg (by simp [h4])]
 | succ q ih =>
  intro t ht
  have htl : t < (row g p).length := by omega
  have ih := ih (t + 1) (by omega)
  rw [List.take_succ_eq_append_getElem htl, List.any_append, List.any_cons, List.any_nil, Bool.or_false] at ih
  refine Ev.step (fun k => ?_) ih
  simp only [billhookref10_Control.l2]
  rw [if_pos (by omega), if_pos (by omega), T3_row, if_pos (by omega), if_pos (by omega), w_succ _ (by omega), rd_at _ _ htl]
  cases ha : ((row g p).take t).any (ldK g f i) with
  | true => rw [if_pos rfl, Bool.true_or]
  | false =>
   rw [if_neg (by simp), Bool.false_or]
   unfold ldK isN
   by_cases h1 : (row g p)[t] ≥ 0
   ·
    rw [if_pos h1]
    by_cases h2 : (row g p)[t] < (g.length : Int)
    ·
     obtain ⟨s, hs⟩ : ∃ s : Nat, (row g p)[t] = (s : Int) := ⟨(row g p)[t].toNat, by omega⟩
     rw [hs] at h1 h2 ⊢
     rw [if_pos h2, if_pos (by omega), if_pos (by rw [Mx_len]; omega), if_pos (by omega), T2_row _ _ _ (by omega), if_pos (by simp; omega), of_row _ _ _ hi, nat_toNat, decide_eq_true (show 0 ≤ (s : Int) by omega), decide_eq_true h2]
     rfl
    ·
     rw [if_neg h2, decide_eq_false h2, Bool.and_false, Bool.false_and]
   ·
    rw [if_neg h1, decide_eq_false (show ¬ 0 ≤ (row g p)[t] from h1), Bool.false_and, Bool.false_and]
theorem rc_if (i p : Nat) (hi : i < g.length) (hp : p < g.length) : ctlIf g (Mx g.length f) i p = ((row g p).any (ldK g f i) && (!(f p i) || i == p)) := by
 unfold ctlIf lead
 rw [show bit (Mx g.length f) p i = f p i from bitM_Mx g.length f p i hp hi]
 congr 1
 show (row g p).any _ = _
 refine List.any_congr rfl fun s => ?_
 unfold ldK
 cases hs : isN g.length s with
 | false =>
  have : isn g.length s = false := hs
  rw [this]
  rfl
 | true =>
  have h2 : isn g.length s = true := hs
  simp only [isN, Bool.and_eq_true, decide_eq_true_eq] at hs
  rw [h2, show bit (Mx g.length f) s.toNat i = f s.toNat i from bitM_Mx g.length f s.toNat i (by omega) hi]
theorem rc_l1 (hrow : ∀ p, (row g p).length < 9223372036854775807) (C : List (List Int)) (i : Nat) (hi : i < g.length) (hC : C.length = i)
  (K : Ev (fun k => billhookref10_Control.l0 k g (Mx g.length f) (C ++ [ctlRow g (Mx g.length f) i]) ((i + 1 : Nat) : Int)) r) :
  ∀ (q p : Nat), p + q = g.length → Ev (fun k => billhookref10_Control.l1 k g (Mx g.length f) C (i : Int) (((List.range p).filter (ctlIf g (Mx g.length f) i)).map fun (p : Nat) => (p : Int)) (p : Int)) r := by
 intro q
 induction q with
 | zero =>
  intro p hp
  have hp : p = g.length := by omega
  subst hp
  refine Ev.step (fun k => ?_) K
  simp only [billhookref10_Control.l1]
  rw [if_neg (by omega), if_pos (by omega), w_succ _ (by omega)]
  rfl
 | succ q ih =>
  intro p hp
  have h := rc_l2 hn (f := f) (r := r) C (((List.range p).filter (ctlIf g (Mx g.length f) i)).map fun (p : Nat) => (p : Int)) i p hi (by omega) (by
   have := List.length_filter_le (ctlIf g (Mx g.length f) i) (List.range p)
   simp only [List.length_map]
   simpa using this) (hrow p) (by
   have := ih (p + 1) (by omega)
   rw [List.range_succ, List.filter_append, List.map_append] at this
   rw [← rc_if hn i p hi (by omega)]
   cases hc : ctlIf g (Mx g.length f) i p with
   | false => simpa [List.filter_cons, hc] using this
   | true => simpa [List.filter_cons, hc] using this) (row g p).length 0 (by omega)
  refine Ev.step (fun k => ?_) h
  simp only [billhookref10_Control.l1]
  rw [if_pos (by omega)]
  rfl
theorem rc_l0 (hrow : ∀ p, (row g p).length < 9223372036854775807) : ∀ (q i : Nat), i + q = g.length →
  Ev (fun k => billhookref10_Control.l0 k g (Mx g.length f) ((List.range i).map (ctlRow g (Mx g.length f))) (i : Int)) (ctl g (Mx g.length f)) := by
 intro q
 induction q with
 | zero =>
  intro i hi
  have hi : i = g.length := by omega
  subst hi
  refine Ev.step (f := fun _ => some (ctl g (Mx g.length f))) (fun k => ?_) (Ev.now _)
  simp only [billhookref10_Control.l0]
  rw [if_neg (by omega)]
  rfl
 | succ q ih =>
  intro i hi
  have h := rc_l1 hn (f := f) (r := ctl g (Mx g.length f)) hrow ((List.range i).map (ctlRow g (Mx g.length f))) i (by omega) (by simp) (by
   have := ih (i + 1) (by omega)
   rw [List.range_succ, List.map_append] at this
   exact this) g.length 0 (by omega)
  refine Ev.step (fun k => ?_) h
  simp only [billhookref10_Control.l0]
  rw [if_pos (by omega)]
  rfl
end
theorem rControl_ev {g : List (List Int)} {f : Nat → Nat → Bool} (hf : ∀ i d, i < g.length → d < g.length → (f i d = true ↔ ¬ Av g d i)) (hz : gsz g < 17592186044414) (hn : g.length ≤ 1000000000000) :
  Ev (fun k => billhookref10_Control.f k g) (ctl g (Mx g.length f)) :=
 Ev.bind (f := fun k t => billhookref10_Control.l0 k g t [] 0) (rPost_ev hf hz hn) (rc_l0 hn (fun p => by have := row_len_gsz g p; omega) g.length 0 (by omega))
end Go.Proofs.Ytankppgafdcknaa.Gr