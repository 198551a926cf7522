/- Texts joined into one: PDomx0 PDomx1 PDomx3 G0 G1 G2 G3 G4. -/
import Derived.Test.YtankppgafdcknaaProg
import Derived.Below
import Derived.Deep.Draws
import Derived.Deep.AppendLies
import Derived.Maps.AppendAt
import Derived.OwnWalk
import Derived.Laws.BytesArg
import Derived.Laws.MakeOwn
import Derived.Laws.OwnMore
import Derived.Deep.OwnRows
import Derived.Tactics
import Derived.Lib.ConvBytes
import Derived.Laws.Slices
import Derived.WalkKit
import Derived.KernelRfl
import Derived.RowKit3
import Derived.Deep.LoopGhost
import Derived.Deep.QuietTactic
import Derived.BigQuiet
import Derived.WideLaws
import Derived.Deep.DeepCutAuto
import Derived.Deep.CutBlock
import Derived.Deep.RegionHeld3
import Derived.Laws.Rows
import Derived.Lib.AppendStr
import Derived.ArgAppend
import Derived.Laws.IdiomCopy
import Derived.OrdersHeld
import Derived.Laws.BitsLemmas
import Derived.RowKit
import Derived.Test.YtankppgafdcknaaKq
import Derived.Test.YtankppgafdcknaaKe
import Derived.Test.YtankppgafdcknaaKw
/- Printed for this claim by a program. -/
namespace Go.Proofs.Ytankppgafdcknaa.PDom
open Go.Proofs.Ytankppgafdcknaa.PPost
open Go.RowKit Go.Proofs.YtankppgafdcknaaW.PrintWords Go.Proofs.YtankppgafdcknaaW.PrintLast Go.Proofs.YtankppgafdcknaaW.PrintMore
attribute [local go_sem] max2_int min2_int max_two min_two max_three min_three max_four min_four   -- for this text's walks alone
set_option linter.unusedVariables false
set_option linter.unusedSimpArgs false



def errW : Option Int → Value
  | none => .nilIface
  | some c => .iface 0 (.int .i64 c)
theorem errW_none : errW none = .nilIface := rfl
theorem errW_some (c : Int) : errW (some c) = .iface 0 (.int .i64 c) := rfl

theorem info3 : (Try.prog.info? 3).map (fun i => (i.zero, i.size, i.bytes)) = some (some (.int .i64 0), 1, 8) := by kernel_rfl
theorem info54 : (Try.prog.info? 54).map (fun i => (i.zero, i.size, i.bytes)) = some (some (.slice none 0 0), 1, 24) := by kernel_rfl
-- the values' own types
def rd_L2 (xs : List (List Bool)) (i : Int) : (List Bool) := xs.getD i.toNat ([] : List Bool)
theorem at_L2 {w : World} {A : Option Addr} {n : Nat} {xs : List (List Bool)} (h : Kd.C (Kd.slice 4 Kd.bool) w A n xs) (i : Int) (h0 : 0 ≤ i) (h1 : i < n) : ∃ ad A0 c0, A = some ad ∧ w.cell? (ad.add i.toNat) = some (.slice A0 (rd_L2 xs i).length c0) ∧ (rd_L2 xs i).length ≤ c0 ∧ Kd.bool.C w A0 (rd_L2 xs i).length (rd_L2 xs i) := by
  obtain ⟨ad, c, e, _, hK, hc0⟩ := Kd.C_get h ([] : List Bool) i h0 h1
  have hc : ∀ j u, c[j]? = some u → w.cell? (ad.add (i.toNat * 1 + j)) = some u := hc0
  obtain ⟨A0, c0, rfl, l0, g0⟩ := hK
  exact ⟨ad, A0, c0, e, by have hq := hc 0 _ rfl; rwa [Nat.mul_one, Nat.add_zero] at hq, l0, g0⟩

def rd_L3 (xs : List (List Int)) (i : Int) : (List Int) := xs.getD i.toNat ([] : List Int)
theorem at_L3 {w : World} {A : Option Addr} {n : Nat} {xs : List (List Int)} (h : Kd.C (Kd.slice 3 (Kd.int .i64)) w A n xs) (i : Int) (h0 : 0 ≤ i) (h1 : i < n) : ∃ ad A0 c0, A = some ad ∧ w.cell? (ad.add i.toNat) = some (.slice A0 (rd_L3 xs i).length c0) ∧ (rd_L3 xs i).length ≤ c0 ∧ (Kd.int .i64).C w A0 (rd_L3 xs i).length (rd_L3 xs i) := by
  obtain ⟨ad, c, e, _, hK, hc0⟩ := Kd.C_get h ([] : List Int) i h0 h1
  have hc : ∀ j u, c[j]? = some u → w.cell? (ad.add (i.toNat * 1 + j)) = some u := hc0
  obtain ⟨A0, c0, rfl, l0, g0⟩ := hK
  exact ⟨ad, A0, c0, e, by have hq := hc 0 _ rfl; rwa [Nat.mul_one, Nat.add_zero] at hq, l0, g0⟩

end Go.Proofs.Ytankppgafdcknaa.PDom

/- Printed for this claim by a program. -/
namespace Go.Proofs.Ytankppgafdcknaa.PDom
open Go.Proofs.Ytankppgafdcknaa.PPost
open Go.RowKit Go.Proofs.YtankppgafdcknaaW.PrintWords Go.Proofs.YtankppgafdcknaaW.PrintLast Go.Proofs.YtankppgafdcknaaW.PrintMore
attribute [local go_sem] max2_int min2_int max_two min_two max_three min_three max_four min_four   -- for this text's walks alone
set_option linter.unusedVariables false
set_option linter.unusedSimpArgs false

/-! ### billhooklaw10_bools: function 28 -/
def billhooklaw10_bools.l0 : Nat → List Bool → List Bool → Int → Option (Bool)
  | 0, _, _, _ => none
  | k + 1, x0, x1, x5 => if x5 < (x0.length : Int) then (if 0 ≤ x5 then (if x5 < (x1.length : Int) then (if ((rdOf false x0 x5) != (rdOf false x1 x5)) = true then (some false) else (billhooklaw10_bools.l0 k x0 x1 (wrap64 (x5 + 1)))) else (none)) else (none)) else (some true)
def billhooklaw10_bools.f (k : Nat) (l0 : List Bool) (l1 : List Bool) : Option (Bool) := if (l0.length : Int) = (l1.length : Int) then (billhooklaw10_bools.l0 k l0 l1 0) else (some false)
theorem billhooklaw10_bools.mono_l : ∀ k, (∀ y0 y1 y2, LeO (billhooklaw10_bools.l0 k y0 y1 y2) (billhooklaw10_bools.l0 (k + 1) y0 y1 y2))
  | 0 => fun _ _ _ r h => by simp [billhooklaw10_bools.l0] at h
  | k + 1 => by
    have ih0 := billhooklaw10_bools.mono_l k
    · intro y0 y1 y2
      unfold billhooklaw10_bools.l0
      repeat' first
      | (with_reducible exact ih0 _ _ _)
      | (with_reducible exact LeO.refl _)
      | (with_reducible exact LeO.none _)
      | (with_reducible refine LeO.ite ?_ ?_)
      | (with_reducible refine LeO.bind ?_ (fun _ => ?_))
      | exact ih0 _ _ _
      | exact LeO.none _
      | refine LeO.ite ?_ ?_
      | refine LeO.bind ?_ (fun _ => ?_)
theorem billhooklaw10_bools.mono : ∀ a0 a1 k, LeO (billhooklaw10_bools.f k a0 a1) (billhooklaw10_bools.f (k + 1) a0 a1) := by
  intro a0 a1 k
  have ih0 := billhooklaw10_bools.mono_l k
  unfold billhooklaw10_bools.f
  repeat' first
      | (with_reducible exact ih0 _ _ _)
      | (with_reducible exact LeO.refl _)
      | (with_reducible exact LeO.none _)
      | (with_reducible refine LeO.ite ?_ ?_)
      | (with_reducible refine LeO.bind ?_ (fun _ => ?_))
      | exact ih0 _ _ _
      | exact LeO.none _
      | refine LeO.ite ?_ ?_
      | refine LeO.bind ?_ (fun _ => ?_)
set_option maxHeartbeats 8000000 in
set_option maxRecDepth 100000 in
theorem billhooklaw10_bools.calls (k : Nat) (A0 : Option Addr) (c0 : Nat) (l0 : List Bool) (A1 : Option Addr) (c1 : Nat) (l1 : List Bool) (r : Bool) (w : World) (hr0 : Kd.C Kd.bool w A0 l0.length l0) (hc0 : l0.length ≤ c0) (hr1 : Kd.C Kd.bool w A1 l1.length l1) (hc1 : l1.length ≤ c1) (h : billhooklaw10_bools.f k l0 l1 = some r) :
    Calls Try.prog 28 #[.slice A0 l0.length c0, .slice A1 l1.length c1] w fun e w' => e = .returned (.bool r) ∧ Drawn0 w w' := by
  have HR0 := Aside0.mk hr0
  have HC0 := Aside0.mk hc0
  clear hr0 hc0
  have HR1 := Aside0.mk hr1
  have HC1 := Aside0.mk hc1
  clear hr1 hc1
  have H : (if (l0.length : Int) = (l1.length : Int) then (billhooklaw10_bools.l0 k l0 l1 0) else (some false)) = some r := h
  clear h
  by_cases c3 : (l0.length : Int) = (l1.length : Int)
  · rw [if_pos c3] at H
    have c3b0 : ((l0.length : Int) == (l1.length : Int)) = true := beq_iff_eq.mpr c3
    have c3b1 : ((l0.length : Int) != (l1.length : Int)) = false := bne_eq_false_iff_eq.mpr c3
    have c3b2 : (l0.length == l1.length) = true := by first | simpa using c3 | (simp at c3 ⊢; omega)
    clear c3
    have H' := Aside0.mk H
    clear H
    go_enter Try.func28, Try.ntmps28
    go_wp2
    repeat (go_quiet (fail); try go_wp2)
    go_loopg [5] k (fun kq v5 w' => ∃ (x5_1 : Int), v5 = .int .i64 x5_1 ∧ Aside0 (billhooklaw10_bools.l0 kq l0 l1 x5_1 = some r) ∧ Aside0 (kq ≤ k) ∧ Drawn0 w w')
    case atStart => exact ⟨(0), (by first | rfl | (simp; done) | (simp [*]; done)), H', ⟨Nat.le_refl _⟩, by repeat (first | exact Drawn0.refl _ | apply Drawn0.step)⟩
    case round =>
      clear H'
      try clear c1
      try clear c2
      try clear p2
      try clear c3
      try clear c3b0
      try clear c3b1
      try clear c3b2
      obtain ⟨x5_1, rfl, HA, HK1, ⟨m1, rfl⟩⟩ := hrel
      cases gk with
      | zero => exact absurd HA.out (by simp [billhooklaw10_bools.l0])
      | succ k1 =>
        have H := HA.out
        clear HA
        simp only [billhooklaw10_bools.l0] at H
        by_cases c4 : x5_1 < (l0.length : Int)
        · rw [if_pos c4] at H
          have c4b0 : decide (x5_1 < (l0.length : Int)) = true := decide_eq_true c4
          clear c4
          by_cases c5 : 0 ≤ x5_1
          · rw [if_pos c5] at H
            have c5b0 : decide (0 ≤ x5_1) = true := decide_eq_true c5
            clear c5
            by_cases c6 : x5_1 < (l1.length : Int)
            · rw [if_pos c6] at H
              have c6b0 : decide (x5_1 < (l1.length : Int)) = true := decide_eq_true c6
              clear c6
              by_cases c7 : ((rdOf false l0 x5_1) != (rdOf false l1 x5_1)) = true
              · rw [if_pos c7] at H
                have c7b0 : ((rdOf false l0 x5_1) != (rdOf false l1 x5_1)) = true := c7
                (try (have c7b1 : decide ((rdOf false l0 x5_1) = (rdOf false l1 x5_1)) = false := by simpa using c7))
                (try (have c7b2 : ((rdOf false l0 x5_1) == (rdOf false l1 x5_1)) = false := by simpa using c7))
                (try (have c7b3 : ¬ ((rdOf false l0 x5_1) = (rdOf false l1 x5_1)) := by simpa using c7))
                clear c7
                obtain rfl := Option.some.inj H
                have p101 : 0 ≤ (x5_1 : Int) := of_decide_eq_true (by first | (with_reducible assumption) | assumption)
                have q101 : x5_1 < (l0.length : Int) := of_decide_eq_true (by first | (with_reducible assumption) | assumption)
                obtain ⟨ad101, e101, hx101_0⟩ := Kd.at_bool HR0.out x5_1 p101 q101
                cases e101
                replace p101 := eq_true p101
                replace q101 := eq_true q101
                have p102 : 0 ≤ (x5_1 : Int) := of_decide_eq_true (by first | (with_reducible assumption) | assumption)
                have q102 : x5_1 < (l1.length : Int) := of_decide_eq_true (by first | (with_reducible assumption) | assumption)
                obtain ⟨ad102, e102, hx102_0⟩ := Kd.at_bool HR1.out x5_1 p102 q102
                cases e102
                replace p102 := eq_true p102
                replace q102 := eq_true q102
                go_wp2
                repeat (go_quiet (fail); try go_wp2)
                go_ret
                exact ⟨by first | rfl | (simp; done) | (simp [*]; done), by repeat (first | exact Drawn0.refl _ | apply Drawn0.step)⟩
              · rw [if_neg c7] at H
                have c7b0 : ((rdOf false l0 x5_1) != (rdOf false l1 x5_1)) = false := by simpa using c7
                (try (have c7b1 : decide ((rdOf false l0 x5_1) = (rdOf false l1 x5_1)) = true := by simpa using c7))
                (try (have c7b2 : ((rdOf false l0 x5_1) == (rdOf false l1 x5_1)) = true := by simpa using c7))
                clear c7
                have H' := Aside0.mk H
                clear H
                have p101 : 0 ≤ (x5_1 : Int) := of_decide_eq_true (by first | (with_reducible assumption) | assumption)
                have q101 : x5_1 < (l0.length : Int) := of_decide_eq_true (by first | (with_reducible assumption) | assumption)
                obtain ⟨ad101, e101, hx101_0⟩ := Kd.at_bool HR0.out x5_1 p101 q101
                cases e101
                replace p101 := eq_true p101
                replace q101 := eq_true q101
                have p102 : 0 ≤ (x5_1 : Int) := of_decide_eq_true (by first | (with_reducible assumption) | assumption)
                have q102 : x5_1 < (l1.length : Int) := of_decide_eq_true (by first | (with_reducible assumption) | assumption)
                obtain ⟨ad102, e102, hx102_0⟩ := Kd.at_bool HR1.out x5_1 p102 q102
                cases e102
                replace p102 := eq_true p102
                replace q102 := eq_true q102
                go_wp2
                repeat (go_quiet (fail); try go_wp2)
                go_roundg k1
                case measure => have := HK1.out; omega
                case rel => exact ⟨(wrap64 (x5_1 + 1)), (by first | rfl | (simp; done) | (simp [*]; done)), H', ⟨by have := HK1.out; omega⟩, by repeat (first | exact Drawn0.refl _ | apply Drawn0.step)⟩
            · rw [if_neg c6] at H
              exact absurd H (by simp)
          · rw [if_neg c5] at H
            exact absurd H (by simp)
        · rw [if_neg c4] at H
          have c4b0 : decide (x5_1 < (l0.length : Int)) = false := decide_eq_false c4
          clear c4
          obtain rfl := Option.some.inj H
          go_wp2
          repeat (go_quiet (fail); try go_wp2)
          go_ret
          exact ⟨by first | rfl | (simp; done) | (simp [*]; done), by repeat (first | exact Drawn0.refl _ | apply Drawn0.step)⟩
  · rw [if_neg c3] at H
    have c3b0 : ((l0.length : Int) == (l1.length : Int)) = false := beq_eq_false_iff_ne.mpr c3
    have c3b1 : ((l0.length : Int) != (l1.length : Int)) = true := bne_iff_ne.mpr c3
    have c3b2 : (l0.length == l1.length) = false := by first | simpa using c3 | (simp at c3 ⊢; omega)
    obtain rfl := Option.some.inj H
    go_enter Try.func28, Try.ntmps28
    go_wp2
    repeat (go_quiet (fail); try go_wp2)
    go_ret
    exact ⟨by first | rfl | (simp; done) | (simp [*]; done), by repeat (first | exact Drawn0.refl _ | apply Drawn0.step)⟩

/-! ### billhooklaw10_same: function 33 -/
def billhooklaw10_same.l0 : Nat → List Int → List Int → Int → Option (Bool)
  | 0, _, _, _ => none
  | k + 1, x0, x1, x5 => if x5 < (x0.length : Int) then (if 0 ≤ x5 then (if x5 < (x1.length : Int) then (if (rd x0 x5) = (rd x1 x5) then (billhooklaw10_same.l0 k x0 x1 (wrap64 (x5 + 1))) else (some false)) else (none)) else (none)) else (some true)
def billhooklaw10_same.f (k : Nat) (l0 : List Int) (l1 : List Int) : Option (Bool) := if (l0.length : Int) = (l1.length : Int) then (billhooklaw10_same.l0 k l0 l1 0) else (some false)
theorem billhooklaw10_same.mono_l : ∀ k, (∀ y0 y1 y2, LeO (billhooklaw10_same.l0 k y0 y1 y2) (billhooklaw10_same.l0 (k + 1) y0 y1 y2))
  | 0 => fun _ _ _ r h => by simp [billhooklaw10_same.l0] at h
  | k + 1 => by
    have ih0 := billhooklaw10_same.mono_l k
    · intro y0 y1 y2
      unfold billhooklaw10_same.l0
      repeat' first
      | (with_reducible exact ih0 _ _ _)
      | (with_reducible exact LeO.refl _)
      | (with_reducible exact LeO.none _)
      | (with_reducible refine LeO.ite ?_ ?_)
      | (with_reducible refine LeO.bind ?_ (fun _ => ?_))
      | exact ih0 _ _ _
      | exact LeO.none _
      | refine LeO.ite ?_ ?_
      | refine LeO.bind ?_ (fun _ => ?_)
theorem billhooklaw10_same.mono : ∀ a0 a1 k, LeO (billhooklaw10_same.f k a0 a1) (billhooklaw10_same.f (k + 1) a0 a1) := by
  intro a0 a1 k
  have ih0 := billhooklaw10_same.mono_l k
  unfold billhooklaw10_same.f
  repeat' first
      | (with_reducible exact ih0 _ _ _)
      | (with_reducible exact LeO.refl _)
      | (with_reducible exact LeO.none _)
      | (with_reducible refine LeO.ite ?_ ?_)
      | (with_reducible refine LeO.bind ?_ (fun _ => ?_))
      | exact ih0 _ _ _
      | exact LeO.none _
      | refine LeO.ite ?_ ?_
      | refine LeO.bind ?_ (fun _ => ?_)
set_option maxHeartbeats 8000000 in
set_option maxRecDepth 100000 in
theorem billhooklaw10_same.calls (k : Nat) (A0 : Option Addr) (c0 : Nat) (l0 : List Int) (A1 : Option Addr) (c1 : Nat) (l1 : List Int) (r : Bool) (w : World) (hr0 : Kd.C (Kd.int .i64) w A0 l0.length l0) (hc0 : l0.length ≤ c0) (hr1 : Kd.C (Kd.int .i64) w A1 l1.length l1) (hc1 : l1.length ≤ c1) (h : billhooklaw10_same.f k l0 l1 = some r) :
    Calls Try.prog 33 #[.slice A0 l0.length c0, .slice A1 l1.length c1] w fun e w' => e = .returned (.bool r) ∧ Drawn0 w w' := by
  have HR0 := Aside0.mk hr0
  have HC0 := Aside0.mk hc0
  clear hr0 hc0
  have HR1 := Aside0.mk hr1
  have HC1 := Aside0.mk hc1
  clear hr1 hc1
  have H : (if (l0.length : Int) = (l1.length : Int) then (billhooklaw10_same.l0 k l0 l1 0) else (some false)) = some r := h
  clear h
  by_cases c3 : (l0.length : Int) = (l1.length : Int)
  · rw [if_pos c3] at H
    have c3b0 : ((l0.length : Int) == (l1.length : Int)) = true := beq_iff_eq.mpr c3
    have c3b1 : ((l0.length : Int) != (l1.length : Int)) = false := bne_eq_false_iff_eq.mpr c3
    have c3b2 : (l0.length == l1.length) = true := by first | simpa using c3 | (simp at c3 ⊢; omega)
    clear c3
    have H' := Aside0.mk H
    clear H
    go_enter Try.func33, Try.ntmps33
    go_wp2
    repeat (go_quiet (fail); try go_wp2)
    go_loopg [5] k (fun kq v5 w' => ∃ (x5_1 : Int), v5 = .int .i64 x5_1 ∧ Aside0 (billhooklaw10_same.l0 kq l0 l1 x5_1 = some r) ∧ Aside0 (kq ≤ k) ∧ Drawn0 w w')
    case atStart => exact ⟨(0), (by first | rfl | (simp; done) | (simp [*]; done)), H', ⟨Nat.le_refl _⟩, by repeat (first | exact Drawn0.refl _ | apply Drawn0.step)⟩
    case round =>
      clear H'
      try clear c1
      try clear p2
      try clear c3
      try clear c3b0
      try clear c3b1
      try clear c3b2
      obtain ⟨x5_1, rfl, HA, HK1, ⟨m1, rfl⟩⟩ := hrel
      cases gk with
      | zero => exact absurd HA.out (by simp [billhooklaw10_same.l0])
      | succ k1 =>
        have H := HA.out
        clear HA
        simp only [billhooklaw10_same.l0] at H
        by_cases c4 : x5_1 < (l0.length : Int)
        · rw [if_pos c4] at H
          have c4b0 : decide (x5_1 < (l0.length : Int)) = true := decide_eq_true c4
          clear c4
          by_cases c5 : 0 ≤ x5_1
          · rw [if_pos c5] at H
            have c5b0 : decide (0 ≤ x5_1) = true := decide_eq_true c5
            clear c5
            by_cases c6 : x5_1 < (l1.length : Int)
            · rw [if_pos c6] at H
              have c6b0 : decide (x5_1 < (l1.length : Int)) = true := decide_eq_true c6
              clear c6
              by_cases c7 : (rd l0 x5_1) = (rd l1 x5_1)
              · rw [if_pos c7] at H
                have c7b0 : ((rd l0 x5_1) == (rd l1 x5_1)) = true := beq_iff_eq.mpr c7
                have c7b1 : ((rd l0 x5_1) != (rd l1 x5_1)) = false := bne_eq_false_iff_eq.mpr c7
                clear c7
                have H' := Aside0.mk H
                clear H
                have p103 : 0 ≤ (x5_1 : Int) := of_decide_eq_true (by first | (with_reducible assumption) | assumption)
                have q103 : x5_1 < (l0.length : Int) := of_decide_eq_true (by first | (with_reducible assumption) | assumption)
                obtain ⟨ad103, e103, hx103_0⟩ := Kd.at_int HR0.out x5_1 p103 q103
                cases e103
                replace p103 := eq_true p103
                replace q103 := eq_true q103
                have p104 : 0 ≤ (x5_1 : Int) := of_decide_eq_true (by first | (with_reducible assumption) | assumption)
                have q104 : x5_1 < (l1.length : Int) := of_decide_eq_true (by first | (with_reducible assumption) | assumption)
                obtain ⟨ad104, e104, hx104_0⟩ := Kd.at_int HR1.out x5_1 p104 q104
                cases e104
                replace p104 := eq_true p104
                replace q104 := eq_true q104
                go_wp2
                repeat (go_quiet (fail); try go_wp2)
                go_roundg k1
                case measure => have := HK1.out; omega
                case rel => exact ⟨(wrap64 (x5_1 + 1)), (by first | rfl | (simp; done) | (simp [*]; done)), H', ⟨by have := HK1.out; omega⟩, by repeat (first | exact Drawn0.refl _ | apply Drawn0.step)⟩
              · rw [if_neg c7] at H
                have c7b0 : ((rd l0 x5_1) == (rd l1 x5_1)) = false := beq_eq_false_iff_ne.mpr c7
                have c7b1 : ((rd l0 x5_1) != (rd l1 x5_1)) = true := bne_iff_ne.mpr c7
                obtain rfl := Option.some.inj H
                have p103 : 0 ≤ (x5_1 : Int) := of_decide_eq_true (by first | (with_reducible assumption) | assumption)
                have q103 : x5_1 < (l0.length : Int) := of_decide_eq_true (by first | (with_reducible assumption) | assumption)
                obtain ⟨ad103, e103, hx103_0⟩ := Kd.at_int HR0.out x5_1 p103 q103
                cases e103
                replace p103 := eq_true p103
                replace q103 := eq_true q103
                have p104 : 0 ≤ (x5_1 : Int) := of_decide_eq_true (by first | (with_reducible assumption) | assumption)
                have q104 : x5_1 < (l1.length : Int) := of_decide_eq_true (by first | (with_reducible assumption) | assumption)
                obtain ⟨ad104, e104, hx104_0⟩ := Kd.at_int HR1.out x5_1 p104 q104
                cases e104
                replace p104 := eq_true p104
                replace q104 := eq_true q104
                go_wp2
                repeat (go_quiet (fail); try go_wp2)
                go_ret
                exact ⟨by first | rfl | (simp; done) | (simp [*]; done), by repeat (first | exact Drawn0.refl _ | apply Drawn0.step)⟩
            · rw [if_neg c6] at H
              exact absurd H (by simp)
          · rw [if_neg c5] at H
            exact absurd H (by simp)
        · rw [if_neg c4] at H
          have c4b0 : decide (x5_1 < (l0.length : Int)) = false := decide_eq_false c4
          clear c4
          obtain rfl := Option.some.inj H
          go_wp2
          repeat (go_quiet (fail); try go_wp2)
          go_ret
          exact ⟨by first | rfl | (simp; done) | (simp [*]; done), by repeat (first | exact Drawn0.refl _ | apply Drawn0.step)⟩
  · rw [if_neg c3] at H
    have c3b0 : ((l0.length : Int) == (l1.length : Int)) = false := beq_eq_false_iff_ne.mpr c3
    have c3b1 : ((l0.length : Int) != (l1.length : Int)) = true := bne_iff_ne.mpr c3
    have c3b2 : (l0.length == l1.length) = false := by first | simpa using c3 | (simp at c3 ⊢; omega)
    obtain rfl := Option.some.inj H
    go_enter Try.func33, Try.ntmps33
    go_wp2
    repeat (go_quiet (fail); try go_wp2)
    go_ret
    exact ⟨by first | rfl | (simp; done) | (simp [*]; done), by repeat (first | exact Drawn0.refl _ | apply Drawn0.step)⟩

end Go.Proofs.Ytankppgafdcknaa.PDom

/- Printed for this claim by a program. -/
namespace Go.Proofs.Ytankppgafdcknaa.PDom
open Go.Proofs.Ytankppgafdcknaa.PPost
open Go.RowKit Go.Proofs.YtankppgafdcknaaW.PrintWords Go.Proofs.YtankppgafdcknaaW.PrintLast Go.Proofs.YtankppgafdcknaaW.PrintMore
attribute [local go_sem] max2_int min2_int max_two min_two max_three min_three max_four min_four   -- for this text's walks alone
set_option linter.unusedVariables false
set_option linter.unusedSimpArgs false

/-! ### billhooklaw10_rows: function 36 -/
def billhooklaw10_rows.l0 : Nat → List (List Int) → List (List Int) → Int → Option (Bool)
  | 0, _, _, _ => none
  | k + 1, x0, x1, x5 => if x5 < (x0.length : Int) then (if 0 ≤ x5 then (if x5 < (x1.length : Int) then ((billhooklaw10_same.f k (rd_L3 x0 x5) (rd_L3 x1 x5)).bind fun t127 => (if t127 = true then (billhooklaw10_rows.l0 k x0 x1 (wrap64 (x5 + 1))) else (some false))) else (none)) else (none)) else (some true)
def billhooklaw10_rows.f (k : Nat) (l0 : List (List Int)) (l1 : List (List Int)) : Option (Bool) := if (l0.length : Int) = (l1.length : Int) then (billhooklaw10_rows.l0 k l0 l1 0) else (some false)
theorem billhooklaw10_rows.mono_l : ∀ k, (∀ y0 y1 y2, LeO (billhooklaw10_rows.l0 k y0 y1 y2) (billhooklaw10_rows.l0 (k + 1) y0 y1 y2))
  | 0 => fun _ _ _ r h => by simp [billhooklaw10_rows.l0] at h
  | k + 1 => by
    have ih0 := billhooklaw10_rows.mono_l k
    · intro y0 y1 y2
      unfold billhooklaw10_rows.l0
      repeat' first
      | (with_reducible exact ih0 _ _ _)
      | (with_reducible exact billhooklaw10_same.mono _ _ _)
      | (with_reducible exact LeO.refl _)
      | (with_reducible exact LeO.none _)
      | (with_reducible refine LeO.ite ?_ ?_)
      | (with_reducible refine LeO.bind ?_ (fun _ => ?_))
      | exact ih0 _ _ _
      | exact billhooklaw10_same.mono _ _ _
      | exact LeO.none _
      | refine LeO.ite ?_ ?_
      | refine LeO.bind ?_ (fun _ => ?_)
theorem billhooklaw10_rows.mono : ∀ a0 a1 k, LeO (billhooklaw10_rows.f k a0 a1) (billhooklaw10_rows.f (k + 1) a0 a1) := by
  intro a0 a1 k
  have ih0 := billhooklaw10_rows.mono_l k
  unfold billhooklaw10_rows.f
  repeat' first
      | (with_reducible exact ih0 _ _ _)
      | (with_reducible exact billhooklaw10_same.mono _ _ _)
      | (with_reducible exact LeO.refl _)
      | (with_reducible exact LeO.none _)
      | (with_reducible refine LeO.ite ?_ ?_)
      | (with_reducible refine LeO.bind ?_ (fun _ => ?_))
      | exact ih0 _ _ _
      | exact billhooklaw10_same.mono _ _ _
      | exact LeO.none _
      | refine LeO.ite ?_ ?_
      | refine LeO.bind ?_ (fun _ => ?_)
set_option maxHeartbeats 8000000 in
set_option maxRecDepth 100000 in
theorem billhooklaw10_rows.calls (k : Nat) (A0 : Option Addr) (c0 : Nat) (l0 : List (List Int)) (A1 : Option Addr) (c1 : Nat) (l1 : List (List Int)) (r : Bool) (w : World) (hr0 : Kd.C (Kd.slice 3 (Kd.int .i64)) w A0 l0.length l0) (hc0 : l0.length ≤ c0) (hr1 : Kd.C (Kd.slice 3 (Kd.int .i64)) w A1 l1.length l1) (hc1 : l1.length ≤ c1) (h : billhooklaw10_rows.f k l0 l1 = some r) :
    Calls Try.prog 36 #[.slice A0 l0.length c0, .slice A1 l1.length c1] w fun e w' => e = .returned (.bool r) ∧ Drawn0 w w' := by
  have HR0 := Aside0.mk hr0
  have HC0 := Aside0.mk hc0
  clear hr0 hc0
  have HR1 := Aside0.mk hr1
  have HC1 := Aside0.mk hc1
  clear hr1 hc1
  have H : (if (l0.length : Int) = (l1.length : Int) then (billhooklaw10_rows.l0 k l0 l1 0) else (some false)) = some r := h
  clear h
  by_cases c3 : (l0.length : Int) = (l1.length : Int)
  · rw [if_pos c3] at H
    have c3b0 : ((l0.length : Int) == (l1.length : Int)) = true := beq_iff_eq.mpr c3
    have c3b1 : ((l0.length : Int) != (l1.length : Int)) = false := bne_eq_false_iff_eq.mpr c3
    have c3b2 : (l0.length == l1.length) = true := by first | simpa using c3 | (simp at c3 ⊢; omega)
    clear c3
    have H' := Aside0.mk H
    clear H
    go_enter Try.func36, Try.ntmps36
    go_wp2
    repeat (go_quiet (fail); try go_wp2)
    go_loopg [5] k (fun kq v5 w' => ∃ (x5_1 : Int), v5 = .int .i64 x5_1 ∧ Aside0 (billhooklaw10_rows.l0 kq l0 l1 x5_1 = some r) ∧ Aside0 (kq ≤ k) ∧ Drawn0 w w')
    case atStart => exact ⟨(0), (by first | rfl | (simp; done) | (simp [*]; done)), H', ⟨Nat.le_refl _⟩, by repeat (first | exact Drawn0.refl _ | apply Drawn0.step)⟩
    case round =>
      clear H'
      try clear c1
      try clear p2
      try clear c3
      try clear c3b0
      try clear c3b1
      try clear c3b2
      obtain ⟨x5_1, rfl, HA, HK1, ⟨m1, rfl⟩⟩ := hrel
      cases gk with
      | zero => exact absurd HA.out (by simp [billhooklaw10_rows.l0])
      | succ k1 =>
        have H := HA.out
        clear HA
        simp only [billhooklaw10_rows.l0] at H
        by_cases c4 : x5_1 < (l0.length : Int)
        · rw [if_pos c4] at H
          have c4b0 : decide (x5_1 < (l0.length : Int)) = true := decide_eq_true c4
          clear c4
          by_cases c5 : 0 ≤ x5_1
          · rw [if_pos c5] at H
            have c5b0 : decide (0 ≤ x5_1) = true := decide_eq_true c5
            clear c5
            by_cases c6 : x5_1 < (l1.length : Int)
            · rw [if_pos c6] at H
              have c6b0 : decide (x5_1 < (l1.length : Int)) = true := decide_eq_true c6
              clear c6
              replace H := Option.bind_eq_some_iff.mp H
              obtain ⟨t127, A70, H⟩ := H
              replace H : (if t127 = true then (billhooklaw10_rows.l0 k1 l0 l1 (wrap64 (x5_1 + 1))) else (some false)) = some r := H
              have A7 := Aside0.mk A70
              clear A70
              by_cases c8 : t127 = true
              · subst c8
                have H1 : (billhooklaw10_rows.l0 k1 l0 l1 (wrap64 (x5_1 + 1))) = some r := by first | (rw [if_pos rfl] at H; exact H) | (rw [if_pos trivial] at H; exact H)
                clear H
                have H := H1
                clear H1
                have H' := Aside0.mk H
                clear H
                have p125 : 0 ≤ (x5_1 : Int) := of_decide_eq_true (by first | (with_reducible assumption) | assumption)
                have q125 : x5_1 < (l0.length : Int) := of_decide_eq_true (by first | (with_reducible assumption) | assumption)
                obtain ⟨ad125, A125_0, c125_0, e125, hx125_0, hl125_0, hi125_0⟩ := at_L3 HR0.out x5_1 p125 q125
                cases e125
                have HR125_0 := Aside0.mk hi125_0
                have HC125_0 := Aside0.mk hl125_0
                clear hi125_0 hl125_0
                replace p125 := eq_true p125
                replace q125 := eq_true q125
                have p126 : 0 ≤ (x5_1 : Int) := of_decide_eq_true (by first | (with_reducible assumption) | assumption)
                have q126 : x5_1 < (l1.length : Int) := of_decide_eq_true (by first | (with_reducible assumption) | assumption)
                obtain ⟨ad126, A126_0, c126_0, e126, hx126_0, hl126_0, hi126_0⟩ := at_L3 HR1.out x5_1 p126 q126
                cases e126
                have HR126_0 := Aside0.mk hi126_0
                have HC126_0 := Aside0.mk hl126_0
                clear hi126_0 hl126_0
                (try (have hz_ := Option.some.inj (hx125_0.symm.trans hx126_0); injection hz_ with za_ zn_ zc_; subst za_; subst zc_; clear zn_))
                replace p126 := eq_true p126
                replace q126 := eq_true q126
                go_wp2_with (first | (go_at_call 33; (with_reducible refine (billhooklaw10_same.calls k1 _ _ (rd_L3 l0 x5_1) _ _ (rd_L3 l1 x5_1) true _ ?side1 ?side2 ?side3 ?side4 A7.out).mono ?_); (case side1 => repeat (first | exact HR125_0.out | (with_reducible refine Kd.C_alloc ?_ _) | (with_reducible refine Kd.C_drewN ?_ _) | (with_reducible refine Kd.C_drew ?_))); (case side2 => exact HC125_0.out); (case side3 => repeat (first | exact HR126_0.out | (with_reducible refine Kd.C_alloc ?_ _) | (with_reducible refine Kd.C_drewN ?_ _) | (with_reducible refine Kd.C_drew ?_))); (case side4 => exact HC126_0.out); rintro e w' ⟨rfl, ⟨nd, rfl⟩⟩; (try first | exact ⟨rfl, _, World.drewN_drewN _ _ _⟩ | exact ⟨rfl, _, Eq.trans (World.drewN_drewN _ _ _) (congrArg (World.drewN _) (Nat.add_assoc _ _ _))⟩)))
                repeat (go_quiet (first | (go_at_call 33; (with_reducible refine (billhooklaw10_same.calls k1 _ _ (rd_L3 l0 x5_1) _ _ (rd_L3 l1 x5_1) true _ ?side1 ?side2 ?side3 ?side4 A7.out).mono ?_); (case side1 => repeat (first | exact HR125_0.out | (with_reducible refine Kd.C_alloc ?_ _) | (with_reducible refine Kd.C_drewN ?_ _) | (with_reducible refine Kd.C_drew ?_))); (case side2 => exact HC125_0.out); (case side3 => repeat (first | exact HR126_0.out | (with_reducible refine Kd.C_alloc ?_ _) | (with_reducible refine Kd.C_drewN ?_ _) | (with_reducible refine Kd.C_drew ?_))); (case side4 => exact HC126_0.out); rintro e w' ⟨rfl, ⟨nd, rfl⟩⟩; (try first | exact ⟨rfl, _, World.drewN_drewN _ _ _⟩ | exact ⟨rfl, _, Eq.trans (World.drewN_drewN _ _ _) (congrArg (World.drewN _) (Nat.add_assoc _ _ _))⟩))); try go_wp2_with (first | (go_at_call 33; (with_reducible refine (billhooklaw10_same.calls k1 _ _ (rd_L3 l0 x5_1) _ _ (rd_L3 l1 x5_1) true _ ?side1 ?side2 ?side3 ?side4 A7.out).mono ?_); (case side1 => repeat (first | exact HR125_0.out | (with_reducible refine Kd.C_alloc ?_ _) | (with_reducible refine Kd.C_drewN ?_ _) | (with_reducible refine Kd.C_drew ?_))); (case side2 => exact HC125_0.out); (case side3 => repeat (first | exact HR126_0.out | (with_reducible refine Kd.C_alloc ?_ _) | (with_reducible refine Kd.C_drewN ?_ _) | (with_reducible refine Kd.C_drew ?_))); (case side4 => exact HC126_0.out); rintro e w' ⟨rfl, ⟨nd, rfl⟩⟩; (try first | exact ⟨rfl, _, World.drewN_drewN _ _ _⟩ | exact ⟨rfl, _, Eq.trans (World.drewN_drewN _ _ _) (congrArg (World.drewN _) (Nat.add_assoc _ _ _))⟩))))
                go_roundg k1
                case measure => have := HK1.out; omega
                case rel => exact ⟨(wrap64 (x5_1 + 1)), (by first | rfl | (simp; done) | (simp [*]; done)), H', ⟨by have := HK1.out; omega⟩, by repeat (first | exact Drawn0.refl _ | apply Drawn0.step)⟩
              · replace c8 := Bool.eq_false_iff.mpr c8
                subst c8
                have H1 : (some false) = some r := by rw [if_neg (show ¬ (false = true) by decide)] at H; exact H
                clear H
                have H := H1
                clear H1
                obtain rfl := Option.some.inj H
                have p125 : 0 ≤ (x5_1 : Int) := of_decide_eq_true (by first | (with_reducible assumption) | assumption)
                have q125 : x5_1 < (l0.length : Int) := of_decide_eq_true (by first | (with_reducible assumption) | assumption)
                obtain ⟨ad125, A125_0, c125_0, e125, hx125_0, hl125_0, hi125_0⟩ := at_L3 HR0.out x5_1 p125 q125
                cases e125
                have HR125_0 := Aside0.mk hi125_0
                have HC125_0 := Aside0.mk hl125_0
                clear hi125_0 hl125_0
                replace p125 := eq_true p125
                replace q125 := eq_true q125
                have p126 : 0 ≤ (x5_1 : Int) := of_decide_eq_true (by first | (with_reducible assumption) | assumption)
                have q126 : x5_1 < (l1.length : Int) := of_decide_eq_true (by first | (with_reducible assumption) | assumption)
                obtain ⟨ad126, A126_0, c126_0, e126, hx126_0, hl126_0, hi126_0⟩ := at_L3 HR1.out x5_1 p126 q126
                cases e126
                have HR126_0 := Aside0.mk hi126_0
                have HC126_0 := Aside0.mk hl126_0
                clear hi126_0 hl126_0
                (try (have hz_ := Option.some.inj (hx125_0.symm.trans hx126_0); injection hz_ with za_ zn_ zc_; subst za_; subst zc_; clear zn_))
                replace p126 := eq_true p126
                replace q126 := eq_true q126
                go_wp2_with (first | (go_at_call 33; (with_reducible refine (billhooklaw10_same.calls k1 _ _ (rd_L3 l0 x5_1) _ _ (rd_L3 l1 x5_1) false _ ?side1 ?side2 ?side3 ?side4 A7.out).mono ?_); (case side1 => repeat (first | exact HR125_0.out | (with_reducible refine Kd.C_alloc ?_ _) | (with_reducible refine Kd.C_drewN ?_ _) | (with_reducible refine Kd.C_drew ?_))); (case side2 => exact HC125_0.out); (case side3 => repeat (first | exact HR126_0.out | (with_reducible refine Kd.C_alloc ?_ _) | (with_reducible refine Kd.C_drewN ?_ _) | (with_reducible refine Kd.C_drew ?_))); (case side4 => exact HC126_0.out); rintro e w' ⟨rfl, ⟨nd, rfl⟩⟩; (try first | exact ⟨rfl, _, World.drewN_drewN _ _ _⟩ | exact ⟨rfl, _, Eq.trans (World.drewN_drewN _ _ _) (congrArg (World.drewN _) (Nat.add_assoc _ _ _))⟩)))
                repeat (go_quiet (first | (go_at_call 33; (with_reducible refine (billhooklaw10_same.calls k1 _ _ (rd_L3 l0 x5_1) _ _ (rd_L3 l1 x5_1) false _ ?side1 ?side2 ?side3 ?side4 A7.out).mono ?_); (case side1 => repeat (first | exact HR125_0.out | (with_reducible refine Kd.C_alloc ?_ _) | (with_reducible refine Kd.C_drewN ?_ _) | (with_reducible refine Kd.C_drew ?_))); (case side2 => exact HC125_0.out); (case side3 => repeat (first | exact HR126_0.out | (with_reducible refine Kd.C_alloc ?_ _) | (with_reducible refine Kd.C_drewN ?_ _) | (with_reducible refine Kd.C_drew ?_))); (case side4 => exact HC126_0.out); rintro e w' ⟨rfl, ⟨nd, rfl⟩⟩; (try first | exact ⟨rfl, _, World.drewN_drewN _ _ _⟩ | exact ⟨rfl, _, Eq.trans (World.drewN_drewN _ _ _) (congrArg (World.drewN _) (Nat.add_assoc _ _ _))⟩))); try go_wp2_with (first | (go_at_call 33; (with_reducible refine (billhooklaw10_same.calls k1 _ _ (rd_L3 l0 x5_1) _ _ (rd_L3 l1 x5_1) false _ ?side1 ?side2 ?side3 ?side4 A7.out).mono ?_); (case side1 => repeat (first | exact HR125_0.out | (with_reducible refine Kd.C_alloc ?_ _) | (with_reducible refine Kd.C_drewN ?_ _) | (with_reducible refine Kd.C_drew ?_))); (case side2 => exact HC125_0.out); (case side3 => repeat (first | exact HR126_0.out | (with_reducible refine Kd.C_alloc ?_ _) | (with_reducible refine Kd.C_drewN ?_ _) | (with_reducible refine Kd.C_drew ?_))); (case side4 => exact HC126_0.out); rintro e w' ⟨rfl, ⟨nd, rfl⟩⟩; (try first | exact ⟨rfl, _, World.drewN_drewN _ _ _⟩ | exact ⟨rfl, _, Eq.trans (World.drewN_drewN _ _ _) (congrArg (World.drewN _) (Nat.add_assoc _ _ _))⟩))))
                go_ret
                exact ⟨by first | rfl | (simp; done) | (simp [*]; done), by repeat (first | exact Drawn0.refl _ | apply Drawn0.step)⟩
            · rw [if_neg c6] at H
              exact absurd H (by simp)
          · rw [if_neg c5] at H
            exact absurd H (by simp)
        · rw [if_neg c4] at H
          have c4b0 : decide (x5_1 < (l0.length : Int)) = false := decide_eq_false c4
          clear c4
          obtain rfl := Option.some.inj H
          go_wp2
          repeat (go_quiet (fail); try go_wp2)
          go_ret
          exact ⟨by first | rfl | (simp; done) | (simp [*]; done), by repeat (first | exact Drawn0.refl _ | apply Drawn0.step)⟩
  · rw [if_neg c3] at H
    have c3b0 : ((l0.length : Int) == (l1.length : Int)) = false := beq_eq_false_iff_ne.mpr c3
    have c3b1 : ((l0.length : Int) != (l1.length : Int)) = true := bne_iff_ne.mpr c3
    have c3b2 : (l0.length == l1.length) = false := by first | simpa using c3 | (simp at c3 ⊢; omega)
    obtain rfl := Option.some.inj H
    go_enter Try.func36, Try.ntmps36
    go_wp2
    repeat (go_quiet (fail); try go_wp2)
    go_ret
    exact ⟨by first | rfl | (simp; done) | (simp [*]; done), by repeat (first | exact Drawn0.refl _ | apply Drawn0.step)⟩

-- NOT PRINTED: function 70 (slices_IndexFunc_int_int)

-- NOT PRINTED: function 57 (slices_ContainsFunc_int_int)

/-! ### billhooklaw10_web: function 27 -/
mutual
def billhooklaw10_web.l0 : Nat → List Int → Int → List (List Int) → Int → Option ((List (List Int)))
  | 0, _, _, _, _ => none
  | k + 1, x0, x5, x6, x7 => if x7 < x5 then (billhooklaw10_web.l1 k x0 x5 x6 x7 ([] : List Int) 0) else (some x6)
def billhooklaw10_web.l1 : Nat → List Int → Int → List (List Int) → Int → List Int → Int → Option ((List (List Int)))
  | 0, _, _, _, _, _, _ => none
  | k + 1, x0, x5, x6, x7, x8, x9 => if x9 < 2 then (if (wrap64 ((wrap64 (2 * x7)) + x9)) < (x0.length : Int) then (if 0 ≤ (wrap64 ((wrap64 (2 * x7)) + x9)) then (if (wrap64 (rd x0 (wrap64 ((wrap64 (2 * x7)) + x9)))) < 190 then (if x5 = 0 then (none) else (if x8.length < 17592186044416 then (billhooklaw10_web.l1 k x0 x5 x6 x7 (x8 ++ [Int.tmod (wrap64 (rd x0 (wrap64 ((wrap64 (2 * x7)) + x9)))) x5]) (wrap64 (x9 + 1))) else (none))) else (billhooklaw10_web.l1 k x0 x5 x6 x7 x8 (wrap64 (x9 + 1)))) else (none)) else (if 0 < 190 then (if x5 = 0 then (none) else (if x8.length < 17592186044416 then (billhooklaw10_web.l1 k x0 x5 x6 x7 (x8 ++ [(0 : Int) % x5]) (wrap64 (x9 + 1))) else (none))) else (billhooklaw10_web.l1 k x0 x5 x6 x7 x8 (wrap64 (x9 + 1))))) else (if (wrap64 (x7 + 1)) < x5 then (billhooklaw10_web.j2 k x0 x5 x6 x7 x8 ((x8.length : Int) == 0)) else (billhooklaw10_web.j2 k x0 x5 x6 x7 x8 false))
def billhooklaw10_web.j2 : Nat → List Int → Int → List (List Int) → Int → List Int → Bool → Option ((List (List Int)))
  | 0, _, _, _, _, _, _ => none
  | k + 1, x0, x5, x6, x7, x8, x55 => if x55 = true then (if x8.length < 17592186044416 then (if x7 = (wrap64 (x5 - 1)) then (if x6.length < 5864062014805 then (billhooklaw10_web.l0 k x0 x5 (x6 ++ [([] : List Int)]) (wrap64 (x7 + 1))) else (none)) else (if x6.length < 5864062014805 then (billhooklaw10_web.l0 k x0 x5 (x6 ++ [(x8 ++ [wrap64 (x7 + 1)])]) (wrap64 (x7 + 1))) else (none))) else (none)) else (if x7 = (wrap64 (x5 - 1)) then (if x6.length < 5864062014805 then (billhooklaw10_web.l0 k x0 x5 (x6 ++ [([] : List Int)]) (wrap64 (x7 + 1))) else (none)) else (if x6.length < 5864062014805 then (billhooklaw10_web.l0 k x0 x5 (x6 ++ [x8]) (wrap64 (x7 + 1))) else (none)))
end
def billhooklaw10_web.f (k : Nat) (l0 : List Int) (a1 : Int) : Option ((List (List Int))) := billhooklaw10_web.l0 k l0 (wrap64 (1 + (wrap64 (Int.tmod a1 9)))) ([] : List (List Int)) 0
theorem billhooklaw10_web.mono_l : ∀ k, (∀ y0 y1 y2 y3, LeO (billhooklaw10_web.l0 k y0 y1 y2 y3) (billhooklaw10_web.l0 (k + 1) y0 y1 y2 y3)) ∧ (∀ y0 y1 y2 y3 y4 y5, LeO (billhooklaw10_web.l1 k y0 y1 y2 y3 y4 y5) (billhooklaw10_web.l1 (k + 1) y0 y1 y2 y3 y4 y5)) ∧ (∀ y0 y1 y2 y3 y4 y5, LeO (billhooklaw10_web.j2 k y0 y1 y2 y3 y4 y5) (billhooklaw10_web.j2 (k + 1) y0 y1 y2 y3 y4 y5))
  | 0 => ⟨fun _ _ _ _ r h => by simp [billhooklaw10_web.l0] at h, fun _ _ _ _ _ _ r h => by simp [billhooklaw10_web.l1] at h, fun _ _ _ _ _ _ r h => by simp [billhooklaw10_web.j2] at h⟩
  | k + 1 => by
    obtain ⟨ih0, ih1, ih2⟩ := billhooklaw10_web.mono_l k
    refine ⟨?_, ?_, ?_⟩
    · intro y0 y1 y2 y3
      unfold billhooklaw10_web.l0
      repeat' first
      | (with_reducible exact ih0 _ _ _ _)
      | (with_reducible exact ih1 _ _ _ _ _ _)
      | (with_reducible exact ih2 _ _ _ _ _ _)
      | (with_reducible exact LeO.refl _)
      | (with_reducible exact LeO.none _)
      | (with_reducible refine LeO.ite ?_ ?_)
      | (with_reducible refine LeO.bind ?_ (fun _ => ?_))
      | exact ih0 _ _ _ _
      | exact ih1 _ _ _ _ _ _
      | exact ih2 _ _ _ _ _ _
      | exact LeO.none _
      | refine LeO.ite ?_ ?_
      | refine LeO.bind ?_ (fun _ => ?_)
    · intro y0 y1 y2 y3 y4 y5
      unfold billhooklaw10_web.l1
      repeat' first
      | (with_reducible exact ih0 _ _ _ _)
      | (with_reducible exact ih1 _ _ _ _ _ _)
      | (with_reducible exact ih2 _ _ _ _ _ _)
      | (with_reducible exact LeO.refl _)
      | (with_reducible exact LeO.none _)
      | (with_reducible refine LeO.ite ?_ ?_)
      | (with_reducible refine LeO.bind ?_ (fun _ => ?_))
      | exact ih0 _ _ _ _
      | exact ih1 _ _ _ _ _ _
      | exact ih2 _ _ _ _ _ _
      | exact LeO.none _
      | refine LeO.ite ?_ ?_
      | refine LeO.bind ?_ (fun _ => ?_)
    · intro y0 y1 y2 y3 y4 y5
      unfold billhooklaw10_web.j2
      repeat' first
      | (with_reducible exact ih0 _ _ _ _)
      | (with_reducible exact ih1 _ _ _ _ _ _)
      | (with_reducible exact ih2 _ _ _ _ _ _)
      | (with_reducible exact LeO.refl _)
      | (with_reducible exact LeO.none _)
      | (with_reducible refine LeO.ite ?_ ?_)
      | (with_reducible refine LeO.bind ?_ (fun _ => ?_))
      | exact ih0 _ _ _ _
      | exact ih1 _ _ _ _ _ _
      | exact ih2 _ _ _ _ _ _
      | exact LeO.none _
      | refine LeO.ite ?_ ?_
      | refine LeO.bind ?_ (fun _ => ?_)
theorem billhooklaw10_web.mono : ∀ a0 a1 k, LeO (billhooklaw10_web.f k a0 a1) (billhooklaw10_web.f (k + 1) a0 a1) := by
  intro a0 a1 k
  obtain ⟨ih0, ih1, ih2⟩ := billhooklaw10_web.mono_l k
  unfold billhooklaw10_web.f
  repeat' first
      | (with_reducible exact ih0 _ _ _ _)
      | (with_reducible exact ih1 _ _ _ _ _ _)
      | (with_reducible exact ih2 _ _ _ _ _ _)
      | (with_reducible exact LeO.refl _)
      | (with_reducible exact LeO.none _)
      | (with_reducible refine LeO.ite ?_ ?_)
      | (with_reducible refine LeO.bind ?_ (fun _ => ?_))
      | exact ih0 _ _ _ _
      | exact ih1 _ _ _ _ _ _
      | exact ih2 _ _ _ _ _ _
      | exact LeO.none _
      | refine LeO.ite ?_ ?_
      | refine LeO.bind ?_ (fun _ => ?_)
set_option maxHeartbeats 8000000 in
set_option maxRecDepth 100000 in
theorem billhooklaw10_web.calls (k : Nat) (A0 : Option Addr) (c0 : Nat) (l0 : List Int) (a1 : Int) (r : List (List Int)) (w : World) (hr0 : Kd.C (Kd.int .u8) w A0 l0.length l0) (hc0 : l0.length ≤ c0) (h : billhooklaw10_web.f k l0 a1 = some r) :
    Calls Try.prog 27 #[.slice A0 l0.length c0, .int .u8 a1] w fun e w' => ∃ v0_ : Value, e = .returned (v0_) ∧ Kd.S (Kd.slice 3 (Kd.int .i64)) 54 w' w.heap.size (fun _ => True) v0_ r ∧ Below w.heap.size w w' := by
  have HR0 := Aside0.mk hr0
  have HC0 := Aside0.mk hc0
  clear hr0 hc0
  have HB := Aside0.mk (Below.refl w.heap.size w)
  have H : (billhooklaw10_web.l0 k l0 (wrap64 (1 + (wrap64 (Int.tmod a1 9)))) ([] : List (List Int)) 0) = some r := h
  clear h
  have H' := Aside0.mk H
  clear H
  go_enter Try.func27, Try.ntmps27
  go_wp2
  go_loopg [6, 7] k (fun kq v6 v7 w' => ∃ (x6_1 : List (List Int)) (x7_1 : Int), v7 = .int .i64 x7_1 ∧ Aside0 (billhooklaw10_web.l0 kq l0 (wrap64 (1 + (wrap64 (Int.tmod a1 9)))) x6_1 x7_1 = some r) ∧ Aside0 (kq ≤ k) ∧ Aside0 (Kd.S (Kd.slice 3 (Kd.int .i64)) 54 w' w.heap.size (fun _ => True) v6 x6_1) ∧ Aside0 (Below w.heap.size w w'))
  case atStart => exact ⟨(([] : List (List Int))), (0), (by first | rfl | (simp; done) | (simp [*]; done)), H', ⟨Nat.le_refl _⟩, ⟨by first | exact Kd.S_nil _ _ _ _ _ | exact Kd.N_nil _ _ _ _ _ | exact Kd.V_nil _ _ _ _ _ | exact Kd.Q_nil _ _ _ _ _ | exact Kd.R_nil _ _ _ _ _⟩, ⟨by repeat (first | (with_reducible first | exact HB.out | apply below_alloc | apply pw_below_drewN | apply below_drew1) | exact HB.out)⟩⟩
  case round =>
    clear H'
    try clear c2
    try clear p2
    obtain ⟨x6_1, x7_1, rfl, HA, HK1, HO_6, HB⟩ := hrel
    cases gk with
    | zero => exact absurd HA.out (by simp [billhooklaw10_web.l0])
    | succ k1 =>
      have H := HA.out
      clear HA
      simp only [billhooklaw10_web.l0] at H
      by_cases c3 : x7_1 < (wrap64 (1 + (wrap64 (Int.tmod a1 9))))
      · rw [if_pos c3] at H
        have c3b0 : decide (x7_1 < (wrap64 (1 + (wrap64 (Int.tmod a1 9))))) = true := decide_eq_true c3
        clear c3
        have H' := Aside0.mk H
        clear H
        go_wp2
        go_loopg [8, 9] k1 (fun kq v8 v9 w' => ∃ (x8_2 : List Int) (x9_2 : Int), v9 = .int .i64 x9_2 ∧ Aside0 (billhooklaw10_web.l1 kq l0 (wrap64 (1 + (wrap64 (Int.tmod a1 9)))) x6_1 x7_1 x8_2 x9_2 = some r) ∧ Aside0 (kq ≤ k1) ∧ Aside0 (Kd.S (Kd.slice 3 (Kd.int .i64)) 54 w' w.heap.size (fun k_ => some k_ ≠ (v8 : Value).ownBlock) u6 x6_1) ∧ Aside0 (Kd.R (Kd.int .i64) 3 w' w.heap.size (fun _ => True) v8 x8_2) ∧ Aside0 (Below w.heap.size w w'))
        case atStart => exact ⟨(([] : List Int)), (0), (by first | rfl | (simp; done) | (simp [*]; done)), H', ⟨Nat.le_refl _⟩, ⟨by (with_reducible repeat (first | apply Kd.S_alloc | apply Kd.S_drewN | apply Kd.S_drew)); exact Kd.S_mono HO_6.out (fun _ hk => (by simp [Value.ownBlock]))⟩, ⟨by first | exact Kd.R_nil _ _ _ _ _ | exact Kd.N_nil _ _ _ _ _ | exact Kd.V_nil _ _ _ _ _ | exact Kd.Q_nil _ _ _ _ _ | exact Kd.S_nil _ _ _ _ _⟩, ⟨by repeat (first | (with_reducible first | exact HB.out | apply below_alloc | apply pw_below_drewN | apply below_drew1) | exact HB.out)⟩⟩
        case round =>
          clear H'
          try clear c2
          try clear p2
          try clear c3
          try clear c3b0
          try clear p2
          obtain ⟨x8_2, x9_2, rfl, HA, HK2, HO_6, HO_8, HB⟩ := hrel
          cases gk with
          | zero => exact absurd HA.out (by simp [billhooklaw10_web.l1])
          | succ k2 =>
            have H := HA.out
            clear HA
            simp only [billhooklaw10_web.l1] at H
            by_cases c4 : x9_2 < 2
            · rw [if_pos c4] at H
              have c4b0 : decide (x9_2 < 2) = true := decide_eq_true c4
              clear c4
              by_cases c5 : (wrap64 ((wrap64 (2 * x7_1)) + x9_2)) < (l0.length : Int)
              · rw [if_pos c5] at H
                have c5b0 : decide ((wrap64 ((wrap64 (2 * x7_1)) + x9_2)) < (l0.length : Int)) = true := decide_eq_true c5
                clear c5
                obtain ⟨ji6, hji6⟩ : ∃ j_ : Int, (wrap64 ((wrap64 (2 * x7_1)) + x9_2)) = j_ := ⟨_, rfl⟩
                replace H : (if 0 ≤ (ji6) then (if (wrap64 (rd l0 (ji6))) < 190 then (if (wrap64 (1 + (wrap64 (Int.tmod a1 9)))) = 0 then (none) else (if x8_2.length < 17592186044416 then (billhooklaw10_web.l1 k2 l0 (wrap64 (1 + (wrap64 (Int.tmod a1 9)))) x6_1 x7_1 (x8_2 ++ [Int.tmod (wrap64 (rd l0 (ji6))) (wrap64 (1 + (wrap64 (Int.tmod a1 9))))]) (wrap64 (x9_2 + 1))) else (none))) else (billhooklaw10_web.l1 k2 l0 (wrap64 (1 + (wrap64 (Int.tmod a1 9)))) x6_1 x7_1 x8_2 (wrap64 (x9_2 + 1)))) else (none)) = some r := by first | (rw [hji6] at H; exact H) | (simp only [hji6] at H ⊢; exact H)
                (try rw [hji6] at c5b0)
                have hji6w : (IntKind.i64.wrap ((wrap64 (2 * x7_1)) + x9_2)) = ji6 := (i64_w _).trans hji6
                by_cases c7 : 0 ≤ (ji6)
                · rw [if_pos c7] at H
                  have c7b0 : decide (0 ≤ (ji6)) = true := decide_eq_true c7
                  clear c7
                  by_cases c8 : (wrap64 (rd l0 (ji6))) < 190
                  · rw [if_pos c8] at H
                    have c8b0 : decide ((wrap64 (rd l0 (ji6))) < 190) = true := decide_eq_true c8
                    clear c8
                    by_cases c9 : (wrap64 (1 + (wrap64 (Int.tmod a1 9)))) = 0
                    · rw [if_pos c9] at H
                      exact absurd H (by simp)
                    · rw [if_neg c9] at H
                      have c9b0 : ((wrap64 (1 + (wrap64 (Int.tmod a1 9)))) == 0) = false := beq_eq_false_iff_ne.mpr c9
                      have c9b1 : ((wrap64 (1 + (wrap64 (Int.tmod a1 9)))) != 0) = true := bne_iff_ne.mpr c9
                      by_cases c10 : x8_2.length < 17592186044416
                      · rw [if_pos c10] at H
                        have LMc10 := Aside0.mk c10
                        clear c10
                        obtain ⟨y129, hy129⟩ : ∃ y_ : List Int, y_ = (x8_2 ++ [Int.tmod (wrap64 (rd l0 (ji6))) (wrap64 (1 + (wrap64 (Int.tmod a1 9))))]) := ⟨_, rfl⟩
                        replace H : (billhooklaw10_web.l1 k2 l0 (wrap64 (1 + (wrap64 (Int.tmod a1 9)))) x6_1 x7_1 y129 (wrap64 (x9_2 + 1))) = some r := by first | (rw [hy129]; with_reducible exact H) | (have H2_ := (Option.bind_some _ _).symm.trans H; rw [hy129]; with_reducible exact H2_) | (have H2_ := (Option.bind_some _ _).symm.trans H; with_reducible exact H2_) | with_reducible exact H | (rw [hy129]; exact H) | exact H
                        have Ny129 := Aside0.mk hy129
                        clear hy129
                        have H' := Aside0.mk H
                        clear H
                        have p128 : 0 ≤ ((ji6) : Int) := of_decide_eq_true (by first | (with_reducible assumption) | assumption)
                        have q128 : (ji6) < (l0.length : Int) := of_decide_eq_true (by first | (with_reducible assumption) | assumption)
                        obtain ⟨ad128, e128, hx128_0⟩ := Kd.at_int HR0.out (ji6) p128 q128
                        cases e128
                        (try replace hx128_0 := (HB.out.cell (World.block_lt_of_cell? w _ hx128_0)).trans hx128_0)
                        replace p128 := eq_true p128
                        replace q128 := eq_true q128
                        go_wp2_with (first | ((with_reducible refine gate_builtin (b := .append) (xs := #[.tmp 41, .tmp 45]) rfl ?_); (try (refine gate_guard (by rfl) ?_; dsimp only)); at_builtin; refine Kd.R_append (Kd.int .i64) (w0 := w) w.heap.size rfl (.tmp 41) (.tmp 45) 54 3 (.int .i64 0) 8 rfl Try.underlying54 info3 rfl (by decide) (by omega) u8 x8_2 (Int.tmod (wrap64 (rd l0 (ji6))) (wrap64 (1 + (wrap64 (Int.tmod a1 9))))) [.int .i64 (Int.tmod (wrap64 (rd l0 (ji6))) (wrap64 (1 + (wrap64 (Int.tmod a1 9)))))] (fun _ => True) (fun _ => False) rfl rfl ?aP (fun _ hk => hk.elim) ?aF ?aO ?aB ?aS ?aL ?_; (case aP => first | exact rfl | exact ⟨_, rfl, Kd.R_nil _ _ _ _ _⟩); (case aB => exact (by repeat (first | (with_reducible first | exact HB.out | apply below_alloc | apply pw_below_drewN | apply below_drew1) | exact HB.out))); (case aF => exact (fun _ _ => trivial)); (case aO => exact (by (with_reducible repeat (first | apply Kd.R_alloc | apply Kd.R_drewN | apply Kd.R_drew)); exact HO_8.out)); (case aS => exact (below_size (by repeat (first | (with_reducible first | exact HB.out | apply below_alloc | apply pw_below_drewN | apply below_drew1) | exact HB.out)))); (case aL => have := LMc10.out; omega); intro v130 w11 ho hb hg hat; rw [← Ny129.out] at ho; have n0_ := Aside0.mk (Kd.S_after (ok := (fun _ => True)) (by (with_reducible repeat (first | apply Kd.S_alloc | apply Kd.S_drewN | apply Kd.S_drew)); exact Kd.S_mono HO_6.out (fun _ hk => ⟨trivial, hk⟩)) hg hat); have n1_ := Aside0.mk (hb); have n2_ := Aside0.mk (ho); clear HO_6; clear HB; clear HO_8; have HO_6 := n0_; have HB := n1_; have HO131 := n2_; clear n0_ n1_ n2_; clear ho hb hg hat))
                        go_roundg k2
                        case measure => have := HK1.out; have := HK2.out; omega
                        case rel => exact ⟨(y129), (wrap64 (x9_2 + 1)), (by first | rfl | (simp; done) | (simp [*]; done)), H', ⟨by have := HK1.out; have := HK2.out; omega⟩, ⟨by (with_reducible repeat (first | apply Kd.S_alloc | apply Kd.S_drewN | apply Kd.S_drew)); exact Kd.S_mono HO_6.out (fun _ hk => hk.2)⟩, ⟨by (with_reducible repeat (first | apply Kd.R_alloc | apply Kd.R_drewN | apply Kd.R_drew)); exact HO131.out⟩, ⟨by repeat (first | (with_reducible first | exact HB.out | apply below_alloc | apply pw_below_drewN | apply below_drew1) | exact HB.out)⟩⟩
                      · rw [if_neg c10] at H
                        exact absurd H (by simp)
                  · rw [if_neg c8] at H
                    have c8b0 : decide ((wrap64 (rd l0 (ji6))) < 190) = false := decide_eq_false c8
                    clear c8
                    have H' := Aside0.mk H
                    clear H
                    have p128 : 0 ≤ ((ji6) : Int) := of_decide_eq_true (by first | (with_reducible assumption) | assumption)
                    have q128 : (ji6) < (l0.length : Int) := of_decide_eq_true (by first | (with_reducible assumption) | assumption)
                    obtain ⟨ad128, e128, hx128_0⟩ := Kd.at_int HR0.out (ji6) p128 q128
                    cases e128
                    (try replace hx128_0 := (HB.out.cell (World.block_lt_of_cell? w _ hx128_0)).trans hx128_0)
                    replace p128 := eq_true p128
                    replace q128 := eq_true q128
                    go_wp2
                    go_roundg k2
                    case measure => have := HK1.out; have := HK2.out; omega
                    case rel => exact ⟨(x8_2), (wrap64 (x9_2 + 1)), (by first | rfl | (simp; done) | (simp [*]; done)), H', ⟨by have := HK1.out; have := HK2.out; omega⟩, ⟨by (with_reducible repeat (first | apply Kd.S_alloc | apply Kd.S_drewN | apply Kd.S_drew)); exact HO_6.out⟩, ⟨by (with_reducible repeat (first | apply Kd.R_alloc | apply Kd.R_drewN | apply Kd.R_drew)); exact HO_8.out⟩, ⟨by repeat (first | (with_reducible first | exact HB.out | apply below_alloc | apply pw_below_drewN | apply below_drew1) | exact HB.out)⟩⟩
                · rw [if_neg c7] at H
                  exact absurd H (by simp)
              · rw [if_neg c5] at H
                have c5b0 : decide ((wrap64 ((wrap64 (2 * x7_1)) + x9_2)) < (l0.length : Int)) = false := decide_eq_false c5
                clear c5
                by_cases c12 : 0 < 190
                · rw [if_pos c12] at H
                  have c12b0 : decide (0 < 190) = true := decide_eq_true c12
                  clear c12
                  by_cases c13 : (wrap64 (1 + (wrap64 (Int.tmod a1 9)))) = 0
                  · rw [if_pos c13] at H
                    exact absurd H (by simp)
                  · rw [if_neg c13] at H
                    have c13b0 : ((wrap64 (1 + (wrap64 (Int.tmod a1 9)))) == 0) = false := beq_eq_false_iff_ne.mpr c13
                    have c13b1 : ((wrap64 (1 + (wrap64 (Int.tmod a1 9)))) != 0) = true := bne_iff_ne.mpr c13
                    by_cases c14 : x8_2.length < 17592186044416
                    · rw [if_pos c14] at H
                      have LMc14 := Aside0.mk c14
                      clear c14
                      obtain ⟨y132, hy132⟩ : ∃ y_ : List Int, y_ = (x8_2 ++ [(0 : Int) % (wrap64 (1 + (wrap64 (Int.tmod a1 9))))]) := ⟨_, rfl⟩
                      replace H : (billhooklaw10_web.l1 k2 l0 (wrap64 (1 + (wrap64 (Int.tmod a1 9)))) x6_1 x7_1 y132 (wrap64 (x9_2 + 1))) = some r := by first | (rw [hy132]; with_reducible exact H) | (have H2_ := (Option.bind_some _ _).symm.trans H; rw [hy132]; with_reducible exact H2_) | (have H2_ := (Option.bind_some _ _).symm.trans H; with_reducible exact H2_) | with_reducible exact H | (rw [hy132]; exact H) | exact H
                      have Ny132 := Aside0.mk hy132
                      clear hy132
                      have H' := Aside0.mk H
                      clear H
                      go_wp2_with (first | ((with_reducible refine gate_builtin (b := .append) (xs := #[.tmp 41, .tmp 45]) rfl ?_); (try (refine gate_guard (by rfl) ?_; dsimp only)); at_builtin; refine Kd.R_append (Kd.int .i64) (w0 := w) w.heap.size rfl (.tmp 41) (.tmp 45) 54 3 (.int .i64 0) 8 rfl Try.underlying54 info3 rfl (by decide) (by omega) u8 x8_2 ((0 : Int) % (wrap64 (1 + (wrap64 (Int.tmod a1 9))))) [.int .i64 ((0 : Int) % (wrap64 (1 + (wrap64 (Int.tmod a1 9)))))] (fun _ => True) (fun _ => False) rfl rfl ?aP (fun _ hk => hk.elim) ?aF ?aO ?aB ?aS ?aL ?_; (case aP => first | exact rfl | exact ⟨_, rfl, Kd.R_nil _ _ _ _ _⟩); (case aB => exact (by repeat (first | (with_reducible first | exact HB.out | apply below_alloc | apply pw_below_drewN | apply below_drew1) | exact HB.out))); (case aF => exact (fun _ _ => trivial)); (case aO => exact (by (with_reducible repeat (first | apply Kd.R_alloc | apply Kd.R_drewN | apply Kd.R_drew)); exact HO_8.out)); (case aS => exact (below_size (by repeat (first | (with_reducible first | exact HB.out | apply below_alloc | apply pw_below_drewN | apply below_drew1) | exact HB.out)))); (case aL => have := LMc14.out; omega); intro v133 w15 ho hb hg hat; rw [← Ny132.out] at ho; have n0_ := Aside0.mk (Kd.S_after (ok := (fun _ => True)) (by (with_reducible repeat (first | apply Kd.S_alloc | apply Kd.S_drewN | apply Kd.S_drew)); exact Kd.S_mono HO_6.out (fun _ hk => ⟨trivial, hk⟩)) hg hat); have n1_ := Aside0.mk (hb); have n2_ := Aside0.mk (ho); clear HO_6; clear HB; clear HO_8; have HO_6 := n0_; have HB := n1_; have HO134 := n2_; clear n0_ n1_ n2_; clear ho hb hg hat))
                      go_roundg k2
                      case measure => have := HK1.out; have := HK2.out; omega
                      case rel => exact ⟨(y132), (wrap64 (x9_2 + 1)), (by first | rfl | (simp; done) | (simp [*]; done)), H', ⟨by have := HK1.out; have := HK2.out; omega⟩, ⟨by (with_reducible repeat (first | apply Kd.S_alloc | apply Kd.S_drewN | apply Kd.S_drew)); exact Kd.S_mono HO_6.out (fun _ hk => hk.2)⟩, ⟨by (with_reducible repeat (first | apply Kd.R_alloc | apply Kd.R_drewN | apply Kd.R_drew)); exact HO134.out⟩, ⟨by repeat (first | (with_reducible first | exact HB.out | apply below_alloc | apply pw_below_drewN | apply below_drew1) | exact HB.out)⟩⟩
                    · rw [if_neg c14] at H
                      exact absurd H (by simp)
                · exact absurd (by decide) c12
            · rw [if_neg c4] at H
              have c4b0 : decide (x9_2 < 2) = false := decide_eq_false c4
              clear c4
              have HC16 := Aside0.mk H
              clear H
              go_upto_region 15 with (fail)
              go_cut [55] (fun v55 wc => ∃ (kq : Nat) (x55_15 : Bool), v55 = .bool x55_15 ∧ Aside0 (billhooklaw10_web.j2 kq l0 (wrap64 (1 + (wrap64 (Int.tmod a1 9)))) x6_1 x7_1 x8_2 x55_15 = some r) ∧ Aside0 (kq ≤ k2) ∧ Aside0 (Kd.S (Kd.slice 3 (Kd.int .i64)) 54 wc w.heap.size (fun k_ => some k_ ≠ (u8 : Value).ownBlock) u6 x6_1) ∧ Aside0 (Kd.R (Kd.int .i64) 3 wc w.heap.size (fun _ => True) u8 x8_2) ∧ Aside0 (Below w.heap.size w wc))
              case first =>
                have H := HC16.out
                clear HC16
                by_cases c17 : (wrap64 (x7_1 + 1)) < (wrap64 (1 + (wrap64 (Int.tmod a1 9))))
                · rw [if_pos c17] at H
                  have c17b0 : decide ((wrap64 (x7_1 + 1)) < (wrap64 (1 + (wrap64 (Int.tmod a1 9))))) = true := decide_eq_true c17
                  clear c17
                  (first | rw [c17b0] | (simp only [i64_w, i32_w]; rw [c17b0]) | skip)
                  have H' := Aside0.mk H
                  clear H
                  obtain ⟨Ao18, co18, eo18⟩ := Kd.R_slice HO_8.out
                  subst eo18
                  go_wp2
                  go_meet
                  case rel => exact ⟨_, (((x8_2.length : Int) == 0)), (by first | rfl | (simp; done) | (simp [*]; done)), H', ⟨by have := HK1.out; have := HK2.out; first | omega | exact Nat.le_refl _⟩, ⟨by (with_reducible repeat (first | apply Kd.S_alloc | apply Kd.S_drewN | apply Kd.S_drew)); exact HO_6.out⟩, ⟨by (with_reducible repeat (first | apply Kd.R_alloc | apply Kd.R_drewN | apply Kd.R_drew)); exact HO_8.out⟩, ⟨by repeat (first | (with_reducible first | exact HB.out | apply below_alloc | apply pw_below_drewN | apply below_drew1) | exact HB.out)⟩⟩
                · rw [if_neg c17] at H
                  have c17b0 : decide ((wrap64 (x7_1 + 1)) < (wrap64 (1 + (wrap64 (Int.tmod a1 9))))) = false := decide_eq_false c17
                  clear c17
                  (first | rw [c17b0] | (simp only [i64_w, i32_w]; rw [c17b0]) | skip)
                  have H' := Aside0.mk H
                  clear H
                  go_wp2
                  go_meet
                  case rel => exact ⟨_, (false), (by first | rfl | (simp; done) | (simp [*]; done)), H', ⟨by have := HK1.out; have := HK2.out; first | omega | exact Nat.le_refl _⟩, ⟨by (with_reducible repeat (first | apply Kd.S_alloc | apply Kd.S_drewN | apply Kd.S_drew)); exact HO_6.out⟩, ⟨by (with_reducible repeat (first | apply Kd.R_alloc | apply Kd.R_drewN | apply Kd.R_drew)); exact HO_8.out⟩, ⟨by repeat (first | (with_reducible first | exact HB.out | apply below_alloc | apply pw_below_drewN | apply below_drew1) | exact HB.out)⟩⟩
              case rest =>
                clear HC16
                try clear c1
                try clear p1
                try clear q1
                try clear hx1
                try clear c2
                try clear p2
                try clear c3
                try clear c3b0
                try clear c4
                try clear c4b0
                try clear c5
                try clear c5b0
                try clear p6
                try clear c7
                try clear c7b0
                try clear c8
                try clear c8b0
                try clear c9
                try clear c9b0
                try clear c9b1
                try clear c10
                try clear c12
                try clear c12b0
                try clear p12
                try clear q12
                try clear hx12
                try clear c13
                try clear c13b0
                try clear c13b1
                try clear c14
                try clear c17
                try clear c17b0
                try clear hx128_0
                try clear p128
                try clear p2
                try clear q128
                obtain ⟨kq, x55_15, rfl, HA, HJ15, HO_6, HO_8, HB⟩ := hcut
                cases kq with
                | zero => exact absurd HA.out (by simp [billhooklaw10_web.j2])
                | succ kj15 =>
                  have H := HA.out
                  clear HA
                  simp only [billhooklaw10_web.j2] at H
                  by_cases c19 : x55_15 = true
                  · subst c19
                    have H1 : (if x8_2.length < 17592186044416 then (if x7_1 = (wrap64 ((wrap64 (1 + (wrap64 (Int.tmod a1 9)))) - 1)) then (if x6_1.length < 5864062014805 then (billhooklaw10_web.l0 kj15 l0 (wrap64 (1 + (wrap64 (Int.tmod a1 9)))) (x6_1 ++ [([] : List Int)]) (wrap64 (x7_1 + 1))) else (none)) else (if x6_1.length < 5864062014805 then (billhooklaw10_web.l0 kj15 l0 (wrap64 (1 + (wrap64 (Int.tmod a1 9)))) (x6_1 ++ [(x8_2 ++ [wrap64 (x7_1 + 1)])]) (wrap64 (x7_1 + 1))) else (none))) else (none)) = some r := by first | (rw [if_pos rfl] at H; exact H) | (rw [if_pos trivial] at H; exact H)
                    clear H
                    have H := H1
                    clear H1
                    by_cases c20 : x8_2.length < 17592186044416
                    · rw [if_pos c20] at H
                      have LMc20 := Aside0.mk c20
                      clear c20
                      obtain ⟨y135, hy135⟩ : ∃ y_ : List Int, y_ = (x8_2 ++ [wrap64 (x7_1 + 1)]) := ⟨_, rfl⟩
                      replace H : (if x7_1 = (wrap64 ((wrap64 (1 + (wrap64 (Int.tmod a1 9)))) - 1)) then (if x6_1.length < 5864062014805 then (billhooklaw10_web.l0 kj15 l0 (wrap64 (1 + (wrap64 (Int.tmod a1 9)))) (x6_1 ++ [([] : List Int)]) (wrap64 (x7_1 + 1))) else (none)) else (if x6_1.length < 5864062014805 then (billhooklaw10_web.l0 kj15 l0 (wrap64 (1 + (wrap64 (Int.tmod a1 9)))) (x6_1 ++ [y135]) (wrap64 (x7_1 + 1))) else (none))) = some r := by first | (rw [hy135]; with_reducible exact H) | (have H2_ := (Option.bind_some _ _).symm.trans H; rw [hy135]; with_reducible exact H2_) | (have H2_ := (Option.bind_some _ _).symm.trans H; with_reducible exact H2_) | with_reducible exact H | (rw [hy135]; exact H) | exact H
                      have Ny135 := Aside0.mk hy135
                      clear hy135
                      by_cases c21 : x7_1 = (wrap64 ((wrap64 (1 + (wrap64 (Int.tmod a1 9)))) - 1))
                      · rw [if_pos c21] at H
                        have c21b0 : (x7_1 == (wrap64 ((wrap64 (1 + (wrap64 (Int.tmod a1 9)))) - 1))) = true := beq_iff_eq.mpr c21
                        have c21b1 : (x7_1 != (wrap64 ((wrap64 (1 + (wrap64 (Int.tmod a1 9)))) - 1))) = false := bne_eq_false_iff_eq.mpr c21
                        clear c21
                        by_cases c22 : x6_1.length < 5864062014805
                        · rw [if_pos c22] at H
                          have LMc22 := Aside0.mk c22
                          clear c22
                          obtain ⟨y138, hy138⟩ : ∃ y_ : List (List Int), y_ = (x6_1 ++ [([] : List Int)]) := ⟨_, rfl⟩
                          replace H : (billhooklaw10_web.l0 kj15 l0 (wrap64 (1 + (wrap64 (Int.tmod a1 9)))) y138 (wrap64 (x7_1 + 1))) = some r := by first | (rw [hy138]; with_reducible exact H) | (have H2_ := (Option.bind_some _ _).symm.trans H; rw [hy138]; with_reducible exact H2_) | (have H2_ := (Option.bind_some _ _).symm.trans H; with_reducible exact H2_) | with_reducible exact H | (rw [hy138]; exact H) | exact H
                          have Ny138 := Aside0.mk hy138
                          clear hy138
                          have H' := Aside0.mk H
                          clear H
                          go_wp2_with (first | ((with_reducible refine gate_builtin (b := .append) (xs := #[.tmp 56, .tmp 59]) rfl ?_); (try (refine gate_guard (by rfl) ?_; dsimp only)); at_builtin; refine Kd.R_append (Kd.int .i64) (w0 := w) w.heap.size rfl (.tmp 56) (.tmp 59) 54 3 (.int .i64 0) 8 rfl Try.underlying54 info3 rfl (by decide) (by omega) u8 x8_2 (wrap64 (x7_1 + 1)) [.int .i64 (wrap64 (x7_1 + 1))] (fun _ => True) (fun _ => False) rfl rfl ?aP (fun _ hk => hk.elim) ?aF ?aO ?aB ?aS ?aL ?_; (case aP => first | exact rfl | exact ⟨_, rfl, Kd.R_nil _ _ _ _ _⟩); (case aB => exact (by repeat (first | (with_reducible first | exact HB.out | apply below_alloc | apply pw_below_drewN | apply below_drew1) | exact HB.out))); (case aF => exact (fun _ _ => trivial)); (case aO => exact (by (with_reducible repeat (first | apply Kd.R_alloc | apply Kd.R_drewN | apply Kd.R_drew)); exact HO_8.out)); (case aS => exact (below_size (by repeat (first | (with_reducible first | exact HB.out | apply below_alloc | apply pw_below_drewN | apply below_drew1) | exact HB.out)))); (case aL => have := LMc20.out; omega); intro v136 w23 ho hb hg hat; rw [← Ny135.out] at ho; have n0_ := Aside0.mk (Kd.S_after (ok := (fun _ => True)) (by (with_reducible repeat (first | apply Kd.S_alloc | apply Kd.S_drewN | apply Kd.S_drew)); exact Kd.S_mono HO_6.out (fun _ hk => ⟨trivial, hk⟩)) hg hat); have n1_ := Aside0.mk (hb); have n2_ := Aside0.mk (ho); clear HO_6; clear HB; clear HO_8; have HO_6 := n0_; have HB := n1_; have HO137 := n2_; clear n0_ n1_ n2_; clear ho hb hg hat) | ((with_reducible refine gate_builtin (b := .append) (xs := #[.tmp 65, .tmp 67]) rfl ?_); (try (refine gate_guard (by rfl) ?_; dsimp only)); at_builtin; refine Kd.S_append (Kd.slice 3 (Kd.int .i64)) (w0 := w) w.heap.size rfl (.tmp 65) (.tmp 67) 53 54 (.slice none 0 0) 24 rfl Try.underlying53 info54 rfl (by decide) (by omega) u6 x6_1 ([] : List Int) [.slice none 0 0] (fun k_ => some k_ ≠ (v136 : Value).ownBlock) (fun _ => False) rfl rfl ?aP (fun k_ hk_ => hk_.elim) ?aF ?aO ?aB ?aS ?aL ?_; (case aP => exact Kd.M_row (Kd.R_nil _ _ _ _ _)); (case aB => exact (by repeat (first | (with_reducible first | exact HB.out | apply below_alloc | apply pw_below_drewN | apply below_drew1) | exact HB.out))); (case aF => exact (fun k_ hk => Kd.fresh' (Kd.R_lt (by (with_reducible repeat (first | apply Kd.R_alloc | apply Kd.R_drewN | apply Kd.R_drew)); exact HO137.out)) k_ hk)); (case aO => exact (by (with_reducible repeat (first | apply Kd.S_alloc | apply Kd.S_drewN | apply Kd.S_drew)); exact Kd.S_mono HO_6.out (fun k_ hk => ⟨hk.2, fun e_ => e_⟩))); (case aS => exact (below_size (by repeat (first | (with_reducible first | exact HB.out | apply below_alloc | apply pw_below_drewN | apply below_drew1) | exact HB.out)))); (case aL => have := LMc22.out; omega); intro v139 w24 ho hb hg hat; rw [← Ny138.out] at ho; have n0_ := Aside0.mk (Kd.R_over' (by (with_reducible repeat (first | apply Kd.R_alloc | apply Kd.R_drewN | apply Kd.R_drew)); exact HO137.out) (Kd.S_typed (by (with_reducible repeat (first | apply Kd.S_alloc | apply Kd.S_drewN | apply Kd.S_drew)); exact HO_6.out)) (by decide) hg); have n1_ := Aside0.mk (hb); have n2_ := Aside0.mk (ho); clear HO137; clear HB; clear HO_6; have HO137 := n0_; have HB := n1_; have HO140 := n2_; clear n0_ n1_ n2_; clear ho hb hg hat))
                          go_roundg kj15
                          case measure => have := HK1.out; have := HK2.out; have := HJ15.out; omega
                          case rel => exact ⟨(y138), (wrap64 (x7_1 + 1)), (by first | rfl | (simp; done) | (simp [*]; done)), H', ⟨by have := HK1.out; have := HK2.out; have := HJ15.out; omega⟩, ⟨by (with_reducible repeat (first | apply Kd.S_alloc | apply Kd.S_drewN | apply Kd.S_drew)); exact Kd.S_mono HO140.out (fun _ hk => trivial)⟩, ⟨by repeat (first | (with_reducible first | exact HB.out | apply below_alloc | apply pw_below_drewN | apply below_drew1) | exact HB.out)⟩⟩
                        · rw [if_neg c22] at H
                          exact absurd H (by simp)
                      · rw [if_neg c21] at H
                        have c21b0 : (x7_1 == (wrap64 ((wrap64 (1 + (wrap64 (Int.tmod a1 9)))) - 1))) = false := beq_eq_false_iff_ne.mpr c21
                        have c21b1 : (x7_1 != (wrap64 ((wrap64 (1 + (wrap64 (Int.tmod a1 9)))) - 1))) = true := bne_iff_ne.mpr c21
                        by_cases c25 : x6_1.length < 5864062014805
                        · rw [if_pos c25] at H
                          have LMc25 := Aside0.mk c25
                          clear c25
                          obtain ⟨y141, hy141⟩ : ∃ y_ : List (List Int), y_ = (x6_1 ++ [y135]) := ⟨_, rfl⟩
                          replace H : (billhooklaw10_web.l0 kj15 l0 (wrap64 (1 + (wrap64 (Int.tmod a1 9)))) y141 (wrap64 (x7_1 + 1))) = some r := by first | (rw [hy141]; with_reducible exact H) | (have H2_ := (Option.bind_some _ _).symm.trans H; rw [hy141]; with_reducible exact H2_) | (have H2_ := (Option.bind_some _ _).symm.trans H; with_reducible exact H2_) | with_reducible exact H | (rw [hy141]; exact H) | exact H
                          have Ny141 := Aside0.mk hy141
                          clear hy141
                          have H' := Aside0.mk H
                          clear H
                          go_wp2_with (first | ((with_reducible refine gate_builtin (b := .append) (xs := #[.tmp 56, .tmp 59]) rfl ?_); (try (refine gate_guard (by rfl) ?_; dsimp only)); at_builtin; refine Kd.R_append (Kd.int .i64) (w0 := w) w.heap.size rfl (.tmp 56) (.tmp 59) 54 3 (.int .i64 0) 8 rfl Try.underlying54 info3 rfl (by decide) (by omega) u8 x8_2 (wrap64 (x7_1 + 1)) [.int .i64 (wrap64 (x7_1 + 1))] (fun _ => True) (fun _ => False) rfl rfl ?aP (fun _ hk => hk.elim) ?aF ?aO ?aB ?aS ?aL ?_; (case aP => first | exact rfl | exact ⟨_, rfl, Kd.R_nil _ _ _ _ _⟩); (case aB => exact (by repeat (first | (with_reducible first | exact HB.out | apply below_alloc | apply pw_below_drewN | apply below_drew1) | exact HB.out))); (case aF => exact (fun _ _ => trivial)); (case aO => exact (by (with_reducible repeat (first | apply Kd.R_alloc | apply Kd.R_drewN | apply Kd.R_drew)); exact HO_8.out)); (case aS => exact (below_size (by repeat (first | (with_reducible first | exact HB.out | apply below_alloc | apply pw_below_drewN | apply below_drew1) | exact HB.out)))); (case aL => have := LMc20.out; omega); intro v136 w26 ho hb hg hat; rw [← Ny135.out] at ho; have n0_ := Aside0.mk (Kd.S_after (ok := (fun _ => True)) (by (with_reducible repeat (first | apply Kd.S_alloc | apply Kd.S_drewN | apply Kd.S_drew)); exact Kd.S_mono HO_6.out (fun _ hk => ⟨trivial, hk⟩)) hg hat); have n1_ := Aside0.mk (hb); have n2_ := Aside0.mk (ho); clear HO_6; clear HB; clear HO_8; have HO_6 := n0_; have HB := n1_; have HO137 := n2_; clear n0_ n1_ n2_; clear ho hb hg hat; obtain ⟨Ao28, co28, eo28⟩ := Kd.R_slice HO137.out; subst eo28) | ((with_reducible refine gate_builtin (b := .append) (xs := #[.tmp 65, .tmp 67]) rfl ?_); (try (refine gate_guard (by rfl) ?_; dsimp only)); at_builtin; refine Kd.S_append (Kd.slice 3 (Kd.int .i64)) (w0 := w) w.heap.size rfl (.tmp 65) (.tmp 67) 53 54 (.slice none 0 0) 24 rfl Try.underlying53 info54 rfl (by decide) (by omega) u6 x6_1 y135 [.slice Ao28 y135.length co28] (fun _ => True) (fun k_ => some k_ = (.slice Ao28 y135.length co28 : Value).ownBlock) rfl rfl ?aP (fun k_ hk_ => ((Kd.R_mono (ok' := fun k_ => ((fun _ => True)) k_ ∧ some k_ ≠ (u6 : Value).ownBlock) (Kd.R_apart' (HO137.out) (Kd.S_typed HO_6.out) (by decide)) (fun k_ hk => ⟨trivial, hk.2⟩))).1 k_ hk_.symm) ?aF ?aO ?aB ?aS ?aL ?_; (case aP => exact Kd.M_row (Kd.R_mono (Kd.R_tight rfl (Kd.R_mono (ok' := fun k_ => ((fun _ => True)) k_ ∧ some k_ ≠ (u6 : Value).ownBlock) (Kd.R_apart' (HO137.out) (Kd.S_typed HO_6.out) (by decide)) (fun k_ hk => ⟨trivial, hk.2⟩))) (fun _ h_ => h_))); (case aB => exact (by repeat (first | (with_reducible first | exact HB.out | apply below_alloc | apply pw_below_drewN | apply below_drew1) | exact HB.out))); (case aF => exact (fun _ _ => trivial)); (case aO => exact (by (with_reducible repeat (first | apply Kd.S_alloc | apply Kd.S_drewN | apply Kd.S_drew)); exact Kd.S_mono HO_6.out (fun k_ hk => ⟨trivial, fun e_ => hk.2 e_⟩))); (case aS => exact (below_size (by repeat (first | (with_reducible first | exact HB.out | apply below_alloc | apply pw_below_drewN | apply below_drew1) | exact HB.out)))); (case aL => have := LMc25.out; omega); intro v142 w27 ho hb hg hat; rw [← Ny141.out] at ho; have n0_ := Aside0.mk (hb); have n1_ := Aside0.mk (ho); clear HB; clear HO_6; clear HO137; have HB := n0_; have HO143 := n1_; clear n0_ n1_; clear ho hb hg hat))
                          go_roundg kj15
                          case measure => have := HK1.out; have := HK2.out; have := HJ15.out; omega
                          case rel => exact ⟨(y141), (wrap64 (x7_1 + 1)), (by first | rfl | (simp; done) | (simp [*]; done)), H', ⟨by have := HK1.out; have := HK2.out; have := HJ15.out; omega⟩, ⟨by (with_reducible repeat (first | apply Kd.S_alloc | apply Kd.S_drewN | apply Kd.S_drew)); exact HO143.out⟩, ⟨by repeat (first | (with_reducible first | exact HB.out | apply below_alloc | apply pw_below_drewN | apply below_drew1) | exact HB.out)⟩⟩
                        · rw [if_neg c25] at H
                          exact absurd H (by simp)
                    · rw [if_neg c20] at H
                      exact absurd H (by simp)
                  · replace c19 := Bool.eq_false_iff.mpr c19
                    subst c19
                    have H1 : (if x7_1 = (wrap64 ((wrap64 (1 + (wrap64 (Int.tmod a1 9)))) - 1)) then (if x6_1.length < 5864062014805 then (billhooklaw10_web.l0 kj15 l0 (wrap64 (1 + (wrap64 (Int.tmod a1 9)))) (x6_1 ++ [([] : List Int)]) (wrap64 (x7_1 + 1))) else (none)) else (if x6_1.length < 5864062014805 then (billhooklaw10_web.l0 kj15 l0 (wrap64 (1 + (wrap64 (Int.tmod a1 9)))) (x6_1 ++ [x8_2]) (wrap64 (x7_1 + 1))) else (none))) = some r := by rw [if_neg (show ¬ (false = true) by decide)] at H; exact H
                    clear H
                    have H := H1
                    clear H1
                    by_cases c29 : x7_1 = (wrap64 ((wrap64 (1 + (wrap64 (Int.tmod a1 9)))) - 1))
                    · rw [if_pos c29] at H
                      have c29b0 : (x7_1 == (wrap64 ((wrap64 (1 + (wrap64 (Int.tmod a1 9)))) - 1))) = true := beq_iff_eq.mpr c29
                      have c29b1 : (x7_1 != (wrap64 ((wrap64 (1 + (wrap64 (Int.tmod a1 9)))) - 1))) = false := bne_eq_false_iff_eq.mpr c29
                      clear c29
                      by_cases c30 : x6_1.length < 5864062014805
                      · rw [if_pos c30] at H
                        have LMc30 := Aside0.mk c30
                        clear c30
                        obtain ⟨y144, hy144⟩ : ∃ y_ : List (List Int), y_ = (x6_1 ++ [([] : List Int)]) := ⟨_, rfl⟩
                        replace H : (billhooklaw10_web.l0 kj15 l0 (wrap64 (1 + (wrap64 (Int.tmod a1 9)))) y144 (wrap64 (x7_1 + 1))) = some r := by first | (rw [hy144]; with_reducible exact H) | (have H2_ := (Option.bind_some _ _).symm.trans H; rw [hy144]; with_reducible exact H2_) | (have H2_ := (Option.bind_some _ _).symm.trans H; with_reducible exact H2_) | with_reducible exact H | (rw [hy144]; exact H) | exact H
                        have Ny144 := Aside0.mk hy144
                        clear hy144
                        have H' := Aside0.mk H
                        clear H
                        go_wp2_with (first | ((with_reducible refine gate_builtin (b := .append) (xs := #[.tmp 65, .tmp 67]) rfl ?_); (try (refine gate_guard (by rfl) ?_; dsimp only)); at_builtin; refine Kd.S_append (Kd.slice 3 (Kd.int .i64)) (w0 := w) w.heap.size rfl (.tmp 65) (.tmp 67) 53 54 (.slice none 0 0) 24 rfl Try.underlying53 info54 rfl (by decide) (by omega) u6 x6_1 ([] : List Int) [.slice none 0 0] (fun k_ => some k_ ≠ (u8 : Value).ownBlock) (fun _ => False) rfl rfl ?aP (fun k_ hk_ => hk_.elim) ?aF ?aO ?aB ?aS ?aL ?_; (case aP => exact Kd.M_row (Kd.R_nil _ _ _ _ _)); (case aB => exact (by repeat (first | (with_reducible first | exact HB.out | apply below_alloc | apply pw_below_drewN | apply below_drew1) | exact HB.out))); (case aF => exact (fun k_ hk => Kd.fresh' (Kd.R_lt (by (with_reducible repeat (first | apply Kd.R_alloc | apply Kd.R_drewN | apply Kd.R_drew)); exact HO_8.out)) k_ hk)); (case aO => exact (by (with_reducible repeat (first | apply Kd.S_alloc | apply Kd.S_drewN | apply Kd.S_drew)); exact Kd.S_mono HO_6.out (fun k_ hk => ⟨hk, fun e_ => e_⟩))); (case aS => exact (below_size (by repeat (first | (with_reducible first | exact HB.out | apply below_alloc | apply pw_below_drewN | apply below_drew1) | exact HB.out)))); (case aL => have := LMc30.out; omega); intro v145 w31 ho hb hg hat; rw [← Ny144.out] at ho; have n0_ := Aside0.mk (Kd.R_over' (by (with_reducible repeat (first | apply Kd.R_alloc | apply Kd.R_drewN | apply Kd.R_drew)); exact HO_8.out) (Kd.S_typed (by (with_reducible repeat (first | apply Kd.S_alloc | apply Kd.S_drewN | apply Kd.S_drew)); exact HO_6.out)) (by decide) hg); have n1_ := Aside0.mk (hb); have n2_ := Aside0.mk (ho); clear HO_8; clear HB; clear HO_6; have HO_8 := n0_; have HB := n1_; have HO146 := n2_; clear n0_ n1_ n2_; clear ho hb hg hat))
                        go_roundg kj15
                        case measure => have := HK1.out; have := HK2.out; have := HJ15.out; omega
                        case rel => exact ⟨(y144), (wrap64 (x7_1 + 1)), (by first | rfl | (simp; done) | (simp [*]; done)), H', ⟨by have := HK1.out; have := HK2.out; have := HJ15.out; omega⟩, ⟨by (with_reducible repeat (first | apply Kd.S_alloc | apply Kd.S_drewN | apply Kd.S_drew)); exact Kd.S_mono HO146.out (fun _ hk => trivial)⟩, ⟨by repeat (first | (with_reducible first | exact HB.out | apply below_alloc | apply pw_below_drewN | apply below_drew1) | exact HB.out)⟩⟩
                      · rw [if_neg c30] at H
                        exact absurd H (by simp)
                    · rw [if_neg c29] at H
                      have c29b0 : (x7_1 == (wrap64 ((wrap64 (1 + (wrap64 (Int.tmod a1 9)))) - 1))) = false := beq_eq_false_iff_ne.mpr c29
                      have c29b1 : (x7_1 != (wrap64 ((wrap64 (1 + (wrap64 (Int.tmod a1 9)))) - 1))) = true := bne_iff_ne.mpr c29
                      by_cases c32 : x6_1.length < 5864062014805
                      · rw [if_pos c32] at H
                        have LMc32 := Aside0.mk c32
                        clear c32
                        obtain ⟨y147, hy147⟩ : ∃ y_ : List (List Int), y_ = (x6_1 ++ [x8_2]) := ⟨_, rfl⟩
                        replace H : (billhooklaw10_web.l0 kj15 l0 (wrap64 (1 + (wrap64 (Int.tmod a1 9)))) y147 (wrap64 (x7_1 + 1))) = some r := by first | (rw [hy147]; with_reducible exact H) | (have H2_ := (Option.bind_some _ _).symm.trans H; rw [hy147]; with_reducible exact H2_) | (have H2_ := (Option.bind_some _ _).symm.trans H; with_reducible exact H2_) | with_reducible exact H | (rw [hy147]; exact H) | exact H
                        have Ny147 := Aside0.mk hy147
                        clear hy147
                        have H' := Aside0.mk H
                        clear H
                        obtain ⟨Ao34, co34, eo34⟩ := Kd.R_slice HO_8.out
                        subst eo34
                        go_wp2_with (first | ((with_reducible refine gate_builtin (b := .append) (xs := #[.tmp 65, .tmp 67]) rfl ?_); (try (refine gate_guard (by rfl) ?_; dsimp only)); at_builtin; refine Kd.S_append (Kd.slice 3 (Kd.int .i64)) (w0 := w) w.heap.size rfl (.tmp 65) (.tmp 67) 53 54 (.slice none 0 0) 24 rfl Try.underlying53 info54 rfl (by decide) (by omega) u6 x6_1 x8_2 [.slice Ao34 x8_2.length co34] (fun _ => True) (fun k_ => some k_ = (.slice Ao34 x8_2.length co34 : Value).ownBlock) rfl rfl ?aP (fun k_ hk_ => ((Kd.R_mono (ok' := fun k_ => ((fun _ => True)) k_ ∧ some k_ ≠ (u6 : Value).ownBlock) (Kd.R_apart' (HO_8.out) (Kd.S_typed HO_6.out) (by decide)) (fun k_ hk => ⟨trivial, hk.2⟩))).1 k_ hk_.symm) ?aF ?aO ?aB ?aS ?aL ?_; (case aP => exact Kd.M_row (Kd.R_mono (Kd.R_tight rfl (Kd.R_mono (ok' := fun k_ => ((fun _ => True)) k_ ∧ some k_ ≠ (u6 : Value).ownBlock) (Kd.R_apart' (HO_8.out) (Kd.S_typed HO_6.out) (by decide)) (fun k_ hk => ⟨trivial, hk.2⟩))) (fun _ h_ => h_))); (case aB => exact (by repeat (first | (with_reducible first | exact HB.out | apply below_alloc | apply pw_below_drewN | apply below_drew1) | exact HB.out))); (case aF => exact (fun _ _ => trivial)); (case aO => exact (by (with_reducible repeat (first | apply Kd.S_alloc | apply Kd.S_drewN | apply Kd.S_drew)); exact Kd.S_mono HO_6.out (fun k_ hk => ⟨trivial, fun e_ => hk e_⟩))); (case aS => exact (below_size (by repeat (first | (with_reducible first | exact HB.out | apply below_alloc | apply pw_below_drewN | apply below_drew1) | exact HB.out)))); (case aL => have := LMc32.out; omega); intro v148 w33 ho hb hg hat; rw [← Ny147.out] at ho; have n0_ := Aside0.mk (hb); have n1_ := Aside0.mk (ho); clear HB; clear HO_6; clear HO_8; have HB := n0_; have HO149 := n1_; clear n0_ n1_; clear ho hb hg hat))
                        go_roundg kj15
                        case measure => have := HK1.out; have := HK2.out; have := HJ15.out; omega
                        case rel => exact ⟨(y147), (wrap64 (x7_1 + 1)), (by first | rfl | (simp; done) | (simp [*]; done)), H', ⟨by have := HK1.out; have := HK2.out; have := HJ15.out; omega⟩, ⟨by (with_reducible repeat (first | apply Kd.S_alloc | apply Kd.S_drewN | apply Kd.S_drew)); exact HO149.out⟩, ⟨by repeat (first | (with_reducible first | exact HB.out | apply below_alloc | apply pw_below_drewN | apply below_drew1) | exact HB.out)⟩⟩
                      · rw [if_neg c32] at H
                        exact absurd H (by simp)
      · rw [if_neg c3] at H
        have c3b0 : decide (x7_1 < (wrap64 (1 + (wrap64 (Int.tmod a1 9))))) = false := decide_eq_false c3
        clear c3
        obtain rfl := Option.some.inj H
        go_wp2
        go_ret
        exact ⟨_, by first | rfl | (simp [errW_none, errW_some] <;> rfl) | (simp [*, errW_none, errW_some] <;> rfl), by (with_reducible repeat (first | apply Kd.S_alloc | apply Kd.S_drewN | apply Kd.S_drew)); exact HO_6.out, by repeat (first | (with_reducible first | exact HB.out | apply below_alloc | apply pw_below_drewN | apply below_drew1) | exact HB.out)⟩

end Go.Proofs.Ytankppgafdcknaa.PDom

/- Graphs: what one comes to; visit and Reach. -/
set_option linter.unusedVariables false
set_option linter.unusedSimpArgs false
namespace Go.Proofs.Ytankppgafdcknaa.Gr
open Go Go.RowKit Go.Proofs.YtankppgafdcknaaW.PrintWords Go.Proofs.Ytankppgafdcknaa.PPost

def row (g : List (List Int)) (i : Nat) : List Int := g.getD i []
/-- i goes to j. -/
def Edge (g : List (List Int)) (i j : Nat) : Prop := i < g.length ∧ j < g.length ∧ (j : Int) ∈ row g i
/-- From i one comes to j. -/
inductive Rc (g : List (List Int)) (i : Nat) : Nat → Prop
  | refl (h : i < g.length) : Rc g i i
  | tail (k j : Nat) (h : Rc g i k) (e : Edge g k j) : Rc g i j
theorem Rc.head {g : List (List Int)} {i k j : Nat} (e : Edge g i k) (h : Rc g k j) : Rc g i j := by
  induction h with
  | refl h => exact .tail i k (.refl e.1) e
  | tail a b _ e2 ih => exact .tail a b ih e2
theorem Rc.lt {g : List (List Int)} {i j : Nat} (h : Rc g i j) : i < g.length ∧ j < g.length := by
  induction h with
  | refl h => exact ⟨h, h⟩
  | tail a b _ e2 ih => exact ⟨ih.1, e2.2.1⟩
theorem Rc.trans {g : List (List Int)} {i j k : Nat} (h : Rc g i j) (h2 : Rc g j k) : Rc g i k := by
  induction h2 with
  | refl _ => exact h
  | tail a b _ e ih => exact .tail a b ih e

def mkd (met : List Bool) (i : Nat) : Bool := met.getD i false
theorem mk_lt {met : List Bool} {i : Nat} (h : mkd met i = true) : i < met.length := by
  unfold mkd at h
  rcases Nat.lt_or_ge i met.length with hl | hl
  · exact hl
  · simp [List.getD_eq_getElem?_getD, List.getElem?_eq_none hl] at h
theorem mk_set (met : List Bool) (s i : Nat) (hs : s < met.length) : mkd (met.set s true) i = (mkd met i || decide (i = s)) := by
  unfold mkd
  simp only [List.getD_eq_getElem?_getD, List.getElem?_set]
  by_cases h : s = i
  · subst h; simp [hs]
  · have : ¬ i = s := fun e => h e.symm
    simp [h, this]
/-- The edges behind what is not met. -/
def unm (g : List (List Int)) (met : List Bool) : Nat := ((List.range g.length).map fun i => if mkd met i then 0 else (row g i).length + 1).sum
theorem sum_le_of {f h : Nat → Nat} (l : List Nat) (hle : ∀ i ∈ l, f i ≤ h i) : (l.map f).sum ≤ (l.map h).sum := by
  induction l with
  | nil => simp
  | cons a l ih => simp only [List.map_cons, List.sum_cons]; have := hle a (by simp); have := ih fun i hi => hle i (by simp [hi]); omega
theorem sum_split {f h : Nat → Nat} {s c : Nat} : ∀ (l : List Nat), l.Nodup → s ∈ l → (∀ i ∈ l, i ≠ s → h i = f i) → h s + c = f s → (l.map h).sum + c = (l.map f).sum
  | [], _, hs, _, _ => by simp at hs
  | a :: l, hn, hs, he, hc => by
    simp only [List.nodup_cons] at hn
    simp only [List.map_cons, List.sum_cons]
    by_cases ha : a = s
    · subst ha
      have : l.map h = l.map f := List.map_congr_left fun i hi => he i (by simp [hi]) (fun e => by subst e; exact hn.1 hi)
      rw [this]; omega
    · have hs' : s ∈ l := by simpa [Ne.symm ha] using hs
      have := sum_split l hn.2 hs' (fun i hi hne => he i (by simp [hi]) hne) hc
      have := he a (by simp) ha
      omega
theorem unm_set (g : List (List Int)) (met : List Bool) (hl : met.length = g.length) (s : Nat) (hs : s < g.length) (hm : mkd met s = false) : unm g (met.set s true) + ((row g s).length + 1) = unm g met := by
  unfold unm
  refine sum_split (s := s) _ List.nodup_range (by simpa using hs) (fun i _ hne => ?_) ?_
  · simp only [mk_set met s i (by omega), hne, decide_false, Bool.or_false]
  · simp only [mk_set met s s (by omega), decide_true, Bool.or_true, if_true, hm]
    simp

def isN (n : Nat) (s : Int) : Bool := decide (0 ≤ s) && decide (s < n)
theorem is_f (g : List (List Int)) (s : Int) : dom_graph_is.f g s = some (isN g.length s) := by
  unfold dom_graph_is.f isN
  by_cases h : s ≥ 0
  · have h' : 0 ≤ s := h
    simp [h, h']
  · have h' : ¬ 0 ≤ s := h
    simp [h, h']
theorem w64 {n : Int} (h0 : -9223372036854775808 ≤ n) (h1 : n ≤ 9223372036854775807) : wrap64 n = n := by unfold wrap64; omega
theorem rd_last (rest : List Int) (s : Int) : rd (rest ++ [s]) (rest.length : Int) = s := by
  simp [rd, List.getD_eq_getElem?_getD]
/-- One round of visit. -/
theorem visit_round (g : List (List Int)) (met : List Bool) (rest : List Int) (s : Int) (hl : met.length = g.length) (hb : rest.length < 9223372036854775807) (k : Nat) :
    dom_graph_visit.l0 (k + 1) g met (rest ++ [s]) = if isN g.length s = true then (if mkd met s.toNat = true then dom_graph_visit.l0 k g met rest else
      if rest.length + (row g s.toNat).length < 17592186044416 then dom_graph_visit.l0 k g (met.set s.toNat true) (rest ++ row g s.toNat) else none) else dom_graph_visit.l0 k g met rest := by
  have h1 : wrap64 (((rest ++ [s]).length : Int) - 1) = (rest.length : Int) := by
    rw [List.length_append, List.length_singleton, w64 (by omega) (by omega)]; omega
  have h2 : (rest ++ [s]).take ((rest.length : Int)).toNat = rest := by simp
  simp only [dom_graph_visit.l0, h1, rd_last, h2, is_f, Option.bind_some]
  have hln : (rest ++ [s]).length = rest.length + 1 := by simp
  rw [hln, if_pos (by omega), if_pos (by omega), if_pos (by omega), if_pos (by omega)]
  cases hi : isN g.length s with
  | false => simp
  | true =>
    simp only [isN, Bool.and_eq_true, decide_eq_true_eq] at hi
    simp only [if_true]
    rw [if_pos hi.1, if_pos (by omega)]
    have e1 : rdOf false met s = mkd met s.toNat := rfl
    have e2 : rd_L1 g s = row g s.toNat := rfl
    rw [e1, e2]
    cases mkd met s.toNat with
    | true => simp
    | false => simp [hi.2]
/-- What visit leaves. -/
structure Vis (g : List (List Int)) (met : List Bool) (todo : List Int) (met' : List Bool) : Prop where
  len : met'.length = g.length
  mono : ∀ i, mkd met i = true → mkd met' i = true
  tod : ∀ i : Nat, i < g.length → (i : Int) ∈ todo → mkd met' i = true
  closed : ∀ i j, mkd met' i = true → mkd met i = false → Edge g i j → mkd met' j = true
  from_ : ∀ i, mkd met' i = true → mkd met i = true ∨ ∃ s : Nat, (s : Int) ∈ todo ∧ Rc g s i
theorem visit_ev (g : List (List Int)) : ∀ (m : Nat) (met : List Bool) (todo : List Int), met.length = g.length → todo.length + unm g met ≤ m → m < 17592186044416 →
    ∃ met', Ev (fun k => dom_graph_visit.l0 k g met todo) met' ∧ Vis g met todo met' := by
  intro m
  induction m with
  | zero =>
    intro met todo hl hm hb
    obtain rfl : todo = [] := List.eq_nil_of_length_eq_zero (by omega)
    refine ⟨met, Ev.step (fun k => ?_) (Ev.now met), ⟨hl, fun _ h => h, fun i _ h => by simp at h, fun i j h h2 => (by rw [h] at h2; cases h2), fun i h => .inl h⟩⟩
    simp [dom_graph_visit.l0]
  | succ m ih =>
    intro met todo hl hm hb
    rcases List.eq_nil_or_concat todo with rfl | ⟨rest, s, rfl⟩
    · refine ⟨met, Ev.step (fun k => ?_) (Ev.now met), ⟨hl, fun _ h => h, fun i _ h => by simp at h, fun i j h h2 => (by rw [h] at h2; cases h2), fun i h => .inl h⟩⟩
      simp [dom_graph_visit.l0]
    · simp only [List.concat_eq_append, List.length_append, List.length_singleton] at hm ⊢
      have hr := visit_round g met rest s hl (by omega)
      cases hi : isN g.length s with
      | false =>
        obtain ⟨met', he, hv⟩ := ih met rest hl (by omega) (by omega)
        refine ⟨met', Ev.step (fun k => ?_) he, ⟨hv.len, hv.mono, fun i hi2 h => ?_, hv.closed, fun i h => ?_⟩⟩
        · rw [hr, hi]; simp
        · simp only [List.mem_append, List.mem_singleton] at h
          rcases h with h | h
          · exact hv.tod i hi2 h
          · exfalso
            subst h
            simp [isN] at hi
            omega
        · rcases hv.from_ i h with h | ⟨s', h1, h2⟩
          · exact .inl h
          · exact .inr ⟨s', by simp [h1], h2⟩
      | true =>
        have hs := hi
        simp only [isN, Bool.and_eq_true, decide_eq_true_eq] at hs
        have hsl : s.toNat < g.length := by omega
        have hsc : ((s.toNat : Nat) : Int) = s := by omega
        cases hmk : mkd met s.toNat with
        | true =>
          obtain ⟨met', he, hv⟩ := ih met rest hl (by omega) (by omega)
          refine ⟨met', Ev.step (fun k => ?_) he, ⟨hv.len, hv.mono, fun i hi2 h => ?_, hv.closed, fun i h => ?_⟩⟩
          · rw [hr, hi, hmk]; simp
          · simp only [List.mem_append, List.mem_singleton] at h
            rcases h with h | h
            · exact hv.tod i hi2 h
            · have : i = s.toNat := by omega
              subst this
              exact hv.mono _ hmk
          · rcases hv.from_ i h with h | ⟨s', h1, h2⟩
            · exact .inl h
            · exact .inr ⟨s', by simp [h1], h2⟩
        | false =>
          have hu := unm_set g met hl s.toNat hsl hmk
          obtain ⟨met', he, hv⟩ := ih (met.set s.toNat true) (rest ++ row g s.toNat) (by simpa using hl) (by simp only [List.length_append]; omega) (by omega)
          have hms := fun i => mk_set met s.toNat i (by omega)
          refine ⟨met', Ev.step (fun k => ?_) he, ⟨hv.len, fun i h => hv.mono i (by rw [hms, h]; rfl), fun i hi2 h => ?_, fun i j h h2 e => ?_, fun i h => ?_⟩⟩
          · rw [hr, hi, hmk]
            simp only [if_true, Bool.false_eq_true, if_false]
            rw [if_pos (by omega)]
          · simp only [List.mem_append, List.mem_singleton] at h
            rcases h with h | h
            · exact hv.tod i hi2 (by simp [h])
            · have : i = s.toNat := by omega
              subst this
              exact hv.mono _ (by rw [hms]; simp)
          · by_cases his : i = s.toNat
            · subst his
              exact hv.tod j e.2.1 (by simp [e.2.2])
            · exact hv.closed i j h (by rw [hms, h2]; simp [his]) e
          · rcases hv.from_ i h with h | ⟨s', h1, h2⟩
            · rw [hms] at h
              simp only [Bool.or_eq_true, decide_eq_true_eq] at h
              rcases h with h | rfl
              · exact .inl h
              · exact .inr ⟨s.toNat, by simp [hsc], .refl hsl⟩
            · simp only [List.mem_append] at h1
              rcases h1 with h1 | h1
              · exact .inr ⟨s', by simp [h1], h2⟩
              · exact .inr ⟨s.toNat, by simp [hsc], .head ⟨hsl, h2.lt.1, h1⟩ h2⟩
/-- Closed: what is met goes to what is met. -/
def Closed (g : List (List Int)) (met : List Bool) : Prop := ∀ i j, mkd met i = true → Edge g i j → mkd met j = true
theorem Closed.rc {g : List (List Int)} {met : List Bool} (h : Closed g met) {i j : Nat} (hi : mkd met i = true) (hr : Rc g i j) : mkd met j = true := by
  induction hr with
  | refl _ => exact hi
  | tail k j _ e ih => exact h k j ih e
theorem Vis.all {g : List (List Int)} {met : List Bool} {todo : List Int} {met' : List Bool} (h : Vis g met todo met') (hc : Closed g met) : Closed g met' := by
  intro i j hi e
  cases hm : mkd met i with
  | true => exact h.mono _ (hc i j hm e)
  | false => exact h.closed i j hi hm e
/-- From nothing met: what one comes to. -/
theorem Vis.none {g : List (List Int)} {n : Nat} {todo : List Int} {met' : List Bool} (h : Vis g (List.replicate n false) todo met') (i : Nat) : mkd met' i = true ↔ ∃ s : Nat, (s : Int) ∈ todo ∧ Rc g s i := by
  have hz : ∀ i, mkd (List.replicate n false) i = false := fun i => by
    unfold mkd
    simp [List.getD_eq_getElem?_getD, List.getElem?_replicate]
    split <;> rfl
  constructor
  · intro hi
    rcases h.from_ i hi with h | h
    · rw [hz] at h; cases h
    · exact h
  · rintro ⟨s, hs, hr⟩
    have hcl : Closed g met' := h.all fun i j hi => by rw [hz] at hi; cases hi
    exact hcl.rc (h.tod s hr.lt.1 hs) hr
theorem unm_le (g : List (List Int)) (met : List Bool) : unm g met ≤ (g.map fun r => r.length + 1).sum := by
  have : (g.map fun r => r.length + 1) = (List.range g.length).map fun i => (row g i).length + 1 := by
    apply List.ext_getElem
    · simp
    · intro i h1 h2
      simp only [List.length_map] at h1
      simp [row, List.getD_eq_getElem?_getD, h1]
  rw [this]
  refine sum_le_of _ fun i _ => ?_
  split <;> omega
/-- The size of a graph. -/
def gsz (g : List (List Int)) : Nat := (g.map fun r => r.length + 1).sum
theorem Reach_l0 (g : List (List Int)) (from_ : List Int) (hg : gsz g < 17592186044415) (hf : from_.length ≤ 9223372036854775806) : ∀ (d i : Nat) (met : List Bool), i + d = from_.length → met.length = g.length → Closed g met →
    ∃ met', Ev (fun k => dom_Reach.l0 k g met from_ (from_.length : Int) (i : Int)) met' ∧ Vis g met (from_.drop i) met' ∧ Closed g met' := by
  intro d
  induction d with
  | zero =>
    intro i met hi hl hc
    refine ⟨met, Ev.step (fun k => ?_) (Ev.now met), ⟨hl, fun _ h => h, fun j _ h => ?_, fun i j h h2 => (by rw [h] at h2; cases h2), fun i h => .inl h⟩, hc⟩
    · simp only [dom_Reach.l0]
      rw [if_neg (by omega)]
    · rw [List.drop_of_length_le (by omega)] at h
      simp at h
  | succ d ih =>
    intro i met hi hl hc
    have hlt : i < from_.length := by omega
    obtain ⟨met1, he1, hv1⟩ := visit_ev g (1 + unm g met) met [from_[i]] hl (by simp) (by have := unm_le g met; unfold gsz at hg; omega)
    have hc1 := hv1.all hc
    obtain ⟨met2, he2, hv2, hc2⟩ := ih (i + 1) met1 (by omega) hv1.len hc1
    have hd : from_.drop i = from_[i] :: from_.drop (i + 1) := List.drop_eq_getElem_cons hlt
    refine ⟨met2, Ev.step (fun k => ?_) (Ev.bind (f := fun k met1 => dom_Reach.l0 k g met1 from_ (from_.length : Int) ((i + 1 : Nat) : Int)) he1 he2), ⟨hv2.len, fun j h => hv2.mono _ (hv1.mono _ h), fun j hj h => ?_, fun a b h h2 e => hc2 a b h e, fun j h => ?_⟩, hc2⟩
    · simp only [dom_Reach.l0]
      rw [if_pos (by omega), if_pos (by omega), if_pos (by omega), w64 (by omega) (by omega)]
      have e : rd from_ (i : Int) = from_[i] := by simp [rd, List.getD_eq_getElem?_getD, hlt]
      rw [e]
      rfl
    · rw [hd] at h
      simp only [List.mem_cons] at h
      rcases h with h | h
      · exact hv2.mono _ (hv1.tod j hj (by simp [h]))
      · exact hv2.tod j hj h
    · rw [hd]
      rcases hv2.from_ j h with h | ⟨s, h1, h2⟩
      · rcases hv1.from_ j h with h | ⟨s, h1, h2⟩
        · exact .inl h
        · exact .inr ⟨s, (by rw [List.mem_singleton.1 h1]; exact List.mem_cons_self), h2⟩
      · exact .inr ⟨s, List.mem_cons_of_mem _ h1, h2⟩
/-- Reach: to which nodes one comes. -/
theorem Reach_ev (g : List (List Int)) (from_ : List Int) (hg : gsz g < 17592186044415) (hf : from_.length ≤ 9223372036854775806) :
    ∃ met, Ev (fun k => dom_Reach.f k g from_) met ∧ met.length = g.length ∧ ∀ i, mkd met i = true ↔ ∃ s : Nat, (s : Int) ∈ from_ ∧ Rc g s i := by
  have hgl : g.length ≤ gsz g := by
    unfold gsz
    clear hg
    induction g with
    | nil => simp
    | cons a l ih => simp only [List.length_cons, List.map_cons, List.sum_cons]; omega
  obtain ⟨met, he, hv, _⟩ := Reach_l0 g from_ hg hf from_.length 0 (List.replicate g.length false) (by omega) (by simp) (fun i j h => by
    unfold mkd at h
    simp [List.getD_eq_getElem?_getD, List.getElem?_replicate] at h
    split at h <;> simp at h)
  refine ⟨met, Ev.congr (fun k => ?_) he, hv.len, fun i => ?_⟩
  · unfold dom_Reach.f
    rw [if_pos (by omega), if_pos (by simp; omega)]
    simp
  · rw [List.drop_zero] at hv
    exact hv.none i
end Go.Proofs.Ytankppgafdcknaa.Gr

/- Graphs: Post. -/
set_option linter.unusedVariables false
set_option linter.unusedSimpArgs false
namespace Go.Proofs.Ytankppgafdcknaa.Gr
open Go Go.RowKit Go.Proofs.YtankppgafdcknaaW.PrintWords Go.Proofs.Ytankppgafdcknaa.PPost

/-- From i one comes to Exit, but by none of d. -/
inductive Av (g : List (List Int)) (d : Nat) : Nat → Prop
  | exit (h : 0 < g.length) (hd : g.length - 1 ≠ d) : Av g d (g.length - 1)
  | step (i j : Nat) (hi : i ≠ d) (e : Edge g i j) (h : Av g d j) : Av g d i
theorem Av.ne {g : List (List Int)} {d i : Nat} (h : Av g d i) : i ≠ d ∧ i < g.length := by
  cases h with
  | exit h hd => exact ⟨hd, by omega⟩
  | step i j hi e h => exact ⟨hi, e.1⟩
theorem getD_eq {α : Type} (l : List α) (i : Nat) (z : α) (h : i < l.length) : l.getD i z = l[i] := by simp [List.getD_eq_getElem?_getD, h]
/-- Edges of the first i nodes, and of t more of the next one. -/
def esum (g : List (List Int)) (i : Nat) : Nat := ((g.take i).map List.length).sum
theorem esum_succ (g : List (List Int)) (i : Nat) (hi : i < g.length) : esum g (i + 1) = esum g i + (row g i).length := by
  unfold esum row
  rw [getD_eq _ _ _ hi, List.take_succ_eq_append_getElem hi, List.map_append, List.sum_append]
  simp only [List.map_cons, List.map_nil, List.sum_cons, List.sum_nil, Nat.add_zero]
theorem esum_le (g : List (List Int)) (i : Nat) : g.length + esum g i ≤ gsz g := by
  unfold esum gsz
  have : ∀ (l : List (List Int)) (i : Nat), l.length + ((l.take i).map List.length).sum ≤ (l.map fun r => r.length + 1).sum := by
    intro l
    induction l with
    | nil => simp
    | cons a l ih =>
      intro i
      cases i with
      | zero => have := ih 0; simp at this ⊢; omega
      | succ i => have := ih i; simp at this ⊢; omega
  exact this g i
/-- What back holds once i nodes, and t edges of the next one, are looked at. -/
structure Bk (g : List (List Int)) (d i t : Nat) (back : List (List Int)) : Prop where
  len : back.length = g.length
  mem : ∀ k, k < g.length → ∀ m : Int, m ∈ row back k ↔ ∃ n : Nat, m = n ∧ n ≠ d ∧ k ≠ d ∧ ((n < i ∧ (k : Int) ∈ row g n) ∨ (n = i ∧ (k : Int) ∈ (row g i).take t))
  size : gsz back ≤ g.length + esum g i + t
theorem gsz_set (b : List (List Int)) (s : Nat) (v : List Int) (hs : s < b.length) : gsz (b.set s (row b s ++ v)) = gsz b + v.length := by
  unfold row gsz
  rw [getD_eq _ _ _ hs]
  induction b generalizing s with
  | nil => simp at hs
  | cons a l ih =>
    cases s with
    | zero => simp; omega
    | succ s =>
      have := ih s (by simpa using hs)
      simp only [List.set_cons_succ, List.map_cons, List.sum_cons, List.getElem_cons_succ] at this ⊢
      omega
theorem row_set (b : List (List Int)) (s k : Nat) (v : List Int) (hs : s < b.length) : row (b.set s v) k = if k = s then v else row b k := by
  unfold row
  simp only [List.getD_eq_getElem?_getD, List.getElem?_set]
  by_cases h : s = k
  · subst h; simp [hs]
  · have : ¬ k = s := fun e => h e.symm
    simp [h, this]
theorem Bk.next {g : List (List Int)} {d i : Nat} {back : List (List Int)} (h : Bk g d i (row g i).length back) (hi : i < g.length) : Bk g d (i + 1) 0 back := by
  refine ⟨h.len, fun k hk m => ?_, ?_⟩
  · rw [h.mem k hk m]
    constructor
    · rintro ⟨n, rfl, h1, h2, h3⟩
      refine ⟨n, rfl, h1, h2, .inl ?_⟩
      rcases h3 with ⟨h3, h4⟩ | ⟨rfl, h4⟩
      · exact ⟨by omega, h4⟩
      · exact ⟨by omega, by simpa using h4⟩
    · rintro ⟨n, rfl, h1, h2, h3⟩
      refine ⟨n, rfl, h1, h2, ?_⟩
      rcases h3 with ⟨h3, h4⟩ | ⟨rfl, h4⟩
      · by_cases e : n = i
        · subst e; exact .inr ⟨rfl, by simpa using h4⟩
        · exact .inl ⟨by omega, h4⟩
      · simp at h4
  · rw [esum_succ g i hi]
    have := h.size
    omega
theorem Bk.skip {g : List (List Int)} {d i t : Nat} {back : List (List Int)} (h : Bk g d i t back) (ht : t < (row g i).length) (hs : isN g.length (row g i)[t] = true → i = d ∨ (row g i)[t] = d) : Bk g d i (t + 1) back := by
  refine ⟨h.len, fun k hk m => ?_, by have := h.size; omega⟩
  rw [h.mem k hk m]
  constructor
  · rintro ⟨n, rfl, h1, h2, h3⟩
    refine ⟨n, rfl, h1, h2, ?_⟩
    rcases h3 with h3 | ⟨rfl, h4⟩
    · exact .inl h3
    · refine .inr ⟨rfl, ?_⟩
      rw [List.take_succ_eq_append_getElem ht]
      exact List.mem_append_left _ h4
  · rintro ⟨n, rfl, h1, h2, h3⟩
    refine ⟨n, rfl, h1, h2, ?_⟩
    rcases h3 with h3 | ⟨rfl, h4⟩
    · exact .inl h3
    · refine .inr ⟨rfl, ?_⟩
      rw [List.take_succ_eq_append_getElem ht] at h4
      simp only [List.mem_append, List.mem_singleton] at h4
      rcases h4 with h4 | h4
      · exact h4
      · exfalso
        rcases hs (by rw [← h4]; simp [isN, hk]) with e | e
        · exact h1 e
        · exact h2 (by omega)
theorem Bk.add {g : List (List Int)} {d i t : Nat} {back : List (List Int)} (h : Bk g d i t back) (ht : t < (row g i).length) (hs : isN g.length (row g i)[t] = true) (hi : i ≠ d) (hd : (row g i)[t] ≠ (d : Int)) :
    Bk g d i (t + 1) (back.set (row g i)[t].toNat (row back (row g i)[t].toNat ++ [(i : Int)])) := by
  simp only [isN, Bool.and_eq_true, decide_eq_true_eq] at hs
  have hsl : (row g i)[t].toNat < back.length := by rw [h.len]; omega
  refine ⟨by simp [h.len], fun k hk m => ?_, by rw [gsz_set _ _ _ hsl]; have := h.size; simp; omega⟩
  rw [row_set _ _ _ _ hsl]
  have hold := h.mem k hk m
  constructor
  · intro hm
    split at hm
    · rename_i hks
      simp only [List.mem_append, List.mem_singleton] at hm
      rcases hm with hm | rfl
      · rw [← hks] at hm
        obtain ⟨n, rfl, h1, h2, h3⟩ := hold.1 hm
        refine ⟨n, rfl, h1, h2, ?_⟩
        rcases h3 with h3 | ⟨rfl, h4⟩
        · exact .inl h3
        · exact .inr ⟨rfl, by rw [List.take_succ_eq_append_getElem ht]; exact List.mem_append_left _ h4⟩
      · have hkt : (k : Int) = (row g i)[t] := by rw [hks]; exact Int.toNat_of_nonneg hs.1
        refine ⟨i, rfl, hi, fun e => hd (by rw [← hkt, e]), .inr ⟨rfl, ?_⟩⟩
        rw [List.take_succ_eq_append_getElem ht, ← hkt]
        exact List.mem_append_right _ (List.mem_singleton.2 rfl)
    · obtain ⟨n, rfl, h1, h2, h3⟩ := hold.1 hm
      refine ⟨n, rfl, h1, h2, ?_⟩
      rcases h3 with h3 | ⟨rfl, h4⟩
      · exact .inl h3
      · exact .inr ⟨rfl, by rw [List.take_succ_eq_append_getElem ht]; exact List.mem_append_left _ h4⟩
  · rintro ⟨n, rfl, h1, h2, h3⟩
    have old : ((n < i ∧ (k : Int) ∈ row g n) ∨ (n = i ∧ (k : Int) ∈ (row g i).take t)) → (n : Int) ∈ row back k := fun h4 => hold.2 ⟨n, rfl, h1, h2, h4⟩
    rcases h3 with h3 | ⟨rfl, h4⟩
    · have := old (.inl h3)
      split
      · rename_i e; rw [← e]; simp [this]
      · exact this
    · rw [List.take_succ_eq_append_getElem ht] at h4
      simp only [List.mem_append, List.mem_singleton] at h4
      rcases h4 with h4 | h4
      · have := old (.inr ⟨rfl, h4⟩)
        split
        · rename_i e; rw [← e]; simp [this]
        · exact this
      · have : k = (row g n)[t].toNat := by rw [← h4]; rfl
        rw [if_pos this]
        simp
theorem Bk.rc {g : List (List Int)} {d : Nat} {back : List (List Int)} (h : Bk g d g.length 0 back) (h0 : 0 < g.length) (hd : d ≠ g.length - 1) (i : Nat) : Rc back (g.length - 1) i ↔ Av g d i := by
  have edge : ∀ k j, Edge back k j ↔ (Edge g j k ∧ j ≠ d ∧ k ≠ d) := by
    intro k j
    unfold Edge
    rw [h.len]
    constructor
    · rintro ⟨h1, h2, h3⟩
      obtain ⟨n, e, h4, h5, h6⟩ := (h.mem k h1 _).1 h3
      have : n = j := by omega
      subst this
      rcases h6 with ⟨_, h6⟩ | ⟨_, h6⟩
      · exact ⟨⟨h2, h1, h6⟩, h4, h5⟩
      · simp at h6
    · rintro ⟨⟨h1, h2, h3⟩, h4, h5⟩
      exact ⟨h2, h1, (h.mem k h2 _).2 ⟨j, rfl, h4, h5, .inl ⟨h1, h3⟩⟩⟩
  constructor
  · intro hr
    induction hr with
    | refl _ => exact .exit h0 (Ne.symm hd)
    | tail k j _ e ih =>
      have := (edge k j).1 e
      exact .step j k this.2.1 this.1 ih
  · intro ha
    induction ha with
    | exit _ _ => exact .refl (by rw [h.len]; omega)
    | step i j hi e ha ih => exact .tail j i ih ((edge j i).2 ⟨e, hi, ha.ne.1⟩)

/-- A matrix. -/
def Mx (n : Nat) (f : Nat → Nat → Bool) : List (List Bool) := (List.range n).map fun i => (List.range n).map fun j => f i j
theorem Mx_row (n : Nat) (f : Nat → Nat → Bool) (i : Nat) (hi : i < n) : (Mx n f).getD i [] = (List.range n).map fun j => f i j := by
  rw [getD_eq _ _ _ (by simpa [Mx] using hi)]
  simp [Mx]
theorem range_set {α : Type} (n : Nat) (f : Nat → α) (i : Nat) (v : α) : ((List.range n).map f).set i v = (List.range n).map fun j => if j = i then v else f j := by
  apply List.ext_getElem
  · simp
  · intro j h1 h2
    simp only [List.length_set, List.length_map, List.length_range] at h1
    rw [List.getElem_set]
    simp only [List.getElem_map, List.getElem_range]
    by_cases h : i = j
    · subst h; simp
    · have : ¬ j = i := fun e => h e.symm
      simp [h, this]
def bitM (r : List (List Bool)) (i d : Nat) : Bool := (r.getD i []).getD d false
theorem bitM_Mx (n : Nat) (f : Nat → Nat → Bool) (i d : Nat) (hi : i < n) (hd : d < n) : bitM (Mx n f) i d = f i d := by
  unfold bitM
  rw [Mx_row n f i hi, getD_eq _ _ _ (by simpa using hd)]
  simp

section
variable {g : List (List Int)} {P : List (List Bool) → Prop}
theorem nat_toNat (n : Nat) : ((n : Int)).toNat = n := by omega
theorem l4_ev (hb : g.length ≤ 1000000000000000) (met : List Bool) (hm : met.length = g.length) (d : Nat) (hd : d < g.length) (e5 e39 : Int) :
    ∀ (q i : Nat) (f : Nat → Nat → Bool), i + q = g.length → (∃ r, Ev (fun k => dom_Post.l1 k g (Mx g.length fun a b => if b = d ∧ i ≤ a then !(mkd met a) else f a b) e5 e39 ((d + 1 : Nat) : Int)) r ∧ P r) →
      ∃ r, Ev (fun k => dom_Post.l4 k g (Mx g.length f) e5 (d : Int) e39 (d : Int) met (g.length : Int) (i : Int)) r ∧ P r := by
  intro q
  induction q with
  | zero =>
    intro i f hi ⟨r, hr, hp⟩
    refine ⟨r, Ev.step (fun k => ?_) hr, hp⟩
    simp only [dom_Post.l4]
    rw [if_neg (by omega), w64 (by omega) (by omega)]
    have : Mx g.length (fun a b => if b = d ∧ i ≤ a then !(mkd met a) else f a b) = Mx g.length f := by
      unfold Mx
      refine List.map_congr_left fun a ha => List.map_congr_left fun b _ => ?_
      simp only [List.mem_range] at ha
      show (if b = d ∧ i ≤ a then !(mkd met a) else f a b) = f a b
      rw [if_neg (by omega)]
    rw [this]
    rfl
  | succ q ih =>
    intro i f hi hr
    have hil : i < g.length := by omega
    have hstep : (Mx g.length f).set i (((Mx g.length f).getD i []).set d (!(rdOf false met (i : Int)))) = Mx g.length fun a b => if b = d ∧ a = i then !(mkd met a) else f a b := by
      rw [Mx_row _ _ _ hil, range_set]
      unfold Mx
      rw [range_set]
      refine List.map_congr_left fun a ha => ?_
      by_cases e : a = i
      · subst e
        rw [if_pos rfl]
        refine List.map_congr_left fun b _ => ?_
        by_cases e2 : b = d
        · simp [e2]; rfl
        · simp [e2]
      · simp [e]
    obtain ⟨r, hr2, hp⟩ := ih (i + 1) (fun a b => if b = d ∧ a = i then !(mkd met a) else f a b) (by omega) (by
      have : (fun a b => if b = d ∧ i + 1 ≤ a then !(mkd met a) else (if b = d ∧ a = i then !(mkd met a) else f a b)) = fun a b => if b = d ∧ i ≤ a then !(mkd met a) else f a b := by
        funext a b
        by_cases e : b = d
        · by_cases e2 : i + 1 ≤ a
          · simp [e, e2, show i ≤ a by omega]
          · by_cases e3 : a = i
            · simp [e, e3]
            · simp [e, e2, e3, show ¬ i ≤ a by omega]
        · simp [e]
      rw [this]
      exact hr)
    refine ⟨r, Ev.step (fun k => ?_) hr2, hp⟩
    simp only [dom_Post.l4]
    have hlen : (Mx g.length f).length = g.length := by simp [Mx]
    have hrl : (rd_L3 (Mx g.length f) (i : Int)).length = g.length := by
      unfold rd_L3
      rw [nat_toNat, Mx_row _ _ _ hil]
      simp
    rw [if_pos (by omega), if_pos (by omega), if_pos (by omega), if_pos (by omega), if_pos (by omega), if_pos (by omega), w64 (by omega) (by omega)]
    have : (Mx g.length f).set ((i : Int)).toNat ((rd_L3 (Mx g.length f) (i : Int)).set ((d : Int)).toNat (!(rdOf false met (i : Int)))) = Mx g.length fun a b => if b = d ∧ a = i then !(mkd met a) else f a b := by
      rw [nat_toNat, nat_toNat]
      exact hstep
    rw [this]
    rfl
end
end Go.Proofs.Ytankppgafdcknaa.Gr

/- Graphs: Post, whole. -/
set_option linter.unusedVariables false
set_option linter.unusedSimpArgs false
namespace Go.Proofs.Ytankppgafdcknaa.Gr
open Go Go.RowKit Go.Proofs.YtankppgafdcknaaW.PrintWords Go.Proofs.Ytankppgafdcknaa.PPost

theorem row_len_gsz (g : List (List Int)) (i : Nat) : (row g i).length ≤ gsz g := by
  unfold row gsz
  rcases Nat.lt_or_ge i g.length with h | h
  · rw [getD_eq _ _ _ h]
    have : ∀ (l : List (List Int)) (i : Nat) (h : i < l.length), l[i].length ≤ (l.map fun r => r.length + 1).sum := by
      intro l
      induction l with
      | nil => intro i h; simp at h
      | cons a l ih =>
        intro i h
        cases i with
        | zero => simp; omega
        | succ i => have := ih i (by simpa using h); simp; omega
    exact this g i h
  · simp [List.getD_eq_getElem?_getD, List.getElem?_eq_none h]
theorem len_gsz (g : List (List Int)) : g.length ≤ gsz g := by have := esum_le g 0; omega
section
variable {g : List (List Int)} {P : List (List Bool) → Prop}
theorem l3_ev (hg : gsz g < 17592186044415) (d i : Nat) (hd : d < g.length) (hi : i < g.length) (out : List (List Bool)) (e5 : Int) (e39 : Int)
    (K : ∀ back, Bk g d (i + 1) 0 back → ∃ r, Ev (fun k => dom_Post.l2 k g out e5 (d : Int) back e39 (d : Int) g (g.length : Int) ((i + 1 : Nat) : Int)) r ∧ P r) :
    ∀ (q t : Nat) (back : List (List Int)), t + q = (row g i).length → Bk g d i t back →
      ∃ r, Ev (fun k => dom_Post.l3 k g out e5 (d : Int) back (i : Int) e39 (d : Int) g (g.length : Int) (i : Int) (row g i) ((row g i).length : Int) (t : Int)) r ∧ P r := by
  have hgl := len_gsz g
  have hrl := row_len_gsz g i
  intro q
  induction q with
  | zero =>
    intro t back ht hb
    have ht : t = (row g i).length := by omega
    subst ht
    obtain ⟨r, hr, hp⟩ := K back (hb.next hi)
    refine ⟨r, Ev.step (fun k => ?_) hr, hp⟩
    simp only [dom_Post.l3]
    rw [if_neg (by omega), w64 (by omega) (by omega)]
    rfl
  | succ q ih =>
    intro t back ht hb
    have htl : t < (row g i).length := by omega
    have hrd : rd (row g i) (t : Int) = (row g i)[t] := by unfold rd; rw [nat_toNat]; exact getD_eq _ _ _ htl
    have go : ∀ b2, Bk g d i (t + 1) b2 → (∀ k, dom_Post.l3 (k + 1) g out e5 (d : Int) back (i : Int) e39 (d : Int) g (g.length : Int) (i : Int) (row g i) ((row g i).length : Int) (t : Int) =
        dom_Post.l3 k g out e5 (d : Int) b2 (i : Int) e39 (d : Int) g (g.length : Int) (i : Int) (row g i) ((row g i).length : Int) (wrap64 ((t : Int) + 1))) →
        ∃ r, Ev (fun k => dom_Post.l3 k g out e5 (d : Int) back (i : Int) e39 (d : Int) g (g.length : Int) (i : Int) (row g i) ((row g i).length : Int) (t : Int)) r ∧ P r := by
      intro b2 hb2 he
      obtain ⟨r, hr, hp⟩ := ih (t + 1) b2 (by omega) hb2
      refine ⟨r, Ev.step (fun k => ?_) hr, hp⟩
      rw [he, w64 (by omega) (by omega)]
      rfl
    have hbase : ∀ k, dom_Post.l3 (k + 1) g out e5 (d : Int) back (i : Int) e39 (d : Int) g (g.length : Int) (i : Int) (row g i) ((row g i).length : Int) (t : Int) =
        if isN g.length (row g i)[t] = true then (if (i : Int) = (d : Int) then (dom_Post.l3 k g out e5 (d : Int) back (i : Int) e39 (d : Int) g (g.length : Int) (i : Int) (row g i) ((row g i).length : Int) (wrap64 ((t : Int) + 1))) else
          (if (row g i)[t] = (d : Int) then (dom_Post.l3 k g out e5 (d : Int) back (i : Int) e39 (d : Int) g (g.length : Int) (i : Int) (row g i) ((row g i).length : Int) (wrap64 ((t : Int) + 1))) else
          (if 0 ≤ (row g i)[t] then (if (row g i)[t] < (back.length : Int) then (if (rd_L1 back (row g i)[t]).length < 17592186044416 then (dom_Post.l3 k g out e5 (d : Int) (back.set ((row g i)[t] : Int).toNat ((rd_L1 back (row g i)[t]) ++ [(i : Int)])) (i : Int) e39 (d : Int) g (g.length : Int) (i : Int) (row g i) ((row g i).length : Int) (wrap64 ((t : Int) + 1))) else none) else none) else none)))
        else (dom_Post.l3 k g out e5 (d : Int) back (i : Int) e39 (d : Int) g (g.length : Int) (i : Int) (row g i) ((row g i).length : Int) (wrap64 ((t : Int) + 1))) := by
      intro k
      simp only [dom_Post.l3]
      rw [if_pos (by omega), if_pos (by omega), if_pos (by omega), hrd, is_f, Option.bind_some]
    cases hs : isN g.length (row g i)[t] with
    | false =>
      refine go back (hb.skip htl (by rw [hs]; simp)) fun k => ?_
      rw [hbase, hs]
      simp
    | true =>
      by_cases hid : i = d
      · refine go back (hb.skip htl (fun _ => .inl hid)) fun k => ?_
        rw [hbase, hs, if_pos rfl, if_pos (by omega)]
      · by_cases hsd : (row g i)[t] = (d : Int)
        · refine go back (hb.skip htl (fun _ => .inr hsd)) fun k => ?_
          rw [hbase, hs, if_pos rfl, if_neg (by omega), if_pos hsd]
        · refine go _ (hb.add htl hs hid hsd) fun k => ?_
          have hs2 := hs
          simp only [isN, Bool.and_eq_true, decide_eq_true_eq] at hs2
          have hbs := hb.size
          have := row_len_gsz back (row g i)[t].toNat
          have hes := esum_le g (i + 1)
          rw [esum_succ g i hi] at hes
          have e1 : rd_L1 back (row g i)[t] = row back (row g i)[t].toNat := rfl
          rw [hbase, hs, if_pos rfl, if_neg (by omega), if_neg hsd, if_pos hs2.1, if_pos (by rw [hb.len]; exact hs2.2), e1, if_pos (by omega)]
theorem l2_ev (hg : gsz g < 17592186044415) (d : Nat) (hd : d < g.length) (out : List (List Bool)) (e5 : Int) (e39 : Int)
    (K : ∀ back, Bk g d g.length 0 back → ∃ r, Ev (fun k => dom_Post.l2 k g out e5 (d : Int) back e39 (d : Int) g (g.length : Int) (g.length : Int)) r ∧ P r) :
    ∀ (q i : Nat) (back : List (List Int)), i + q = g.length → Bk g d i 0 back →
      ∃ r, Ev (fun k => dom_Post.l2 k g out e5 (d : Int) back e39 (d : Int) g (g.length : Int) (i : Int)) r ∧ P r := by
  intro q
  induction q with
  | zero =>
    intro i back hi hb
    have : i = g.length := by omega
    subst this
    exact K back hb
  | succ q ih =>
    intro i back hi hb
    have hil : i < g.length := by omega
    obtain ⟨r, hr, hp⟩ := l3_ev hg d i hd hil out e5 e39 (fun b2 hb2 => ih (i + 1) b2 (by omega) hb2) (row g i).length 0 back (by omega) hb
    refine ⟨r, Ev.step (fun k => ?_) hr, hp⟩
    simp only [dom_Post.l2]
    rw [if_pos (by omega), if_pos (by omega), if_pos (by omega)]
    have : rd_L1 g (i : Int) = row g i := by unfold rd_L1 row; rw [nat_toNat]
    rw [this]
    rfl
/-- What Post leaves behind the first so many. -/
def Told (g : List (List Int)) (d : Nat) (f f' : Nat → Nat → Bool) : Prop :=
  (∀ i j, j < d → f' i j = f i j) ∧ (∀ i, f' i (g.length - 1) = f i (g.length - 1)) ∧ ∀ i j, i < g.length → d ≤ j → j < g.length - 1 → (f' i j = true ↔ ¬ Av g j i)
theorem l1_ev (hg : gsz g < 17592186044415) (hn : g.length ≤ 1000000000000) (h0 : 0 < g.length) : ∀ (q d : Nat) (f : Nat → Nat → Bool), d + q = g.length →
      ∃ f', Ev (fun k => dom_Post.l1 k g (Mx g.length f) ((g.length - 1 : Nat) : Int) (g.length : Int) (d : Int)) (Mx g.length f') ∧ Told g d f f' := by
  intro q
  induction q with
  | zero =>
    intro d f hd
    refine ⟨f, Ev.step (fun k => ?_) (Ev.now _), fun _ _ _ => rfl, fun _ => rfl, fun i j _ h1 h2 => by omega⟩
    simp only [dom_Post.l1]
    rw [if_neg (by omega)]
  | succ q ih =>
    intro d f hd
    have hdl : d < g.length := by omega
    have hgl := len_gsz g
    have hrep : Bk g d 0 0 (List.replicate g.length []) := by
      refine ⟨by simp, fun k hk m => ?_, ?_⟩
      · have : row (List.replicate g.length ([] : List Int)) k = [] := by
          unfold row
          rw [getD_eq _ _ _ (by simpa using hk)]
          simp
        rw [this]
        constructor
        · intro h; simp at h
        · rintro ⟨n, rfl, _, _, h⟩
          rcases h with ⟨h, _⟩ | ⟨_, h⟩
          · omega
          · simp at h
      · simp [gsz, esum, List.map_replicate]
    have fin : ∀ back, Bk g d g.length 0 back → ∃ r, Ev (fun k => dom_Post.l2 k g (Mx g.length f) ((g.length - 1 : Nat) : Int) (d : Int) back (g.length : Int) (d : Int) g (g.length : Int) (g.length : Int)) r ∧ ∃ f', r = Mx g.length f' ∧ Told g d f f' := by
      intro back hb
      by_cases hde : d = g.length - 1
      · obtain ⟨f', hr, h1, h2, h3⟩ := ih (d + 1) f (by omega)
        refine ⟨_, Ev.step (fun k => ?_) hr, f', rfl, fun i j hj => h1 i j (by omega), h2, fun i j hi hj hj2 => by omega⟩
        simp only [dom_Post.l2]
        rw [if_neg (by omega), if_pos (by omega), w64 (by omega) (by omega)]
        rfl
      · have hbs := hb.size
        have hes := esum_le g g.length
        obtain ⟨met, hme, hmv⟩ := visit_ev back (1 + unm back (List.replicate g.length false)) (List.replicate g.length false) [((g.length - 1 : Nat) : Int)] (by simp [hb.len]) (by simp) (by have := unm_le back (List.replicate g.length false); unfold gsz at hbs hes hg; omega)
        have hmm : ∀ i, mkd met i = true ↔ Av g d i := fun i => by
          rw [hmv.none i]
          rw [← hb.rc h0 hde i]
          constructor
          · rintro ⟨s, hs, hr⟩
            have : s = g.length - 1 := by have := List.mem_singleton.1 hs; omega
            rwa [this] at hr
          · intro hr
            exact ⟨_, by simp, hr⟩
        obtain ⟨r, hr, f', rfl, h1, h2, h3⟩ := l4_ev (P := fun r => ∃ f', r = Mx g.length f' ∧ Told g (d + 1) (fun a b => if b = d ∧ 0 ≤ a then !(mkd met a) else f a b) f') (by omega) met (by rw [hmv.len, hb.len]) d hdl ((g.length - 1 : Nat) : Int) (g.length : Int) g.length 0 f (by omega) (by
          obtain ⟨f', hr, h⟩ := ih (d + 1) (fun a b => if b = d ∧ 0 ≤ a then !(mkd met a) else f a b) (by omega)
          exact ⟨_, hr, f', rfl, h⟩)
        refine ⟨_, Ev.step (fun k => ?_) (Ev.bind (f := fun k t => dom_Post.l4 k g (Mx g.length f) ((g.length - 1 : Nat) : Int) (d : Int) (g.length : Int) (d : Int) t (g.length : Int) 0) hme hr), f', rfl, fun i j hj => ?_, fun i => ?_, fun i j hi hj hj2 => ?_⟩
        · simp only [dom_Post.l2]
          rw [if_neg (by omega), if_neg (by omega), if_pos (by omega), if_pos (by omega)]
          simp only [Option.bind_some, nat_toNat, List.length_replicate, dom_graph_visit.f]
        · exact (h1 i j (by omega)).trans (if_neg (by omega))
        · exact (h2 i).trans (if_neg (by omega))
        · by_cases hjd : j = d
          · subst hjd
            have e1 : f' i j = !(mkd met i) := (h1 i j (by omega)).trans (if_pos ⟨rfl, by omega⟩)
            rw [e1, ← hmm i]
            cases mkd met i <;> simp
          · exact h3 i j hi (by omega) hj2
    obtain ⟨r, hr, f', rfl, ht⟩ := l2_ev hg d hdl (Mx g.length f) ((g.length - 1 : Nat) : Int) (g.length : Int) fin g.length 0 (List.replicate g.length []) (by omega) hrep
    refine ⟨f', Ev.step (fun k => ?_) hr, ht⟩
    simp only [dom_Post.l1]
    rw [if_pos (by omega), if_pos (by omega), if_pos (by omega)]
    simp only [nat_toNat]
    rfl
theorem l0_ev (hn : g.length ≤ 1000000000000) (h0 : 0 < g.length) (K : ∃ r, Ev (fun k => dom_Post.l1 k g (Mx g.length fun _ _ => true) ((g.length - 1 : Nat) : Int) (g.length : Int) 0) r ∧ P r) : ∀ (q i : Nat), i + q = g.length →
      ∃ r, Ev (fun k => dom_Post.l0 k g ((List.range g.length).map fun j => if j < i then List.replicate g.length true else []) (g.length : Int) (i : Int)) r ∧ P r := by
  intro q
  induction q with
  | zero =>
    intro i hi
    obtain ⟨r, hr, hp⟩ := K
    refine ⟨r, Ev.step (fun k => ?_) hr, hp⟩
    simp only [dom_Post.l0]
    rw [if_neg (by omega), if_neg (by omega), w64 (by omega) (by omega)]
    have e : ((List.range g.length).map fun j => if j < i then List.replicate g.length true else []) = Mx g.length fun _ _ => true := by
      unfold Mx
      refine List.map_congr_left fun j hj => ?_
      simp only [List.mem_range] at hj
      rw [if_pos (by omega)]
      simp [List.map_const']
    rw [e]
    congr 1
    omega
  | succ q ih =>
    intro i hi
    obtain ⟨r, hr, hp⟩ := ih (i + 1) (by omega)
    refine ⟨r, Ev.step (fun k => ?_) hr, hp⟩
    simp only [dom_Post.l0]
    have hrp : slices_Repeat_bool_bool.f [true] (g.length : Int) = some (List.replicate g.length true) := by
      unfold slices_Repeat_bool_bool.f
      rw [if_pos ⟨rfl, by omega, by omega⟩, nat_toNat]
      rfl
    rw [if_pos (by omega), hrp, Option.bind_some, if_pos (by omega), if_pos (by simp; omega), w64 (by omega) (by omega), nat_toNat, range_set]
    have e : ((List.range g.length).map fun j => if j = i then List.replicate g.length true else if j < i then List.replicate g.length true else []) = (List.range g.length).map fun j => if j < i + 1 then List.replicate g.length true else [] := by
      refine List.map_congr_left fun j _ => ?_
      by_cases h1 : j = i
      · subst h1; simp
      · by_cases h2 : j < i
        · simp [h1, h2, show j < i + 1 by omega]
        · simp [h1, h2, show ¬ j < i + 1 by omega]
    rw [e]
    rfl
end
/-- Post: what postdominates what. -/
theorem Post_ev (g : List (List Int)) (hg : gsz g < 17592186044415) (hn : g.length ≤ 1000000000000) :
    ∃ f : Nat → Nat → Bool, Ev (fun k => dom_Post.f k g) (Mx g.length f) ∧ ∀ i d, i < g.length → d < g.length → (f i d = true ↔ ¬ Av g d i) := by
  rcases Nat.eq_zero_or_pos g.length with h0 | h0
  · refine ⟨fun _ _ => true, ?_, fun i d hi => by omega⟩
    refine Ev.congr (f := fun k => dom_Post.l0 k g [] 0 0) (fun k => ?_) (Ev.step (f := fun _ => some []) (fun k => ?_) ?_)
    · unfold dom_Post.f
      rw [if_pos (by omega), if_pos (by omega), h0]
      simp
    · simp only [dom_Post.l0]
      rw [if_neg (by omega), if_pos (by omega)]
    · rw [h0]; exact Ev.now _
  · obtain ⟨f', hr, h1, h2, h3⟩ := l1_ev hg hn h0 g.length 0 (fun _ _ => true) (by omega)
    obtain ⟨r, hr2, rfl⟩ := l0_ev (P := fun r => r = Mx g.length f') hn h0 ⟨_, hr, rfl⟩ g.length 0 (by omega)
    refine ⟨f', Ev.congr (fun k => ?_) hr2, fun i d hi hd => ?_⟩
    · unfold dom_Post.f
      rw [if_pos (by omega), if_pos (by omega)]
      simp only [nat_toNat, Option.bind_some, List.length_replicate]
      have : ((List.range g.length).map fun j => if j < 0 then List.replicate g.length true else []) = List.replicate g.length [] := by
        simp [List.map_const']
      rw [this]
      rfl
    · by_cases hd2 : d = g.length - 1
      · subst hd2
        rw [h2 i]
        simp only [true_iff]
        intro ha
        have : ∀ j, ¬ Av g (g.length - 1) j := by
          intro j hj
          induction hj with
          | exit _ hd => exact hd rfl
          | step i j hi e _ ih => exact ih
        exact this i ha
      · exact h3 i d hi (by omega) (by omega)
end Go.Proofs.Ytankppgafdcknaa.Gr

/- Graphs: webs. -/
set_option linter.unusedVariables false
set_option linter.unusedSimpArgs false
namespace Go.Proofs.Ytankppgafdcknaa.Gr
open Go Go.RowKit Go.Proofs.YtankppgafdcknaaW.PrintWords Go.Proofs.Ytankppgafdcknaa.PPost Go.Proofs.Ytankppgafdcknaa.PDom

theorem u8_wf {x : Int} (h : (Lit.int .u8 x).wf = true) : 0 ≤ x ∧ x ≤ 255 := by
  simp only [Lit.wf, Bool.and_eq_true, decide_eq_true_eq] at h
  exact h
/-- A row of a web of n nodes, as far as it is made. -/
def Rw (n m : Nat) (l : List Int) : Prop := l.length ≤ m ∧ ∀ s ∈ l, isN n s = true
/-- A web. -/
structure Web (xs : List (List Int)) : Prop where
  pos : 0 < xs.length
  le : xs.length ≤ 9
  rw_ : ∀ i, i < xs.length → Rw xs.length 2 (row xs i)
  some_ : ∀ i, i + 1 < xs.length → row xs i ≠ []
  last : row xs (xs.length - 1) = []
/-- The first i rows of one. -/
structure WebTo (n : Nat) (xs : List (List Int)) : Prop where
  rw_ : ∀ i, i < xs.length → Rw n 2 (row xs i)
  some_ : ∀ i, i < xs.length → i + 1 < n → row xs i ≠ []
  last : ∀ i, i < xs.length → i + 1 = n → row xs i = []
theorem row_append (xs : List (List Int)) (v : List Int) (i : Nat) (hi : i < xs.length + 1) : row (xs ++ [v]) i = if i = xs.length then v else row xs i := by
  unfold row
  simp only [List.getD_eq_getElem?_getD, List.getElem?_append]
  by_cases h : i = xs.length
  · subst h; simp
  · rw [if_neg h, if_pos (by omega)]
theorem WebTo.add {n : Nat} {xs : List (List Int)} {v : List Int} (h : WebTo n xs) (hv : Rw n 2 v) (h1 : xs.length + 1 < n → v ≠ []) (h2 : xs.length + 1 = n → v = []) : WebTo n (xs ++ [v]) := by
  refine ⟨fun i hi => ?_, fun i hi hn => ?_, fun i hi hn => ?_⟩ <;> simp only [List.length_append, List.length_singleton] at hi <;> rw [row_append xs v i hi] <;> split
  · exact hv
  · exact h.rw_ i (by omega)
  · rename_i e; subst e; exact h1 hn
  · exact h.some_ i (by omega) hn
  · rename_i e; subst e; exact h2 hn
  · exact h.last i (by omega) hn
theorem isN_mod (n : Nat) (h : 0 < n) (b : Int) (hb : 0 ≤ b) : isN n (Int.tmod b n) = true := by
  have h1 := Int.tmod_nonneg (b := (n : Int)) hb (a := b)
  have h2 := Int.tmod_lt_of_pos b (show (0 : Int) < n by omega)
  simp [isN, h1, h2]
section
variable {P : List (List Int) → Prop} {l : List Int}
theorem web_j2 (hl : ∀ x ∈ l, 0 ≤ x ∧ x ≤ 255) (n i : Nat) (hn : n ≤ 9) (hi : i < n) (out : List (List Int)) (ho : out.length = i) (hw : WebTo n out)
    (K : ∀ out', out'.length = i + 1 → WebTo n out' → ∃ xs, Ev (fun k => billhooklaw10_web.l0 k l (n : Int) out' ((i + 1 : Nat) : Int)) xs ∧ P xs) (r : List Int) (hr : Rw n 2 r) (b : Bool) (hb : b = (decide (i + 1 < n) && decide (r.length = 0))) :
    ∃ xs, Ev (fun k => billhooklaw10_web.j2 k l (n : Int) out (i : Int) r b) xs ∧ P xs := by
  have w1 : wrap64 ((i : Int) + 1) = ((i + 1 : Nat) : Int) := by rw [w64 (by omega) (by omega)]; omega
  have w2 : wrap64 ((n : Int) - 1) = ((n - 1 : Nat) : Int) := by rw [w64 (by omega) (by omega)]; omega
  have h2 := hr.1
  by_cases hlast : i + 1 = n
  · obtain ⟨xs, hx, hp⟩ := K (out ++ [[]]) (by simp [ho]) (hw.add ⟨by simp, by simp⟩ (by omega) (fun _ => rfl))
    refine ⟨xs, Ev.step (fun k => ?_) hx, hp⟩
    have hbf : b = false := by rw [hb]; simp; omega
    simp only [billhooklaw10_web.j2, w1, w2]
    rw [hbf, if_neg (by simp), if_pos (by omega), if_pos (by omega)]
  · cases r with
    | nil =>
      obtain ⟨xs, hx, hp⟩ := K (out ++ [[((i + 1 : Nat) : Int)]]) (by simp [ho]) (hw.add ⟨by simp, by simp [isN]; omega⟩ (by simp) (by omega))
      refine ⟨xs, Ev.step (fun k => ?_) hx, hp⟩
      have hbt : b = true := by rw [hb]; simp; omega
      simp only [billhooklaw10_web.j2, w1, w2]
      rw [hbt, if_pos rfl, if_pos (by simp), if_neg (by omega), if_pos (by omega)]
      simp
    | cons a r =>
      obtain ⟨xs, hx, hp⟩ := K (out ++ [a :: r]) (by simp [ho]) (hw.add hr (by simp) (by omega))
      refine ⟨xs, Ev.step (fun k => ?_) hx, hp⟩
      have hbf : b = false := by rw [hb]; simp
      simp only [billhooklaw10_web.j2, w1, w2]
      rw [hbf, if_neg (by simp), if_neg (by omega), if_pos (by omega)]
theorem web_step (hl : ∀ x ∈ l, 0 ≤ x ∧ x ≤ 255) (n i : Nat) (hn : n ≤ 9) (hi : i < n) (out : List (List Int)) (m : Nat) (hm : m < 2)
    (K : ∀ r, Rw n (m + 1) r → ∃ xs, Ev (fun k => billhooklaw10_web.l1 k l (n : Int) out (i : Int) r ((m + 1 : Nat) : Int)) xs ∧ P xs) (r : List Int) (hr : Rw n m r) :
    ∃ xs, Ev (fun k => billhooklaw10_web.l1 k l (n : Int) out (i : Int) r (m : Int)) xs ∧ P xs := by
  have h2 := hr.1
  have w1 : wrap64 ((m : Int) + 1) = ((m + 1 : Nat) : Int) := by rw [w64 (by omega) (by omega)]; omega
  have w2 : wrap64 (wrap64 (2 * (i : Int)) + (m : Int)) = ((2 * i + m : Nat) : Int) := by rw [w64 (n := 2 * (i : Int)) (by omega) (by omega), w64 (by omega) (by omega)]; omega
  have keep : Rw n (m + 1) r := ⟨by omega, hr.2⟩
  have add : ∀ b : Int, 0 ≤ b → Rw n (m + 1) (r ++ [Int.tmod b n]) := fun b hb => ⟨by simp; omega, fun s hs => by
    simp only [List.mem_append, List.mem_singleton] at hs
    rcases hs with hs | rfl
    · exact hr.2 s hs
    · exact isN_mod n (by omega) b hb⟩
  by_cases hlen : 2 * i + m < l.length
  · have hb := hl l[2 * i + m] (List.getElem_mem hlen)
    have hrd : rd l ((2 * i + m : Nat) : Int) = l[2 * i + m] := by unfold rd; rw [nat_toNat]; exact getD_eq _ _ _ hlen
    have w3 : wrap64 (rd l ((2 * i + m : Nat) : Int)) = l[2 * i + m] := by rw [hrd, w64 (by omega) (by omega)]
    by_cases h190 : l[2 * i + m] < 190
    · obtain ⟨xs, hx, hp⟩ := K _ (add l[2 * i + m] hb.1)
      refine ⟨xs, Ev.step (fun k => ?_) hx, hp⟩
      simp only [billhooklaw10_web.l1, w1, w2, w3]
      rw [if_pos (by omega), if_pos (by omega), if_pos (by omega), if_pos h190, if_neg (by omega), if_pos (by omega)]
    · obtain ⟨xs, hx, hp⟩ := K _ keep
      refine ⟨xs, Ev.step (fun k => ?_) hx, hp⟩
      simp only [billhooklaw10_web.l1, w1, w2, w3]
      rw [if_pos (by omega), if_pos (by omega), if_pos (by omega), if_neg h190]
  · obtain ⟨xs, hx, hp⟩ := K _ (add 0 (by omega))
    refine ⟨xs, Ev.step (fun k => ?_) hx, hp⟩
    have e0 : (0 : Int) % (n : Int) = Int.tmod 0 n := by simp
    simp only [billhooklaw10_web.l1, w1, w2]
    rw [if_pos (by omega), if_neg (by omega), if_pos (by decide), if_neg (by omega), if_pos (by omega), e0]
theorem web_l0 (hl : ∀ x ∈ l, 0 ≤ x ∧ x ≤ 255) (n : Nat) (hn : n ≤ 9) (hP : ∀ xs, xs.length = n → WebTo n xs → P xs) : ∀ (q i : Nat) (out : List (List Int)), i + q = n → out.length = i → WebTo n out →
    ∃ xs, Ev (fun k => billhooklaw10_web.l0 k l (n : Int) out (i : Int)) xs ∧ P xs := by
  intro q
  induction q with
  | zero =>
    intro i out hi ho hw
    refine ⟨out, Ev.step (fun k => ?_) (Ev.now out), hP out (by omega) hw⟩
    simp only [billhooklaw10_web.l0]
    rw [if_neg (by omega)]
  | succ q ih =>
    intro i out hi ho hw
    have hin : i < n := by omega
    obtain ⟨xs, hx, hp⟩ := web_step (P := P) hl n i hn hin out 0 (by omega) (fun r hr => web_step hl n i hn hin out 1 (by omega) (fun r hr => by
      obtain ⟨xs, hx, hp⟩ := web_j2 hl n i hn hin out ho hw (fun out' h1 h2 => ih (i + 1) out' (by omega) h1 h2) r hr _ rfl
      refine ⟨xs, Ev.step (fun k => ?_) hx, hp⟩
      have w1 : wrap64 ((i : Int) + 1) = ((i + 1 : Nat) : Int) := by rw [w64 (by omega) (by omega)]; omega
      simp only [billhooklaw10_web.l1, w1]
      rw [if_neg (by omega)]
      by_cases hlt : i + 1 < n
      · rw [if_pos (by omega)]
        congr 1
        simp only [hlt, decide_true, Bool.true_and]
        by_cases h0 : r.length = 0
        · simp [h0]
        · simp [h0]
      · rw [if_neg (by omega)]
        congr 1
        simp [hlt]) r hr) [] ⟨by simp, by simp⟩
    refine ⟨xs, Ev.step (fun k => ?_) hx, hp⟩
    simp only [billhooklaw10_web.l0]
    rw [if_pos (by omega)]
    rfl
end
/-- A web, of any bytes. -/
theorem web_ev (l : List Int) (a : Int) (hl : ∀ x ∈ l, (Lit.int .u8 x).wf = true) (ha : (Lit.int .u8 a).wf = true) : ∃ xs, Ev (fun k => billhooklaw10_web.f k l a) xs ∧ Web xs := by
  have ha := u8_wf ha
  have hm : ∃ n : Nat, n ≤ 9 ∧ 0 < n ∧ wrap64 (1 + wrap64 (Int.tmod a 9)) = (n : Int) := by
    have h1 : Int.tmod a 9 = a % 9 := Int.tmod_eq_emod_of_nonneg ha.1
    refine ⟨(1 + a % 9).toNat, by omega, by omega, ?_⟩
    rw [h1, w64 (n := a % 9) (by omega) (by omega), w64 (by omega) (by omega)]
    omega
  obtain ⟨n, hn, h0, hw⟩ := hm
  obtain ⟨xs, hx, hp⟩ := web_l0 (P := fun xs => Web xs) (fun x hx => u8_wf (hl x hx)) n hn (fun xs h1 h2 => by
    subst h1
    exact ⟨h0, hn, h2.rw_, fun i hi => h2.some_ i (by omega) hi, h2.last _ (by omega) (by omega)⟩) n 0 [] (by omega) rfl ⟨by simp, by simp, by simp⟩
  refine ⟨xs, Ev.congr (fun k => ?_) hx, hp⟩
  unfold billhooklaw10_web.f
  rw [hw]
  rfl
theorem Web.gsz {xs : List (List Int)} (h : Web xs) : gsz xs ≤ 27 := by
  have h1 := h.le
  have h2 := h.rw_
  have key : ∀ (l : List (List Int)), (∀ r ∈ l, r.length ≤ 2) → (l.map fun r => r.length + 1).sum ≤ 3 * l.length := by
    intro l
    induction l with
    | nil => simp
    | cons a l ih =>
      intro h
      have := h a (by simp)
      have := ih fun r hr => h r (by simp [hr])
      simp only [List.map_cons, List.sum_cons, List.length_cons]
      omega
  have := key xs fun r hr => by
    obtain ⟨i, hi, rfl⟩ := List.mem_iff_getElem.1 hr
    have := (h2 i hi).1
    unfold row at this
    rwa [getD_eq _ _ _ hi] at this
  unfold Gr.gsz
  omega
end Go.Proofs.Ytankppgafdcknaa.Gr

/- Graphs: Post's matrix, as the laws read it. -/
set_option linter.unusedVariables false
set_option linter.unusedSimpArgs false
namespace Go.Proofs.Ytankppgafdcknaa.Gr
open Go Go.RowKit Go.Proofs.YtankppgafdcknaaW.PrintWords Go.Proofs.Ytankppgafdcknaa.PPost Go.Proofs.Ytankppgafdcknaa.PDom

theorem Mx_len (n : Nat) (f : Nat → Nat → Bool) : (Mx n f).length = n := by simp [Mx]
theorem L2_row (n : Nat) (f : Nat → Nat → Bool) (i : Nat) (hi : i < n) : rd_L2 (Mx n f) (i : Int) = (List.range n).map (f i) := by
  unfold rd_L2
  rw [nat_toNat]
  exact Mx_row n f i hi
theorem of_row (n : Nat) (f : Nat → Bool) (j : Nat) (hj : j < n) : rdOf false ((List.range n).map f) (j : Int) = f j := by
  unfold rdOf
  rw [nat_toNat, getD_eq _ _ _ (by simpa using hj)]
  simp
theorem L3_row (xs : List (List Int)) (i : Nat) : PDom.rd_L3 xs (i : Int) = row xs i := by
  unfold PDom.rd_L3 row
  rw [nat_toNat]
theorem rd_at (l : List Int) (t : Nat) (ht : t < l.length) : rd l (t : Int) = l[t] := by
  unfold rd
  rw [nat_toNat]
  exact getD_eq _ _ _ ht
theorem ex_f : billhooklaw10_examples.f = some true := rfl
theorem w_succ (i : Nat) (h : i < 9223372036854775807) : wrap64 ((i : Int) + 1) = ((i + 1 : Nat) : Int) := by rw [w64 (by omega) (by omega)]; omega
theorem w_pred (n : Nat) (h : n < 9223372036854775807) (h0 : 0 < n) : wrap64 ((n : Int) - 1) = ((n - 1 : Nat) : Int) := by rw [w64 (by omega) (by omega)]; omega
/-- What Post tells, of a web. -/
theorem Web.post {xs : List (List Int)} (h : Web xs) : ∃ f : Nat → Nat → Bool, Ev (fun k => dom_Post.f k xs) (Mx xs.length f) ∧ ∀ i d, i < xs.length → d < xs.length → (f i d = true ↔ ¬ Av xs d i) :=
  Post_ev xs (by have := h.gsz; omega) (by have := h.le; omega)
theorem Web.reach {xs : List (List Int)} (h : Web xs) (at_ : List Int) (ha : at_.length ≤ 9223372036854775806) : ∃ met, Ev (fun k => dom_Reach.f k xs at_) met ∧ met.length = xs.length ∧ ∀ i, mkd met i = true ↔ ∃ s : Nat, (s : Int) ∈ at_ ∧ Rc xs s i :=
  Reach_ev xs at_ (by have := h.gsz; omega) ha
section
variable {xs : List (List Int)} {f : Nat → Nat → Bool} (hf : ∀ i d, i < xs.length → d < xs.length → (f i d = true ↔ ¬ Av xs d i))
include hf
theorem post_self (i : Nat) (hi : i < xs.length) : f i i = true := (hf i i hi hi).2 fun h => h.ne.1 rfl
theorem post_exit (i : Nat) (hi : i < xs.length) : f i (xs.length - 1) = true := (hf i _ hi (by omega)).2 fun h => by
  have : ∀ j, ¬ Av xs (xs.length - 1) j := by
    intro j hj
    induction hj with
    | exit _ hd => exact hd rfl
    | step i j hi e _ ih => exact ih
  exact this i h
theorem post_next (i d : Nat) (hi : i < xs.length - 1) (hd : d < xs.length) (hne : d ≠ i) (hr : ∀ s ∈ row xs i, isN xs.length s = true) : f i d = (row xs i).all fun s => f s.toNat d := by
  rw [Bool.eq_iff_iff, hf i d (by omega) hd, List.all_eq_true]
  constructor
  · intro h s hs
    have hsn := hr s hs
    simp only [isN, Bool.and_eq_true, decide_eq_true_eq] at hsn
    refine (hf s.toNat d (by omega) hd).2 fun ha => h (.step i s.toNat (Ne.symm hne) ⟨by omega, by omega, ?_⟩ ha)
    rw [show ((s.toNat : Nat) : Int) = s by omega]
    exact hs
  · intro h ha
    generalize hj : i = j at ha
    cases ha with
    | exit _ _ => omega
    | step _ k _ e ha =>
      subst hj
      have := h _ e.2.2
      rw [nat_toNat] at this
      exact (hf k d e.2.1 hd).1 this ha
end
end Go.Proofs.Ytankppgafdcknaa.Gr
