/- Texts joined into one: LawRunReads. -/
import Derived.Test.YtkinbnepkpoofaaGreatDoorRows
import Derived.Test.YtkinbnepkpoofaaGreatDoorCards
import Derived.Test.YtkinbnepkpoofaaGreatDoorTie
import Derived.Test.YtkinbnepkpoofaaGreatDoorVa
import Derived.Test.YtkinbnepkpoofaaGreatDoorKh
import Derived.WalkKit
import Derived.ProofKit
import Derived.OpenShut
import Derived.ShutString
import Derived.ChangeOld
import Derived.Below
import Derived.SizedLaws
import Derived.Carry
import Derived.LaidMore
import Derived.SevenTiedAt
import Derived.Test.YtkinbnepkpoofaaGreatDoorLFact
/- The statement RunReads: of every input, out of the law and the walk. -/
set_option linter.unusedVariables false
set_option maxRecDepth 100000
namespace Go.Proofs.YtkinbnepkpoofaaGreatDoor.runReads
open Go.AM Go.ChangeShapes Go.WideShapes Go.ChangeAt Go.RowKit
theorem lifted (os : Os) (started : os.Started) (H : Type) (enc : TypeId × Value → H) :
  ReturnsInHanded {} Tryz.checked os 11 .any (fun w args => (Rows.runReadsSpec.pre enc Tryz.prog Tryz.f11 [] false w args ∧ laidMetH Tryz.prog Rows.runReadsRow.laid w) ∧ sizedMet enc Tryz.prog Tryz.f11 (OpenSpec.ofChange Rows.runReadsSpec) false w args)
   (Rows.runReadsSpec.post enc Tryz.prog Tryz.f11 false true false false) := by
 refine returnsInHanded_of_change_and (C := Tryz.checked) (X := fun w _ => laidMetH Tryz.prog Rows.runReadsRow.laid w) (fun _ _ _ hh h => h.of_heap hh) own started (by kernel_rfl) Tryz.func11
  (ChangeSpec.witness_shaped (enc := enc) (C := Tryz.checked) (os := os) (X := fun w _ => laidMetH Tryz.prog Rows.runReadsRow.laid w) false (World.doorLaid Tryz.prog 400 os) #[.slice none 0 0, .int .u8 0] 8 rfl (World.shaped_of_RefB (by kernel_rfl) (by kernel_rfl)) (by kernel_rfl) (by kernel_rfl) (by kernel_rfl) (door_met os _)) ?_
 intro W base args ds gs before hval0 hW hcnd hsz0 hL _
 have hval : ∀ (j : Nat) t v, Tryz.f11.params[j]? = some t → args[j]? = some v → Value.okWide Tryz.prog W .any base t v := hval0
 have hW' := hW
 obtain ⟨p, q, hA0, hV, rfl, hfz, hnd⟩ := hW
 have hA : DataW.TrodAll enc Tryz.prog W 0 (fun _ => true) true Tryz.f11.params.toList args.toList ds p := hA0
 rw [Tryz.params11] at hA hval
 obtain ⟨v0, vs0, d0, ds0, p0, q0, hargs, rfl, rfl, h0, r0⟩ := trodAll_cons hA
 obtain ⟨v1, vs1, d1, ds1, p1, q1, rfl, rfl, rfl, h1, r1⟩ := trodAll_cons r0
 obtain ⟨rfl, rfl, rfl⟩ := trodAll_nil r1
 obtain rfl : args = #[v0, v1] := by cases args; simp_all
 obtain ⟨rfl, rfl⟩ := trodVars_none hV
 have lt0 : ∀ x ∈ p0, x.block < W.heap.size := by obtain ⟨m, hm⟩ := h0; exact DataW.trod_lt m _ _ _ hm
 have o0 := hval 0 79 v0 rfl rfl
 have e0 : v0.cells.toList = [v0] := by
  unfold Value.okWide Cell.okWide Cell.ok at o0
  rw [Tryz.underlying79] at o0
  cases v0 <;> first | rfl | exact o0.elim
 obtain ⟨x0, w0, t0⟩ := arg_cell 12 (by kernel_rfl) e0 h0
 have lt1 : ∀ x ∈ p1, x.block < W.heap.size := by obtain ⟨m, hm⟩ := h1; exact DataW.trod_lt m _ _ _ hm
 have o1 := hval 1 5 v1 rfl rfl
 have e1 : v1.cells.toList = [v1] := by
  unfold Value.okWide Cell.okWide Cell.ok at o1
  rw [Tryz.underlying5] at o1
  cases v1 <;> first | rfl | exact o1.elim
 obtain ⟨x1, w1, t1⟩ := arg_cell 12 (by kernel_rfl) e1 h1
 refine (S.topS bk (f := 11) (w := W) (vals := [v0, v1]) (b := true) Tryz.func11 (by decide) rfl (.cons _ _ _ _ w0 (.cons _ _ _ _ w1 .nil)) (body11 x0 t0 x1 t1)).mono fun e W' ⟨he, bel⟩ => ?_
 subst he
 exact ⟨_, rfl, _, _, _, [], _, [], hW', trodAll_mk1 (shut_bool Tryz.underlying4 _), (trodAll_cons_mk (Below.trod laidOut (by kernel_rfl) (of_decide_eq_true (by kernel_rfl)) h0 bel lt0) (trodAll_cons_mk (Below.trod laidOut (by kernel_rfl) (of_decide_eq_true (by kernel_rfl)) h1 bel lt1) trodAll_mk0)), rfl, bel.frame _, fun h => by cases h⟩
theorem over : Rows.runReadsRow.holds Tryz.pinned (OpenSpec.ofChange Rows.runReadsSpec) :=
 OpenClaim.holds_of_wide 11 Tryz.f11 rfl rfl rfl rfl rfl rfl rfl ⟨rfl, rfl, rfl, rfl, rfl⟩ rfl rfl rfl rfl rfl named Tryz.func11 closed
  (of_decide_eq_true (by kernel_rfl)) wrap
  (fun os started H enc _ => lifted os started H enc)
theorem proved : Rows.RunReadsSaid := over
theorem card : Rows.RunReadsCardSaid :=
 Claim7.holds_tied_plain_at .later [] [.data, .data, .data, .sentinel, .sentinel] true (true, "eda6ade9e1bdf3a851e6393b75d2d75ef5a5fe54d233c7210b05027e9a32c534") true
  proved (fun _ h => by cases h) wfT (fun _ h => by cases h) runReads_row_tie rfl ⟨rfl, rfl⟩ mainT rfl
  (fun f fn hf hfn => by
   obtain rfl : f = 11 := Option.some.inj (named.symm.trans hf) |>.symm
   obtain rfl : fn = Tryz.f11 := (Option.some.inj (Tryz.func11.symm.trans hfn)).symm
   exact ⟨looksT, fun j t ht => by
    rw [Tryz.params11] at ht
    have hm : t ∈ [79, 5] := by simpa using Array.mem_of_getElem? ht
    exact (show Tryz.prog.wantsStandIn t = false by simpa using List.all_eq_true.1 standT t hm)⟩)
  goesT
end Go.Proofs.YtkinbnepkpoofaaGreatDoor.runReads
namespace Go.Proofs.YtkinbnepkpoofaaGreatDoor
theorem runReads_holds : Rows.RunReadsCardSaid := runReads.card
end Go.Proofs.YtkinbnepkpoofaaGreatDoor