/- Texts joined into one: LawRunBegins. -/
import Derived.Test.YtkinbnepkpoofaaGreatDoorRows
import Derived.Test.YtkinbnepkpoofaaGreatDoorCards
import Derived.Test.YtkinbnepkpoofaaGreatDoorTie
import Derived.Test.YtkinbnepkpoofaaGreatDoorVa
import Derived.Test.YtkinbnepkpoofaaGreatDoorKf
import Derived.WalkKit
import Derived.ProofKit
import Derived.OpenShut
import Derived.ShutString
import Derived.ChangeOld
import Derived.Below
import Derived.SizedLaws
import Derived.Carry
import Derived.LaidMore
import Derived.SevenTiedAt
/- The statement RunBegins: of every input, out of the law and the walk. -/
set_option linter.unusedVariables false
set_option maxRecDepth 100000
namespace Go.Proofs.YtkinbnepkpoofaaGreatDoor.runBegins
open Go.AM Go.ChangeShapes Go.WideShapes Go.ChangeAt Go.RowKit
theorem own : ownKnob Tryz.prog.godebug = none := by kernel_rfl
theorem laidOut : laidOutB Tryz.prog = true := by kernel_rfl
theorem door_met (os : Os) (args : Array Value) : laidMetH Tryz.prog Rows.runBeginsRow.laid ((World.doorLaid Tryz.prog 400 os).forCall (fun _ _ => 0) ⟨#[], args, []⟩).memory :=
 laidMetH_of_parts3 (fuel := 8) (laidMet_of_run' 8 (by kernel_rfl) (by kernel_rfl)) (by kernel_rfl) (by kernel_rfl)
theorem lifted (os : Os) (started : os.Started) (H : Type) (enc : TypeId × Value → H) :
  ReturnsInHanded {} Tryz.checked os 10 .any (fun w args => (Rows.runBeginsSpec.pre enc Tryz.prog Tryz.f10 [] false w args ∧ laidMetH Tryz.prog Rows.runBeginsRow.laid w) ∧ sizedMet enc Tryz.prog Tryz.f10 (OpenSpec.ofChange Rows.runBeginsSpec) false w args)
   (Rows.runBeginsSpec.post enc Tryz.prog Tryz.f10 false true false false) := by
 refine returnsInHanded_of_change_and (C := Tryz.checked) (X := fun w _ => laidMetH Tryz.prog Rows.runBeginsRow.laid w) (fun _ _ _ hh h => h.of_heap hh) own started (by kernel_rfl) Tryz.func10
  (ChangeSpec.witness_shaped (enc := enc) (C := Tryz.checked) (os := os) (X := fun w _ => laidMetH Tryz.prog Rows.runBeginsRow.laid w) false (World.doorLaid Tryz.prog 400 os) #[.slice none 0 0, .slice none 0 0, .bool false, .int .u8 0] 8 rfl (World.shaped_of_RefB (by kernel_rfl) (by kernel_rfl)) (by kernel_rfl) (by kernel_rfl) (by kernel_rfl) (door_met os _)) ?_
 intro W base args ds gs before hval0 hW hcnd hsz0 hL _
 have hval : ∀ (j : Nat) t v, Tryz.f10.params[j]? = some t → args[j]? = some v → Value.okWide Tryz.prog W .any base t v := hval0
 have hW' := hW
 obtain ⟨p, q, hA0, hV, rfl, hfz, hnd⟩ := hW
 have hA : DataW.TrodAll enc Tryz.prog W 0 (fun _ => true) true Tryz.f10.params.toList args.toList ds p := hA0
 rw [Tryz.params10] at hA hval
 obtain ⟨v0, vs0, d0, ds0, p0, q0, hargs, rfl, rfl, h0, r0⟩ := trodAll_cons hA
 obtain ⟨v1, vs1, d1, ds1, p1, q1, rfl, rfl, rfl, h1, r1⟩ := trodAll_cons r0
 obtain ⟨v2, vs2, d2, ds2, p2, q2, rfl, rfl, rfl, h2, r2⟩ := trodAll_cons r1
 obtain ⟨v3, vs3, d3, ds3, p3, q3, rfl, rfl, rfl, h3, r3⟩ := trodAll_cons r2
 obtain ⟨rfl, rfl, rfl⟩ := trodAll_nil r3
 obtain rfl : args = #[v0, v1, v2, v3] := by cases args; simp_all
 obtain ⟨rfl, rfl⟩ := trodVars_none hV
 have lt0 : ∀ x ∈ p0, x.block < W.heap.size := by obtain ⟨m, hm⟩ := h0; exact DataW.trod_lt m _ _ _ hm
 have o0 := hval 0 74 v0 rfl rfl
 have e0 : v0.cells.toList = [v0] := by
  unfold Value.okWide Cell.okWide Cell.ok at o0
  rw [Tryz.underlying74] at o0
  cases v0 <;> first | rfl | exact o0.elim
 obtain ⟨x0, w0, t0⟩ := arg_cell 12 (by kernel_rfl) e0 h0
 have lt1 : ∀ x ∈ p1, x.block < W.heap.size := by obtain ⟨m, hm⟩ := h1; exact DataW.trod_lt m _ _ _ hm
 have o1 := hval 1 74 v1 rfl rfl
 have e1 : v1.cells.toList = [v1] := by
  unfold Value.okWide Cell.okWide Cell.ok at o1
  rw [Tryz.underlying74] at o1
  cases v1 <;> first | rfl | exact o1.elim
 obtain ⟨x1, w1, t1⟩ := arg_cell 12 (by kernel_rfl) e1 h1
 have lt2 : ∀ x ∈ p2, x.block < W.heap.size := by obtain ⟨m, hm⟩ := h2; exact DataW.trod_lt m _ _ _ hm
 have o2 := hval 2 4 v2 rfl rfl
 have e2 : v2.cells.toList = [v2] := by
  unfold Value.okWide Cell.okWide Cell.ok at o2
  rw [Tryz.underlying4] at o2
  cases v2 <;> first | rfl | exact o2.elim
 obtain ⟨x2, w2, t2⟩ := arg_cell 12 (by kernel_rfl) e2 h2
 have lt3 : ∀ x ∈ p3, x.block < W.heap.size := by obtain ⟨m, hm⟩ := h3; exact DataW.trod_lt m _ _ _ hm
 have o3 := hval 3 5 v3 rfl rfl
 have e3 : v3.cells.toList = [v3] := by
  unfold Value.okWide Cell.okWide Cell.ok at o3
  rw [Tryz.underlying5] at o3
  cases v3 <;> first | rfl | exact o3.elim
 obtain ⟨x3, w3, t3⟩ := arg_cell 12 (by kernel_rfl) e3 h3
 refine (S.topS bk (f := 10) (w := W) (vals := [v0, v1, v2, v3]) (b := true) Tryz.func10 (by decide) rfl (.cons _ _ _ _ w0 (.cons _ _ _ _ w1 (.cons _ _ _ _ w2 (.cons _ _ _ _ w3 .nil)))) (body10 x0 t0 x1 t1 x2 t2 x3 t3)).mono fun e W' ⟨he, bel⟩ => ?_
 subst he
 exact ⟨_, rfl, _, _, _, [], _, [], hW', trodAll_mk1 (shut_bool Tryz.underlying4 _), (trodAll_cons_mk (Below.trod laidOut (by kernel_rfl) (of_decide_eq_true (by kernel_rfl)) h0 bel lt0) (trodAll_cons_mk (Below.trod laidOut (by kernel_rfl) (of_decide_eq_true (by kernel_rfl)) h1 bel lt1) (trodAll_cons_mk (Below.trod laidOut (by kernel_rfl) (of_decide_eq_true (by kernel_rfl)) h2 bel lt2) (trodAll_cons_mk (Below.trod laidOut (by kernel_rfl) (of_decide_eq_true (by kernel_rfl)) h3 bel lt3) trodAll_mk0)))), rfl, bel.frame _, fun h => by cases h⟩
theorem k0 : (Rows.runBeginsRow.wf (OpenSpec.ofChange Rows.runBeginsSpec)) = true := by kernel_rfl
theorem k1 : (laidOutB Tryz.prog) = true := by kernel_rfl
theorem k2 : (mapsRowed Tryz.prog) = true := by kernel_rfl
theorem k3 : (Tryz.f10.params.all (Tryz.prog.readableRec ·)) = true := by kernel_rfl
theorem k4 : (namedTie Tryz.prog Rows.runBeginsRow.named Rows.runBeginsSpec.vars) = true := by kernel_rfl
theorem k5 : ((Rows.runBeginsRow.stops == [])) = true := by kernel_rfl
theorem k6 : ((Tryz.prog.stops == [])) = true := by kernel_rfl
theorem k7 : ((Rows.runBeginsRow.knobs == [])) = true := by kernel_rfl
theorem k8 : ((Tryz.prog.stopKnobs == [])) = true := by kernel_rfl
theorem k9 : ((Rows.runBeginsRow.inPlace == Tryz.prog.inPlace 10)) = true := by kernel_rfl
theorem k10 : ((Rows.runBeginsRow.unfollowed == Tryz.prog.unfollowed 10)) = true := by kernel_rfl
theorem k11 : ((Rows.runBeginsRow.recurses == Tryz.prog.recurses 10)) = true := by kernel_rfl
theorem k12 : ((Rows.runBeginsRow.named == Tryz.prog.varsNamed 10)) = true := by kernel_rfl
theorem k13 : ((Rows.runBeginsRow.maps == (Tryz.f10.params.toList ++ Rows.runBeginsSpec.plain.varTypes Tryz.prog).any (Tryz.prog.mapsRec ·))) = true := by kernel_rfl
theorem k14 : ((Rows.runBeginsRow.ifaces == (Tryz.f10.params.toList ++ Rows.runBeginsSpec.plain.varTypes Tryz.prog).any (Tryz.prog.ifacesRec ·))) = true := by kernel_rfl
theorem k15 : ((Rows.runBeginsRow.mapsOut == Tryz.prog.mapsAmong Tryz.f10.resultTypes.toList)) = true := by kernel_rfl
theorem k16 : ((Rows.runBeginsRow.loops == (Tryz.f10.params.toList ++ Rows.runBeginsSpec.plain.varTypes Tryz.prog).any (Tryz.prog.loopsFrom ·))) = true := by kernel_rfl
theorem k17 : ((Rows.runBeginsRow.wideKeys == (Tryz.f10.params.toList ++ Rows.runBeginsSpec.plain.varTypes Tryz.prog ++ Tryz.f10.resultTypes.toList).any (Tryz.prog.wideKeysFrom ·))) = true := by kernel_rfl
theorem k18 : (Rows.runBeginsSpec.vars.all (Tryz.prog.varReadable ·)) = true := by kernel_rfl
theorem k19 : (Tryz.f10.resultTypes.all (fun t => Tryz.prog.readableRec t && decide (t < Tryz.prog.types.size))) = true := by kernel_rfl
theorem k20 : ((Rows.runBeginsRow.ifacesOut == Tryz.f10.resultTypes.toList.any (Tryz.prog.ifacesRec ·))) = true := by kernel_rfl
theorem k21 : ((Rows.runBeginsRow.loopsOut == Tryz.f10.resultTypes.toList.any (Tryz.prog.loopsFrom ·))) = true := by kernel_rfl
theorem k22 : ((Rows.runBeginsRow.plainKeys == Tryz.prog.plainKeys)) = true := by kernel_rfl
theorem k23 : (Rows.runBeginsRow.shortTexts.isNone) = true := by kernel_rfl
theorem k24 : (Tryz.prog.stopsHeard) = true := by kernel_rfl
theorem k25 : (Tryz.prog.mayEnter) = true := by kernel_rfl
theorem k26 : ((Rows.runBeginsRow.lifted == Tryz.prog.liftsFinal)) = true := by kernel_rfl
theorem k27 : ((Tryz.prog.make == some Rows.runBeginsRow.make)) = true := by kernel_rfl
theorem k28 : ((Rows.runBeginsRow.kinds == (if Rows.runBeginsRow.domain.isEmpty then [] else Tryz.f10.params.toList.map fun t => match Tryz.prog.underlying t with | some (.int k) => some k | _ => none))) = true := by kernel_rfl
theorem k29 : ((Rows.runBeginsRow.pinned == Rows.runBeginsRow.pinnedBy)) = true := by kernel_rfl
theorem k30 : ((Rows.runBeginsRow.veiled == (Tryz.f10.params.toList ++ Rows.runBeginsSpec.plain.varTypes Tryz.prog ++ Tryz.f10.resultTypes.toList).any (Tryz.prog.veiledRec ·))) = true := by kernel_rfl
theorem k31 : (Rows.runBeginsRow.veiledFits Tryz.prog Tryz.f10.params.toList (Tryz.f10.params.toList ++ Rows.runBeginsSpec.plain.varTypes Tryz.prog ++ Tryz.f10.resultTypes.toList)) = true := by kernel_rfl
theorem and_mk {a b : Bool} (h : a = true) (h2 : b = true) : (a && b) = true := by rw [h, h2]; rfl
theorem closed : joinedFacts Tryz.prog 10 Tryz.f10 Rows.runBeginsSpec Rows.runBeginsRow = true := (and_mk (and_mk (and_mk (and_mk (and_mk (and_mk (and_mk (and_mk (and_mk (and_mk (and_mk (and_mk (and_mk (and_mk (and_mk (and_mk (and_mk (and_mk (and_mk (and_mk (and_mk (and_mk (and_mk (and_mk (and_mk (and_mk (and_mk (and_mk (and_mk (and_mk (and_mk k0 k1) k2) k3) k4) k5) k6) k7) k8) k9) k10) k11) k12) k13) k14) k15) k16) k17) k18) k19) k20) k21) k22) k23) k24) k25) k26) k27) k28) k29) k30) k31)
theorem named : Tryz.prog.funcNamed "billhook/billhooklaw08.RunBegins" = some 10 := by kernel_rfl
theorem wrap : Tryz.f10.isWrapper Tryz.prog Rows.runBeginsRow.wrapper Rows.runBeginsRow.mainSum := by unfold Func.isWrapper; first | (rw [if_pos (by decide +kernel)]; kernel_rfl) | (rw [if_neg (by decide +kernel)]; exact ⟨rfl, rfl⟩)
theorem over : Rows.runBeginsRow.holds Tryz.pinned (OpenSpec.ofChange Rows.runBeginsSpec) :=
 OpenClaim.holds_of_wide 10 Tryz.f10 rfl rfl rfl rfl rfl rfl rfl ⟨rfl, rfl, rfl, rfl, rfl⟩ rfl rfl rfl rfl rfl named Tryz.func10 closed
  (of_decide_eq_true (by kernel_rfl)) wrap
  (fun os started H enc _ => lifted os started H enc)
theorem proved : Rows.RunBeginsSaid := over
theorem wfT : Rows.runBeginsRow.wfByText (OpenSpec.ofChange Rows.runBeginsSpec) = true := by kernel_rfl
theorem mainT : Tryz.prog.mainIs = some (true, ("eda6ade9e1bdf3a851e6393b75d2d75ef5a5fe54d233c7210b05027e9a32c534" : String).toList) := by kernel_rfl
theorem looksT : true = Tryz.prog.looks [] := by kernel_rfl
theorem standT : ([74, 74, 4, 5].all fun u => !Tryz.prog.wantsStandIn u) = true := by kernel_rfl
theorem goesT : false = Rows.runBeginsRow.goesBy Tryz.prog := by kernel_rfl
theorem card : Rows.RunBeginsCardSaid :=
 Claim7.holds_tied_plain_at .later [] [.data, .data, .data, .sentinel, .sentinel] true (true, "eda6ade9e1bdf3a851e6393b75d2d75ef5a5fe54d233c7210b05027e9a32c534") true
  proved (fun _ h => by cases h) wfT (fun _ h => by cases h) runBegins_row_tie rfl ⟨rfl, rfl⟩ mainT rfl
  (fun f fn hf hfn => by
   obtain rfl : f = 10 := Option.some.inj (named.symm.trans hf) |>.symm
   obtain rfl : fn = Tryz.f10 := (Option.some.inj (Tryz.func10.symm.trans hfn)).symm
   exact ⟨looksT, fun j t ht => by
    rw [Tryz.params10] at ht
    have hm : t ∈ [74, 74, 4, 5] := by simpa using Array.mem_of_getElem? ht
    exact (show Tryz.prog.wantsStandIn t = false by simpa using List.all_eq_true.1 standT t hm)⟩)
  goesT
end Go.Proofs.YtkinbnepkpoofaaGreatDoor.runBegins
namespace Go.Proofs.YtkinbnepkpoofaaGreatDoor
theorem runBegins_holds : Rows.RunBeginsCardSaid := runBegins.card
end Go.Proofs.YtkinbnepkpoofaaGreatDoor