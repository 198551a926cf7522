/- Texts joined into one: FactCheckTags. -/
import Derived.Test.YtkinbnepkpoofaaGreatDoorRows
import Derived.Test.YtkinbnepkpoofaaGreatDoorCards
import Derived.Test.YtkinbnepkpoofaaGreatDoorTie
import Derived.WalkKit
import Derived.ProofKit
import Derived.OpenShut
import Derived.ShutString
import Derived.ChangeOld
import Derived.Below
import Derived.SizedLaws
import Derived.Carry
import Derived.LaidMore
import Derived.SevenTiedAt
/- The statement CheckTags: of every input,out of the law and the walk. -/
set_option linter.unusedVariables false
set_option maxRecDepth 100000
namespace Go.Proofs.YtkinbnepkpoofaaGreatDoor.checkTags
open Go.ChangeShapes Go.WideShapes Go.ChangeAt Go.RowKit
theorem own : ownKnob Tryz.prog.godebug = none:=by kernel_rfl
theorem laidOut : laidOutB Tryz.prog = true:=by kernel_rfl
theorem door_met (os:Os) (args:Array Value) : laidMetH Tryz.prog Rows.checkTagsRow.laid ((World.doorLaid Tryz.prog 400 os).forCall (fun _ _=>0) ⟨#[],args,[]⟩).memory :=
 laidMetH_of_parts3 (fuel:=8) (laidMet_of_run' 8 (by kernel_rfl) (by kernel_rfl)) (by kernel_rfl) (by kernel_rfl)
theorem k0 : (Rows.checkTagsRow.wf (OpenSpec.ofChange Rows.checkTagsSpec)) = true:=by kernel_rfl
theorem k1 : (laidOutB Tryz.prog) = true:=by kernel_rfl
theorem k2 : (mapsRowed Tryz.prog) = true:=by kernel_rfl
theorem k3 : (Tryz.f4.params.all (Tryz.prog.readableRec ·)) = true:=by kernel_rfl
theorem k4 : (namedTie Tryz.prog Rows.checkTagsRow.named Rows.checkTagsSpec.vars) = true:=by kernel_rfl
theorem k5 : ((Rows.checkTagsRow.stops == [])) = true:=by kernel_rfl
theorem k6 : ((Tryz.prog.stops == [])) = true:=by kernel_rfl
theorem k7 : ((Rows.checkTagsRow.knobs == [])) = true:=by kernel_rfl
theorem k8 : ((Tryz.prog.stopKnobs == [])) = true:=by kernel_rfl
theorem k9 : ((Rows.checkTagsRow.inPlace == Tryz.prog.inPlace 4)) = true:=by kernel_rfl
theorem k10 : ((Rows.checkTagsRow.unfollowed == Tryz.prog.unfollowed 4)) = true:=by kernel_rfl
theorem k11 : ((Rows.checkTagsRow.recurses == Tryz.prog.recurses 4)) = true:=by kernel_rfl
theorem k12 : ((Rows.checkTagsRow.named == Tryz.prog.varsNamed 4)) = true:=by kernel_rfl
theorem k13 : ((Rows.checkTagsRow.maps == (Tryz.f4.params.toList ++ Rows.checkTagsSpec.plain.varTypes Tryz.prog).any (Tryz.prog.mapsRec ·))) = true:=by kernel_rfl
theorem k14 : ((Rows.checkTagsRow.ifaces == (Tryz.f4.params.toList ++ Rows.checkTagsSpec.plain.varTypes Tryz.prog).any (Tryz.prog.ifacesRec ·))) = true:=by kernel_rfl
theorem k15 : ((Rows.checkTagsRow.mapsOut == Tryz.prog.mapsAmong Tryz.f4.resultTypes.toList)) = true:=by kernel_rfl
theorem k16 : ((Rows.checkTagsRow.loops == (Tryz.f4.params.toList ++ Rows.checkTagsSpec.plain.varTypes Tryz.prog).any (Tryz.prog.loopsFrom ·))) = true:=by kernel_rfl
theorem k17 : ((Rows.checkTagsRow.wideKeys == (Tryz.f4.params.toList ++ Rows.checkTagsSpec.plain.varTypes Tryz.prog ++ Tryz.f4.resultTypes.toList).any (Tryz.prog.wideKeysFrom ·))) = true:=by kernel_rfl
theorem k18 : (Rows.checkTagsSpec.vars.all (Tryz.prog.varReadable ·)) = true:=by kernel_rfl
theorem k19 : (Tryz.f4.resultTypes.all (fun t=>Tryz.prog.readableRec t && decide (t < Tryz.prog.types.size))) = true:=by kernel_rfl
theorem k20 : ((Rows.checkTagsRow.ifacesOut == Tryz.f4.resultTypes.toList.any (Tryz.prog.ifacesRec ·))) = true:=by kernel_rfl
theorem k21 : ((Rows.checkTagsRow.loopsOut == Tryz.f4.resultTypes.toList.any (Tryz.prog.loopsFrom ·))) = true:=by kernel_rfl
theorem k22 : ((Rows.checkTagsRow.plainKeys == Tryz.prog.plainKeys)) = true:=by kernel_rfl
theorem k23 : (Rows.checkTagsRow.shortTexts.isNone) = true:=by kernel_rfl
theorem k24 : (Tryz.prog.stopsHeard) = true:=by kernel_rfl
theorem k25 : (Tryz.prog.mayEnter) = true:=by kernel_rfl
theorem k26 : ((Rows.checkTagsRow.lifted == Tryz.prog.liftsFinal)) = true:=by kernel_rfl
theorem k27 : ((Tryz.prog.make == some Rows.checkTagsRow.make)) = true:=by kernel_rfl
theorem k28 : ((Rows.checkTagsRow.kinds == (if Rows.checkTagsRow.domain.isEmpty then [] else Tryz.f4.params.toList.map fun t=>match Tryz.prog.underlying t with | some (.int k)=>some k | _=>none))) = true:=by kernel_rfl
theorem k29 : ((Rows.checkTagsRow.pinned == Rows.checkTagsRow.pinnedBy)) = true:=by kernel_rfl
theorem k30 : ((Rows.checkTagsRow.veiled == (Tryz.f4.params.toList ++ Rows.checkTagsSpec.plain.varTypes Tryz.prog ++ Tryz.f4.resultTypes.toList).any (Tryz.prog.veiledRec ·))) = true:=by kernel_rfl
theorem k31 : (Rows.checkTagsRow.veiledFits Tryz.prog Tryz.f4.params.toList (Tryz.f4.params.toList ++ Rows.checkTagsSpec.plain.varTypes Tryz.prog ++ Tryz.f4.resultTypes.toList)) = true:=by kernel_rfl
theorem and_mk {a b:Bool} (h:a = true) (h2:b = true) : (a && b) = true:=by rw [h,h2]; rfl
theorem closed : joinedFacts Tryz.prog 4 Tryz.f4 Rows.checkTagsSpec Rows.checkTagsRow = true:=(and_mk (and_mk (and_mk (and_mk (and_mk (and_mk (and_mk (and_mk (and_mk (and_mk (and_mk (and_mk (and_mk (and_mk (and_mk (and_mk (and_mk (and_mk (and_mk (and_mk (and_mk (and_mk (and_mk (and_mk (and_mk (and_mk (and_mk (and_mk (and_mk (and_mk (and_mk k0 k1) k2) k3) k4) k5) k6) k7) k8) k9) k10) k11) k12) k13) k14) k15) k16) k17) k18) k19) k20) k21) k22) k23) k24) k25) k26) k27) k28) k29) k30) k31)
theorem named : Tryz.prog.funcNamed "billhook/billhooklaw05.CheckTags" = some 4 := by kernel_rfl
theorem wrap : Tryz.f4.isWrapper Tryz.prog Rows.checkTagsRow.wrapper Rows.checkTagsRow.mainSum:=by unfold Func.isWrapper; first | (rw [if_pos (by decide +kernel)]; kernel_rfl) | (rw [if_neg (by decide +kernel)]; exact ⟨rfl,rfl⟩)
theorem wfT : Rows.checkTagsRow.wfByText (OpenSpec.ofChange Rows.checkTagsSpec) = true:=by kernel_rfl
theorem mainT : Tryz.prog.mainIs = some (true, ("eda6ade9e1bdf3a851e6393b75d2d75ef5a5fe54d233c7210b05027e9a32c534" : String).toList) := by kernel_rfl
theorem looksT : true = Tryz.prog.looks []:=by kernel_rfl
theorem standT : ([27,5].all fun u=>!Tryz.prog.wantsStandIn u) = true:=by kernel_rfl
theorem goesT : false = Rows.checkTagsRow.goesBy Tryz.prog:=by kernel_rfl
end Go.Proofs.YtkinbnepkpoofaaGreatDoor.checkTags