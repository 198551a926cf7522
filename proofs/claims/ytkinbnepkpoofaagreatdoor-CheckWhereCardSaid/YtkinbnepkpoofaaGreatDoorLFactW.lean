/- Texts joined into one: FactCheckWhere. -/
import Derived.Test.YtkinbnepkpoofaaGreatDoorRows
import Derived.Test.YtkinbnepkpoofaaGreatDoorCards
import Derived.Test.YtkinbnepkpoofaaGreatDoorTie
import Derived.WalkKit
import Derived.ProofKit
import Derived.OpenShut
import Derived.ShutString
import Derived.ChangeOld
import Derived.Below
import Derived.SizedLaws
import Derived.Carry
import Derived.LaidMore
import Derived.SevenTiedAt
/- The statement CheckWhere: of every input,out of the law and the walk. -/
set_option linter.unusedVariables false
set_option maxRecDepth 100000
namespace Go.Proofs.YtkinbnepkpoofaaGreatDoor.checkWhere
open Go.ChangeShapes Go.WideShapes Go.ChangeAt Go.RowKit
theorem own : ownKnob Tryz.prog.godebug = none:=by kernel_rfl
theorem laidOut : laidOutB Tryz.prog = true:=by kernel_rfl
theorem door_met (os:Os) (args:Array Value) : laidMetH Tryz.prog Rows.checkWhereRow.laid ((World.doorLaid Tryz.prog 400 os).forCall (fun _ _=>0) ⟨#[],args,[]⟩).memory :=
 laidMetH_of_parts3 (fuel:=8) (laidMet_of_run' 8 (by kernel_rfl) (by kernel_rfl)) (by kernel_rfl) (by kernel_rfl)
theorem k0 : (Rows.checkWhereRow.wf (OpenSpec.ofChange Rows.checkWhereSpec)) = true:=by kernel_rfl
theorem k1 : (laidOutB Tryz.prog) = true:=by kernel_rfl
theorem k2 : (mapsRowed Tryz.prog) = true:=by kernel_rfl
theorem k3 : (Tryz.f5.params.all (Tryz.prog.readableRec ·)) = true:=by kernel_rfl
theorem k4 : (namedTie Tryz.prog Rows.checkWhereRow.named Rows.checkWhereSpec.vars) = true:=by kernel_rfl
theorem k5 : ((Rows.checkWhereRow.stops == [])) = true:=by kernel_rfl
theorem k6 : ((Tryz.prog.stops == [])) = true:=by kernel_rfl
theorem k7 : ((Rows.checkWhereRow.knobs == [])) = true:=by kernel_rfl
theorem k8 : ((Tryz.prog.stopKnobs == [])) = true:=by kernel_rfl
theorem k9 : ((Rows.checkWhereRow.inPlace == Tryz.prog.inPlace 5)) = true:=by kernel_rfl
theorem k10 : ((Rows.checkWhereRow.unfollowed == Tryz.prog.unfollowed 5)) = true:=by kernel_rfl
theorem k11 : ((Rows.checkWhereRow.recurses == Tryz.prog.recurses 5)) = true:=by kernel_rfl
theorem k12 : ((Rows.checkWhereRow.named == Tryz.prog.varsNamed 5)) = true:=by kernel_rfl
theorem k13 : ((Rows.checkWhereRow.maps == (Tryz.f5.params.toList ++ Rows.checkWhereSpec.plain.varTypes Tryz.prog).any (Tryz.prog.mapsRec ·))) = true:=by kernel_rfl
theorem k14 : ((Rows.checkWhereRow.ifaces == (Tryz.f5.params.toList ++ Rows.checkWhereSpec.plain.varTypes Tryz.prog).any (Tryz.prog.ifacesRec ·))) = true:=by kernel_rfl
theorem k15 : ((Rows.checkWhereRow.mapsOut == Tryz.prog.mapsAmong Tryz.f5.resultTypes.toList)) = true:=by kernel_rfl
theorem k16 : ((Rows.checkWhereRow.loops == (Tryz.f5.params.toList ++ Rows.checkWhereSpec.plain.varTypes Tryz.prog).any (Tryz.prog.loopsFrom ·))) = true:=by kernel_rfl
theorem k17 : ((Rows.checkWhereRow.wideKeys == (Tryz.f5.params.toList ++ Rows.checkWhereSpec.plain.varTypes Tryz.prog ++ Tryz.f5.resultTypes.toList).any (Tryz.prog.wideKeysFrom ·))) = true:=by kernel_rfl
theorem k18 : (Rows.checkWhereSpec.vars.all (Tryz.prog.varReadable ·)) = true:=by kernel_rfl
theorem k19 : (Tryz.f5.resultTypes.all (fun t=>Tryz.prog.readableRec t && decide (t < Tryz.prog.types.size))) = true:=by kernel_rfl
theorem k20 : ((Rows.checkWhereRow.ifacesOut == Tryz.f5.resultTypes.toList.any (Tryz.prog.ifacesRec ·))) = true:=by kernel_rfl
theorem k21 : ((Rows.checkWhereRow.loopsOut == Tryz.f5.resultTypes.toList.any (Tryz.prog.loopsFrom ·))) = true:=by kernel_rfl
theorem k22 : ((Rows.checkWhereRow.plainKeys == Tryz.prog.plainKeys)) = true:=by kernel_rfl
theorem k23 : (Rows.checkWhereRow.shortTexts.isNone) = true:=by kernel_rfl
theorem k24 : (Tryz.prog.stopsHeard) = true:=by kernel_rfl
theorem k25 : (Tryz.prog.mayEnter) = true:=by kernel_rfl
theorem k26 : ((Rows.checkWhereRow.lifted == Tryz.prog.liftsFinal)) = true:=by kernel_rfl
theorem k27 : ((Tryz.prog.make == some Rows.checkWhereRow.make)) = true:=by kernel_rfl
theorem k28 : ((Rows.checkWhereRow.kinds == (if Rows.checkWhereRow.domain.isEmpty then [] else Tryz.f5.params.toList.map fun t=>match Tryz.prog.underlying t with | some (.int k)=>some k | _=>none))) = true:=by kernel_rfl
theorem k29 : ((Rows.checkWhereRow.pinned == Rows.checkWhereRow.pinnedBy)) = true:=by kernel_rfl
theorem k30 : ((Rows.checkWhereRow.veiled == (Tryz.f5.params.toList ++ Rows.checkWhereSpec.plain.varTypes Tryz.prog ++ Tryz.f5.resultTypes.toList).any (Tryz.prog.veiledRec ·))) = true:=by kernel_rfl
theorem k31 : (Rows.checkWhereRow.veiledFits Tryz.prog Tryz.f5.params.toList (Tryz.f5.params.toList ++ Rows.checkWhereSpec.plain.varTypes Tryz.prog ++ Tryz.f5.resultTypes.toList)) = true:=by kernel_rfl
theorem and_mk {a b:Bool} (h:a = true) (h2:b = true) : (a && b) = true:=by rw [h,h2]; rfl
theorem closed : joinedFacts Tryz.prog 5 Tryz.f5 Rows.checkWhereSpec Rows.checkWhereRow = true:=(and_mk (and_mk (and_mk (and_mk (and_mk (and_mk (and_mk (and_mk (and_mk (and_mk (and_mk (and_mk (and_mk (and_mk (and_mk (and_mk (and_mk (and_mk (and_mk (and_mk (and_mk (and_mk (and_mk (and_mk (and_mk (and_mk (and_mk (and_mk (and_mk (and_mk (and_mk k0 k1) k2) k3) k4) k5) k6) k7) k8) k9) k10) k11) k12) k13) k14) k15) k16) k17) k18) k19) k20) k21) k22) k23) k24) k25) k26) k27) k28) k29) k30) k31)
theorem named : Tryz.prog.funcNamed "billhook/billhooklaw05.CheckWhere" = some 5 := by kernel_rfl
theorem wrap : Tryz.f5.isWrapper Tryz.prog Rows.checkWhereRow.wrapper Rows.checkWhereRow.mainSum:=by unfold Func.isWrapper; first | (rw [if_pos (by decide +kernel)]; kernel_rfl) | (rw [if_neg (by decide +kernel)]; exact ⟨rfl,rfl⟩)
theorem wfT : Rows.checkWhereRow.wfByText (OpenSpec.ofChange Rows.checkWhereSpec) = true:=by kernel_rfl
theorem mainT : Tryz.prog.mainIs = some (true, ("eda6ade9e1bdf3a851e6393b75d2d75ef5a5fe54d233c7210b05027e9a32c534" : String).toList) := by kernel_rfl
theorem looksT : true = Tryz.prog.looks []:=by kernel_rfl
theorem standT : ([27,4,4,4].all fun u=>!Tryz.prog.wantsStandIn u) = true:=by kernel_rfl
theorem goesT : false = Rows.checkWhereRow.goesBy Tryz.prog:=by kernel_rfl
end Go.Proofs.YtkinbnepkpoofaaGreatDoor.checkWhere