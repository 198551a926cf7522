/- Texts joined into one: LawCheckTags. -/
import Derived.Test.YtkinbnepkpoofaaGreatDoorRows
import Derived.Test.YtkinbnepkpoofaaGreatDoorCards
import Derived.Test.YtkinbnepkpoofaaGreatDoorTie
import Derived.Test.YtkinbnepkpoofaaGreatDoorTc
import Derived.Test.YtkinbnepkpoofaaGreatDoorJh
import Derived.WalkKit
import Derived.ProofKit
import Derived.OpenShut
import Derived.ShutString
import Derived.ChangeOld
import Derived.Below
import Derived.SizedLaws
import Derived.Carry
import Derived.LaidMore
import Derived.SevenTiedAt
import Derived.Test.YtkinbnepkpoofaaGreatDoorLFactS
/- The statement CheckTags: of every input,out of the law and the walk. -/
set_option linter.unusedVariables false
set_option maxRecDepth 100000
namespace Go.Proofs.YtkinbnepkpoofaaGreatDoor.checkTags
open Go.AM Go.ChangeShapes Go.WideShapes Go.ChangeAt Go.RowKit
theorem lifted (os:Os) (started:os.Started) (H:Type) (enc:TypeId × Value → H) :
  ReturnsInHanded {} Tryz.checked os 4 .any (fun w args=>(Rows.checkTagsSpec.pre enc Tryz.prog Tryz.f4 [] false w args ∧ laidMetH Tryz.prog Rows.checkTagsRow.laid w) ∧ sizedMet enc Tryz.prog Tryz.f4 (OpenSpec.ofChange Rows.checkTagsSpec) false w args)
   (Rows.checkTagsSpec.post enc Tryz.prog Tryz.f4 false true false false):=by
 refine returnsInHanded_of_change_and (C:=Tryz.checked) (X:=fun w _=>laidMetH Tryz.prog Rows.checkTagsRow.laid w) (fun _ _ _ hh h=>h.of_heap hh) own started (by kernel_rfl) Tryz.func4
  (ChangeSpec.witness_shaped (enc:=enc) (C:=Tryz.checked) (os:=os) (X:=fun w _=>laidMetH Tryz.prog Rows.checkTagsRow.laid w) false (World.doorLaid Tryz.prog 400 os) #[.agg #[.slice none 0 0,.bool false,.slice none 0 0,.slice none 0 0],.int .u8 0] 8 rfl (World.shaped_of_RefB (by kernel_rfl) (by kernel_rfl)) (by kernel_rfl) (by kernel_rfl) (by kernel_rfl) (door_met os _)) ?_
 intro W base args ds gs before hval0 hW hcnd hsz0 hL _
 have hval : ∀ (j:Nat) t v,Tryz.f4.params[j]? = some t → args[j]? = some v → Value.okWide Tryz.prog W .any base t v:=hval0
 have hW':=hW
 obtain ⟨p,q,hA0,hV,rfl,hfz,hnd⟩:=hW
 have hA : DataW.TrodAll enc Tryz.prog W 0 (fun _=>true) true Tryz.f4.params.toList args.toList ds p:=hA0
 rw [Tryz.params4] at hA hval
 obtain ⟨v0,vs0,d0,ds0,p0,q0,hargs,rfl,rfl,h0,r0⟩:=trodAll_cons hA
 obtain ⟨v1,vs1,d1,ds1,p1,q1,rfl,rfl,rfl,h1,r1⟩:=trodAll_cons r0
 obtain ⟨rfl,rfl,rfl⟩:=trodAll_nil r1
 obtain rfl : args = #[v0,v1]:=by cases args; simp_all
 obtain ⟨rfl,rfl⟩:=trodVars_none hV
 have lt0 : ∀ x ∈ p0,x.block < W.heap.size:=by obtain ⟨m,hm⟩:=h0; exact DataW.trod_lt m _ _ _ hm
 have o0:=hval 0 27 v0 rfl rfl
 obtain ⟨c0,rfl⟩ : ∃ c,v0 = .agg c:=by
  unfold Value.okWide at o0
  rw [Tryz.underlying27] at o0
  obtain ⟨c,hc,_⟩:=o0
  exact ⟨c,hc⟩
 obtain ⟨n0,x0,w0,t0⟩:=arg_structC codeTs (by kernel_rfl) (by kernel_rfl) h0
 have lt1 : ∀ x ∈ p1,x.block < W.heap.size:=by obtain ⟨m,hm⟩:=h1; exact DataW.trod_lt m _ _ _ hm
 have o1:=hval 1 5 v1 rfl rfl
 have e1 : v1.cells.toList = [v1]:=by
  unfold Value.okWide Cell.okWide Cell.ok at o1
  rw [Tryz.underlying5] at o1
  cases v1 <;> first | rfl | exact o1.elim
 obtain ⟨x1,w1,t1⟩:=arg_cell 12 (by kernel_rfl) e1 h1
 refine (S.topS bk (f:=4) (w:=W) (vals:=[.agg c0,v1]) (b:=true) Tryz.func4 (by decide) rfl (.cons _ _ _ _ w0 (.cons _ _ _ _ w1 .nil)) (body4 x0 t0 x1 t1)).mono fun e W' ⟨he,bel⟩=>?_
 subst he
 exact ⟨_, rfl, _, _, _, [], _, [], hW', trodAll_mk1 (shut_bool Tryz.underlying4 _), (trodAll_cons_mk (Below.trod laidOut (by kernel_rfl) (of_decide_eq_true (by kernel_rfl)) h0 bel lt0) (trodAll_cons_mk (Below.trod laidOut (by kernel_rfl) (of_decide_eq_true (by kernel_rfl)) h1 bel lt1) trodAll_mk0)), rfl, bel.frame _, fun h => by cases h⟩
theorem over : Rows.checkTagsRow.holds Tryz.pinned (OpenSpec.ofChange Rows.checkTagsSpec) :=
 OpenClaim.holds_of_wide 4 Tryz.f4 rfl rfl rfl rfl rfl rfl rfl ⟨rfl,rfl,rfl,rfl,rfl⟩ rfl rfl rfl rfl rfl named Tryz.func4 closed
  (of_decide_eq_true (by kernel_rfl)) wrap
  (fun os started H enc _=>lifted os started H enc)
theorem proved : Rows.CheckTagsSaid:=over
theorem card : Rows.CheckTagsCardSaid :=
 Claim7.holds_tied_plain_at .later [] [.data, .data, .data, .sentinel, .sentinel] true (true, "eda6ade9e1bdf3a851e6393b75d2d75ef5a5fe54d233c7210b05027e9a32c534") true
  proved (fun _ h=>by cases h) wfT (fun _ h=>by cases h) checkTags_row_tie rfl ⟨rfl,rfl⟩ mainT rfl
  (fun f fn hf hfn=>by
   obtain rfl : f = 4:=Option.some.inj (named.symm.trans hf) |>.symm
   obtain rfl : fn = Tryz.f4:=(Option.some.inj (Tryz.func4.symm.trans hfn)).symm
   exact ⟨looksT,fun j t ht=>by
    rw [Tryz.params4] at ht
    have hm : t ∈ [27,5]:=by simpa using Array.mem_of_getElem? ht
    exact (show Tryz.prog.wantsStandIn t = false by simpa using List.all_eq_true.1 standT t hm)⟩)
  goesT
end Go.Proofs.YtkinbnepkpoofaaGreatDoor.checkTags
namespace Go.Proofs.YtkinbnepkpoofaaGreatDoor
theorem checkTags_holds : Rows.CheckTagsCardSaid:=checkTags.card
end Go.Proofs.YtkinbnepkpoofaaGreatDoor