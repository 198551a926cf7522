/- Texts joined into one: LawCheckWhere. -/
import Derived.Test.YtkinbnepkpoofaaGreatDoorRows
import Derived.Test.YtkinbnepkpoofaaGreatDoorCards
import Derived.Test.YtkinbnepkpoofaaGreatDoorTie
import Derived.Test.YtkinbnepkpoofaaGreatDoorTe
import Derived.Test.YtkinbnepkpoofaaGreatDoorJh
import Derived.WalkKit
import Derived.ProofKit
import Derived.OpenShut
import Derived.ShutString
import Derived.ChangeOld
import Derived.Below
import Derived.SizedLaws
import Derived.Carry
import Derived.LaidMore
import Derived.SevenTiedAt
import Derived.Test.YtkinbnepkpoofaaGreatDoorLFactW
/- The statement CheckWhere: of every input,out of the law and the walk. -/
set_option linter.unusedVariables false
set_option maxRecDepth 100000
namespace Go.Proofs.YtkinbnepkpoofaaGreatDoor.checkWhere
open Go.AM Go.ChangeShapes Go.WideShapes Go.ChangeAt Go.RowKit
theorem lifted (os:Os) (started:os.Started) (H:Type) (enc:TypeId × Value → H) :
  ReturnsInHanded {} Tryz.checked os 5 .any (fun w args=>(Rows.checkWhereSpec.pre enc Tryz.prog Tryz.f5 [] false w args ∧ laidMetH Tryz.prog Rows.checkWhereRow.laid w) ∧ sizedMet enc Tryz.prog Tryz.f5 (OpenSpec.ofChange Rows.checkWhereSpec) false w args)
   (Rows.checkWhereSpec.post enc Tryz.prog Tryz.f5 false true false false):=by
 refine returnsInHanded_of_change_and (C:=Tryz.checked) (X:=fun w _=>laidMetH Tryz.prog Rows.checkWhereRow.laid w) (fun _ _ _ hh h=>h.of_heap hh) own started (by kernel_rfl) Tryz.func5
  (ChangeSpec.witness_shaped (enc:=enc) (C:=Tryz.checked) (os:=os) (X:=fun w _=>laidMetH Tryz.prog Rows.checkWhereRow.laid w) false (World.doorLaid Tryz.prog 400 os) #[.agg #[.slice none 0 0,.bool false,.slice none 0 0,.slice none 0 0],.bool false,.bool false,.bool false] 8 rfl (World.shaped_of_RefB (by kernel_rfl) (by kernel_rfl)) (by kernel_rfl) (by kernel_rfl) (by kernel_rfl) (door_met os _)) ?_
 intro W base args ds gs before hval0 hW hcnd hsz0 hL _
 have hval : ∀ (j:Nat) t v,Tryz.f5.params[j]? = some t → args[j]? = some v → Value.okWide Tryz.prog W .any base t v:=hval0
 have hW':=hW
 obtain ⟨p,q,hA0,hV,rfl,hfz,hnd⟩:=hW
 have hA : DataW.TrodAll enc Tryz.prog W 0 (fun _=>true) true Tryz.f5.params.toList args.toList ds p:=hA0
 rw [Tryz.params5] at hA hval
 obtain ⟨v0,vs0,d0,ds0,p0,q0,hargs,rfl,rfl,h0,r0⟩:=trodAll_cons hA
 obtain ⟨v1,vs1,d1,ds1,p1,q1,rfl,rfl,rfl,h1,r1⟩:=trodAll_cons r0
 obtain ⟨v2,vs2,d2,ds2,p2,q2,rfl,rfl,rfl,h2,r2⟩:=trodAll_cons r1
 obtain ⟨v3,vs3,d3,ds3,p3,q3,rfl,rfl,rfl,h3,r3⟩:=trodAll_cons r2
 obtain ⟨rfl,rfl,rfl⟩:=trodAll_nil r3
 obtain rfl : args = #[v0,v1,v2,v3]:=by cases args; simp_all
 obtain ⟨rfl,rfl⟩:=trodVars_none hV
 have lt0 : ∀ x ∈ p0,x.block < W.heap.size:=by obtain ⟨m,hm⟩:=h0; exact DataW.trod_lt m _ _ _ hm
 have o0:=hval 0 27 v0 rfl rfl
 obtain ⟨c0,rfl⟩ : ∃ c,v0 = .agg c:=by
  unfold Value.okWide at o0
  rw [Tryz.underlying27] at o0
  obtain ⟨c,hc,_⟩:=o0
  exact ⟨c,hc⟩
 obtain ⟨n0,x0,w0,t0⟩:=arg_structC codeTs (by kernel_rfl) (by kernel_rfl) h0
 have lt1 : ∀ x ∈ p1,x.block < W.heap.size:=by obtain ⟨m,hm⟩:=h1; exact DataW.trod_lt m _ _ _ hm
 have o1:=hval 1 4 v1 rfl rfl
 have e1 : v1.cells.toList = [v1]:=by
  unfold Value.okWide Cell.okWide Cell.ok at o1
  rw [Tryz.underlying4] at o1
  cases v1 <;> first | rfl | exact o1.elim
 obtain ⟨x1,w1,t1⟩:=arg_cell 12 (by kernel_rfl) e1 h1
 have lt2 : ∀ x ∈ p2,x.block < W.heap.size:=by obtain ⟨m,hm⟩:=h2; exact DataW.trod_lt m _ _ _ hm
 have o2:=hval 2 4 v2 rfl rfl
 have e2 : v2.cells.toList = [v2]:=by
  unfold Value.okWide Cell.okWide Cell.ok at o2
  rw [Tryz.underlying4] at o2
  cases v2 <;> first | rfl | exact o2.elim
 obtain ⟨x2,w2,t2⟩:=arg_cell 12 (by kernel_rfl) e2 h2
 have lt3 : ∀ x ∈ p3,x.block < W.heap.size:=by obtain ⟨m,hm⟩:=h3; exact DataW.trod_lt m _ _ _ hm
 have o3:=hval 3 4 v3 rfl rfl
 have e3 : v3.cells.toList = [v3]:=by
  unfold Value.okWide Cell.okWide Cell.ok at o3
  rw [Tryz.underlying4] at o3
  cases v3 <;> first | rfl | exact o3.elim
 obtain ⟨x3,w3,t3⟩:=arg_cell 12 (by kernel_rfl) e3 h3
 refine (S.topS bk (f:=5) (w:=W) (vals:=[.agg c0,v1,v2,v3]) (b:=true) Tryz.func5 (by decide) rfl (.cons _ _ _ _ w0 (.cons _ _ _ _ w1 (.cons _ _ _ _ w2 (.cons _ _ _ _ w3 .nil)))) (body5 x0 t0 x1 t1 x2 t2 x3 t3)).mono fun e W' ⟨he,bel⟩=>?_
 subst he
 exact ⟨_, rfl, _, _, _, [], _, [], hW', trodAll_mk1 (shut_bool Tryz.underlying4 _), (trodAll_cons_mk (Below.trod laidOut (by kernel_rfl) (of_decide_eq_true (by kernel_rfl)) h0 bel lt0) (trodAll_cons_mk (Below.trod laidOut (by kernel_rfl) (of_decide_eq_true (by kernel_rfl)) h1 bel lt1) (trodAll_cons_mk (Below.trod laidOut (by kernel_rfl) (of_decide_eq_true (by kernel_rfl)) h2 bel lt2) (trodAll_cons_mk (Below.trod laidOut (by kernel_rfl) (of_decide_eq_true (by kernel_rfl)) h3 bel lt3) trodAll_mk0)))), rfl, bel.frame _, fun h => by cases h⟩
theorem over : Rows.checkWhereRow.holds Tryz.pinned (OpenSpec.ofChange Rows.checkWhereSpec) :=
 OpenClaim.holds_of_wide 5 Tryz.f5 rfl rfl rfl rfl rfl rfl rfl ⟨rfl,rfl,rfl,rfl,rfl⟩ rfl rfl rfl rfl rfl named Tryz.func5 closed
  (of_decide_eq_true (by kernel_rfl)) wrap
  (fun os started H enc _=>lifted os started H enc)
theorem proved : Rows.CheckWhereSaid:=over
theorem card : Rows.CheckWhereCardSaid :=
 Claim7.holds_tied_plain_at .later [] [.data, .data, .data, .sentinel, .sentinel] true (true, "eda6ade9e1bdf3a851e6393b75d2d75ef5a5fe54d233c7210b05027e9a32c534") true
  proved (fun _ h=>by cases h) wfT (fun _ h=>by cases h) checkWhere_row_tie rfl ⟨rfl,rfl⟩ mainT rfl
  (fun f fn hf hfn=>by
   obtain rfl : f = 5:=Option.some.inj (named.symm.trans hf) |>.symm
   obtain rfl : fn = Tryz.f5:=(Option.some.inj (Tryz.func5.symm.trans hfn)).symm
   exact ⟨looksT,fun j t ht=>by
    rw [Tryz.params5] at ht
    have hm : t ∈ [27,4,4,4]:=by simpa using Array.mem_of_getElem? ht
    exact (show Tryz.prog.wantsStandIn t = false by simpa using List.all_eq_true.1 standT t hm)⟩)
  goesT
end Go.Proofs.YtkinbnepkpoofaaGreatDoor.checkWhere
namespace Go.Proofs.YtkinbnepkpoofaaGreatDoor
theorem checkWhere_holds : Rows.CheckWhereCardSaid:=checkWhere.card
end Go.Proofs.YtkinbnepkpoofaaGreatDoor