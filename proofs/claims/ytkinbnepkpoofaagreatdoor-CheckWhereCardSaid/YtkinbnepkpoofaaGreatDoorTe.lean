/- Texts joined into one: KC K13 BK5 Wt Body5. -/
import Derived.Test.YtkinbnepkpoofaaGreatDoorJg
import Derived.Test.YtkinbnepkpoofaaGreatDoorJe
import Derived.Test.YtkinbnepkpoofaaGreatDoorJc
import Derived.Test.YtkinbnepkpoofaaGreatDoorGa
import Derived.Test.YtkinbnepkpoofaaGreatDoorTd
import Derived.Test.YtkinbnepkpoofaaGreatDoorYd
/- What the runs know: slices.Clone of names too. -/
set_option linter.unusedVariables false
set_option linter.unusedSectionVars false
set_option maxRecDepth 1000000
namespace Go.Proofs.YtkinbnepkpoofaaGreatDoor
open Go Go.AM
theorem clone97_Wt (K:AV → Heap → Prop) : W ((cloneFi T Tryz.f97).px T (fun _ _ _=>none) 0) (fun _ _ _ _=>False) (cloneR2 32) ((env2 1 []).set 4 (.im (.bool true))) [some (.c 1 [])] (finK T (cloneFi T Tryz.f97) 0 K) = K (.ref 0 0 0) [some (.c 1 [])]:=by
 kernel_rfl
theorem clone97_Wf (es:List D) (K:AV → Heap → Prop) : W ((cloneFi T Tryz.f97).px T (fun _ _ _=>none) 0) (fun _ _ _ _=>False) (cloneR3 32) ((env2 1 es).set 4 (.im (.bool false))) [some (.c 1 [])] (finK T (cloneFi T Tryz.f97) 0 K) =
  cond ((es.map AV.im).all fun e=>e.cells.all okCell) (es.length * 16 ≤ 140737488355328 ∧ es.length ≤ 140737488355328 ∧ K (.ref 0 0 es.length) [some (.c 1 es)]) False:=by
 kernel_rfl
theorem clone97 : Ok1 Tryz.prog 97 (cloneSp 1 16):=clone_ok (T:=T) hT hm Tryz.func97 (by decide) (by kernel_rfl) (by kernel_rfl) (by kernel_rfl) Tryz.underlying32
 (fun es=>by kernel_rfl) (fun es o h=>by cases h; kernel_rfl) (fun K h=>(clone97_Wt K).symm ▸ h) (fun es K hc h=>by
  rw [clone97_Wf]
  obtain ⟨h1,h2,h3⟩:=hc
  have h1' : ((es.map AV.im).all fun e=>e.cells.all okCell) = true:=by
   rw [List.all_map]
   simpa [Function.comp_def,im_cells,List.all_map] using h1
  rw [h1']
  exact ⟨h2,h3,h⟩)
noncomputable def clone97S : Sz:=fun xs H=>match cloneSp 1 16 xs H with
 | some (r,H')=>some (false,r,H')
 | none=>none
noncomputable def yesZ : Sz:=constSz (false,.im (.bool true),[])
noncomputable def knowC : List (Nat × Sz):=(97,clone97S) :: known
theorem knowC_ok : ∀ p ∈ knowC,OkZ Tryz.prog p.1 p.2:=by
 intro p hp
 rcases List.mem_cons.1 hp with rfl | hp
 ·
  exact OkZ.plain clone97
 ·
  exact known_ok p hp
noncomputable def BkC : BookR Tryz.prog T:=bookR Tryz.prog T (fun _=>false) knowC
theorem BkC_ok : BkC.ok:=bookR_ok hn knowC_ok
noncomputable def kf : FuncId → Sz:=runK BkC 1000 70
theorem kf_ok (f:FuncId) : OkZ Tryz.prog f (kf f):=runK_ok hT hm BkC_ok 70 f
end Go.Proofs.YtkinbnepkpoofaaGreatDoor
/- Closed runs of CheckTags: on made programs,whatever their bodies are. -/
namespace Go.Proofs.YtkinbnepkpoofaaGreatDoor
open Go Go.AM
abbrev yesR : Option (Bool × AV × Heap):=some (false,.im (.bool true),[])
abbrev intR (n:Int) : Option (Bool × AV × Heap):=some (false,.im (.int .i64 n),[])
theorem kf_n0 : kf 123 [.im (.str nP)] [] = yesR:=by kernel_rfl
theorem kf_n1 : kf 123 [.im (.str nR)] [] = yesR:=by kernel_rfl
theorem kf_n2 : kf 123 [.im (.str nQ)] [] = yesR:=by kernel_rfl
theorem kf_n3 : kf 123 [.im (.str nZs)] [] = yesR:=by kernel_rfl
theorem kf_n4 : kf 123 [.im (.str nA)] [] = yesR:=by kernel_rfl
theorem kf_n5 : kf 123 [.im (.str nB)] [] = yesR:=by kernel_rfl
theorem kf_n6 : kf 123 [.im (.str nC)] [] = yesR:=by kernel_rfl
theorem kf_n7 : kf 123 [.im (.str nD)] [] = yesR:=by kernel_rfl
theorem kf_n8 : kf 123 [.im (.str nXs)] [] = yesR:=by kernel_rfl
theorem kf_n9 : kf 123 [.im (.str nYs)] [] = yesR:=by kernel_rfl
theorem kf_n10 : kf 123 [.im (.str nMain)] [] = yesR:=by kernel_rfl
theorem kf_n11 : kf 123 [.im (.str [103])] [] = yesR:=by kernel_rfl
theorem kf_n12 : kf 123 [.im (.str [104])] [] = yesR:=by kernel_rfl
theorem kf_gp : kf 124 [.im (.sl false 1 pG),F123] [] = yesR:=by kernel_rfl
theorem kf_gv : kf 125 [.im (.sl false 2 vG),F126A] [] = yesR:=by kernel_rfl
theorem kf_hp : kf 124 [.im (.sl false 1 pH),F123] [] = yesR:=by kernel_rfl
theorem kf_hv : kf 125 [.im (.sl false 2 vH),F126A] [] = yesR:=by kernel_rfl
theorem kf_mp : kf 124 [.im (.sl false 1 []),F123] [] = yesR:=by kernel_rfl
theorem kf_mv : kf 125 [.im (.sl false 2 vM),F126A] [] = yesR:=by kernel_rfl
theorem kf_f0 (x y z:List D) : kf 26 [PA nMain x y z,.im (.str [103])] [] = intR 0:=by kernel_rfl
theorem kf_f1 (x y z:List D) : kf 26 [PA nMain x y z,.im (.str [104])] [] = intR 1:=by kernel_rfl
theorem kf_f2 (x y z:List D) : kf 26 [PA nMain x y z,.im (.str nMain)] [] = intR 2:=by kernel_rfl
theorem kf_q0 (x y z:List D) : kf 26 [PA [103] x y z,.im (.str [103])] [] = intR 0:=by kernel_rfl
theorem kf_q1 (x y z:List D) : kf 26 [PA [103] x y z,.im (.str [104])] [] = intR 1:=by kernel_rfl
theorem kf_wg (x:List D) : kf 53 [FA [103] pG vG x] [] = intR 0:=by kernel_rfl
theorem kf_wh (x:List D) : kf 53 [FA [104] pH vH x] [] = intR 0:=by kernel_rfl
theorem kf_wm (x:List D) : kf 53 [FA nMain [] vM x] [] = intR 0:=by kernel_rfl
theorem kf_gi0 (x:List D) : kf 64 [FA [103] pG vG x,.im (.str nP),.im (.bool false)] [] = intR 0:=by kernel_rfl
theorem kf_gi1 (x:List D) : kf 64 [FA [103] pG vG x,.im (.str nR),.im (.bool false)] [] = intR 0:=by kernel_rfl
theorem kf_ga0 (x:List D) : kf 64 [FA [103] pG vG x,.im (.str nZs),.im (.bool true)] [] = intR 0:=by kernel_rfl
theorem kf_hi0 (x:List D) : kf 64 [FA [104] pH vH x,.im (.str nP),.im (.bool false)] [] = intR 0:=by kernel_rfl
theorem kf_hi1 (x:List D) : kf 64 [FA [104] pH vH x,.im (.str nQ),.im (.bool false)] [] = intR 0:=by kernel_rfl
theorem kf_ha0 (x:List D) : kf 64 [FA [104] pH vH x,.im (.str nZs),.im (.bool true)] [] = intR 0:=by kernel_rfl
theorem kf_mi0 (x:List D) : kf 64 [FA nMain [] vM x,.im (.str nA),.im (.bool false)] [] = intR 0:=by kernel_rfl
theorem kf_mi1 (x:List D) : kf 64 [FA nMain [] vM x,.im (.str nB),.im (.bool false)] [] = intR 0:=by kernel_rfl
theorem kf_mi2 (x:List D) : kf 64 [FA nMain [] vM x,.im (.str nC),.im (.bool false)] [] = intR 0:=by kernel_rfl
theorem kf_mi3 (x:List D) : kf 64 [FA nMain [] vM x,.im (.str nD),.im (.bool false)] [] = intR 0:=by kernel_rfl
theorem kf_ma0 (x:List D) : kf 64 [FA nMain [] vM x,.im (.str nXs),.im (.bool true)] [] = intR 0:=by kernel_rfl
theorem kf_ma1 (x:List D) : kf 64 [FA nMain [] vM x,.im (.str nYs),.im (.bool true)] [] = intR 0:=by kernel_rfl
theorem kf_xs (x:List D) : kf 64 [FA nMain [] vM x,.im (.str nXs),.im (.bool false)] [] = intR 7:=by kernel_rfl
theorem kf_pp (x:List D) : kf 64 [FA nMain [] vM x,.im (.str nP),.im (.bool false)] [] = intR 6:=by kernel_rfl
theorem kf_u0 : kf 262 [.im (.str [45]),.im (.int .i64 0)] [] = some (false,.tup [.im (.int .i64 (0)),.im (.bool true)],[]):=by kernel_rfl
theorem kf_u1 : kf 262 [.im (.str [126]),.im (.int .i64 0)] [] = some (false,.tup [.im (.int .i64 (-1)),.im (.bool true)],[]):=by kernel_rfl
theorem kf_u2 : kf 262 [.im (.str [33]),.im (.int .i64 0)] [] = some (false,.tup [.im (.int .i64 (1)),.im (.bool true)],[]):=by kernel_rfl
theorem kf_b0 : kf 263 [.im (.str [124,124])] [] = intR 1:=by kernel_rfl
theorem kf_b1 : kf 263 [.im (.str [38,38])] [] = intR 2:=by kernel_rfl
theorem kf_b2 : kf 263 [.im (.str [124])] [] = intR 3:=by kernel_rfl
theorem kf_b3 : kf 263 [.im (.str [94])] [] = intR 4:=by kernel_rfl
theorem kf_b4 : kf 263 [.im (.str [38])] [] = intR 5:=by kernel_rfl
theorem kf_b5 : kf 263 [.im (.str [61,61])] [] = intR 6:=by kernel_rfl
theorem kf_b6 : kf 263 [.im (.str [33,61])] [] = intR 6:=by kernel_rfl
theorem kf_b7 : kf 263 [.im (.str [60])] [] = intR 7:=by kernel_rfl
theorem kf_b8 : kf 263 [.im (.str [60,61])] [] = intR 7:=by kernel_rfl
theorem kf_b9 : kf 263 [.im (.str [62])] [] = intR 7:=by kernel_rfl
theorem kf_b10 : kf 263 [.im (.str [62,61])] [] = intR 7:=by kernel_rfl
theorem kf_b11 : kf 263 [.im (.str [60,60])] [] = intR 8:=by kernel_rfl
theorem kf_b12 : kf 263 [.im (.str [62,62])] [] = intR 8:=by kernel_rfl
theorem kf_b13 : kf 263 [.im (.str [43])] [] = intR 9:=by kernel_rfl
theorem kf_b14 : kf 263 [.im (.str [45])] [] = intR 9:=by kernel_rfl
theorem kf_b15 : kf 263 [.im (.str [42])] [] = intR 10:=by kernel_rfl
theorem kf_b16 : kf 263 [.im (.str [47])] [] = intR 10:=by kernel_rfl
theorem kf_b17 : kf 263 [.im (.str [37])] [] = intR 10:=by kernel_rfl
end Go.Proofs.YtkinbnepkpoofaaGreatDoor
/- The book of CheckWhere. -/
namespace Go.Proofs.YtkinbnepkpoofaaGreatDoor
open Go Go.AM
noncomputable def fl5 : List (Nat × Fi):=[(5,fi5),(194,fi194),(195,fi195),(152,fi152),(96,fi96),(18,fi18),(50,fi50),(29,fi29),(71,fi71_0),(121,fi121_c1),(122,fi122),(72,fi72),(67,fi67_c1),(213,fi213),(212,fi212_0),(260,fi260_c1),(286,fi286_c1),(261,fi261),(167,fi167),(211,fi211),(214,fi214),(127,fi127),(166,fi166_0),(115,fi115_c1),(157,fi157_c1),(210,fi210),(86,fi86),(55,fi55),(155,fi155),(108,fi108),(102,fi102),(104,fi104),(106,fi106)] ++ inlL ++ inlL5
noncomputable def kl5 : List (Nat × Sz):=[(15,yesZ),(123,kf 123),(124,kf 124),(125,kf 125),(26,kf 26),(53,kf 53),(64,kf 64),(262,kf 262),(263,kf 263)]
noncomputable def BK5 : S.BookM:=⟨T,lookL fl5,lookL kl5,fun _ xs=>xs⟩
theorem lookL_of {α:Type} {p:Nat → α → Prop} : ∀ {l:List (Nat × α)},(∀ x ∈ l,p x.1 x.2) → ∀ {f:Nat} {i:α},lookL l f = some i → p f i
 | [],_,_,_,h=>by simp [lookL] at h
 | x :: l,hl,f,i,h=>by
  have:=lookL_mem h
  exact hl _ this
theorem fl5_ok : ∀ x ∈ fl5,x.2.ok Tryz.prog x.1:=by
 simp only [fl5,inlL,inlL5,List.cons_append,List.nil_append,List.mem_cons,List.not_mem_nil,or_false,forall_eq_or_imp,forall_eq]
 exact ⟨fi5_ok,fi194_ok,fi195_ok,fi152_ok,fi96_ok,fi18_ok,fi50_ok,fi29_ok,fi71_0_ok,fi121_c1_ok,fi122_ok,fi72_ok,fi67_c1_ok,fi213_ok,fi212_0_ok,fi260_c1_ok,fi286_c1_ok,fi261_ok,fi167_ok,fi211_ok,fi214_ok,fi127_ok,fi166_0_ok,fi115_c1_ok,fi157_c1_ok,fi210_ok,fi86_ok,fi55_ok,fi155_ok,fi108_ok,fi102_ok,fi104_ok,fi106_ok,ii51_ok,ii52_ok,ii54_ok,ii100_ok,ii101_ok,ii103_ok,ii105_ok,ii107_ok,ii109_ok,ii110_ok,ii16_ok,ii49_ok⟩
theorem kl5_ok (he:OkZ Tryz.prog 15 yesZ) : ∀ x ∈ kl5,OkZ Tryz.prog x.1 x.2:=by
 simp only [kl5,List.mem_cons,List.not_mem_nil,or_false,forall_eq_or_imp,forall_eq]
 exact ⟨he,kf_ok 123,kf_ok 124,kf_ok 125,kf_ok 26,kf_ok 53,kf_ok 64,kf_ok 262,kf_ok 263⟩
theorem BK5_ok (he:OkZ Tryz.prog 15 yesZ) : BK5.ok Tryz.prog:=by
 refine ⟨hT,hm,fun f i h=>lookL_of (p:=fun f i=>i.ok Tryz.prog f) fl5_ok h,fun f sp h=>lookL_of (p:=fun f i=>OkZ Tryz.prog f i) (kl5_ok he) h,fun I κ f xs vs h=>?_⟩
 exact h
theorem inl5 : InlOk BK5:=by
 unfold InlOk
 simp only [inlL,List.mem_cons,List.not_mem_nil,or_false,forall_eq_or_imp,forall_eq]
 exact ⟨⟨rfl,rfl,fun _=>rfl⟩,⟨rfl,rfl,fun _=>rfl⟩,⟨rfl,rfl,fun _=>rfl⟩,⟨rfl,rfl,fun _=>rfl⟩,⟨rfl,rfl,fun _=>rfl⟩,⟨rfl,rfl,fun _=>rfl⟩,⟨rfl,rfl,fun _=>rfl⟩,⟨rfl,rfl,fun _=>rfl⟩,⟨rfl,rfl,fun _=>rfl⟩,⟨rfl,rfl,fun _=>rfl⟩⟩
theorem rtG : RtB BK5 iG aG where
 T:=rfl
 h213:=⟨rfl,rfl,fun _=>rfl⟩
 h212:=⟨rfl,rfl,fun _=>rfl⟩
 h260:=⟨rfl,rfl,fun _=>rfl⟩
 h286:=⟨rfl,rfl,fun _=>rfl⟩
 h261:=⟨rfl,rfl,fun _=>rfl⟩
 h167:=⟨rfl,rfl,fun _=>rfl⟩
 h211:=⟨rfl,rfl,fun _=>rfl⟩
 h214:=⟨rfl,rfl,fun _=>rfl⟩
 h127:=⟨rfl,rfl,fun _=>rfl⟩
 h166:=⟨rfl,rfl,fun _=>rfl⟩
 h115:=⟨rfl,rfl,fun _=>rfl⟩
 h157:=⟨rfl,rfl,fun _=>rfl⟩
 h210:=⟨rfl,rfl,fun _=>rfl⟩
 h86:=⟨rfl,rfl,fun _=>rfl⟩
 ints:=(by
  intro nm h
  simp only [iG,List.mem_cons,List.not_mem_nil,or_false] at h
  rcases h with rfl | rfl
  ·
   exact S.pure_known (B:=BK5) (sp:=kf 123) rfl (kf_n0) rfl rfl
  ·
   exact S.pure_known (B:=BK5) (sp:=kf 123) rfl (kf_n1) rfl rfl)
 arrs:=(by
  intro nm h
  simp only [aG,List.mem_cons,List.not_mem_nil,or_false] at h
  rcases h with rfl
  ·
   exact S.pure_known (B:=BK5) (sp:=kf 123) rfl (kf_n3) rfl rfl)
 g:=S.pure_known (B:=BK5) (sp:=kf 123) rfl (kf_n11) rfl rfl
 h:=S.pure_known (B:=BK5) (sp:=kf 123) rfl (kf_n12) rfl rfl
 un:=(by
  intro nm h
  simp only [unops,List.mem_cons,List.not_mem_nil,or_false] at h
  rcases h with rfl | rfl | rfl
  ·
   exact ⟨_,S.pure_known (B:=BK5) (sp:=kf 262) rfl (kf_u0) rfl rfl⟩
  ·
   exact ⟨_,S.pure_known (B:=BK5) (sp:=kf 262) rfl (kf_u1) rfl rfl⟩
  ·
   exact ⟨_,S.pure_known (B:=BK5) (sp:=kf 262) rfl (kf_u2) rfl rfl⟩)
 bin:=(by
  intro nm h
  simp only [binops,List.mem_cons,List.not_mem_nil,or_false] at h
  rcases h with rfl | rfl | rfl | rfl | rfl | rfl | rfl | rfl | rfl | rfl | rfl | rfl | rfl | rfl | rfl | rfl | rfl | rfl
  ·
   exact ⟨1,rfl,S.pure_known (B:=BK5) (sp:=kf 263) rfl (kf_b0) rfl rfl⟩
  ·
   exact ⟨2,rfl,S.pure_known (B:=BK5) (sp:=kf 263) rfl (kf_b1) rfl rfl⟩
  ·
   exact ⟨3,rfl,S.pure_known (B:=BK5) (sp:=kf 263) rfl (kf_b2) rfl rfl⟩
  ·
   exact ⟨4,rfl,S.pure_known (B:=BK5) (sp:=kf 263) rfl (kf_b3) rfl rfl⟩
  ·
   exact ⟨5,rfl,S.pure_known (B:=BK5) (sp:=kf 263) rfl (kf_b4) rfl rfl⟩
  ·
   exact ⟨6,rfl,S.pure_known (B:=BK5) (sp:=kf 263) rfl (kf_b5) rfl rfl⟩
  ·
   exact ⟨6,rfl,S.pure_known (B:=BK5) (sp:=kf 263) rfl (kf_b6) rfl rfl⟩
  ·
   exact ⟨7,rfl,S.pure_known (B:=BK5) (sp:=kf 263) rfl (kf_b7) rfl rfl⟩
  ·
   exact ⟨7,rfl,S.pure_known (B:=BK5) (sp:=kf 263) rfl (kf_b8) rfl rfl⟩
  ·
   exact ⟨7,rfl,S.pure_known (B:=BK5) (sp:=kf 263) rfl (kf_b9) rfl rfl⟩
  ·
   exact ⟨7,rfl,S.pure_known (B:=BK5) (sp:=kf 263) rfl (kf_b10) rfl rfl⟩
  ·
   exact ⟨8,rfl,S.pure_known (B:=BK5) (sp:=kf 263) rfl (kf_b11) rfl rfl⟩
  ·
   exact ⟨8,rfl,S.pure_known (B:=BK5) (sp:=kf 263) rfl (kf_b12) rfl rfl⟩
  ·
   exact ⟨9,rfl,S.pure_known (B:=BK5) (sp:=kf 263) rfl (kf_b13) rfl rfl⟩
  ·
   exact ⟨9,rfl,S.pure_known (B:=BK5) (sp:=kf 263) rfl (kf_b14) rfl rfl⟩
  ·
   exact ⟨10,rfl,S.pure_known (B:=BK5) (sp:=kf 263) rfl (kf_b15) rfl rfl⟩
  ·
   exact ⟨10,rfl,S.pure_known (B:=BK5) (sp:=kf 263) rfl (kf_b16) rfl rfl⟩
  ·
   exact ⟨10,rfl,S.pure_known (B:=BK5) (sp:=kf 263) rfl (kf_b17) rfl rfl⟩)
theorem rtH : RtB BK5 iH aG where
 T:=rfl
 h213:=⟨rfl,rfl,fun _=>rfl⟩
 h212:=⟨rfl,rfl,fun _=>rfl⟩
 h260:=⟨rfl,rfl,fun _=>rfl⟩
 h286:=⟨rfl,rfl,fun _=>rfl⟩
 h261:=⟨rfl,rfl,fun _=>rfl⟩
 h167:=⟨rfl,rfl,fun _=>rfl⟩
 h211:=⟨rfl,rfl,fun _=>rfl⟩
 h214:=⟨rfl,rfl,fun _=>rfl⟩
 h127:=⟨rfl,rfl,fun _=>rfl⟩
 h166:=⟨rfl,rfl,fun _=>rfl⟩
 h115:=⟨rfl,rfl,fun _=>rfl⟩
 h157:=⟨rfl,rfl,fun _=>rfl⟩
 h210:=⟨rfl,rfl,fun _=>rfl⟩
 h86:=⟨rfl,rfl,fun _=>rfl⟩
 ints:=(by
  intro nm h
  simp only [iH,List.mem_cons,List.not_mem_nil,or_false] at h
  rcases h with rfl | rfl
  ·
   exact S.pure_known (B:=BK5) (sp:=kf 123) rfl (kf_n0) rfl rfl
  ·
   exact S.pure_known (B:=BK5) (sp:=kf 123) rfl (kf_n2) rfl rfl)
 arrs:=(by
  intro nm h
  simp only [aG,List.mem_cons,List.not_mem_nil,or_false] at h
  rcases h with rfl
  ·
   exact S.pure_known (B:=BK5) (sp:=kf 123) rfl (kf_n3) rfl rfl)
 g:=S.pure_known (B:=BK5) (sp:=kf 123) rfl (kf_n11) rfl rfl
 h:=S.pure_known (B:=BK5) (sp:=kf 123) rfl (kf_n12) rfl rfl
 un:=(by
  intro nm h
  simp only [unops,List.mem_cons,List.not_mem_nil,or_false] at h
  rcases h with rfl | rfl | rfl
  ·
   exact ⟨_,S.pure_known (B:=BK5) (sp:=kf 262) rfl (kf_u0) rfl rfl⟩
  ·
   exact ⟨_,S.pure_known (B:=BK5) (sp:=kf 262) rfl (kf_u1) rfl rfl⟩
  ·
   exact ⟨_,S.pure_known (B:=BK5) (sp:=kf 262) rfl (kf_u2) rfl rfl⟩)
 bin:=(by
  intro nm h
  simp only [binops,List.mem_cons,List.not_mem_nil,or_false] at h
  rcases h with rfl | rfl | rfl | rfl | rfl | rfl | rfl | rfl | rfl | rfl | rfl | rfl | rfl | rfl | rfl | rfl | rfl | rfl
  ·
   exact ⟨1,rfl,S.pure_known (B:=BK5) (sp:=kf 263) rfl (kf_b0) rfl rfl⟩
  ·
   exact ⟨2,rfl,S.pure_known (B:=BK5) (sp:=kf 263) rfl (kf_b1) rfl rfl⟩
  ·
   exact ⟨3,rfl,S.pure_known (B:=BK5) (sp:=kf 263) rfl (kf_b2) rfl rfl⟩
  ·
   exact ⟨4,rfl,S.pure_known (B:=BK5) (sp:=kf 263) rfl (kf_b3) rfl rfl⟩
  ·
   exact ⟨5,rfl,S.pure_known (B:=BK5) (sp:=kf 263) rfl (kf_b4) rfl rfl⟩
  ·
   exact ⟨6,rfl,S.pure_known (B:=BK5) (sp:=kf 263) rfl (kf_b5) rfl rfl⟩
  ·
   exact ⟨6,rfl,S.pure_known (B:=BK5) (sp:=kf 263) rfl (kf_b6) rfl rfl⟩
  ·
   exact ⟨7,rfl,S.pure_known (B:=BK5) (sp:=kf 263) rfl (kf_b7) rfl rfl⟩
  ·
   exact ⟨7,rfl,S.pure_known (B:=BK5) (sp:=kf 263) rfl (kf_b8) rfl rfl⟩
  ·
   exact ⟨7,rfl,S.pure_known (B:=BK5) (sp:=kf 263) rfl (kf_b9) rfl rfl⟩
  ·
   exact ⟨7,rfl,S.pure_known (B:=BK5) (sp:=kf 263) rfl (kf_b10) rfl rfl⟩
  ·
   exact ⟨8,rfl,S.pure_known (B:=BK5) (sp:=kf 263) rfl (kf_b11) rfl rfl⟩
  ·
   exact ⟨8,rfl,S.pure_known (B:=BK5) (sp:=kf 263) rfl (kf_b12) rfl rfl⟩
  ·
   exact ⟨9,rfl,S.pure_known (B:=BK5) (sp:=kf 263) rfl (kf_b13) rfl rfl⟩
  ·
   exact ⟨9,rfl,S.pure_known (B:=BK5) (sp:=kf 263) rfl (kf_b14) rfl rfl⟩
  ·
   exact ⟨10,rfl,S.pure_known (B:=BK5) (sp:=kf 263) rfl (kf_b15) rfl rfl⟩
  ·
   exact ⟨10,rfl,S.pure_known (B:=BK5) (sp:=kf 263) rfl (kf_b16) rfl rfl⟩
  ·
   exact ⟨10,rfl,S.pure_known (B:=BK5) (sp:=kf 263) rfl (kf_b17) rfl rfl⟩)
theorem rtM : RtB BK5 iM aM where
 T:=rfl
 h213:=⟨rfl,rfl,fun _=>rfl⟩
 h212:=⟨rfl,rfl,fun _=>rfl⟩
 h260:=⟨rfl,rfl,fun _=>rfl⟩
 h286:=⟨rfl,rfl,fun _=>rfl⟩
 h261:=⟨rfl,rfl,fun _=>rfl⟩
 h167:=⟨rfl,rfl,fun _=>rfl⟩
 h211:=⟨rfl,rfl,fun _=>rfl⟩
 h214:=⟨rfl,rfl,fun _=>rfl⟩
 h127:=⟨rfl,rfl,fun _=>rfl⟩
 h166:=⟨rfl,rfl,fun _=>rfl⟩
 h115:=⟨rfl,rfl,fun _=>rfl⟩
 h157:=⟨rfl,rfl,fun _=>rfl⟩
 h210:=⟨rfl,rfl,fun _=>rfl⟩
 h86:=⟨rfl,rfl,fun _=>rfl⟩
 ints:=(by
  intro nm h
  simp only [iM,List.mem_cons,List.not_mem_nil,or_false] at h
  rcases h with rfl | rfl | rfl | rfl
  ·
   exact S.pure_known (B:=BK5) (sp:=kf 123) rfl (kf_n4) rfl rfl
  ·
   exact S.pure_known (B:=BK5) (sp:=kf 123) rfl (kf_n5) rfl rfl
  ·
   exact S.pure_known (B:=BK5) (sp:=kf 123) rfl (kf_n6) rfl rfl
  ·
   exact S.pure_known (B:=BK5) (sp:=kf 123) rfl (kf_n7) rfl rfl)
 arrs:=(by
  intro nm h
  simp only [aM,List.mem_cons,List.not_mem_nil,or_false] at h
  rcases h with rfl | rfl
  ·
   exact S.pure_known (B:=BK5) (sp:=kf 123) rfl (kf_n8) rfl rfl
  ·
   exact S.pure_known (B:=BK5) (sp:=kf 123) rfl (kf_n9) rfl rfl)
 g:=S.pure_known (B:=BK5) (sp:=kf 123) rfl (kf_n11) rfl rfl
 h:=S.pure_known (B:=BK5) (sp:=kf 123) rfl (kf_n12) rfl rfl
 un:=(by
  intro nm h
  simp only [unops,List.mem_cons,List.not_mem_nil,or_false] at h
  rcases h with rfl | rfl | rfl
  ·
   exact ⟨_,S.pure_known (B:=BK5) (sp:=kf 262) rfl (kf_u0) rfl rfl⟩
  ·
   exact ⟨_,S.pure_known (B:=BK5) (sp:=kf 262) rfl (kf_u1) rfl rfl⟩
  ·
   exact ⟨_,S.pure_known (B:=BK5) (sp:=kf 262) rfl (kf_u2) rfl rfl⟩)
 bin:=(by
  intro nm h
  simp only [binops,List.mem_cons,List.not_mem_nil,or_false] at h
  rcases h with rfl | rfl | rfl | rfl | rfl | rfl | rfl | rfl | rfl | rfl | rfl | rfl | rfl | rfl | rfl | rfl | rfl | rfl
  ·
   exact ⟨1,rfl,S.pure_known (B:=BK5) (sp:=kf 263) rfl (kf_b0) rfl rfl⟩
  ·
   exact ⟨2,rfl,S.pure_known (B:=BK5) (sp:=kf 263) rfl (kf_b1) rfl rfl⟩
  ·
   exact ⟨3,rfl,S.pure_known (B:=BK5) (sp:=kf 263) rfl (kf_b2) rfl rfl⟩
  ·
   exact ⟨4,rfl,S.pure_known (B:=BK5) (sp:=kf 263) rfl (kf_b3) rfl rfl⟩
  ·
   exact ⟨5,rfl,S.pure_known (B:=BK5) (sp:=kf 263) rfl (kf_b4) rfl rfl⟩
  ·
   exact ⟨6,rfl,S.pure_known (B:=BK5) (sp:=kf 263) rfl (kf_b5) rfl rfl⟩
  ·
   exact ⟨6,rfl,S.pure_known (B:=BK5) (sp:=kf 263) rfl (kf_b6) rfl rfl⟩
  ·
   exact ⟨7,rfl,S.pure_known (B:=BK5) (sp:=kf 263) rfl (kf_b7) rfl rfl⟩
  ·
   exact ⟨7,rfl,S.pure_known (B:=BK5) (sp:=kf 263) rfl (kf_b8) rfl rfl⟩
  ·
   exact ⟨7,rfl,S.pure_known (B:=BK5) (sp:=kf 263) rfl (kf_b9) rfl rfl⟩
  ·
   exact ⟨7,rfl,S.pure_known (B:=BK5) (sp:=kf 263) rfl (kf_b10) rfl rfl⟩
  ·
   exact ⟨8,rfl,S.pure_known (B:=BK5) (sp:=kf 263) rfl (kf_b11) rfl rfl⟩
  ·
   exact ⟨8,rfl,S.pure_known (B:=BK5) (sp:=kf 263) rfl (kf_b12) rfl rfl⟩
  ·
   exact ⟨9,rfl,S.pure_known (B:=BK5) (sp:=kf 263) rfl (kf_b13) rfl rfl⟩
  ·
   exact ⟨9,rfl,S.pure_known (B:=BK5) (sp:=kf 263) rfl (kf_b14) rfl rfl⟩
  ·
   exact ⟨10,rfl,S.pure_known (B:=BK5) (sp:=kf 263) rfl (kf_b15) rfl rfl⟩
  ·
   exact ⟨10,rfl,S.pure_known (B:=BK5) (sp:=kf 263) rfl (kf_b16) rfl rfl⟩
  ·
   exact ⟨10,rfl,S.pure_known (B:=BK5) (sp:=kf 263) rfl (kf_b17) rfl rfl⟩)
theorem szG (x:List D) : Szd BK5 [103] pG vG x iG aG where
 int:=(by
  intro nm h
  simp only [iG,List.mem_cons,List.not_mem_nil,or_false] at h
  rcases h with rfl | rfl
  ·
   exact S.pure_known (B:=BK5) (sp:=kf 64) rfl (kf_gi0 x) rfl rfl
  ·
   exact S.pure_known (B:=BK5) (sp:=kf 64) rfl (kf_gi1 x) rfl rfl)
 arr:=(by
  intro nm h
  simp only [aG,List.mem_cons,List.not_mem_nil,or_false] at h
  rcases h with rfl
  ·
   exact S.pure_known (B:=BK5) (sp:=kf 64) rfl (kf_ga0 x) rfl rfl)
theorem szH (x:List D) : Szd BK5 [104] pH vH x iH aG where
 int:=(by
  intro nm h
  simp only [iH,List.mem_cons,List.not_mem_nil,or_false] at h
  rcases h with rfl | rfl
  ·
   exact S.pure_known (B:=BK5) (sp:=kf 64) rfl (kf_hi0 x) rfl rfl
  ·
   exact S.pure_known (B:=BK5) (sp:=kf 64) rfl (kf_hi1 x) rfl rfl)
 arr:=(by
  intro nm h
  simp only [aG,List.mem_cons,List.not_mem_nil,or_false] at h
  rcases h with rfl
  ·
   exact S.pure_known (B:=BK5) (sp:=kf 64) rfl (kf_ha0 x) rfl rfl)
theorem szM (x:List D) : Szd BK5 nMain [] vM x iM aM where
 int:=(by
  intro nm h
  simp only [iM,List.mem_cons,List.not_mem_nil,or_false] at h
  rcases h with rfl | rfl | rfl | rfl
  ·
   exact S.pure_known (B:=BK5) (sp:=kf 64) rfl (kf_mi0 x) rfl rfl
  ·
   exact S.pure_known (B:=BK5) (sp:=kf 64) rfl (kf_mi1 x) rfl rfl
  ·
   exact S.pure_known (B:=BK5) (sp:=kf 64) rfl (kf_mi2 x) rfl rfl
  ·
   exact S.pure_known (B:=BK5) (sp:=kf 64) rfl (kf_mi3 x) rfl rfl)
 arr:=(by
  intro nm h
  simp only [aM,List.mem_cons,List.not_mem_nil,or_false] at h
  rcases h with rfl | rfl
  ·
   exact S.pure_known (B:=BK5) (sp:=kf 64) rfl (kf_ma0 x) rfl rfl
  ·
   exact S.pure_known (B:=BK5) (sp:=kf 64) rfl (kf_ma1 x) rfl rfl)
theorem wh5 : WhB BK5 where
 T:=rfl
 inl:=inl5
 h29:=⟨rfl,rfl,fun _=>rfl⟩
 h71:=⟨rfl,rfl,fun _=>rfl⟩
 h121:=⟨rfl,rfl,fun _=>rfl⟩
 h122:=⟨rfl,rfl,fun _=>rfl⟩
 h72:=⟨rfl,rfl,fun _=>rfl⟩
 h67:=⟨rfl,rfl,fun _=>rfl⟩
 h50:=⟨rfl,rfl,fun _=>rfl⟩
 h18:=⟨rfl,rfl,fun _=>rfl⟩
 g:=S.pure_known (B:=BK5) (sp:=kf 123) rfl (kf_n11) rfl rfl
 h:=S.pure_known (B:=BK5) (sp:=kf 123) rfl (kf_n12) rfl rfl
 m:=S.pure_known (B:=BK5) (sp:=kf 123) rfl (kf_n10) rfl rfl
 gp:=S.pure_known (B:=BK5) (sp:=kf 124) rfl (kf_gp) rfl rfl
 gv:=S.pure_known (B:=BK5) (sp:=kf 125) rfl (kf_gv) rfl rfl
 hp:=S.pure_known (B:=BK5) (sp:=kf 124) rfl (kf_hp) rfl rfl
 hv:=S.pure_known (B:=BK5) (sp:=kf 125) rfl (kf_hv) rfl rfl
 mp:=S.pure_known (B:=BK5) (sp:=kf 124) rfl (kf_mp) rfl rfl
 mv:=S.pure_known (B:=BK5) (sp:=kf 125) rfl (kf_mv) rfl rfl
 fg:=fun x y z=>S.pure_known (B:=BK5) (sp:=kf 26) rfl (kf_f0 x y z) rfl rfl
 fh:=fun x y z=>S.pure_known (B:=BK5) (sp:=kf 26) rfl (kf_f1 x y z) rfl rfl
 fm:=fun x y z=>S.pure_known (B:=BK5) (sp:=kf 26) rfl (kf_f2 x y z) rfl rfl
 ng:=fun x=>S.pure_known (B:=BK5) (sp:=kf 53) rfl (kf_wg x) rfl rfl
 nh:=fun x=>S.pure_known (B:=BK5) (sp:=kf 53) rfl (kf_wh x) rfl rfl
 nm:=fun x=>S.pure_known (B:=BK5) (sp:=kf 53) rfl (kf_wm x) rfl rfl
theorem ck5 : CkB BK5 where
 T:=rfl
 inl:=inl5
 h155:=⟨rfl,rfl,fun _=>rfl⟩
 h108:=⟨rfl,rfl,fun _=>rfl⟩
 h102:=⟨rfl,rfl,fun _=>rfl⟩
 h104:=⟨rfl,rfl,fun _=>rfl⟩
 h106:=⟨rfl,rfl,fun _=>rfl⟩
 h55:=⟨rfl,rfl,fun _=>rfl⟩
theorem inlW : InlOk5 BK5:=by
 unfold InlOk5
 simp only [inlL5,List.mem_cons,List.not_mem_nil,or_false,forall_eq_or_imp,forall_eq]
 exact ⟨⟨rfl,rfl,fun _=>rfl⟩,⟨rfl,rfl,fun _=>rfl⟩⟩
theorem cm5 : CmB BK5 where
 wh:=wh5
 ck:=ck5
 rG:=rtG
 rH:=rtH
 rM:=rtM
 h194:=⟨rfl,rfl,fun _=>rfl⟩
 h195:=⟨rfl,rfl,fun _=>rfl⟩
 h152:=⟨rfl,rfl,fun _=>rfl⟩
 h96:=⟨rfl,rfl,fun _=>rfl⟩
 yes:=S.pure_known (B:=BK5) (sp:=yesZ) rfl rfl rfl rfl
 sG:=szG
 sH:=szH
 sM:=szM
theorem cw5 : CwB BK5 where
 cr:=cm5
 inl:=inlW
 h5:=⟨rfl,rfl,fun _=>rfl⟩
 fg:=fun x y z=>S.pure_known (B:=BK5) (sp:=kf 26) rfl (kf_q0 x y z) rfl rfl
 fh:=fun x y z=>S.pure_known (B:=BK5) (sp:=kf 26) rfl (kf_q1 x y z) rfl rfl
end Go.Proofs.YtkinbnepkpoofaaGreatDoor
/- What the law's arguments are,as data. -/
set_option maxRecDepth 100000
namespace Go.Proofs.YtkinbnepkpoofaaGreatDoor
open Go Go.AM
theorem wt_int {n:Nat} {k:IntKind} {t:TypeId} {cs:List D} (h:wt Tryz.prog (n + 1) t cs) (ht:Tryz.prog.underlying t = some (.int k)) : ∃ m,cs = [.int k m] ∧ k.min ≤ m ∧ m ≤ k.max:=by
 unfold wt at h
 rw [ht] at h
 exact h
theorem wt_u8 {n:Nat} {x:D} {t:TypeId} (h:wt Tryz.prog (n + 1) t [x]) (ht:Tryz.prog.underlying t = some (.int .u8)) : ∃ m : Nat,x = .int .u8 m ∧ m < 256:=by
 obtain ⟨c,hc,c0,c1⟩:=wt_int h ht
 have e0 : IntKind.min .u8 = 0:=by decide
 have e1 : IntKind.max .u8 = 255:=by decide
 rw [e0] at c0
 rw [e1] at c1
 refine ⟨c.toNat,?_,by omega⟩
 rw [Int.toNat_of_nonneg c0]
 cases hc
 rfl
end Go.Proofs.YtkinbnepkpoofaaGreatDoor
/- CheckWhere: its arguments,as data. -/
namespace Go.Proofs.YtkinbnepkpoofaaGreatDoor
open Go Go.AM
def codeTs : List TypeId:=[27,24,4,25,5,22,47,46,9,32,44,69,3,45,66,64,110,2]
theorem codeTs_ok : suppC Tryz.prog codeTs = true:=by kernel_rfl
theorem wt_succ {n:Nat} {t:TypeId} {cs:List D} (h:wt Tryz.prog n t cs) : ∃ m,n = m + 1:=by
 cases n with
 | zero=>exact h.elim
 | succ m=>exact ⟨m,rfl⟩
theorem wt_st {n:Nat} {t:TypeId} {cs:List D} {fs:Array Field} (h:wt Tryz.prog (n + 1) t cs) (ht:Tryz.prog.underlying t = some (.struct fs)) : wtFs Tryz.prog (wt Tryz.prog n) fs.toList cs:=by
 unfold wt at h
 rw [ht] at h
 exact h
theorem wt_bool {n:Nat} {t:TypeId} {cs:List D} (h:wt Tryz.prog (n + 1) t cs) (ht:Tryz.prog.underlying t = some .bool) : ∃ b,cs = [.bool b]:=by
 unfold wt at h
 rw [ht] at h
 exact h
theorem wt_sl {n:Nat} {t e:TypeId} {cs:List D} (h:wt Tryz.prog (n + 1) t cs) (ht:Tryz.prog.underlying t = some (.slice e)) : ∃ es,cs = [.sl false (Tryz.prog.cellsOf e) es] ∧ es.length ≤ 9223372036854775807 ∧ ∀ d ∈ es,wt Tryz.prog n e d.cells ∧ elD Tryz.prog e d:=by
 unfold wt at h
 rw [ht] at h
 exact h
theorem noAgg_el {e:TypeId} {d:D} (h:elD Tryz.prog e d) (ht:∀ fs,Tryz.prog.underlying e ≠ some (.struct fs)) : d.cells = [d]:=by
 unfold elD at h
 split at h
 ·
  rename_i fs hs; exact absurd hs (ht fs)
 ·
  exact noAgg_cells h
theorem cells_5 : Tryz.prog.cellsOf 5 = 1:=by kernel_rfl
theorem cells_47 : Tryz.prog.cellsOf 47 = 4:=by kernel_rfl
theorem wt_bytes {n:Nat} {cs:List D} (h:wt Tryz.prog n 25 cs) : ∃ l,cs = [.sl false 1 l] ∧ Bytes l ∧ l.length ≤ 9223372036854775807:=by
 obtain ⟨m,rfl⟩:=wt_succ h
 obtain ⟨es,rfl,hl,he⟩:=wt_sl h Tryz.underlying25
 rw [cells_5]
 refine ⟨es,rfl,fun d hd=>?_,hl⟩
 obtain ⟨h1,h2⟩:=he d hd
 obtain ⟨q,rfl⟩:=wt_succ h1
 rw [noAgg_el h2 (fun fs hf=>by rw [Tryz.underlying5] at hf; cases hf)] at h1
 obtain ⟨b,rfl,hb⟩:=wt_u8 h1 Tryz.underlying5
 exact ⟨b,hb,rfl⟩
theorem wt_prog {n:Nat} {cs:List D} (h:wt Tryz.prog n 24 cs) : ∃ l,cs = [.sl false 4 l]:=by
 obtain ⟨m,rfl⟩:=wt_succ h
 obtain ⟨a,b,rfl,_,h1,rfl⟩:=wt_st h Tryz.underlying24
 obtain ⟨q,rfl⟩:=wt_succ h1
 obtain ⟨es,rfl,_⟩:=wt_sl h1 Tryz.underlying22
 rw [cells_47]
 exact ⟨es,rfl⟩
theorem wt_code {n:Nat} {cs:List D} (h:wt Tryz.prog n 27 cs) : ∃ p own a b,cs = [.sl false 4 p,.bool own,.sl false 1 a,.sl false 1 b] ∧ Bytes a ∧ Bytes b ∧ a.length ≤ 9223372036854775807 ∧ b.length ≤ 9223372036854775807:=by
 obtain ⟨m,rfl⟩:=wt_succ h
 obtain ⟨c1,r1,rfl,_,h1,c2,r2,rfl,_,h2,c3,r3,rfl,_,h3,c4,r4,rfl,_,h4,rfl⟩:=wt_st h Tryz.underlying27
 obtain ⟨p,rfl⟩:=wt_prog h1
 obtain ⟨q,rfl⟩:=wt_succ h2
 obtain ⟨own,rfl⟩:=wt_bool h2 Tryz.underlying4
 obtain ⟨a,rfl,ha,la⟩:=wt_bytes h3
 obtain ⟨b,rfl,hb,lb⟩:=wt_bytes h4
 exact ⟨p,own,a,b,rfl,ha,hb,la,lb⟩
theorem bk : BK5.ok Tryz.prog:=BK5_ok E05ok
theorem wt_b1 {x:D} (h:wt Tryz.prog 12 4 [x]) : ∃ b,x = .bool b:=by
 obtain ⟨b,hb⟩:=wt_bool h Tryz.underlying4
 cases hb
 exact ⟨b,rfl⟩
theorem body5 (x0:List D) {n:Nat} (t0:wt Tryz.prog n 27 x0) (x1:D) (t1:wt Tryz.prog 12 4 [x1]) (x2:D) (t2:wt Tryz.prog 12 4 [x2]) (x3:D) (t3:wt Tryz.prog 12 4 [x3]) : S.pureS (S.sem BK5) [.bool] 5 [.im (.agg x0),.im x1,.im x2,.im x3] = some (true,()):=by
 obtain ⟨p,own,a,b,rfl,ha,hb,la,lb⟩:=wt_code t0
 obtain ⟨b1,rfl⟩:=wt_b1 t1
 obtain ⟨b2,rfl⟩:=wt_b1 t2
 obtain ⟨b3,rfl⟩:=wt_b1 t3
 exact eq5 cw5 ha hb la lb own b1 b2 b3
end Go.Proofs.YtkinbnepkpoofaaGreatDoor