/- Texts joined into one: BaseZ Kn. -/
import Derived.Test.YtkinbnepkpoofaaGreatDoorChecked
import Derived.Test.YtkinbnepkpoofaaGreatDoorJd
import Derived.KernelRfl
import Derived.Test.YtkinbnepkpoofaaGreatDoorJe
/- The machine at this program: its table of types; its functions. -/
set_option linter.unusedVariables false
set_option maxRecDepth 100000
namespace Go.Proofs.YtkinbnepkpoofaaGreatDoor
open Go Go.AM
def eqs : TypeId → Option (List Ck):=fun t=>none
noncomputable def T : Tab:=tabOf Tryz.prog eqs
theorem hm : Tryz.prog.follows .mixedOrders = true:=Tryz.checked.mixed
theorem hT : T.ok Tryz.prog:=tabOf_ok fun t ks a b ht ha hb=>by cases ht
theorem names_ok : Tryz.prog.funcs.toList.all (fun fn => !(fn.name == "runtime.NumGoroutine")) = true := by kernel_rfl
theorem hn (f : FuncId) (fn : Func) (h : Tryz.prog.funcs[f]? = some fn) : (fn.name == "runtime.NumGoroutine") = false := by
 have:=List.all_eq_true.1 names_ok fn (by
  have:=Array.mem_of_getElem? h
  simpa using this)
 simpa using this
end Go.Proofs.YtkinbnepkpoofaaGreatDoor
/- What is known ahead of a run. -/
set_option maxRecDepth 1000000
open Go Go.AM
namespace Go.Proofs.YtkinbnepkpoofaaGreatDoor
theorem getD_of {α:Type} [Inhabited α] {o:Option α} (h:o.isSome = true) : o = some (o.getD default):=by
 cases o with
 | none=>cases h
 | some x=>rfl
noncomputable def fn285 : Func:=(Tryz.prog.funcs[285]?).getD default
theorem get285 : Tryz.prog.funcs[285]? = some fn285:=getD_of (by kernel_rfl)
theorem nm285 : (fn285.name == "runtime.NumGoroutine") = false := by kernel_rfl
theorem bd285 : fn285.body.isNone = true:=by kernel_rfl
theorem nx285 : Extern.findNext fn285 = none:=by kernel_rfl
theorem ex285 : Extern.find fn285 = some Extern.BytealgIndexByte.indexByte:=by kernel_rfl
noncomputable def kIdx : Sz:=fun vs H=>match idxSp vs H with
 | some (r,H')=>some (false,r,H')
 | none=>none
theorem kIdx_ok : OkZ Tryz.prog 285 kIdx:=OkZ.plain (idx_ok get285 nm285 bd285 nx285 ex285)
def constSz (r:Bool × AV × Heap) : Sz:=fun vs H=>match vs with
 | []=>match H with
  | []=>some r
  | _=>none
 | _=>none
theorem constSz_ok {P:Program} {f:FuncId} {sp:Sz} {r:Bool × AV × Heap} (h:OkZ P f sp) (hr:sp [] [] = some r) : OkZ P f (constSz r):=h.of fun vs H r' hs=>by
 unfold constSz at hs
 split at hs
 ·
  split at hs
  ·
   cases hs; exact hr
  ·
   cases hs
 ·
  cases hs
noncomputable def BA : BookR Tryz.prog T:=bookR Tryz.prog T (fun _=>false) []
theorem BA_ok : BA.ok:=bookR_ok hn (fun p hp=>by cases hp)
def signsR : Bool × AV × Heap:=(false,.ref 0 0 29,[some (.c 1 [.str [124,124],.str [38,38],.str [61,61],.str [33,61],.str [60,61],.str [62,61],.str [60,60],.str [62,62],.str [124],.str [94],.str [38],.str [60],.str [62],.str [43],.str [45],.str [42],.str [47],.str [37],.str [126],.str [33],.str [40],.str [41],.str [91],.str [93],.str [123],.str [125],.str [44],.str [59],.str [61]])])
theorem signs_run : runG BA 200 12 238 [] [] = some signsR:=by kernel_rfl
theorem kSigns_ok : OkZ Tryz.prog 238 (constSz signsR):=constSz_ok (runG_ok hT hm BA_ok 12 238) signs_run
noncomputable def known : List (Nat × Sz):=[(285,kIdx),(238,constSz signsR)]
theorem known_ok : ∀ p ∈ known,OkZ Tryz.prog p.1 p.2:=by
 intro p hp
 simp only [known,List.mem_cons,List.not_mem_nil,or_false] at hp
 rcases hp with rfl | rfl
 ·
  exact kIdx_ok
 ·
  exact kSigns_ok
noncomputable def B1 : BookR Tryz.prog T:=bookR Tryz.prog T (fun _=>false) known
theorem B1_ok : B1.ok:=bookR_ok hn known_ok
end Go.Proofs.YtkinbnepkpoofaaGreatDoor