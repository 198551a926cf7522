/- Texts joined into one: BaseS UL Inl Ab F194 F195 F96. -/
import Derived.Test.YtkinbnepkpoofaaGreatDoorJg
import Derived.Test.YtkinbnepkpoofaaGreatDoorJd
import Derived.Test.YtkinbnepkpoofaaGreatDoorJc
import Derived.Test.YtkinbnepkpoofaaGreatDoorJh
import Derived.KernelRfl
/- The machine with answers at this program: its table of types; what calls hand back. -/
set_option linter.unusedVariables false
set_option maxRecDepth 100000
namespace Go.Proofs.YtkinbnepkpoofaaGreatDoor
open Go Go.AM
def hmT (T:Tab) (t:TypeId) : S.Hm:=match T.ty t with
 | some i=>match i.desc with
  | .int k=>.int k
  | .bool=>.bool
  | .string=>.str
  | _=>.any
 | none=>.any
def hsL : List (Nat × S.Sg):=[(55,⟨[.int .i64],[.m [.sl 4,.str,.sl 1,.sl 2,.sl 7,.bool,.mp 1],.o]⟩),(102,⟨[.int .i64],[.m [.sl 4,.str,.sl 1,.sl 2,.sl 7,.bool,.mp 1],.o]⟩),(104,⟨[.int .i64],[.m [.sl 4,.str,.sl 1,.sl 2,.sl 7,.bool,.mp 1],.o]⟩),(106,⟨[.int .i64],[.m [.sl 4,.str,.sl 1,.sl 2,.sl 7,.bool,.mp 1],.o]⟩),(97,⟨[.ref 0],[.row 1]⟩),(194,⟨[.int .i64],[.c [.sl 1,.int .i64,.any,.any,.int .i64,.int .i64,.bool]]⟩),(195,⟨[.any],[.c [.sl 1,.int .i64,.any,.any,.int .i64,.int .i64,.bool]]⟩),(152,⟨[.any],[.c [.sl 1,.int .i64,.any,.any,.int .i64,.int .i64,.bool]]⟩),(96,⟨[.sl 7],[.c [.sl 1,.int .i64,.any,.any,.int .i64,.int .i64,.bool]]⟩) ]
def rsT (T:Tab) (t:TypeId) : List S.Hm:=match T.ty t with
 | some i=>match i.desc with
  | .tuple ts=>ts.toList.map (hmT T)
  | _=>[hmT T t]
 | none=>[]
noncomputable def SG {β:Type} : S.Sgs β:=⟨rsT T,lookL hsL,fun _=>none⟩
end Go.Proofs.YtkinbnepkpoofaaGreatDoor
/- Small laws for what functions come to. -/
namespace Go.Proofs.YtkinbnepkpoofaaGreatDoor
open Go Go.AM
theorem wrap_ok {n:Int} (h0:-9223372036854775808 ≤ n) (h1:n < 9223372036854775808) : IntKind.wrap .i64 n = n:=Go.AM.wrap64 n h0 h1
theorem wrap_succ {i:Nat} {n:Nat} (h:i < n) (hn:n ≤ 9223372036854775807) : IntKind.wrap .i64 ((i:Int) + 1) = ((i + 1 : Nat) : Int):=by
 rw [wrap_ok (by omega) (by omega)]; rfl
@[simp] theorem asInt_int (k:IntKind) (n:Int) : (D.int k n).asInt k = some n:=by simp [D.asInt]
@[simp] theorem asSl_sl (t:Bool) (z:Nat) (l:List D) : (D.sl t z l).asSl z = some l:=by simp [D.asSl]
@[simp] theorem asStr_str (s:List UInt8) : (D.str s).asStr = some s:=rfl
@[simp] theorem asBool_bool (b:Bool) : (D.bool b).asBool = some b:=rfl
abbrev INT (n:Int) : D:=.int .i64 n
abbrev ints (l:List Int) : List D:=l.map (D.int .i64)
abbrev strs (l:List (List UInt8)) : List D:=l.map D.str
noncomputable def normP : FuncId → List AV → List AV:=fun f vs=>match Tryz.prog.funcs[f]? with
 | some fn=>S.normA T fn.params.toList vs
 | none=>vs
theorem normP_rv (I:Nat → Option (Array Value)) (κ:Nat → Option Go.AM.Loc) (f:FuncId) (xs:List AV) (vs:List Value) (h:RVs I κ xs vs) : RVs I κ (normP f xs) vs:=by
 unfold normP
 split
 ·
  exact S.normA_rv h
 ·
  exact h
def Ca (t:TypeId) (d:D) : Prop:=S.deepD T t d = d
theorem ca_int (t:TypeId) (k:IntKind) (n:Int) : Ca t (.int k n):=by simp [Ca,S.deepD]
theorem ca_str (t:TypeId) (s:List UInt8) : Ca t (.str s):=by simp [Ca,S.deepD]
theorem ca_bool (t:TypeId) (b:Bool) : Ca t (.bool b):=by simp [Ca,S.deepD]
theorem deepDs_ca {e:TypeId} : ∀ {es:List D},(∀ d ∈ es,Ca e d) → S.deepDs T e es = es
 | [],_=>by simp [S.deepDs]
 | d :: es,h=>by
  simp only [S.deepDs]
  rw [show S.deepD T e d = d from h d (by simp),deepDs_ca fun x hx=>h x (List.mem_cons_of_mem _ hx)]
theorem ca_sl {t e:TypeId} {n:Nat} (ht:S.elemT T t = some (e,n)) (hn:n ≠ 0) {es:List D} (h:∀ d ∈ es,Ca e d) : Ca t (.sl false n es):=by
 unfold Ca
 simp only [S.deepD,ht]
 cases es with
 | nil=>simp [hn]
 | cons d es =>
  simp only [if_true]
  rw [show S.deepD T e d = d from h d (by simp),deepDs_ca fun x hx=>h x (List.mem_cons_of_mem _ hx)]
theorem deepCs_ca : ∀ {ts:List TypeId} {ds:List D},(∀ p ∈ ts.zip ds,Ca p.1 p.2) → S.deepCs T ts ds = ds
 | _,[],_=>by simp [S.deepCs]
 | [],d :: ds,_=>by simp [S.deepCs]
 | t :: ts,d :: ds,h=>by
  simp only [S.deepCs]
  rw [show S.deepD T t d = d from h (t,d) (by simp),deepCs_ca fun p hp=>h p (by simp [hp])]
theorem ca_agg {t:TypeId} {ts:List TypeId} (ht:S.cellsT T 8 t = ts) {cs:List D} (h:∀ p ∈ ts.zip cs,Ca p.1 p.2) : Ca t (.agg cs):=by
 unfold Ca
 simp only [S.deepD,ht,deepCs_ca h]
theorem normA_ca : ∀ {ts:List TypeId} {ds:List D},(∀ p ∈ ts.zip ds,Ca p.1 p.2) → S.normA T ts (ds.map AV.im) = ds.map AV.im
 | _,[],_=>by simp [S.normA]
 | [],d :: ds,_=>by simp [S.normA]
 | t :: ts,d :: ds,h=>by
  simp only [List.map_cons,S.normA,S.normV]
  rw [show S.deepD T t d = d from h (t,d) (by simp),normA_ca fun p hp=>h p (by simp [hp])]
end Go.Proofs.YtkinbnepkpoofaaGreatDoor
/- Functions that are run where they are called. -/
open Go Go.AM
namespace Go.Proofs.YtkinbnepkpoofaaGreatDoor
noncomputable def ii51 : Fi:=mkFi T Tryz.f51 { live:=fun d=>if Nat.beq d 2 then slots 18 [6,7,8] else none,lend:=isIn [52,54,100,101,103,105,107,109,110] }
theorem ii51_ok : ii51.ok Tryz.prog 51:=⟨Tryz.func51,by decide,rfl,by rfl⟩
noncomputable def ii52 : Fi:=mkFi T Tryz.f52 {  }
theorem ii52_ok : ii52.ok Tryz.prog 52:=⟨Tryz.func52,by decide,rfl,by rfl⟩
noncomputable def ii54 : Fi:=mkFi T Tryz.f54 { lend:=isIn [55] }
theorem ii54_ok : ii54.ok Tryz.prog 54:=⟨Tryz.func54,by decide,rfl,by rfl⟩
noncomputable def ii100 : Fi:=mkFi T Tryz.f100 {  }
theorem ii100_ok : ii100.ok Tryz.prog 100:=⟨Tryz.func100,by decide,rfl,by rfl⟩
noncomputable def ii101 : Fi:=mkFi T Tryz.f101 { lend:=isIn [102] }
theorem ii101_ok : ii101.ok Tryz.prog 101:=⟨Tryz.func101,by decide,rfl,by rfl⟩
noncomputable def ii103 : Fi:=mkFi T Tryz.f103 { lend:=isIn [104] }
theorem ii103_ok : ii103.ok Tryz.prog 103:=⟨Tryz.func103,by decide,rfl,by rfl⟩
noncomputable def ii105 : Fi:=mkFi T Tryz.f105 { lend:=isIn [106] }
theorem ii105_ok : ii105.ok Tryz.prog 105:=⟨Tryz.func105,by decide,rfl,by rfl⟩
noncomputable def ii107 : Fi:=mkFi T Tryz.f107 {  }
theorem ii107_ok : ii107.ok Tryz.prog 107:=⟨Tryz.func107,by decide,rfl,by rfl⟩
noncomputable def ii109 : Fi:=mkFi T Tryz.f109 { lend:=isIn [55] }
theorem ii109_ok : ii109.ok Tryz.prog 109:=⟨Tryz.func109,by decide,rfl,by rfl⟩
noncomputable def ii110 : Fi:=mkFi T Tryz.f110 { lend:=isIn [55] }
theorem ii110_ok : ii110.ok Tryz.prog 110:=⟨Tryz.func110,by decide,rfl,by rfl⟩
noncomputable def inlL : List (Nat × Fi):=[(51,ii51),(52,ii52),(54,ii54),(100,ii100),(101,ii101),(103,ii103),(105,ii105),(107,ii107),(109,ii109),(110,ii110)]
noncomputable def inlF : FuncId → Option Fi:=lookL inlL
noncomputable def SGI {β:Type} (cs:Oracle) : S.Sgs β:=S.inlS T (rsT T) (lookL hsL) cs inlF 12 4
theorem SGI_ok {β:Type} {B:S.BookM} (hT:B.T = T) (h:∀ p ∈ inlL,B.fi p.1 = some p.2 ∧ B.known p.1 = none ∧ ∀ xs,B.norm p.1 xs = xs) (r:β) : (SGI (β:=β) (S.sem B)).Ok (S.sem B) r:=by
 have:=S.inlS_ok (β:=β) (T:=B.T) (ty:=rsT T) (fn:=lookL hsL) (S.sem_apart B) (S.inl_sem (B:=B) (inl:=inlF) (lf:=12) fun g i hi=>h (g,i) (lookL_mem hi)) 4 r
 rw [hT] at this
 exact this
end Go.Proofs.YtkinbnepkpoofaaGreatDoor
/- Words for what is printed often. -/
set_option linter.unusedSectionVars false
namespace Go.Proofs.YtkinbnepkpoofaaGreatDoor
open Go Go.AM
abbrev Nm:=List UInt8
abbrev EX : List Sc:=[.int .i64,.str,.int .i64,.str,.sl 5]
abbrev ST : List Sc:=[.int .i64,.int .i64,.str,.str,.sl 5,.sl 7,.sl 7]
abbrev FN : List Sc:=[.str,.sl 1,.sl 2,.sl 7]
abbrev exD (p:Int × Nm × Int × Nm × List D) : D:=.agg [.int .i64 p.1,.str p.2.1,.int .i64 p.2.2.1,.str p.2.2.2.1,.sl false 5 p.2.2.2.2]
abbrev stD (p:Int × Int × Nm × Nm × List D × List D × List D) : D:=.agg [.int .i64 p.1,.int .i64 p.2.1,.str p.2.2.1,.str p.2.2.2.1,.sl false 5 p.2.2.2.2.1,.sl false 7 p.2.2.2.2.2.1,.sl false 7 p.2.2.2.2.2.2]
abbrev fnD (p:Nm × List D × List D × List D) : D:=.agg [.str p.1,.sl false 1 p.2.1,.sl false 2 p.2.2.1,.sl false 7 p.2.2.2]
abbrev EXT:=Int × Nm × Int × Nm × List D
abbrev STT:=Int × Int × Nm × Nm × List D × List D × List D
abbrev FNT:=Nm × List D × List D × List D
abbrev FX:=List D × Int × D × D × Int × Int × Bool × Unit
abbrev KX:=(List D × Nm × List D × List D × List D × Bool × Unit × Unit) × List D × Unit
abbrev FB:=S.Hbs.T [.c [.sl 1,.int .i64,.any,.any,.int .i64,.int .i64,.bool]]
abbrev FHp (p:List D × Int × D × D × Int × Int × Bool × Unit) : Heap:=[some (.c 7 [.agg [.sl false 1 p.1,.int .i64 p.2.1,p.2.2.1,p.2.2.2.1,.int .i64 p.2.2.2.2.1,.int .i64 p.2.2.2.2.2.1,.bool p.2.2.2.2.2.2.1]])]
abbrev FTp (p:List D × Int × D × D × Int × Int × Bool × Unit) : List D × Int × D × D × Int × Int × Bool × Unit:=(p.1,p.2.1,p.2.2.1,p.2.2.2.1,p.2.2.2.2.1,p.2.2.2.2.2.1,p.2.2.2.2.2.2.1,())
abbrev SF (rs:List S.Hm) : S.Sg:={ rs:=rs,hs:=[.c [.sl 1,.int .i64,.any,.any,.int .i64,.int .i64,.bool]] }
abbrev KB:=S.Hbs.T [.m [.sl 4,.str,.sl 1,.sl 2,.sl 7,.bool,.mp 1],.o]
abbrev KS : S.Sg:=⟨[.int .i64],[.m [.sl 4,.str,.sl 1,.sl 2,.sl 7,.bool,.mp 1],.o]⟩
abbrev KHp (q:(List D × Nm × List D × List D × List D × Bool × Unit × Unit) × List D × Unit) : Heap:=[some (.m 7 [.agg [.im (.sl false 4 q.1.1),.im (.str q.1.2.1),.im (.sl false 1 q.1.2.2.1),.im (.sl false 2 q.1.2.2.2.1),.im (.sl false 7 q.1.2.2.2.2.1),.im (.bool q.1.2.2.2.2.2.1),.mp 1]]),some (.o q.2.1)]
abbrev KTp (q:(List D × Nm × List D × List D × List D × Bool × Unit × Unit) × List D × Unit) : (List D × Nm × List D × List D × List D × Bool × Unit × Unit) × List D × Unit:=((q.1.1,q.1.2.1,q.1.2.2.1,q.1.2.2.2.1,q.1.2.2.2.2.1,q.1.2.2.2.2.2.1,(),()),q.2.1,())
end Go.Proofs.YtkinbnepkpoofaaGreatDoor
/- (*billhook/billhooklaw05.feed).next: what it comes to. -/
set_option maxHeartbeats 0
open Go Go.AM
namespace Go.Proofs.YtkinbnepkpoofaaGreatDoor
noncomputable def fi194 : Fi:=mkFi T Tryz.f194 {  }
noncomputable abbrev X194 (cs:Oracle) : Px:=fi194.px T cs 1
noncomputable abbrev K194 : S.Kq (S.Hms.T [.int .i64] × FB):=S.finZ T fi194 1 (S.endS ⟨[.int .i64],[.c [.sl 1,.int .i64,.any,.any,.int .i64,.int .i64,.bool]]⟩)
noncomputable def F194 (cs:Oracle) (lf:Nat) (l:List D) (t:Int) (n r:D) (e g:Int) (m:Bool) : Option (S.Hms.T [.int .i64] × FB) :=
 cond (decide (t ≥ (↑(List.length l) : Int)))
  (some ((((0:Int),()),(l,t,n,r,e,g,m,()),())))
  (cond (decide ((0:Int) ≤ IntKind.wrap .i64 (IntKind.wrap .i64 (t + (1:Int)) - (1:Int))))
   (S.optZ (l[Int.toNat (IntKind.wrap .i64 (IntKind.wrap .i64 (t + (1:Int)) - (1:Int)))]?) fun (d1:D) =>
    S.optZ (D.asInt .u8 d1) fun (d2:Int) =>
     some (((IntKind.wrap .i64 d2,()),(l,IntKind.wrap .i64 (t + (1:Int)),n,r,e,g,m,()),())))
   (none))
theorem F194_eq (cs:Oracle) (lf:Nat) (l:List D) (t:Int) (n r:D) (e g:Int) (m:Bool) : S.bodyS T SG cs fi194 lf [.ptr 0 0 0] [some (.c 7 [.agg [.sl false 1 l,.int .i64 t,n,r,.int .i64 e,.int .i64 g,.bool m]])] (S.endS ⟨[.int .i64],[.c [.sl 1,.int .i64,.any,.any,.int .i64,.int .i64,.bool]]⟩) = F194 cs lf l t n r e g m:=by
 kernel_rfl
theorem fi194_ok : fi194.ok Tryz.prog 194:=⟨Tryz.func194,by decide,rfl,by rfl⟩
end Go.Proofs.YtkinbnepkpoofaaGreatDoor
/- (*billhook/billhooklaw05.feed).expr: what it comes to. -/
open Go Go.AM
namespace Go.Proofs.YtkinbnepkpoofaaGreatDoor
noncomputable def fi195 : Fi:=mkFi T Tryz.f195 { keep:=isIn [100008,100010,100012,100015],lend:=isIn [194,195] }
noncomputable abbrev X195 (cs:Oracle) : Px:=fi195.px T cs 1
noncomputable abbrev K195 : S.Kq (S.Hms.T [.any] × FB):=S.finZ T fi195 1 (S.endS ⟨[.any],[.c [.sl 1,.int .i64,.any,.any,.int .i64,.int .i64,.bool]]⟩)
noncomputable def F195 (cs:Oracle) (lf:Nat) (b:Int) (l:List D) (t:Int) (n r:D) (e g:Int) (m:Bool) : Option (S.Hms.T [.any] × FB) :=
 S.optZ (S.lentS cs (SF [S.Hm.int .i64]) 194 [AV.ptr 0 0 0] [some (Blk.c 7 [D.agg [D.sl false 1 l,D.int .i64 t,n,r,D.int .i64 e,D.int .i64 g,D.bool m]])]) fun (d1:(Int × Unit) × FX × Unit) =>
  cond (decide (b < (1:Int)))
   (cond (decide (Int.tmod (Int.tmod d1.1.1 (16:Int)) (7:Int) < (3:Int)))
    (cond (decide ((0:Int) ≤ Int.tmod (IntKind.wrap .i64 (Int.tdiv d1.1.1 (16:Int))) (10:Int)))
     (S.optZ ([D.int .i64 (0:Int),D.int .i64 (1:Int),D.int .i64 (2:Int),D.int .i64 (3:Int),D.int .i64 (-1 : Int),D.int .i64 (5:Int),D.int .i64 (7:Int),D.int .i64 (-9223372036854775808 : Int),D.int .i64 (64:Int),D.int .i64 (9223372036854775807:Int)][Int.toNat (Int.tmod (IntKind.wrap .i64 (Int.tdiv d1.1.1 (16:Int))) (10:Int))]?) fun (d2:D) =>
      S.optZ (D.asInt .i64 d2) fun (d3:Int) =>
       some (((D.agg [D.int .i64 (0:Int),D.str [],D.int .i64 d3,D.str [],D.sl true 0 []],()),(FTp d1.2.1),())))
     (none))
    (cond (decide (Int.tmod (Int.tmod d1.1.1 (16:Int)) (7:Int) < (7:Int)))
     (S.optZ (D.asSl 1 d1.2.1.2.2.1) fun (d4:List D) =>
      S.optZ (D.asSl 1 d1.2.1.2.2.1) fun (d5:List D) =>
       cond (decide ((↑(List.length d5) : Int) ≠ (0:Int)))
        (cond (decide ((0:Int) ≤ Int.tmod (IntKind.wrap .i64 (Int.tdiv d1.1.1 (16:Int))) (↑(List.length d5) : Int)))
         (S.optZ (d4[Int.toNat (Int.tmod (IntKind.wrap .i64 (Int.tdiv d1.1.1 (16:Int))) (↑(List.length d5) : Int))]?) fun (d6:D) =>
          S.optZ (D.asStr d6) fun (d7:List UInt8) =>
           some (((D.agg [D.int .i64 (1:Int),D.str [],D.int .i64 (0:Int),D.str d7,D.sl true 0 []],()),(FTp d1.2.1),())))
         (none))
        (none))
     (cond (decide (Int.tmod (Int.tmod d1.1.1 (16:Int)) (7:Int) < (9:Int)))
      (S.optZ (D.asSl 1 d1.2.1.2.2.2.1) fun (d8:List D) =>
       S.optZ (D.asSl 1 d1.2.1.2.2.2.1) fun (d9:List D) =>
        cond (decide ((↑(List.length d9) : Int) ≠ (0:Int)))
         (cond (decide ((0:Int) ≤ Int.tmod (IntKind.wrap .i64 (Int.tdiv d1.1.1 (16:Int))) (↑(List.length d9) : Int)))
          (S.optZ (d8[Int.toNat (Int.tmod (IntKind.wrap .i64 (Int.tdiv d1.1.1 (16:Int))) (↑(List.length d9) : Int))]?) fun (d10:D) =>
           S.optZ (D.asStr d10) fun (d11:List UInt8) =>
            S.optZ (D.asSl 1 d1.2.1.2.2.2.1) fun (d12:List D) =>
             cond (S.eqA (AV.im (D.sl false 1 d12)) (AV.im (D.sl false 1 d8)))
              (cond (decide (d1.1.1 = d1.1.1))
               (cond (decide (IntKind.wrap .i64 (Int.tdiv d1.1.1 (16:Int)) = IntKind.wrap .i64 (Int.tdiv d1.1.1 (16:Int))))
                (S.optZ (D.asSl 1 d1.2.1.2.2.2.1) fun (d13:List D) =>
                 cond (S.eqA (AV.im (D.sl false 1 d13)) (AV.im (D.sl false 1 d9)))
                  (cond (decide ((↑(List.length d9) : Int) = (↑(List.length d9) : Int)))
                   (cond (decide ((↑(List.length d9) : Int) ≠ (0:Int)))
                    (cond (decide (Int.tmod (IntKind.wrap .i64 (Int.tdiv d1.1.1 (16:Int))) (↑(List.length d9) : Int) = Int.tmod (IntKind.wrap .i64 (Int.tdiv d1.1.1 (16:Int))) (↑(List.length d9) : Int)))
                     (cond (decide ((0:Int) ≤ Int.tmod (IntKind.wrap .i64 (Int.tdiv d1.1.1 (16:Int))) (↑(List.length d9) : Int)))
                      (S.optZ (d8[Int.toNat (Int.tmod (IntKind.wrap .i64 (Int.tdiv d1.1.1 (16:Int))) (↑(List.length d9) : Int))]?) fun (d14:D) =>
                       S.optZ (D.asStr d14) fun (d15:List UInt8) =>
                        cond (S.eqA (AV.pe (D.str d15) 0) (AV.pe (D.str d11) 0))
                         (cond (d11 == d11)
                          (S.optZ (S.lentS cs (SF [S.Hm.any]) 195 [AV.ptr 0 0 0,AV.im (D.int .i64 (IntKind.wrap .i64 (b - (1:Int))))] (FHp d1.2.1)) fun (d16:(D × Unit) × FX × Unit) =>
                           S.optZ (S.stDec EX d16.1.1) fun (d17:EXT) =>
                            S.optZ (D.asSl 1 d16.2.1.2.2.2.1) fun (d18:List D) =>
                             cond (S.eqA (AV.im (D.sl false 1 d18)) (AV.im (D.sl false 1 d8)))
                              (cond (decide (d1.1.1 = d1.1.1))
                               (cond (decide (IntKind.wrap .i64 (Int.tdiv d1.1.1 (16:Int)) = IntKind.wrap .i64 (Int.tdiv d1.1.1 (16:Int))))
                                (S.optZ (D.asSl 1 d16.2.1.2.2.2.1) fun (d19:List D) =>
                                 cond (S.eqA (AV.im (D.sl false 1 d19)) (AV.im (D.sl false 1 d9)))
                                  (cond (decide ((↑(List.length d9) : Int) = (↑(List.length d9) : Int)))
                                   (cond (decide ((↑(List.length d9) : Int) ≠ (0:Int)))
                                    (cond (decide (Int.tmod (IntKind.wrap .i64 (Int.tdiv d1.1.1 (16:Int))) (↑(List.length d9) : Int) = Int.tmod (IntKind.wrap .i64 (Int.tdiv d1.1.1 (16:Int))) (↑(List.length d9) : Int)))
                                     (cond (decide ((0:Int) ≤ Int.tmod (IntKind.wrap .i64 (Int.tdiv d1.1.1 (16:Int))) (↑(List.length d9) : Int)))
                                      (S.optZ (d8[Int.toNat (Int.tmod (IntKind.wrap .i64 (Int.tdiv d1.1.1 (16:Int))) (↑(List.length d9) : Int))]?) fun (d20:D) =>
                                       S.optZ (D.asStr d20) fun (d21:List UInt8) =>
                                        cond (S.eqA (AV.pe (D.str d21) 0) (AV.pe (D.str d11) 0))
                                         (cond (d11 == d11)
                                          (S.optZ (D.asSl 1 d16.2.1.2.2.2.1) fun (d22:List D) =>
                                           cond (S.eqA (AV.im (D.sl false 1 d22)) (AV.im (D.sl false 1 d8)))
                                            (cond (decide (d1.1.1 = d1.1.1))
                                             (cond (decide (IntKind.wrap .i64 (Int.tdiv d1.1.1 (16:Int)) = IntKind.wrap .i64 (Int.tdiv d1.1.1 (16:Int))))
                                              (S.optZ (D.asSl 1 d16.2.1.2.2.2.1) fun (d23:List D) =>
                                               cond (S.eqA (AV.im (D.sl false 1 d23)) (AV.im (D.sl false 1 d9)))
                                                (cond (decide ((↑(List.length d9) : Int) = (↑(List.length d9) : Int)))
                                                 (cond (decide ((↑(List.length d9) : Int) ≠ (0:Int)))
                                                  (cond (decide (Int.tmod (IntKind.wrap .i64 (Int.tdiv d1.1.1 (16:Int))) (↑(List.length d9) : Int) = Int.tmod (IntKind.wrap .i64 (Int.tdiv d1.1.1 (16:Int))) (↑(List.length d9) : Int)))
                                                   (cond (decide ((0:Int) ≤ Int.tmod (IntKind.wrap .i64 (Int.tdiv d1.1.1 (16:Int))) (↑(List.length d9) : Int)))
                                                    (S.optZ (d8[Int.toNat (Int.tmod (IntKind.wrap .i64 (Int.tdiv d1.1.1 (16:Int))) (↑(List.length d9) : Int))]?) fun (d24:D) =>
                                                     S.optZ (D.asStr d24) fun (d25:List UInt8) =>
                                                      cond (S.eqA (AV.pe (D.str d25) 0) (AV.pe (D.str d11) 0))
                                                       (cond (d11 == d11)
                                                        (some (((D.agg [D.int .i64 (2:Int),D.str [],D.int .i64 (0:Int),D.str d11,D.sl true 5 [exD d17]],()),(FTp d16.2.1),())))
                                                        (none))
                                                       (none))
                                                    (none))
                                                   (none))
                                                  (none))
                                                 (none))
                                                (none))
                                              (none))
                                             (none))
                                            (none))
                                          (none))
                                         (none))
                                      (none))
                                     (none))
                                    (none))
                                   (none))
                                  (none))
                                (none))
                               (none))
                              (none))
                          (none))
                         (none))
                      (none))
                     (none))
                    (none))
                   (none))
                  (none))
                (none))
               (none))
              (none))
          (none))
         (none))
      (cond (decide (Int.tmod (Int.tmod d1.1.1 (16:Int)) (7:Int) < (10:Int)))
       (cond (decide ((0:Int) ≤ Int.tmod (IntKind.wrap .i64 (Int.tdiv d1.1.1 (16:Int))) (3:Int)))
        (S.optZ ([D.str [45],D.str [126],D.str [33]][Int.toNat (Int.tmod (IntKind.wrap .i64 (Int.tdiv d1.1.1 (16:Int))) (3:Int))]?) fun (d26:D) =>
         S.optZ (D.asStr d26) fun (d27:List UInt8) =>
          cond (S.eqA (AV.im (D.sl true 1 [D.str [45],D.str [126],D.str [33]])) (AV.im (D.sl true 1 [D.str [45],D.str [126],D.str [33]])))
           (cond (decide (d1.1.1 = d1.1.1))
            (cond (decide (IntKind.wrap .i64 (Int.tdiv d1.1.1 (16:Int)) = IntKind.wrap .i64 (Int.tdiv d1.1.1 (16:Int))))
             (cond (decide (Int.tmod (IntKind.wrap .i64 (Int.tdiv d1.1.1 (16:Int))) (3:Int) = Int.tmod (IntKind.wrap .i64 (Int.tdiv d1.1.1 (16:Int))) (3:Int)))
              (cond (decide ((0:Int) ≤ Int.tmod (IntKind.wrap .i64 (Int.tdiv d1.1.1 (16:Int))) (3:Int)))
               (S.optZ ([D.str [45],D.str [126],D.str [33]][Int.toNat (Int.tmod (IntKind.wrap .i64 (Int.tdiv d1.1.1 (16:Int))) (3:Int))]?) fun (d28:D) =>
                S.optZ (D.asStr d28) fun (d29:List UInt8) =>
                 cond (S.eqA (AV.pe (D.str d29) 0) (AV.pe (D.str d27) 0))
                  (cond (d27 == d27)
                   (S.optZ (S.lentS cs (SF [S.Hm.any]) 195 [AV.ptr 0 0 0,AV.im (D.int .i64 (IntKind.wrap .i64 (b - (1:Int))))] (FHp d1.2.1)) fun (d30:(D × Unit) × FX × Unit) =>
                    S.optZ (S.stDec EX d30.1.1) fun (d31:EXT) =>
                     cond (S.eqA (AV.im (D.sl true 1 [D.str [45],D.str [126],D.str [33]])) (AV.im (D.sl true 1 [D.str [45],D.str [126],D.str [33]])))
                      (cond (decide (d1.1.1 = d1.1.1))
                       (cond (decide (IntKind.wrap .i64 (Int.tdiv d1.1.1 (16:Int)) = IntKind.wrap .i64 (Int.tdiv d1.1.1 (16:Int))))
                        (cond (decide (Int.tmod (IntKind.wrap .i64 (Int.tdiv d1.1.1 (16:Int))) (3:Int) = Int.tmod (IntKind.wrap .i64 (Int.tdiv d1.1.1 (16:Int))) (3:Int)))
                         (cond (decide ((0:Int) ≤ Int.tmod (IntKind.wrap .i64 (Int.tdiv d1.1.1 (16:Int))) (3:Int)))
                          (S.optZ ([D.str [45],D.str [126],D.str [33]][Int.toNat (Int.tmod (IntKind.wrap .i64 (Int.tdiv d1.1.1 (16:Int))) (3:Int))]?) fun (d32:D) =>
                           S.optZ (D.asStr d32) fun (d33:List UInt8) =>
                            cond (S.eqA (AV.pe (D.str d33) 0) (AV.pe (D.str d27) 0))
                             (cond (d27 == d27)
                              (cond (S.eqA (AV.im (D.sl true 1 [D.str [45],D.str [126],D.str [33]])) (AV.im (D.sl true 1 [D.str [45],D.str [126],D.str [33]])))
                               (cond (decide (d1.1.1 = d1.1.1))
                                (cond (decide (IntKind.wrap .i64 (Int.tdiv d1.1.1 (16:Int)) = IntKind.wrap .i64 (Int.tdiv d1.1.1 (16:Int))))
                                 (cond (decide (Int.tmod (IntKind.wrap .i64 (Int.tdiv d1.1.1 (16:Int))) (3:Int) = Int.tmod (IntKind.wrap .i64 (Int.tdiv d1.1.1 (16:Int))) (3:Int)))
                                  (cond (decide ((0:Int) ≤ Int.tmod (IntKind.wrap .i64 (Int.tdiv d1.1.1 (16:Int))) (3:Int)))
                                   (S.optZ ([D.str [45],D.str [126],D.str [33]][Int.toNat (Int.tmod (IntKind.wrap .i64 (Int.tdiv d1.1.1 (16:Int))) (3:Int))]?) fun (d34:D) =>
                                    S.optZ (D.asStr d34) fun (d35:List UInt8) =>
                                     cond (S.eqA (AV.pe (D.str d35) 0) (AV.pe (D.str d27) 0))
                                      (cond (d27 == d27)
                                       (some (((D.agg [D.int .i64 (3:Int),D.str d27,D.int .i64 (0:Int),D.str [],D.sl true 5 [exD d31]],()),(FTp d30.2.1),())))
                                       (none))
                                      (none))
                                   (none))
                                  (none))
                                 (none))
                                (none))
                               (none))
                              (none))
                             (none))
                          (none))
                         (none))
                        (none))
                       (none))
                      (none))
                   (none))
                  (none))
               (none))
              (none))
             (none))
            (none))
           (none))
        (none))
       (S.optZ (S.lentS cs (SF [S.Hm.any]) 195 [AV.ptr 0 0 0,AV.im (D.int .i64 (IntKind.wrap .i64 (b - (1:Int))))] (FHp d1.2.1)) fun (d36:(D × Unit) × FX × Unit) =>
        S.optZ (S.stDec EX d36.1.1) fun (d37:EXT) =>
         cond (S.eqA (AV.im (D.sl true 1 [D.str [124,124],D.str [38,38],D.str [124],D.str [94],D.str [38],D.str [61,61],D.str [33,61],D.str [60],D.str [60,61],D.str [62],D.str [62,61],D.str [60,60],D.str [62,62],D.str [43],D.str [45],D.str [42],D.str [47],D.str [37],D.str [60],D.str [43],D.str [45],D.str [61,61]])) (AV.im (D.sl true 1 [D.str [124,124],D.str [38,38],D.str [124],D.str [94],D.str [38],D.str [61,61],D.str [33,61],D.str [60],D.str [60,61],D.str [62],D.str [62,61],D.str [60,60],D.str [62,62],D.str [43],D.str [45],D.str [42],D.str [47],D.str [37],D.str [60],D.str [43],D.str [45],D.str [61,61]])))
          (cond (S.eqA (AV.im (exD d37)) (AV.im (exD d37)))
           (cond (decide (b = b))
            (cond (decide (IntKind.wrap .i64 (b - (1:Int)) = IntKind.wrap .i64 (b - (1:Int))))
             (S.optZ (S.lentS cs (SF [S.Hm.int .i64]) 194 [AV.ptr 0 0 0] (FHp d36.2.1)) fun (d38:(Int × Unit) × FX × Unit) =>
              cond (decide ((0:Int) ≤ Int.tmod d38.1.1 (22:Int)))
               (S.optZ ([D.str [124,124],D.str [38,38],D.str [124],D.str [94],D.str [38],D.str [61,61],D.str [33,61],D.str [60],D.str [60,61],D.str [62],D.str [62,61],D.str [60,60],D.str [62,62],D.str [43],D.str [45],D.str [42],D.str [47],D.str [37],D.str [60],D.str [43],D.str [45],D.str [61,61]][Int.toNat (Int.tmod d38.1.1 (22:Int))]?) fun (d39:D) =>
                S.optZ (D.asStr d39) fun (d40:List UInt8) =>
                 cond (S.eqA (AV.im (D.sl true 1 [D.str [124,124],D.str [38,38],D.str [124],D.str [94],D.str [38],D.str [61,61],D.str [33,61],D.str [60],D.str [60,61],D.str [62],D.str [62,61],D.str [60,60],D.str [62,62],D.str [43],D.str [45],D.str [42],D.str [47],D.str [37],D.str [60],D.str [43],D.str [45],D.str [61,61]])) (AV.im (D.sl true 1 [D.str [124,124],D.str [38,38],D.str [124],D.str [94],D.str [38],D.str [61,61],D.str [33,61],D.str [60],D.str [60,61],D.str [62],D.str [62,61],D.str [60,60],D.str [62,62],D.str [43],D.str [45],D.str [42],D.str [47],D.str [37],D.str [60],D.str [43],D.str [45],D.str [61,61]])))
                  (cond (S.eqA (AV.im (exD d37)) (AV.im (exD d37)))
                   (cond (decide (b = b))
                    (cond (decide (IntKind.wrap .i64 (b - (1:Int)) = IntKind.wrap .i64 (b - (1:Int))))
                     (cond (decide (Int.tmod d38.1.1 (22:Int) = Int.tmod d38.1.1 (22:Int)))
                      (cond (decide ((0:Int) ≤ Int.tmod d38.1.1 (22:Int)))
                       (S.optZ ([D.str [124,124],D.str [38,38],D.str [124],D.str [94],D.str [38],D.str [61,61],D.str [33,61],D.str [60],D.str [60,61],D.str [62],D.str [62,61],D.str [60,60],D.str [62,62],D.str [43],D.str [45],D.str [42],D.str [47],D.str [37],D.str [60],D.str [43],D.str [45],D.str [61,61]][Int.toNat (Int.tmod d38.1.1 (22:Int))]?) fun (d41:D) =>
                        S.optZ (D.asStr d41) fun (d42:List UInt8) =>
                         cond (S.eqA (AV.pe (D.str d42) 0) (AV.pe (D.str d40) 0))
                          (cond (d40 == d40)
                           (S.optZ (S.lentS cs (SF [S.Hm.any]) 195 [AV.ptr 0 0 0,AV.im (D.int .i64 (IntKind.wrap .i64 (b - (1:Int))))] (FHp d38.2.1)) fun (d43:(D × Unit) × FX × Unit) =>
                            S.optZ (S.stDec EX d43.1.1) fun (d44:EXT) =>
                             cond (S.eqA (AV.im (D.sl true 1 [D.str [124,124],D.str [38,38],D.str [124],D.str [94],D.str [38],D.str [61,61],D.str [33,61],D.str [60],D.str [60,61],D.str [62],D.str [62,61],D.str [60,60],D.str [62,62],D.str [43],D.str [45],D.str [42],D.str [47],D.str [37],D.str [60],D.str [43],D.str [45],D.str [61,61]])) (AV.im (D.sl true 1 [D.str [124,124],D.str [38,38],D.str [124],D.str [94],D.str [38],D.str [61,61],D.str [33,61],D.str [60],D.str [60,61],D.str [62],D.str [62,61],D.str [60,60],D.str [62,62],D.str [43],D.str [45],D.str [42],D.str [47],D.str [37],D.str [60],D.str [43],D.str [45],D.str [61,61]])))
                              (cond (S.eqA (AV.im (exD d37)) (AV.im (exD d37)))
                               (cond (decide (Int.tmod d38.1.1 (22:Int) = Int.tmod d38.1.1 (22:Int)))
                                (cond (decide ((0:Int) ≤ Int.tmod d38.1.1 (22:Int)))
                                 (S.optZ ([D.str [124,124],D.str [38,38],D.str [124],D.str [94],D.str [38],D.str [61,61],D.str [33,61],D.str [60],D.str [60,61],D.str [62],D.str [62,61],D.str [60,60],D.str [62,62],D.str [43],D.str [45],D.str [42],D.str [47],D.str [37],D.str [60],D.str [43],D.str [45],D.str [61,61]][Int.toNat (Int.tmod d38.1.1 (22:Int))]?) fun (d45:D) =>
                                  S.optZ (D.asStr d45) fun (d46:List UInt8) =>
                                   cond (S.eqA (AV.pe (D.str d46) 0) (AV.pe (D.str d40) 0))
                                    (cond (d40 == d40)
                                     (cond (S.eqA (AV.im (D.sl true 1 [D.str [124,124],D.str [38,38],D.str [124],D.str [94],D.str [38],D.str [61,61],D.str [33,61],D.str [60],D.str [60,61],D.str [62],D.str [62,61],D.str [60,60],D.str [62,62],D.str [43],D.str [45],D.str [42],D.str [47],D.str [37],D.str [60],D.str [43],D.str [45],D.str [61,61]])) (AV.im (D.sl true 1 [D.str [124,124],D.str [38,38],D.str [124],D.str [94],D.str [38],D.str [61,61],D.str [33,61],D.str [60],D.str [60,61],D.str [62],D.str [62,61],D.str [60,60],D.str [62,62],D.str [43],D.str [45],D.str [42],D.str [47],D.str [37],D.str [60],D.str [43],D.str [45],D.str [61,61]])))
                                      (cond (decide (Int.tmod d38.1.1 (22:Int) = Int.tmod d38.1.1 (22:Int)))
                                       (cond (decide ((0:Int) ≤ Int.tmod d38.1.1 (22:Int)))
                                        (S.optZ ([D.str [124,124],D.str [38,38],D.str [124],D.str [94],D.str [38],D.str [61,61],D.str [33,61],D.str [60],D.str [60,61],D.str [62],D.str [62,61],D.str [60,60],D.str [62,62],D.str [43],D.str [45],D.str [42],D.str [47],D.str [37],D.str [60],D.str [43],D.str [45],D.str [61,61]][Int.toNat (Int.tmod d38.1.1 (22:Int))]?) fun (d47:D) =>
                                         S.optZ (D.asStr d47) fun (d48:List UInt8) =>
                                          cond (S.eqA (AV.pe (D.str d48) 0) (AV.pe (D.str d40) 0))
                                           (cond (d40 == d40)
                                            (some (((D.agg [D.int .i64 (4:Int),D.str d40,D.int .i64 (0:Int),D.str [],D.sl true 5 [exD d37,exD d44]],()),(FTp d43.2.1),())))
                                            (none))
                                           (none))
                                        (none))
                                       (none))
                                      (none))
                                     (none))
                                    (none))
                                 (none))
                                (none))
                               (none))
                              (none))
                           (none))
                          (none))
                       (none))
                      (none))
                     (none))
                    (none))
                   (none))
                  (none))
               (none))
             (none))
            (none))
           (none))
          (none))))))
   (cond (decide (Int.tmod d1.1.1 (16:Int) < (3:Int)))
    (cond (decide ((0:Int) ≤ Int.tmod (IntKind.wrap .i64 (Int.tdiv d1.1.1 (16:Int))) (10:Int)))
     (S.optZ ([D.int .i64 (0:Int),D.int .i64 (1:Int),D.int .i64 (2:Int),D.int .i64 (3:Int),D.int .i64 (-1 : Int),D.int .i64 (5:Int),D.int .i64 (7:Int),D.int .i64 (-9223372036854775808 : Int),D.int .i64 (64:Int),D.int .i64 (9223372036854775807:Int)][Int.toNat (Int.tmod (IntKind.wrap .i64 (Int.tdiv d1.1.1 (16:Int))) (10:Int))]?) fun (d49:D) =>
      S.optZ (D.asInt .i64 d49) fun (d50:Int) =>
       some (((D.agg [D.int .i64 (0:Int),D.str [],D.int .i64 d50,D.str [],D.sl true 0 []],()),(FTp d1.2.1),())))
     (none))
    (cond (decide (Int.tmod d1.1.1 (16:Int) < (7:Int)))
     (S.optZ (D.asSl 1 d1.2.1.2.2.1) fun (d51:List D) =>
      S.optZ (D.asSl 1 d1.2.1.2.2.1) fun (d52:List D) =>
       cond (decide ((↑(List.length d52) : Int) ≠ (0:Int)))
        (cond (decide ((0:Int) ≤ Int.tmod (IntKind.wrap .i64 (Int.tdiv d1.1.1 (16:Int))) (↑(List.length d52) : Int)))
         (S.optZ (d51[Int.toNat (Int.tmod (IntKind.wrap .i64 (Int.tdiv d1.1.1 (16:Int))) (↑(List.length d52) : Int))]?) fun (d53:D) =>
          S.optZ (D.asStr d53) fun (d54:List UInt8) =>
           some (((D.agg [D.int .i64 (1:Int),D.str [],D.int .i64 (0:Int),D.str d54,D.sl true 0 []],()),(FTp d1.2.1),())))
         (none))
        (none))
     (cond (decide (Int.tmod d1.1.1 (16:Int) < (9:Int)))
      (S.optZ (D.asSl 1 d1.2.1.2.2.2.1) fun (d55:List D) =>
       S.optZ (D.asSl 1 d1.2.1.2.2.2.1) fun (d56:List D) =>
        cond (decide ((↑(List.length d56) : Int) ≠ (0:Int)))
         (cond (decide ((0:Int) ≤ Int.tmod (IntKind.wrap .i64 (Int.tdiv d1.1.1 (16:Int))) (↑(List.length d56) : Int)))
          (S.optZ (d55[Int.toNat (Int.tmod (IntKind.wrap .i64 (Int.tdiv d1.1.1 (16:Int))) (↑(List.length d56) : Int))]?) fun (d57:D) =>
           S.optZ (D.asStr d57) fun (d58:List UInt8) =>
            S.optZ (D.asSl 1 d1.2.1.2.2.2.1) fun (d59:List D) =>
             cond (S.eqA (AV.im (D.sl false 1 d59)) (AV.im (D.sl false 1 d55)))
              (cond (decide (d1.1.1 = d1.1.1))
               (cond (decide (IntKind.wrap .i64 (Int.tdiv d1.1.1 (16:Int)) = IntKind.wrap .i64 (Int.tdiv d1.1.1 (16:Int))))
                (S.optZ (D.asSl 1 d1.2.1.2.2.2.1) fun (d60:List D) =>
                 cond (S.eqA (AV.im (D.sl false 1 d60)) (AV.im (D.sl false 1 d56)))
                  (cond (decide ((↑(List.length d56) : Int) = (↑(List.length d56) : Int)))
                   (cond (decide ((↑(List.length d56) : Int) ≠ (0:Int)))
                    (cond (decide (Int.tmod (IntKind.wrap .i64 (Int.tdiv d1.1.1 (16:Int))) (↑(List.length d56) : Int) = Int.tmod (IntKind.wrap .i64 (Int.tdiv d1.1.1 (16:Int))) (↑(List.length d56) : Int)))
                     (cond (decide ((0:Int) ≤ Int.tmod (IntKind.wrap .i64 (Int.tdiv d1.1.1 (16:Int))) (↑(List.length d56) : Int)))
                      (S.optZ (d55[Int.toNat (Int.tmod (IntKind.wrap .i64 (Int.tdiv d1.1.1 (16:Int))) (↑(List.length d56) : Int))]?) fun (d61:D) =>
                       S.optZ (D.asStr d61) fun (d62:List UInt8) =>
                        cond (S.eqA (AV.pe (D.str d62) 0) (AV.pe (D.str d58) 0))
                         (cond (d58 == d58)
                          (S.optZ (S.lentS cs (SF [S.Hm.any]) 195 [AV.ptr 0 0 0,AV.im (D.int .i64 (IntKind.wrap .i64 (b - (1:Int))))] (FHp d1.2.1)) fun (d63:(D × Unit) × FX × Unit) =>
                           S.optZ (S.stDec EX d63.1.1) fun (d64:EXT) =>
                            S.optZ (D.asSl 1 d63.2.1.2.2.2.1) fun (d65:List D) =>
                             cond (S.eqA (AV.im (D.sl false 1 d65)) (AV.im (D.sl false 1 d55)))
                              (cond (decide (d1.1.1 = d1.1.1))
                               (cond (decide (IntKind.wrap .i64 (Int.tdiv d1.1.1 (16:Int)) = IntKind.wrap .i64 (Int.tdiv d1.1.1 (16:Int))))
                                (S.optZ (D.asSl 1 d63.2.1.2.2.2.1) fun (d66:List D) =>
                                 cond (S.eqA (AV.im (D.sl false 1 d66)) (AV.im (D.sl false 1 d56)))
                                  (cond (decide ((↑(List.length d56) : Int) = (↑(List.length d56) : Int)))
                                   (cond (decide ((↑(List.length d56) : Int) ≠ (0:Int)))
                                    (cond (decide (Int.tmod (IntKind.wrap .i64 (Int.tdiv d1.1.1 (16:Int))) (↑(List.length d56) : Int) = Int.tmod (IntKind.wrap .i64 (Int.tdiv d1.1.1 (16:Int))) (↑(List.length d56) : Int)))
                                     (cond (decide ((0:Int) ≤ Int.tmod (IntKind.wrap .i64 (Int.tdiv d1.1.1 (16:Int))) (↑(List.length d56) : Int)))
                                      (S.optZ (d55[Int.toNat (Int.tmod (IntKind.wrap .i64 (Int.tdiv d1.1.1 (16:Int))) (↑(List.length d56) : Int))]?) fun (d67:D) =>
                                       S.optZ (D.asStr d67) fun (d68:List UInt8) =>
                                        cond (S.eqA (AV.pe (D.str d68) 0) (AV.pe (D.str d58) 0))
                                         (cond (d58 == d58)
                                          (S.optZ (D.asSl 1 d63.2.1.2.2.2.1) fun (d69:List D) =>
                                           cond (S.eqA (AV.im (D.sl false 1 d69)) (AV.im (D.sl false 1 d55)))
                                            (cond (decide (d1.1.1 = d1.1.1))
                                             (cond (decide (IntKind.wrap .i64 (Int.tdiv d1.1.1 (16:Int)) = IntKind.wrap .i64 (Int.tdiv d1.1.1 (16:Int))))
                                              (S.optZ (D.asSl 1 d63.2.1.2.2.2.1) fun (d70:List D) =>
                                               cond (S.eqA (AV.im (D.sl false 1 d70)) (AV.im (D.sl false 1 d56)))
                                                (cond (decide ((↑(List.length d56) : Int) = (↑(List.length d56) : Int)))
                                                 (cond (decide ((↑(List.length d56) : Int) ≠ (0:Int)))
                                                  (cond (decide (Int.tmod (IntKind.wrap .i64 (Int.tdiv d1.1.1 (16:Int))) (↑(List.length d56) : Int) = Int.tmod (IntKind.wrap .i64 (Int.tdiv d1.1.1 (16:Int))) (↑(List.length d56) : Int)))
                                                   (cond (decide ((0:Int) ≤ Int.tmod (IntKind.wrap .i64 (Int.tdiv d1.1.1 (16:Int))) (↑(List.length d56) : Int)))
                                                    (S.optZ (d55[Int.toNat (Int.tmod (IntKind.wrap .i64 (Int.tdiv d1.1.1 (16:Int))) (↑(List.length d56) : Int))]?) fun (d71:D) =>
                                                     S.optZ (D.asStr d71) fun (d72:List UInt8) =>
                                                      cond (S.eqA (AV.pe (D.str d72) 0) (AV.pe (D.str d58) 0))
                                                       (cond (d58 == d58)
                                                        (some (((D.agg [D.int .i64 (2:Int),D.str [],D.int .i64 (0:Int),D.str d58,D.sl true 5 [exD d64]],()),(FTp d63.2.1),())))
                                                        (none))
                                                       (none))
                                                    (none))
                                                   (none))
                                                  (none))
                                                 (none))
                                                (none))
                                              (none))
                                             (none))
                                            (none))
                                          (none))
                                         (none))
                                      (none))
                                     (none))
                                    (none))
                                   (none))
                                  (none))
                                (none))
                               (none))
                              (none))
                          (none))
                         (none))
                      (none))
                     (none))
                    (none))
                   (none))
                  (none))
                (none))
               (none))
              (none))
          (none))
         (none))
      (cond (decide (Int.tmod d1.1.1 (16:Int) < (10:Int)))
       (cond (decide ((0:Int) ≤ Int.tmod (IntKind.wrap .i64 (Int.tdiv d1.1.1 (16:Int))) (3:Int)))
        (S.optZ ([D.str [45],D.str [126],D.str [33]][Int.toNat (Int.tmod (IntKind.wrap .i64 (Int.tdiv d1.1.1 (16:Int))) (3:Int))]?) fun (d73:D) =>
         S.optZ (D.asStr d73) fun (d74:List UInt8) =>
          cond (S.eqA (AV.im (D.sl true 1 [D.str [45],D.str [126],D.str [33]])) (AV.im (D.sl true 1 [D.str [45],D.str [126],D.str [33]])))
           (cond (decide (d1.1.1 = d1.1.1))
            (cond (decide (IntKind.wrap .i64 (Int.tdiv d1.1.1 (16:Int)) = IntKind.wrap .i64 (Int.tdiv d1.1.1 (16:Int))))
             (cond (decide (Int.tmod (IntKind.wrap .i64 (Int.tdiv d1.1.1 (16:Int))) (3:Int) = Int.tmod (IntKind.wrap .i64 (Int.tdiv d1.1.1 (16:Int))) (3:Int)))
              (cond (decide ((0:Int) ≤ Int.tmod (IntKind.wrap .i64 (Int.tdiv d1.1.1 (16:Int))) (3:Int)))
               (S.optZ ([D.str [45],D.str [126],D.str [33]][Int.toNat (Int.tmod (IntKind.wrap .i64 (Int.tdiv d1.1.1 (16:Int))) (3:Int))]?) fun (d75:D) =>
                S.optZ (D.asStr d75) fun (d76:List UInt8) =>
                 cond (S.eqA (AV.pe (D.str d76) 0) (AV.pe (D.str d74) 0))
                  (cond (d74 == d74)
                   (S.optZ (S.lentS cs (SF [S.Hm.any]) 195 [AV.ptr 0 0 0,AV.im (D.int .i64 (IntKind.wrap .i64 (b - (1:Int))))] (FHp d1.2.1)) fun (d77:(D × Unit) × FX × Unit) =>
                    S.optZ (S.stDec EX d77.1.1) fun (d78:EXT) =>
                     cond (S.eqA (AV.im (D.sl true 1 [D.str [45],D.str [126],D.str [33]])) (AV.im (D.sl true 1 [D.str [45],D.str [126],D.str [33]])))
                      (cond (decide (d1.1.1 = d1.1.1))
                       (cond (decide (IntKind.wrap .i64 (Int.tdiv d1.1.1 (16:Int)) = IntKind.wrap .i64 (Int.tdiv d1.1.1 (16:Int))))
                        (cond (decide (Int.tmod (IntKind.wrap .i64 (Int.tdiv d1.1.1 (16:Int))) (3:Int) = Int.tmod (IntKind.wrap .i64 (Int.tdiv d1.1.1 (16:Int))) (3:Int)))
                         (cond (decide ((0:Int) ≤ Int.tmod (IntKind.wrap .i64 (Int.tdiv d1.1.1 (16:Int))) (3:Int)))
                          (S.optZ ([D.str [45],D.str [126],D.str [33]][Int.toNat (Int.tmod (IntKind.wrap .i64 (Int.tdiv d1.1.1 (16:Int))) (3:Int))]?) fun (d79:D) =>
                           S.optZ (D.asStr d79) fun (d80:List UInt8) =>
                            cond (S.eqA (AV.pe (D.str d80) 0) (AV.pe (D.str d74) 0))
                             (cond (d74 == d74)
                              (cond (S.eqA (AV.im (D.sl true 1 [D.str [45],D.str [126],D.str [33]])) (AV.im (D.sl true 1 [D.str [45],D.str [126],D.str [33]])))
                               (cond (decide (d1.1.1 = d1.1.1))
                                (cond (decide (IntKind.wrap .i64 (Int.tdiv d1.1.1 (16:Int)) = IntKind.wrap .i64 (Int.tdiv d1.1.1 (16:Int))))
                                 (cond (decide (Int.tmod (IntKind.wrap .i64 (Int.tdiv d1.1.1 (16:Int))) (3:Int) = Int.tmod (IntKind.wrap .i64 (Int.tdiv d1.1.1 (16:Int))) (3:Int)))
                                  (cond (decide ((0:Int) ≤ Int.tmod (IntKind.wrap .i64 (Int.tdiv d1.1.1 (16:Int))) (3:Int)))
                                   (S.optZ ([D.str [45],D.str [126],D.str [33]][Int.toNat (Int.tmod (IntKind.wrap .i64 (Int.tdiv d1.1.1 (16:Int))) (3:Int))]?) fun (d81:D) =>
                                    S.optZ (D.asStr d81) fun (d82:List UInt8) =>
                                     cond (S.eqA (AV.pe (D.str d82) 0) (AV.pe (D.str d74) 0))
                                      (cond (d74 == d74)
                                       (some (((D.agg [D.int .i64 (3:Int),D.str d74,D.int .i64 (0:Int),D.str [],D.sl true 5 [exD d78]],()),(FTp d77.2.1),())))
                                       (none))
                                      (none))
                                   (none))
                                  (none))
                                 (none))
                                (none))
                               (none))
                              (none))
                             (none))
                          (none))
                         (none))
                        (none))
                       (none))
                      (none))
                   (none))
                  (none))
               (none))
              (none))
             (none))
            (none))
           (none))
        (none))
       (S.optZ (S.lentS cs (SF [S.Hm.any]) 195 [AV.ptr 0 0 0,AV.im (D.int .i64 (IntKind.wrap .i64 (b - (1:Int))))] (FHp d1.2.1)) fun (d83:(D × Unit) × FX × Unit) =>
        S.optZ (S.stDec EX d83.1.1) fun (d84:EXT) =>
         cond (S.eqA (AV.im (D.sl true 1 [D.str [124,124],D.str [38,38],D.str [124],D.str [94],D.str [38],D.str [61,61],D.str [33,61],D.str [60],D.str [60,61],D.str [62],D.str [62,61],D.str [60,60],D.str [62,62],D.str [43],D.str [45],D.str [42],D.str [47],D.str [37],D.str [60],D.str [43],D.str [45],D.str [61,61]])) (AV.im (D.sl true 1 [D.str [124,124],D.str [38,38],D.str [124],D.str [94],D.str [38],D.str [61,61],D.str [33,61],D.str [60],D.str [60,61],D.str [62],D.str [62,61],D.str [60,60],D.str [62,62],D.str [43],D.str [45],D.str [42],D.str [47],D.str [37],D.str [60],D.str [43],D.str [45],D.str [61,61]])))
          (cond (S.eqA (AV.im (exD d84)) (AV.im (exD d84)))
           (cond (decide (b = b))
            (cond (decide (IntKind.wrap .i64 (b - (1:Int)) = IntKind.wrap .i64 (b - (1:Int))))
             (S.optZ (S.lentS cs (SF [S.Hm.int .i64]) 194 [AV.ptr 0 0 0] (FHp d83.2.1)) fun (d85:(Int × Unit) × FX × Unit) =>
              cond (decide ((0:Int) ≤ Int.tmod d85.1.1 (22:Int)))
               (S.optZ ([D.str [124,124],D.str [38,38],D.str [124],D.str [94],D.str [38],D.str [61,61],D.str [33,61],D.str [60],D.str [60,61],D.str [62],D.str [62,61],D.str [60,60],D.str [62,62],D.str [43],D.str [45],D.str [42],D.str [47],D.str [37],D.str [60],D.str [43],D.str [45],D.str [61,61]][Int.toNat (Int.tmod d85.1.1 (22:Int))]?) fun (d86:D) =>
                S.optZ (D.asStr d86) fun (d87:List UInt8) =>
                 cond (S.eqA (AV.im (D.sl true 1 [D.str [124,124],D.str [38,38],D.str [124],D.str [94],D.str [38],D.str [61,61],D.str [33,61],D.str [60],D.str [60,61],D.str [62],D.str [62,61],D.str [60,60],D.str [62,62],D.str [43],D.str [45],D.str [42],D.str [47],D.str [37],D.str [60],D.str [43],D.str [45],D.str [61,61]])) (AV.im (D.sl true 1 [D.str [124,124],D.str [38,38],D.str [124],D.str [94],D.str [38],D.str [61,61],D.str [33,61],D.str [60],D.str [60,61],D.str [62],D.str [62,61],D.str [60,60],D.str [62,62],D.str [43],D.str [45],D.str [42],D.str [47],D.str [37],D.str [60],D.str [43],D.str [45],D.str [61,61]])))
                  (cond (S.eqA (AV.im (exD d84)) (AV.im (exD d84)))
                   (cond (decide (b = b))
                    (cond (decide (IntKind.wrap .i64 (b - (1:Int)) = IntKind.wrap .i64 (b - (1:Int))))
                     (cond (decide (Int.tmod d85.1.1 (22:Int) = Int.tmod d85.1.1 (22:Int)))
                      (cond (decide ((0:Int) ≤ Int.tmod d85.1.1 (22:Int)))
                       (S.optZ ([D.str [124,124],D.str [38,38],D.str [124],D.str [94],D.str [38],D.str [61,61],D.str [33,61],D.str [60],D.str [60,61],D.str [62],D.str [62,61],D.str [60,60],D.str [62,62],D.str [43],D.str [45],D.str [42],D.str [47],D.str [37],D.str [60],D.str [43],D.str [45],D.str [61,61]][Int.toNat (Int.tmod d85.1.1 (22:Int))]?) fun (d88:D) =>
                        S.optZ (D.asStr d88) fun (d89:List UInt8) =>
                         cond (S.eqA (AV.pe (D.str d89) 0) (AV.pe (D.str d87) 0))
                          (cond (d87 == d87)
                           (S.optZ (S.lentS cs (SF [S.Hm.any]) 195 [AV.ptr 0 0 0,AV.im (D.int .i64 (IntKind.wrap .i64 (b - (1:Int))))] (FHp d85.2.1)) fun (d90:(D × Unit) × FX × Unit) =>
                            S.optZ (S.stDec EX d90.1.1) fun (d91:EXT) =>
                             cond (S.eqA (AV.im (D.sl true 1 [D.str [124,124],D.str [38,38],D.str [124],D.str [94],D.str [38],D.str [61,61],D.str [33,61],D.str [60],D.str [60,61],D.str [62],D.str [62,61],D.str [60,60],D.str [62,62],D.str [43],D.str [45],D.str [42],D.str [47],D.str [37],D.str [60],D.str [43],D.str [45],D.str [61,61]])) (AV.im (D.sl true 1 [D.str [124,124],D.str [38,38],D.str [124],D.str [94],D.str [38],D.str [61,61],D.str [33,61],D.str [60],D.str [60,61],D.str [62],D.str [62,61],D.str [60,60],D.str [62,62],D.str [43],D.str [45],D.str [42],D.str [47],D.str [37],D.str [60],D.str [43],D.str [45],D.str [61,61]])))
                              (cond (S.eqA (AV.im (exD d84)) (AV.im (exD d84)))
                               (cond (decide (Int.tmod d85.1.1 (22:Int) = Int.tmod d85.1.1 (22:Int)))
                                (cond (decide ((0:Int) ≤ Int.tmod d85.1.1 (22:Int)))
                                 (S.optZ ([D.str [124,124],D.str [38,38],D.str [124],D.str [94],D.str [38],D.str [61,61],D.str [33,61],D.str [60],D.str [60,61],D.str [62],D.str [62,61],D.str [60,60],D.str [62,62],D.str [43],D.str [45],D.str [42],D.str [47],D.str [37],D.str [60],D.str [43],D.str [45],D.str [61,61]][Int.toNat (Int.tmod d85.1.1 (22:Int))]?) fun (d92:D) =>
                                  S.optZ (D.asStr d92) fun (d93:List UInt8) =>
                                   cond (S.eqA (AV.pe (D.str d93) 0) (AV.pe (D.str d87) 0))
                                    (cond (d87 == d87)
                                     (cond (S.eqA (AV.im (D.sl true 1 [D.str [124,124],D.str [38,38],D.str [124],D.str [94],D.str [38],D.str [61,61],D.str [33,61],D.str [60],D.str [60,61],D.str [62],D.str [62,61],D.str [60,60],D.str [62,62],D.str [43],D.str [45],D.str [42],D.str [47],D.str [37],D.str [60],D.str [43],D.str [45],D.str [61,61]])) (AV.im (D.sl true 1 [D.str [124,124],D.str [38,38],D.str [124],D.str [94],D.str [38],D.str [61,61],D.str [33,61],D.str [60],D.str [60,61],D.str [62],D.str [62,61],D.str [60,60],D.str [62,62],D.str [43],D.str [45],D.str [42],D.str [47],D.str [37],D.str [60],D.str [43],D.str [45],D.str [61,61]])))
                                      (cond (decide (Int.tmod d85.1.1 (22:Int) = Int.tmod d85.1.1 (22:Int)))
                                       (cond (decide ((0:Int) ≤ Int.tmod d85.1.1 (22:Int)))
                                        (S.optZ ([D.str [124,124],D.str [38,38],D.str [124],D.str [94],D.str [38],D.str [61,61],D.str [33,61],D.str [60],D.str [60,61],D.str [62],D.str [62,61],D.str [60,60],D.str [62,62],D.str [43],D.str [45],D.str [42],D.str [47],D.str [37],D.str [60],D.str [43],D.str [45],D.str [61,61]][Int.toNat (Int.tmod d85.1.1 (22:Int))]?) fun (d94:D) =>
                                         S.optZ (D.asStr d94) fun (d95:List UInt8) =>
                                          cond (S.eqA (AV.pe (D.str d95) 0) (AV.pe (D.str d87) 0))
                                           (cond (d87 == d87)
                                            (some (((D.agg [D.int .i64 (4:Int),D.str d87,D.int .i64 (0:Int),D.str [],D.sl true 5 [exD d84,exD d91]],()),(FTp d90.2.1),())))
                                            (none))
                                           (none))
                                        (none))
                                       (none))
                                      (none))
                                     (none))
                                    (none))
                                 (none))
                                (none))
                               (none))
                              (none))
                           (none))
                          (none))
                       (none))
                      (none))
                     (none))
                    (none))
                   (none))
                  (none))
               (none))
             (none))
            (none))
           (none))
          (none))))))
theorem F195_eq (cs:Oracle) (lf:Nat) (b:Int) (l:List D) (t:Int) (n r:D) (e g:Int) (m:Bool) : S.bodyS T SG cs fi195 lf [.ptr 0 0 0,.im (.int .i64 b)] [some (.c 7 [.agg [.sl false 1 l,.int .i64 t,n,r,.int .i64 e,.int .i64 g,.bool m]])] (S.endS ⟨[.any],[.c [.sl 1,.int .i64,.any,.any,.int .i64,.int .i64,.bool]]⟩) = F195 cs lf b l t n r e g m:=by
 kernel_rfl
theorem fi195_ok : fi195.ok Tryz.prog 195:=⟨Tryz.func195,by decide,rfl,by rfl⟩
end Go.Proofs.YtkinbnepkpoofaaGreatDoor
/- (*billhook/billhooklaw05.feed).stmts: what it comes to. -/
open Go Go.AM
namespace Go.Proofs.YtkinbnepkpoofaaGreatDoor
noncomputable def fi96 : Fi:=mkFi T Tryz.f96 { live:=fun d=>if Nat.beq d 3 then slots 50 [0,1,2,3,9,10] else none,frz:=isIn [49],lend:=isIn [152],clm:=fun d=>if Nat.beq d 9 then [(0,7)] else [] }
noncomputable abbrev X96 (cs:Oracle) : Px:=fi96.px T cs 1
noncomputable abbrev K96 : S.Kq (S.Hms.T [.sl 7] × FB):=S.finZ T fi96 1 (S.endS ⟨[.sl 7],[.c [.sl 1,.int .i64,.any,.any,.int .i64,.int .i64,.bool]]⟩)
def E96_1 (b c:Int) (d:Bool) (s:(Int) × (List D) × (Int) × (D) × (D) × (Int) × (Int) × (Bool) × (List D)) : Env :=
 match s with
 | (v1,v2,v3,v4,v5,v6,v7,v8,v9) =>
  [AV.ptr 0 0 0,AV.im (D.int .i64 b),AV.im (D.int .i64 c),AV.im (D.bool d),AV.bad,AV.bad,AV.bad,AV.bad,AV.bad,AV.ref 1 0 (List.length v9),AV.im (D.int .i64 v1),AV.bad,AV.bad,AV.bad,AV.bad,AV.bad,AV.bad,AV.bad,AV.bad,AV.bad,AV.bad,AV.bad,AV.bad,AV.bad,AV.bad,AV.bad,AV.bad,AV.bad,AV.bad,AV.bad,AV.bad,AV.bad,AV.bad,AV.bad,AV.bad,AV.bad,AV.bad,AV.bad,AV.bad,AV.bad,AV.bad,AV.bad,AV.bad,AV.bad,AV.bad,AV.bad,AV.bad,AV.bad,AV.bad,AV.bad]
def H96_1 (b c:Int) (d:Bool) (s:(Int) × (List D) × (Int) × (D) × (D) × (Int) × (Int) × (Bool) × (List D)) : Heap :=
 match s with
 | (v1,v2,v3,v4,v5,v6,v7,v8,v9) =>
  [some (Blk.c 7 [D.agg [D.sl false 1 v2,D.int .i64 v3,v4,v5,D.int .i64 v6,D.int .i64 v7,D.bool v8]]),some (Blk.c 7 v9)]
noncomputable def C96_1 (cs:Oracle) (lf:Nat)  : Code × S.Kq (S.Hms.T [.sl 7] × FB):=S.subZ (X96 cs) SG lf fi96.code [1,1,0,1,0] [] K96
noncomputable def B96_1 (cs:Oracle) (lf:Nat) (b c:Int) (d:Bool)   (s:(Int) × (List D) × (Int) × (D) × (D) × (Int) × (Int) × (Bool) × (List D)) (R10:(Int) × (List D) × (Int) × (D) × (D) × (Int) × (Int) × (Bool) × (List D) → Option (S.Hms.T [.sl 7] × FB)) : Option (S.Hms.T [.sl 7] × FB) :=
 match s with
 | (v1,v2,v3,v4,v5,v6,v7,v8,v9) =>
  cond (decide (v1 < c))
  (cond (decide (v6 > (0:Int)))
   (cond (decide (v3 < (↑(List.length v2) : Int)))
    (S.optZ (S.lentS cs (SF [S.Hm.any]) 152 [AV.ptr 0 0 0,AV.im (D.int .i64 b),AV.im (D.bool d)] [some (Blk.c 7 [D.agg [D.sl false 1 v2,D.int .i64 v3,v4,v5,D.int .i64 (IntKind.wrap .i64 (v6 - (1:Int))),D.int .i64 v7,D.bool v8]])]) fun (d11:(D × Unit) × FX × Unit) =>
     S.optZ (S.stDec ST d11.1.1) fun (d12:STT) =>
      cond (decide (List.length (List.take (List.length v9) (List.drop 0 v9) ++ [stD d12]) * 120 ≤ 140737488355328))
       (cond (decide (List.length (List.take (List.length v9) (List.drop 0 v9) ++ [stD d12]) ≤ 140737488355328))
        (R10 ((IntKind.wrap .i64 (v1 + (1:Int)),d11.2.1.1,d11.2.1.2.1,d11.2.1.2.2.1,d11.2.1.2.2.2.1,d11.2.1.2.2.2.2.1,d11.2.1.2.2.2.2.2.1,d11.2.1.2.2.2.2.2.2.1,List.take (List.length v9) (List.drop 0 v9) ++ [stD d12])))
        (none))
       (none))
    (some (((List.take (List.length v9) (List.drop 0 v9),()),(v2,v3,v4,v5,v6,v7,v8,()),()))))
   (some (((List.take (List.length v9) (List.drop 0 v9),()),(v2,v3,v4,v5,v6,v7,v8,()),()))))
  (some (((List.take (List.length v9) (List.drop 0 v9),()),(v2,v3,v4,v5,v6,v7,v8,()),())))
theorem B96_1_eq (cs:Oracle) (lf:Nat) (b c:Int) (d:Bool) (n:Nat) (s:(Int) × (List D) × (Int) × (D) × (D) × (Int) × (Int) × (Bool) × (List D)) : S.roundsZ (X96 cs) SG lf (C96_1 cs lf ) (n + 1) (E96_1 b c d s) (H96_1 b c d s) = B96_1 cs lf b c d   s (fun s'=>S.roundsZ (X96 cs) SG lf (C96_1 cs lf ) n (E96_1 b c d s') (H96_1 b c d s')):=by
 kernel_rfl
noncomputable def L96_1 (cs:Oracle) (lf:Nat) (b c:Int) (d:Bool)  : Nat → (Int) × (List D) × (Int) × (D) × (D) × (Int) × (Int) × (Bool) × (List D) → Option (S.Hms.T [.sl 7] × FB)
 | 0,_=>none
 | n + 1,s=>B96_1 cs lf b c d   s (L96_1 cs lf b c d  n)
theorem L96_1_eq (cs:Oracle) (lf:Nat) (b c:Int) (d:Bool)   : ∀ (n:Nat) (s:(Int) × (List D) × (Int) × (D) × (D) × (Int) × (Int) × (Bool) × (List D)),S.roundsZ (X96 cs) SG lf (C96_1 cs lf ) n (E96_1 b c d s) (H96_1 b c d s) = L96_1 cs lf b c d  n s
 | 0,s=>by
  show _ = none
  kernel_rfl
 | n + 1,s=>by
  have h1 : (fun s'=>S.roundsZ (X96 cs) SG lf (C96_1 cs lf ) n (E96_1 b c d s') (H96_1 b c d s')) = L96_1 cs lf b c d  n:=funext (L96_1_eq cs lf b c d   n)
  rw [B96_1_eq cs lf b c d   n s,h1]
  rfl
noncomputable def G96 (cs:Oracle) (lf:Nat) (b c:Int) (d:Bool) (l:List D) (t:Int) (n r:D) (e g:Int) (m:Bool) (P96_1:(Int) × (List D) × (Int) × (D) × (D) × (Int) × (Int) × (Bool) × (List D) → Option (S.Hms.T [.sl 7] × FB)) : Option (S.Hms.T [.sl 7] × FB) :=
 P96_1  (((0:Int),l,t,n,r,e,g,m,[]))
theorem G96_eq (cs:Oracle) (lf:Nat) (b c:Int) (d:Bool) (l:List D) (t:Int) (n r:D) (e g:Int) (m:Bool) : S.bodyS T SG cs fi96 lf [.ptr 0 0 0,.im (.int .i64 b),.im (.int .i64 c),.im (.bool d)] [some (.c 7 [.agg [.sl false 1 l,.int .i64 t,n,r,.int .i64 e,.int .i64 g,.bool m]])] (S.endS ⟨[.sl 7],[.c [.sl 1,.int .i64,.any,.any,.int .i64,.int .i64,.bool]]⟩) = G96 cs lf b c d l t n r e g m (fun  s2=>S.roundsZ (X96 cs) SG lf (C96_1 cs lf) lf (E96_1 b c d s2) (H96_1 b c d s2)):=by
 kernel_rfl
noncomputable def F96 (cs:Oracle) (lf:Nat) (b c:Int) (d:Bool) (l:List D) (t:Int) (n r:D) (e g:Int) (m:Bool) : Option (S.Hms.T [.sl 7] × FB):=G96 cs lf b c d l t n r e g m (fun  s2=>L96_1 cs lf b c d lf s2)
theorem F96_eq (cs:Oracle) (lf:Nat) (b c:Int) (d:Bool) (l:List D) (t:Int) (n r:D) (e g:Int) (m:Bool) : S.bodyS T SG cs fi96 lf [.ptr 0 0 0,.im (.int .i64 b),.im (.int .i64 c),.im (.bool d)] [some (.c 7 [.agg [.sl false 1 l,.int .i64 t,n,r,.int .i64 e,.int .i64 g,.bool m]])] (S.endS ⟨[.sl 7],[.c [.sl 1,.int .i64,.any,.any,.int .i64,.int .i64,.bool]]⟩) = F96 cs lf b c d l t n r e g m:=by
 rw [G96_eq]
 have h96_1 : (fun  s2=>S.roundsZ (X96 cs) SG lf (C96_1 cs lf) lf (E96_1 b c d s2) (H96_1 b c d s2)) = (fun  s2=>L96_1 cs lf b c d lf s2):=by
  funext  s2
  exact L96_1_eq cs lf b c d lf s2
 rw [h96_1]
 rfl
theorem fi96_ok : fi96.ok Tryz.prog 96:=⟨Tryz.func96,by decide,rfl,by rfl⟩
end Go.Proofs.YtkinbnepkpoofaaGreatDoor