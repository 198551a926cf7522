/- Texts joined into one: Ck1 Ck2 Ck3 Ck5 Ck7 Ck8. -/
import Derived.Test.YtkinbnepkpoofaaGreatDoorTf
import Derived.Test.YtkinbnepkpoofaaGreatDoorGd
import Derived.Test.YtkinbnepkpoofaaGreatDoorGa
import Derived.Test.YtkinbnepkpoofaaGreatDoorGe
/- What the checker says of what is made of bytes: expressions,names,calls,tags. -/
set_option linter.unusedVariables false
set_option linter.unusedSimpArgs false
set_option linter.unusedSectionVars false
set_option maxRecDepth 100000
namespace Go.Proofs.YtkinbnepkpoofaaGreatDoor
open Go Go.AM
abbrev FA (a0:List UInt8) (a1 a2 a3:List D) : AV:=.im (.agg [.str a0,.sl false 1 a1,.sl false 2 a2,.sl false 7 a3])
structure Szd (B:S.BookM) (a0:List UInt8) (a1 a2 a3:List D) (ints arrs:List Nm) : Prop where
 int : ∀ nm ∈ ints,S.pureS (S.sem B) [.int .i64] 64 [FA a0 a1 a2 a3,.im (.str nm),.im (.bool false)] = some ((0:Int),())
 arr : ∀ nm ∈ arrs,S.pureS (S.sem B) [.int .i64] 64 [FA a0 a1 a2 a3,.im (.str nm),.im (.bool true)] = some ((0:Int),())
section
variable {B:S.BookM} (hT:B.T = T)
include hT
theorem L108_at {a0:List UInt8} {a1 a2 a3 ds:List D} (hd:∀ x ∈ ds,∃ p,S.stDec EX x = some p ∧ S.pureS (S.sem B) [.int .i64] 155 [FA a0 a1 a2 a3,.im (exD p)] = some ((0:Int),())) (hl:ds.length ≤ 1000) (lf:Nat) :
  ∀ (m fuel i:Nat),ds.length - i = m → m < fuel → i ≤ ds.length → L108_1 (S.sem B) lf a0 a1 a2 a3 ds fuel (i:Int) = some ((0:Int),()):=by
 intro m
 induction m with
 | zero =>
  intro fuel i hm hf hi
  obtain ⟨fuel,rfl⟩ : ∃ p,fuel = p + 1:=⟨fuel - 1,by omega⟩
  unfold L108_1 B108_1
  refine S.cneg (dfalse (by omega)) ?_
  rfl
 | succ m ih =>
  intro fuel i hm hf hi
  obtain ⟨fuel,rfl⟩ : ∃ p,fuel = p + 1:=⟨fuel - 1,by omega⟩
  have hlt : i < ds.length:=by omega
  obtain ⟨p,hp,hq⟩:=hd _ (List.getElem_mem hlt)
  have w : IntKind.wrap .i64 ((i:Int) + 1) = ((i + 1 : Nat) : Int):=wrap_succ (n:=1000) (by omega) (by omega)
  have e:=ih fuel (i + 1) (by omega) (by omega) (by omega)
  unfold L108_1 B108_1
  refine S.cpos (dtrue (by omega)) ?_
  refine S.cpos (dtrue (by omega)) ?_
  refine S.optP (a:=ds[i]) (by rw [Int.toNat_natCast,List.getElem?_eq_getElem hlt]) ?_
  refine S.optP hp ?_
  refine S.optP hq ?_
  refine S.cneg rfl ?_
  rw [w]
  exact e
theorem eq108 (h108:Has B 108 fi108) {a0:List UInt8} {a1 a2 a3 ds:List D} (hd:∀ x ∈ ds,∃ p,S.stDec EX x = some p ∧ S.pureS (S.sem B) [.int .i64] 155 [FA a0 a1 a2 a3,.im (exD p)] = some ((0:Int),())) (hl:ds.length ≤ 1000) :
  S.pureS (S.sem B) [.int .i64] 108 [FA a0 a1 a2 a3,.im (.sl false 5 ds)] = some ((0:Int),()):=by
 refine pureB hT h108 (lf:=ds.length + 1) ((F108_eq _ _ _ _ _ _ _).trans ?_)
 exact L108_at hT hd hl _ ds.length (ds.length + 1) 0 (by omega) (by omega) (by omega)
theorem eq155 (h155:Has B 155 fi155) (h108:Has B 108 fi108) {a0:List UInt8} {a1 a2 a3:List D} {ints arrs:List Nm} (sz:Szd B a0 a1 a2 a3 ints arrs) {d:D} (h:OkE ints arrs d) :
  ∃ p,S.stDec EX d = some p ∧ S.pureS (S.sem B) [.int .i64] 155 [FA a0 a1 a2 a3,.im (exD p)] = some ((0:Int),()):=by
 induction h with
 | mk d k op n nm kids h hk hn hc ih =>
  have hl : kids.length ≤ 1000:=by rcases hc with ⟨_,_,_,h⟩ | ⟨_,_,_,_,h⟩ | ⟨_,_,_,_,h⟩ | ⟨_,_,_,_,h⟩ | ⟨_,_,_,_,h⟩ <;> omega
  have e:=eq108 hT h108 (fun x hx=>ih x hx) hl
  refine ⟨_,h,pureB hT h155 (lf:=0) ((F155_eq _ _ _ _ _ _ _ _ _ _ _).trans ?_)⟩
  unfold F155
  rcases hc with ⟨rfl,_⟩ | ⟨rfl,_,_,hm,_⟩ | ⟨rfl,_,_,hm,_⟩ | ⟨rfl,_⟩ | ⟨rfl,_⟩
  ·
   refine S.cneg rfl ?_
   refine S.cneg rfl ?_
   refine S.optP e ?_
   rfl
  ·
   refine S.cpos rfl ?_
   refine S.optP (sz.int _ hm) ?_
   refine S.cneg rfl ?_
   refine S.optP e ?_
   rfl
  ·
   refine S.cneg rfl ?_
   refine S.cpos rfl ?_
   refine S.optP (sz.arr _ hm) ?_
   refine S.cneg rfl ?_
   refine S.optP e ?_
   rfl
  ·
   refine S.cneg rfl ?_
   refine S.cneg rfl ?_
   refine S.optP e ?_
   rfl
  ·
   refine S.cneg rfl ?_
   refine S.cneg rfl ?_
   refine S.optP e ?_
   rfl
end
/-! ### The tags that were seen -/
def TagM (t:List D) (a:Nat) : Prop:=∃ (c:Nat) (ds:List D),t = .int .i64 (.ofNat c) :: ds ∧ ∀ n : Int,(a:Int) < n → findD .i64 n ds = some none
theorem TagM.start : TagM [.int .i64 0] 0:=⟨0,[],rfl,fun _ _=>rfl⟩
theorem findD_cons {k k' : IntKind} {n m:Int} {v o:D} {ds:List D} : findD k n (.agg [.int k' m,v,o] :: ds) = if k = k' then (if n == m then some (some (0,v)) else match findD k n ds with
   | some (some (i,v))=>some (some (i + 1,v))
   | some none=>some none
   | none=>none) else none:=rfl
theorem findD_snoc {n m:Int} {v o:D} : ∀ {ds:List D},findD .i64 n ds = some none → findD .i64 n (ds ++ [.agg [.int .i64 m,v,o]]) = if n == m then some (some (ds.length,v)) else some none
 | [],_=>by
  rw [List.nil_append,findD_cons,if_pos rfl]
  rfl
 | d :: ds,h=>by
  rw [List.cons_append]
  unfold findD at h
  split at h
  ·
   rename_i he; cases he
  ·
   rename_i k' m' v' o' ds' he
   injection he with e1 e2
   subst e1; subst e2
   rw [findD_cons]
   by_cases hk : IntKind.i64 = k'
   ·
    rw [if_pos hk] at h ⊢
    by_cases hq : (n == m') = true
    ·
     rw [if_pos hq] at h
     cases h
    ·
     rw [if_neg hq] at h ⊢
     have h1 : findD .i64 n ds = some none:=by
      cases hd : findD .i64 n ds with
      | none=>rw [hd] at h; cases h
      | some r =>
       cases r with
       | none=>rfl
       | some q=>rw [hd] at h; cases h
     rw [findD_snoc h1]
     by_cases hm : (n == m) = true
     ·
      rw [if_pos hm,if_pos hm]; rfl
     ·
      rw [if_neg hm,if_neg hm]
   ·
    rw [if_neg hk] at h
    cases h
  ·
   cases h
theorem TagM.put {t : List D} {a : Nat} (h : TagM t a) : ∃ t', S.mapGet .i64 ((a : Int) + 1) (.int .i64 0) t = some (.int .i64 0, false) ∧ S.mapPut .i64 ((a : Int) + 1) (.int .i64 1) t = some t' ∧
  S.mapGet .i64 ((a:Int) + 1) (.int .i64 0) t' = some (.int .i64 1,true) ∧ TagM t' (a + 1):=by
 obtain ⟨c,ds,rfl,h⟩:=h
 have h1:=h ((a:Int) + 1) (by omega)
 refine ⟨.int .i64 (.ofNat (c + 1)) :: (ds ++ [.agg [.int .i64 ((a:Int) + 1),.int .i64 1,.int .i64 (.ofNat c)]]),?_,?_,?_,c + 1,_,rfl,?_⟩
 ·
  simp only [S.mapGet,h1]
 ·
  simp only [S.mapPut,h1]
 ·
  simp only [S.mapGet,findD_snoc h1,beq_self_eq_true,if_true]
 ·
  intro n hn
  rw [findD_snoc (h n (by omega)),if_neg (by rw [beq_iff_eq]; omega)]
/-! ### The checker's own -/
abbrev KH (p:List D) (f0:List UInt8) (f1 f2 f3:List D) (m:Bool) (t:List D) : Heap:=[some (.m 7 [.agg [.im (.sl false 4 p),.im (.str f0),.im (.sl false 1 f1),.im (.sl false 2 f2),.im (.sl false 7 f3),.im (.bool m),.mp 1]]),some (.o t)]
abbrev KT (e:Int) (p:List D) (f0:List UInt8) (f1 f2 f3:List D) (m:Bool) (t:List D) : S.Hms.T KS.rs × S.Hbs.T KS.hs:=((e,()),(p,f0,f1,f2,f3,m,(),()),t,())
abbrev SA (p:Int × Int × Nm × Nm × List D × List D × List D) : AV:=.im (stD p)
structure Fnd (B:S.BookM) (p:List D) : Prop where
 len : p.length = 3
 g : S.pureS (S.sem B) [.int .i64] 26 [.im (.agg [.sl false 4 p]),.im (.str [103])] = some ((0:Int),())
 h : S.pureS (S.sem B) [.int .i64] 26 [.im (.agg [.sl false 4 p]),.im (.str [104])] = some ((1:Int),())
 gd : ∃ n ps vs bd d,p[0]? = some d ∧ S.stDec FN d = some (n,ps,vs,bd) ∧ ps.length = 1
 hd : ∃ n ps vs bd d,p[1]? = some d ∧ S.stDec FN d = some (n,ps,vs,bd) ∧ ps.length = 2
section
variable {B:S.BookM} (hT:B.T = T)
include hT
theorem eq102 (h102:Has B 102 fi102) {a a1:Nat} {m:Bool} {t:List D} (ht:TagM t a) {q:Int × Int × Nm × Nm × List D × List D × List D} (hq:(q.2.1 = 0 ∧ a1 = a) ∨ (m = true ∧ q.2.1 = (a:Int) + 1 ∧ a1 = a + 1)) (p:List D) (f0:List UInt8) (f1 f2 f3:List D) :
  ∃ t', TagM t' a1 ∧ S.lentS (S.sem B) KS 102 [.ptr 0 0 0, SA q] (KH p f0 f1 f2 f3 m t) = some (KT 0 p f0 f1 f2 f3 m t') := by
 rcases hq with ⟨h0,rfl⟩ | ⟨rfl,h0,rfl⟩
 ·
  refine ⟨t,ht,lentB hT h102 (lf:=0) ((F102_eq _ _ _ _ _ _ _ _ _ _ _ _ _ _ _ _).trans ?_)⟩
  unfold F102
  refine S.cpos (beq_iff_eq.2 h0) ?_
  rfl
 ·
  obtain ⟨t', h1, h2, h3, h4⟩ := ht.put
  refine ⟨t', h4, lentB hT h102 (lf := 0) ((F102_eq _ _ _ _ _ _ _ _ _ _ _ _ _ _ _ _).trans ?_)⟩
  unfold F102
  rw [h0]
  refine S.cneg (beq_eq_false_iff_ne.2 (by omega)) ?_
  refine S.optP h1 ?_
  refine S.optP (asInt_int _ _) ?_
  refine S.optP h2 ?_
  refine S.cneg rfl ?_
  refine S.optP h3 ?_
  refine S.optP (asInt_int _ _) ?_
  refine S.cneg rfl ?_
  rfl
theorem eq104 (h104:Has B 104 fi104) {ints arrs:List Nm} {f0:List UInt8} {f1 f2 f3:List D} (sz:Szd B f0 f1 f2 f3 ints arrs) {lp:Bool} {q:Int × Int × Nm × Nm × List D × List D × List D} (hq:Sk ints arrs lp q.1 q.2.2.1 q.2.2.2.1 q.2.2.2.2.1.length q.2.2.2.2.2.1 q.2.2.2.2.2.2) (p:List D) (m:Bool) (t:List D) :
  S.lentS (S.sem B) KS 104 [.ptr 0 0 0,SA q] (KH p f0 f1 f2 f3 m t) = some (KT 0 p f0 f1 f2 f3 m t):=by
 refine lentB hT h104 (lf:=0) ((F104_eq _ _ _ _ _ _ _ _ _ _ _ _ _ _ _ _).trans ?_)
 unfold F104
 obtain ⟨k,tag,nm,fn,es,body,els⟩:=q
 dsimp only at hq ⊢
 rcases hq with ⟨rfl,hm,_⟩ | ⟨rfl,hm,_⟩ | ⟨rfl,hm,_⟩ | ⟨rfl,hm,_⟩ | ⟨rfl,_⟩ | ⟨rfl,_⟩ | ⟨rfl,_⟩ | ⟨rfl,_⟩ | ⟨rfl,_⟩ | ⟨rfl,_⟩
 ·
  refine S.cneg rfl ?_; refine S.optP (sz.int _ hm) ?_; rfl
 ·
  refine S.cneg rfl ?_; refine S.optP (sz.arr _ hm) ?_; rfl
 ·
  refine S.cneg rfl ?_; refine S.optP (sz.int _ hm) ?_; rfl
 ·
  refine S.cneg rfl ?_; refine S.optP (sz.int _ hm) ?_; rfl
 all_goals
  refine S.cpos rfl ?_
  rfl
theorem eq106 (h106:Has B 106 fi106) {ints arrs:List Nm} {p:List D} (fd:Fnd B p) {lp:Bool} {q:Int × Int × Nm × Nm × List D × List D × List D} (hq:Sk ints arrs lp q.1 q.2.2.1 q.2.2.2.1 q.2.2.2.2.1.length q.2.2.2.2.2.1 q.2.2.2.2.2.2) (f0:List UInt8) (f1 f2 f3:List D) (m:Bool) (t:List D) :
  S.lentS (S.sem B) KS 106 [.ptr 0 0 0,SA q] (KH p f0 f1 f2 f3 m t) = some (KT 0 p f0 f1 f2 f3 m t):=by
 refine lentB hT h106 (lf:=0) ((F106_eq _ _ _ _ _ _ _ _ _ _ _ _ _ _ _ _).trans ?_)
 unfold F106
 obtain ⟨k,tag,nm,fn,es,body,els⟩:=q
 dsimp only at hq ⊢
 have hlen:=fd.len
 have w : IntKind.wrap .i64 (((p.length : Nat) : Int) - (1:Int)) = 2:=by rw [hlen]; rfl
 rcases hq with ⟨rfl,hm,_⟩ | ⟨rfl,hm,_⟩ | ⟨rfl,hm,_⟩ | ⟨rfl,hm,hc,_⟩ | ⟨rfl,_⟩ | ⟨rfl,_⟩ | ⟨rfl,_⟩ | ⟨rfl,_⟩ | ⟨rfl,_⟩ | ⟨rfl,_⟩
 case inr.inr.inr.inl =>
  rw [w]
  refine S.cneg rfl ?_
  rcases hc with ⟨rfl,he⟩ | ⟨rfl,he⟩
  ·
   obtain ⟨n,ps,vs,bd,d,h1,h2,h3⟩:=fd.gd
   refine S.optP fd.g ?_
   refine S.cneg rfl ?_
   refine S.cneg rfl ?_
   refine S.cpos rfl ?_
   refine S.optP h1 ?_
   refine S.optP h2 ?_
   refine S.cneg (by show ((((ps.length : Nat) : Int)) != ((es.length : Nat) : Int)) = false; rw [h3,he]; rfl) ?_
   rfl
  ·
   obtain ⟨n,ps,vs,bd,d,h1,h2,h3⟩:=fd.hd
   refine S.optP fd.h ?_
   refine S.cneg rfl ?_
   refine S.cneg rfl ?_
   refine S.cpos rfl ?_
   refine S.optP h1 ?_
   refine S.optP h2 ?_
   refine S.cneg (by show ((((ps.length : Nat) : Int)) != ((es.length : Nat) : Int)) = false; rw [h3,he]; rfl) ?_
   rfl
 all_goals
  refine S.cpos rfl ?_
  rfl
end
end Go.Proofs.YtkinbnepkpoofaaGreatDoor
/- What the checker says of statements that are made of bytes. -/
namespace Go.Proofs.YtkinbnepkpoofaaGreatDoor
open Go Go.AM
def InlOk (B:S.BookM) : Prop:=∀ p ∈ inlL,B.fi p.1 = some p.2 ∧ B.known p.1 = none ∧ ∀ xs,B.norm p.1 xs = xs
theorem lentI {B:S.BookM} (hT:B.T = T) (hI:InlOk B) {f:FuncId} {i:Fi} (h:Has B f i) {s:S.Sg} {lf:Nat} {xs:List AV} {H:Heap} {x:S.Hms.T s.rs × S.Hbs.T s.hs} (hb:S.bodyS T (SGI (S.sem B)) (S.sem B) i lf xs H (S.endS s) = some x) : S.lentS (S.sem B) s f xs H = some x:=by
 refine S.lent_rule (sg:=SGI (S.sem B)) h.fi h.known (h.norm xs) (by rw [hT]; exact hb) (hI:=SGI_ok hT hI _)
theorem pureI {B:S.BookM} (hT:B.T = T) (hI:InlOk B) {f:FuncId} {i:Fi} (h:Has B f i) {l:List S.Hm} {lf:Nat} {xs:List AV} {x:S.Hms.T l} (hb:S.bodyS T (SGI (S.sem B)) (S.sem B) i lf xs [] (S.endP l) = some x) : S.pureS (S.sem B) l f xs = some x:=by
 refine S.pure_rule (sg:=SGI (S.sem B)) h.fi h.known (h.norm xs) (by rw [hT]; exact hb) (hI:=SGI_ok hT hI _)
structure CkB (B:S.BookM) : Prop where
 T : B.T = T
 inl : InlOk B
 h155 : Has B 155 fi155
 h108 : Has B 108 fi108
 h102 : Has B 102 fi102
 h104 : Has B 104 fi104
 h106 : Has B 106 fi106
 h55 : Has B 55 fi55
section
variable {B:S.BookM} (hB:CkB B) {ints arrs:List Nm} {p:List D} {f0:List UInt8} {f1 f2 f3:List D} {m:Bool} (sz:Szd B f0 f1 f2 f3 ints arrs) (fd:Fnd B p)
include hB sz fd
theorem B55_ok {lp:Bool} {a b n:Nat} {d:D} (h:OkS ints arrs m lp a b n d) {t:List D} (ht:TagM t a)
  (ih : ∀ {lp' : Bool} {a' b' n' : Nat} {ds : List D} {t : List D}, n' < n → OkL ints arrs m lp' a' b' n' ds → TagM t a' → ∃ t', TagM t' b' ∧ S.lentS (S.sem B) KS 55 [.ptr 0 0 0, .im (.sl false 7 ds), .im (.bool lp')] (KH p f0 f1 f2 f3 m t) = some (KT 0 p f0 f1 f2 f3 m t'))
  {all:List D} (hlen:all.length ≤ 1000) {i:Nat} (hi:all[i]? = some d) (lf:Nat) :
  ∃ t', TagM t' b ∧ ∀ R, B55_1 (S.sem B) lf all lp ((i : Int), p, f0, f1, f2, f3, m, t) R = R (((i + 1 : Nat) : Int), p, f0, f1, f2, f3, m, t') := by
 have hT:=hB.T
 have hil : i < all.length:=by
  rcases Nat.lt_or_ge i all.length with h | h
  ·
   exact h
  ·
   rw [List.getElem?_eq_none h] at hi; cases hi
 have w : IntKind.wrap .i64 ((i:Int) + 1) = ((i + 1 : Nat) : Int):=wrap_succ (n:=1000) (by omega) (by omega)
 have hi' : all[Int.toNat (i:Int)]? = some d:=by rw [Int.toNat_natCast]; exact hi
 cases h with
 | mk _ _ a1 a2 _ n1 n2 _ k tag nm fn es body els hd htg he hb hl hc =>
  obtain ⟨t1,g1,e1⟩:=eq102 hT hB.h102 ht (q:=(k,tag,nm,fn,es,body,els)) htg p f0 f1 f2 f3
  have e2:=eq104 hT hB.h104 sz (q:=(k,tag,nm,fn,es,body,els)) hc p m t1
  have e3:=eq106 hT hB.h106 fd (q:=(k,tag,nm,fn,es,body,els)) hc f0 f1 f2 f3 m t1
  have hel : es.length ≤ 1000:=by
   rcases hc with ⟨_,_,_,h,_⟩ | ⟨_,_,_,h,_⟩ | ⟨_,_,_,h,_⟩ | ⟨_,_,⟨_,h⟩ | ⟨_,h⟩,_⟩ | ⟨_,_,_,h⟩ | ⟨_,_,_,h,_⟩ | ⟨_,_,_,_,h,_⟩ | ⟨_,_,_,_,h,_⟩ | ⟨_,_,_,h,_⟩ | ⟨_,_,_,h,_⟩ <;> omega
  have e4:=eq108 hT hB.h108 (fun x hx=>eq155 hT hB.h155 hB.h108 sz (he x hx)) hel
  obtain ⟨t2,g2,e5⟩:=ih (by omega) hb g1
  obtain ⟨t3,g3,e6⟩:=ih (by omega) hl g2
  refine ⟨t3,g3,fun R=>?_⟩
  unfold B55_1
  refine S.cpos (dtrue (by omega)) ?_
  refine S.cpos (dtrue (by omega)) ?_
  refine S.optP hi' ?_
  refine S.optP hd ?_
  refine S.optP e1 ?_
  refine S.cneg rfl ?_
  rw [w]
  by_cases h6 : k = 6
  ·
   have hlp : lp = true:=by rcases hc with ⟨h,_⟩ | ⟨h,_⟩ | ⟨h,_⟩ | ⟨h,_⟩ | ⟨h,_⟩ | ⟨h,_⟩ | ⟨_,h,_⟩ | ⟨_,h,_⟩ | ⟨h,_⟩ | ⟨h,_⟩ <;> first | exact h | omega
   subst hlp
   subst h6
   refine S.cpos rfl ?_
   refine S.cneg rfl ?_
   refine S.optP e2 ?_
   refine S.cneg rfl ?_
   refine S.optP e3 ?_
   refine S.cneg rfl ?_
   refine S.optP e4 ?_
   refine S.cneg rfl ?_
   refine S.cpos rfl ?_
   refine S.optP e5 ?_
   refine S.cneg rfl ?_
   refine S.optP e6 ?_
   refine S.cneg rfl ?_
   rfl
  ·
   refine S.cneg (beq_eq_false_iff_ne.2 h6) ?_
   by_cases h7 : k = 7
   ·
    have hlp : lp = true:=by rcases hc with ⟨h,_⟩ | ⟨h,_⟩ | ⟨h,_⟩ | ⟨h,_⟩ | ⟨h,_⟩ | ⟨h,_⟩ | ⟨_,h,_⟩ | ⟨_,h,_⟩ | ⟨h,_⟩ | ⟨h,_⟩ <;> first | exact h | omega
    subst hlp
    subst h7
    refine S.cpos rfl ?_
    refine S.cneg rfl ?_
    refine S.optP e2 ?_
    refine S.cneg rfl ?_
    refine S.optP e3 ?_
    refine S.cneg rfl ?_
    refine S.optP e4 ?_
    refine S.cneg rfl ?_
    refine S.cpos rfl ?_
    refine S.optP e5 ?_
    refine S.cneg rfl ?_
    refine S.optP e6 ?_
    refine S.cneg rfl ?_
    rfl
   ·
    refine S.cneg (beq_eq_false_iff_ne.2 h7) ?_
    refine S.optP e2 ?_
    refine S.cneg rfl ?_
    refine S.optP e3 ?_
    refine S.cneg rfl ?_
    refine S.optP e4 ?_
    refine S.cneg rfl ?_
    cases lp with
    | true =>
     refine S.cpos rfl ?_
     refine S.optP e5 ?_
     refine S.cneg rfl ?_
     refine S.optP e6 ?_
     refine S.cneg rfl ?_
     rfl
    | false =>
     refine S.cneg rfl ?_
     refine S.optP e5 ?_
     refine S.cneg rfl ?_
     refine S.optP e6 ?_
     refine S.cneg rfl ?_
     rfl
theorem L55_run {all:List D} (hlen:all.length ≤ 1000) {lp:Bool} (lf:Nat) {N:Nat}
  (ih : ∀ {lp' : Bool} {a' b' n' : Nat} {ds : List D} {t : List D}, n' < N → OkL ints arrs m lp' a' b' n' ds → TagM t a' → ∃ t', TagM t' b' ∧ S.lentS (S.sem B) KS 55 [.ptr 0 0 0, .im (.sl false 7 ds), .im (.bool lp')] (KH p f0 f1 f2 f3 m t) = some (KT 0 p f0 f1 f2 f3 m t')) :
  ∀ (ds post:List D) {a b n:Nat} {t:List D} (i fuel:Nat),n ≤ N → OkL ints arrs m lp a b n ds → TagM t a → all.drop i = ds ++ post →
   ∃ t', TagM t' b ∧ L55_1 (S.sem B) lf all lp (fuel + ds.length) ((i : Int), p, f0, f1, f2, f3, m, t) = L55_1 (S.sem B) lf all lp fuel (((i + ds.length : Nat) : Int), p, f0, f1, f2, f3, m, t')
 | [],post,a,b,n,t,i,fuel,hn,h,ht,hd=>by
  cases h
  exact ⟨t,ht,rfl⟩
 | d :: ds,post,a,b,n,t,i,fuel,hn,h,ht,hd=>by
  cases h with
  | cons _ _ mid _ n1 n2 _ _ h1 h2 =>
   have hi : all[i]? = some d:=by
    have:=congrArg (fun l=>l[0]?) hd
    simpa [List.getElem?_drop] using this
   have hd' : all.drop (i + 1) = ds ++ post:=by
    have:=congrArg (List.drop 1) hd
    simpa [List.drop_drop] using this
   have hp:=h1.pos
   obtain ⟨t1,g1,e1⟩:=B55_ok hB sz fd h1 ht (fun hlt ho hg=>ih (by omega) ho hg) hlen hi lf
   obtain ⟨t2,g2,e2⟩:=L55_run hlen lf ih ds post (i + 1) fuel (by omega) h2 g1 hd'
   refine ⟨t2,g2,?_⟩
   rw [show fuel + (d :: ds).length = (fuel + ds.length) + 1 from by rw [List.length_cons]; omega,show i + (d :: ds).length = (i + 1) + ds.length from by rw [List.length_cons]; omega]
   show B55_1 (S.sem B) lf all lp ((i:Int),p,f0,f1,f2,f3,m,t) (L55_1 (S.sem B) lf all lp (fuel + ds.length)) = _
   rw [e1]
   exact e2
theorem eq55 : ∀ (N:Nat),N ≤ 1000 → ∀ {lp:Bool} {a b n:Nat} {ds:List D} {t:List D},n < N → OkL ints arrs m lp a b n ds → TagM t a →
  ∃ t', TagM t' b ∧ S.lentS (S.sem B) KS 55 [.ptr 0 0 0, .im (.sl false 7 ds), .im (.bool lp)] (KH p f0 f1 f2 f3 m t) = some (KT 0 p f0 f1 f2 f3 m t') := by
 intro N
 induction N with
 | zero=>intro _ lp a b n ds t hn; exact absurd hn (by omega)
 | succ N ih =>
  intro hN lp a b n ds t hn h ht
  have hl:=h.len
  obtain ⟨t', g, e⟩ := L55_run hB sz fd (all := ds) (by omega) (ds.length + 1) (fun hlt ho hg => ih (by omega) hlt ho hg) ds [] 0 1 (by omega) h ht (by rw [List.drop_zero, List.append_nil])
  refine ⟨t', g, lentI hB.T hB.inl hB.h55 (lf := ds.length + 1) ((F55_eq _ _ _ _ _ _ _ _ _ _ _).trans ?_)⟩
  show L55_1 (S.sem B) (ds.length + 1) ds lp (ds.length + 1) (((0:Nat) : Int),p,f0,f1,f2,f3,m,t) = _
  rw [show L55_1 (S.sem B) (ds.length + 1) ds lp (ds.length + 1) = L55_1 (S.sem B) (ds.length + 1) ds lp (1 + ds.length) from by rw [Nat.add_comm],e]
  unfold L55_1 B55_1
  refine S.cneg (dfalse (by omega)) ?_
  rfl
end
end Go.Proofs.YtkinbnepkpoofaaGreatDoor
/- What is made of bytes may be (tree.Right),and how many statements it is (tree.Count). -/
namespace Go.Proofs.YtkinbnepkpoofaaGreatDoor
open Go Go.AM
structure RtB (B:S.BookM) (ints arrs:List Nm) : Prop where
 T : B.T = T
 h213 : Has B 213 fi213
 h212 : Has B 212 fi212_0
 h260 : Has B 260 fi260_c1
 h286 : Has B 286 fi286_c1
 h261 : Has B 261 fi261
 h167 : Has B 167 fi167
 h211 : Has B 211 fi211
 h214 : Has B 214 fi214
 h127 : Has B 127 fi127
 h166 : Has B 166 fi166_0
 h115 : Has B 115 fi115_c1
 h157 : Has B 157 fi157_c1
 h210 : Has B 210 fi210
 h86 : Has B 86 fi86
 ints : ∀ nm ∈ ints,S.pureS (S.sem B) [.bool] 123 [.im (.str nm)] = some (true,())
 arrs : ∀ nm ∈ arrs,S.pureS (S.sem B) [.bool] 123 [.im (.str nm)] = some (true,())
 g : S.pureS (S.sem B) [.bool] 123 [.im (.str [103])] = some (true,())
 h : S.pureS (S.sem B) [.bool] 123 [.im (.str [104])] = some (true,())
 un : ∀ o ∈ unops,∃ n : Int,S.pureS (S.sem B) [.int .i64,.bool] 262 [.im (.str o),.im (.int .i64 0)] = some (n,true,())
 bin : ∀ o ∈ binops,∃ n : Int,(n == 0) = false ∧ S.pureS (S.sem B) [.int .i64] 263 [.im (.str o)] = some (n,())
section
variable {B:S.BookM} {ints arrs:List Nm} (hB:RtB B ints arrs)
include hB
theorem L286_at {ds:List D} {bg:Nat} {bc0:D} (hd:∀ x ∈ ds,∃ p,S.stDec EX x = some p ∧ S.pureS (S.sem B) [.bool] bg [.im (exD p),.pe bc0 0] = some (false,())) (hl:ds.length ≤ 1000) (lf:Nat) :
  ∀ (m fuel i:Nat),ds.length - i = m → m < fuel → i ≤ ds.length → L286_c1_1 (S.sem B) lf ds bg bc0 fuel (i:Int) = some ((-1 : Int),()):=by
 intro m
 induction m with
 | zero =>
  intro fuel i hm hf hi
  obtain ⟨fuel,rfl⟩ : ∃ p,fuel = p + 1:=⟨fuel - 1,by omega⟩
  unfold L286_c1_1 B286_c1_1
  refine S.cneg (dfalse (by omega)) ?_
  rfl
 | succ m ih =>
  intro fuel i hm hf hi
  obtain ⟨fuel,rfl⟩ : ∃ p,fuel = p + 1:=⟨fuel - 1,by omega⟩
  have hlt : i < ds.length:=by omega
  obtain ⟨p,hp,hq⟩:=hd _ (List.getElem_mem hlt)
  have w : IntKind.wrap .i64 ((i:Int) + 1) = ((i + 1 : Nat) : Int):=wrap_succ (n:=1000) (by omega) (by omega)
  have e:=ih fuel (i + 1) (by omega) (by omega) (by omega)
  unfold L286_c1_1 B286_c1_1
  refine S.cpos (dtrue (by omega)) ?_
  refine S.cpos (dtrue (by omega)) ?_
  refine S.optP (a:=ds[i]) (by rw [Int.toNat_natCast,List.getElem?_eq_getElem hlt]) ?_
  refine S.optP hp ?_
  refine S.optP hq ?_
  refine S.cneg rfl ?_
  rw [w]
  exact e
theorem eq212 {ds:List D} (hd:∀ x ∈ ds,∃ p,S.stDec EX x = some p ∧ S.pureS (S.sem B) [.bool] 213 [.im (exD p)] = some (true,())) (hl:ds.length ≤ 1000) :
  S.pureS (S.sem B) [.bool] 212 [.im (.sl false 5 ds),.im (.fn (.func 213) [] [])] = some (true,()):=by
 have h286 : S.pureS (S.sem B) [.int .i64] 286 [.im (.sl false 5 ds),.fn (.func 261) [] [.pe (.fn (.func 213) [] []) 0]] = some ((-1 : Int),()):=by
  refine pureB hB.T hB.h286 (lf:=ds.length + 1) ((F286_c1_eq _ _ _ _ _).trans ?_)
  refine L286_at hB (fun x hx=>?_) hl _ ds.length (ds.length + 1) 0 (by omega) (by omega) (by omega)
  obtain ⟨p,hp,hq⟩:=hd x hx
  refine ⟨p,hp,pureB hB.T hB.h261 (lf:=0) ((F261_eq _ _ _ _ _ _ _ _).trans ?_)⟩
  unfold F261
  refine S.optP hq ?_
  rfl
 have h260 : S.pureS (S.sem B) [.bool] 260 [.im (.sl false 5 ds),.fn (.func 261) [] [.pe (.fn (.func 213) [] []) 0]] = some (false,()):=by
  refine pureB hB.T hB.h260 (lf:=0) ((F260_c1_eq _ _ _ _ _).trans ?_)
  unfold F260_c1
  refine S.optP h286 ?_
  rfl
 refine pureB hB.T hB.h212 (lf:=0) ((F212_0_eq _ _ _ _).trans ?_)
 unfold F212_0
 refine S.optP (S.plain_bool h260) ?_
 rfl
theorem eq213 {d:D} (h:OkE ints arrs d) : ∃ p,S.stDec EX d = some p ∧ S.pureS (S.sem B) [.bool] 213 [.im (exD p)] = some (true,()):=by
 induction h with
 | mk d k op n nm kids h hk hn hc ih =>
  have hl : kids.length ≤ 1000:=by rcases hc with ⟨_,_,_,h⟩ | ⟨_,_,_,_,h⟩ | ⟨_,_,_,_,h⟩ | ⟨_,_,_,_,h⟩ | ⟨_,_,_,_,h⟩ <;> omega
  have e:=eq212 hB (fun x hx=>ih x hx) hl
  refine ⟨_,h,pureB hB.T hB.h213 (lf:=0) ((F213_eq _ _ _ _ _ _ _).trans ?_)⟩
  unfold F213
  refine S.optP e ?_
  refine S.cneg rfl ?_
  rcases hc with ⟨rfl,rfl,rfl,hm⟩ | ⟨rfl,rfl,rfl,hm,hz⟩ | ⟨rfl,rfl,rfl,hm,hz⟩ | ⟨rfl,hm,rfl,rfl,hz⟩ | ⟨rfl,hm,rfl,rfl,hz⟩
  ·
   refine S.cpos rfl ?_
   refine S.cpos (by rw [hm]; rfl) ?_
   refine S.cpos rfl ?_
   refine S.cpos (beq_self_eq_true _) ?_
   rfl
  ·
   refine S.cneg rfl ?_
   refine S.cpos rfl ?_
   refine S.cpos rfl ?_
   refine S.optP (hB.ints _ hm) ?_
   refine S.cneg rfl ?_
   refine S.cpos (by rw [hz]; rfl) ?_
   refine S.cpos rfl ?_
   refine S.cpos rfl ?_
   rw [beq_self_eq_true]
  ·
   refine S.cneg rfl ?_
   refine S.cneg rfl ?_
   refine S.cpos rfl ?_
   refine S.optP (hB.arrs _ hm) ?_
   refine S.cneg rfl ?_
   refine S.cpos (by rw [hz]; rfl) ?_
   refine S.cpos rfl ?_
   refine S.cpos rfl ?_
   rw [beq_self_eq_true]
  ·
   obtain ⟨q,hq⟩:=hB.un _ hm
   refine S.cneg rfl ?_
   refine S.cneg rfl ?_
   refine S.cneg rfl ?_
   refine S.cpos rfl ?_
   refine S.optP hq ?_
   refine S.cneg rfl ?_
   refine S.cpos (by rw [hz]; rfl) ?_
   refine S.cpos (beq_self_eq_true _) ?_
   refine S.cpos rfl ?_
   rfl
  ·
   obtain ⟨q,h0,hq⟩:=hB.bin _ hm
   refine S.cneg rfl ?_
   refine S.cneg rfl ?_
   refine S.cneg rfl ?_
   refine S.cneg rfl ?_
   refine S.cpos rfl ?_
   refine S.optP hq ?_
   refine S.cneg h0 ?_
   refine S.cpos (by rw [hz]; rfl) ?_
   refine S.cpos (beq_self_eq_true _) ?_
   refine S.cpos rfl ?_
   rfl
theorem eq214n {nm:Nm} (h:S.pureS (S.sem B) [.bool] 123 [.im (.str nm)] = some (true,())) : S.pureS (S.sem B) [.bool] 214 [.im (.str nm),.im (.bool true)] = some (true,()):=by
 refine pureB hB.T hB.h214 (lf:=0) ((F214_eq _ _ _ _).trans ?_)
 unfold F214
 refine S.cpos rfl ?_
 refine S.optP h ?_
 rfl
theorem eq214e : S.pureS (S.sem B) [.bool] 214 [.im (.str []),.im (.bool false)] = some (true,()):=by
 refine pureB hB.T hB.h214 (lf:=0) ((F214_eq _ _ _ _).trans ?_)
 unfold F214
 refine S.cneg rfl ?_
 rfl
theorem st167 {k tag:Int} {nm fn:Nm} {es body els:List D} {b1 b2 b3 b4:Bool} (e:S.pureS (S.sem B) [.any] 211 [.im (stD (k,tag,nm,fn,es,body,els))] = some (.agg [.bool b1,.bool b2,.bool b3,.bool b4,.int .i64 (es.length : Int)],()))
  (t0:0 ≤ tag) (t1:tag ≤ 1000000) (he:S.pureS (S.sem B) [.bool] 212 [.im (.sl false 5 es),.im (.fn (.func 213) [] [])] = some (true,()))
  (hn:S.pureS (S.sem B) [.bool] 214 [.im (.str nm),.im (.bool b1)] = some (true,())) (hf:S.pureS (S.sem B) [.bool] 214 [.im (.str fn),.im (.bool b2)] = some (true,()))
  (h3:b3 = true ∨ body = []) (h4:b4 = true ∨ els = []) (eb:S.pureS (S.sem B) [.bool] 127 [.im (.sl false 7 body)] = some (true,())) (el:S.pureS (S.sem B) [.bool] 127 [.im (.sl false 7 els)] = some (true,())) :
  S.pureS (S.sem B) [.bool] 167 [.im (stD (k,tag,nm,fn,es,body,els))] = some (true,()):=by
 refine pureB hB.T hB.h167 (lf:=0) ((F167_eq _ _ _ _ _ _ _ _ _).trans ?_)
 unfold F167
 refine S.optP e ?_
 refine S.optP (a:=(b1,b2,b3,b4,(es.length : Int))) rfl ?_
 refine S.cpos (dtrue (by omega)) ?_
 refine S.cpos (dtrue (by omega)) ?_
 refine S.cpos (beq_self_eq_true _) ?_
 refine S.optP he ?_
 refine S.cpos rfl ?_
 refine S.optP hn ?_
 refine S.cpos rfl ?_
 refine S.optP hf ?_
 refine S.cpos rfl ?_
 cases b3 with
 | true =>
  refine S.cpos rfl ?_
  cases b4 with
  | true =>
   refine S.cpos rfl ?_
   refine S.optP eb ?_
   refine S.cpos rfl ?_
   refine S.optP el ?_
   rfl
  | false =>
   have h4 : els = []:=h4.resolve_left (fun h=>by cases h)
   refine S.cneg rfl ?_
   refine S.cpos (by rw [h4]; rfl) ?_
   refine S.optP eb ?_
   refine S.cpos rfl ?_
   refine S.optP el ?_
   rfl
 | false =>
  have h3 : body = []:=h3.resolve_left (fun h=>by cases h)
  refine S.cneg rfl ?_
  refine S.cpos (by rw [h3]; rfl) ?_
  cases b4 with
  | true =>
   refine S.cpos rfl ?_
   refine S.optP eb ?_
   refine S.cpos rfl ?_
   refine S.optP el ?_
   rfl
  | false =>
   have h4 : els = []:=h4.resolve_left (fun h=>by cases h)
   refine S.cneg rfl ?_
   refine S.cpos (by rw [h4]; rfl) ?_
   refine S.optP eb ?_
   refine S.cpos rfl ?_
   refine S.optP el ?_
   rfl
theorem eq167 {mn lp:Bool} {a b n:Nat} {d:D} (h:OkS ints arrs mn lp a b n d) (hb:b ≤ 1000)
  (ih:∀ {lp' : Bool} {a' b' n' : Nat} {ds:List D},n' < n → b' ≤ 1000 → OkL ints arrs mn lp' a' b' n' ds → S.pureS (S.sem B) [.bool] 127 [.im (.sl false 7 ds)] = some (true,())) :
  ∃ p,S.stDec ST d = some p ∧ S.pureS (S.sem B) [.bool] 167 [.im (stD p)] = some (true,()):=by
 cases h with
 | mk _ _ a1 a2 _ n1 n2 _ k tag nm fn es body els hd htg he hbd hl hc =>
  have hle:=hl.le
  have hle2:=hbd.le
  have eb:=ih (by omega) (by omega) hbd
  have el:=ih (by omega) hb hl
  have t0 : 0 ≤ tag:=by rcases htg with ⟨h,_⟩ | ⟨_,h,_⟩ <;> omega
  have t1 : tag ≤ 1000000:=by rcases htg with ⟨h,_⟩ | ⟨_,h,_⟩ <;> omega
  have hel : es.length ≤ 1000:=by
   rcases hc with ⟨_,_,_,h,_⟩ | ⟨_,_,_,h,_⟩ | ⟨_,_,_,h,_⟩ | ⟨_,_,⟨_,h⟩ | ⟨_,h⟩,_⟩ | ⟨_,_,_,h⟩ | ⟨_,_,_,h,_⟩ | ⟨_,_,_,_,h,_⟩ | ⟨_,_,_,_,h,_⟩ | ⟨_,_,_,h,_⟩ | ⟨_,_,_,h,_⟩ <;> omega
  have e:=eq212 hB (fun x hx=>eq213 hB (he x hx)) hel
  have fm : ∀ {r:D},F211 (S.sem B) 0 k tag nm fn es body els = some (r,()) → S.pureS (S.sem B) [.any] 211 [.im (stD (k,tag,nm,fn,es,body,els))] = some (r,()):=fun h=>pureB hB.T hB.h211 (lf:=0) ((F211_eq _ _ _ _ _ _ _ _ _).trans h)
  refine ⟨_,hd,?_⟩
  rcases hc with ⟨rfl,hm,rfl,hs,h3,h4⟩ | ⟨rfl,hm,rfl,hs,h3,h4⟩ | ⟨rfl,hm,rfl,hs,h3,h4⟩ | ⟨rfl,hm,hf,h3,h4⟩ | ⟨rfl,rfl,rfl,hs⟩ | ⟨rfl,rfl,rfl,hs,h4⟩ | ⟨rfl,_,rfl,rfl,hs,h3,h4⟩ | ⟨rfl,_,rfl,rfl,hs,h3,h4⟩ | ⟨rfl,rfl,rfl,hs,h3,h4⟩ | ⟨rfl,rfl,rfl,hs,h3,h4⟩
  ·
   exact st167 hB (b1:=true) (b2:=false) (b3:=false) (b4:=false) (fm (by rw [hs]; rfl)) t0 t1 e (eq214n hB (hB.ints _ hm)) (eq214e hB) (.inr h3) (.inr h4) eb el
  ·
   exact st167 hB (b1:=true) (b2:=false) (b3:=false) (b4:=false) (fm (by rw [hs]; rfl)) t0 t1 e (eq214n hB (hB.arrs _ hm)) (eq214e hB) (.inr h3) (.inr h4) eb el
  ·
   exact st167 hB (b1:=true) (b2:=false) (b3:=false) (b4:=false) (fm (by rw [hs]; rfl)) t0 t1 e (eq214n hB (hB.ints _ hm)) (eq214e hB) (.inr h3) (.inr h4) eb el
  ·
   exact st167 hB (b1:=true) (b2:=true) (b3:=false) (b4:=false) (fm rfl) t0 t1 e (eq214n hB (hB.ints _ hm)) (eq214n hB (by rcases hf with ⟨rfl,_⟩ | ⟨rfl,_⟩; exact hB.g; exact hB.h)) (.inr h3) (.inr h4) eb el
  ·
   exact st167 hB (b1:=false) (b2:=false) (b3:=true) (b4:=true) (fm (by rw [hs]; rfl)) t0 t1 e (eq214e hB) (eq214e hB) (.inl rfl) (.inl rfl) eb el
  ·
   exact st167 hB (b1:=false) (b2:=false) (b3:=true) (b4:=false) (fm (by rw [hs]; rfl)) t0 t1 e (eq214e hB) (eq214e hB) (.inl rfl) (.inr h4) eb el
  all_goals exact st167 hB (b1:=false) (b2:=false) (b3:=false) (b4:=false) (fm (by rw [hs]; rfl)) t0 t1 e (eq214e hB) (eq214e hB) (.inr h3) (.inr h4) eb el
end
theorem OkL.mem {ints arrs : List Nm} {mn lp : Bool} : ∀ {ds : List D} {a b n : Nat}, OkL ints arrs mn lp a b n ds → ∀ d ∈ ds, ∃ a' b' n', b' ≤ b ∧ n' ≤ n ∧ OkS ints arrs mn lp a' b' n' d
 | [],_,_,_,_,d,hd=>by cases hd
 | x :: ds,a,b,n,h,d,hd=>by
  cases h with
  | cons _ _ m _ k1 k2 _ _ h1 h2 =>
   rcases List.mem_cons.1 hd with rfl | hd
   ·
    exact ⟨a,m,k1,h2.le,by omega,h1⟩
   ·
    obtain ⟨a', b', n', q1, q2, q3⟩ := OkL.mem h2 d hd
    exact ⟨a', b', n', q1, by omega, q3⟩
section
variable {B:S.BookM} {ints arrs:List Nm} (hB:RtB B ints arrs)
include hB
theorem L157_at {ds:List D} {bg:Nat} {bc0:D} (hd:∀ x ∈ ds,∃ p,S.stDec ST x = some p ∧ S.pureS (S.sem B) [.bool] bg [.im (stD p),.pe bc0 0] = some (false,())) (hl:ds.length ≤ 1000) (lf:Nat) :
  ∀ (m fuel i:Nat),ds.length - i = m → m < fuel → i ≤ ds.length → L157_c1_1 (S.sem B) lf ds bg bc0 fuel (i:Int) = some ((-1 : Int),()):=by
 intro m
 induction m with
 | zero =>
  intro fuel i hm hf hi
  obtain ⟨fuel,rfl⟩ : ∃ p,fuel = p + 1:=⟨fuel - 1,by omega⟩
  unfold L157_c1_1 B157_c1_1
  refine S.cneg (dfalse (by omega)) ?_
  rfl
 | succ m ih =>
  intro fuel i hm hf hi
  obtain ⟨fuel,rfl⟩ : ∃ p,fuel = p + 1:=⟨fuel - 1,by omega⟩
  have hlt : i < ds.length:=by omega
  obtain ⟨p,hp,hq⟩:=hd _ (List.getElem_mem hlt)
  have w : IntKind.wrap .i64 ((i:Int) + 1) = ((i + 1 : Nat) : Int):=wrap_succ (n:=1000) (by omega) (by omega)
  have e:=ih fuel (i + 1) (by omega) (by omega) (by omega)
  unfold L157_c1_1 B157_c1_1
  refine S.cpos (dtrue (by omega)) ?_
  refine S.cpos (dtrue (by omega)) ?_
  refine S.optP (a:=ds[i]) (by rw [Int.toNat_natCast,List.getElem?_eq_getElem hlt]) ?_
  refine S.optP hp ?_
  refine S.optP hq ?_
  refine S.cneg rfl ?_
  rw [w]
  exact e
theorem eq127_of {ds:List D} (hd:∀ x ∈ ds,∃ p,S.stDec ST x = some p ∧ S.pureS (S.sem B) [.bool] 167 [.im (stD p)] = some (true,())) (hl:ds.length ≤ 1000) :
  S.pureS (S.sem B) [.bool] 127 [.im (.sl false 7 ds)] = some (true,()):=by
 have h157 : S.pureS (S.sem B) [.int .i64] 157 [.im (.sl false 7 ds),.fn (.func 210) [] [.pe (.fn (.func 167) [] []) 0]] = some ((-1 : Int),()):=by
  refine pureB hB.T hB.h157 (lf:=ds.length + 1) ((F157_c1_eq _ _ _ _ _).trans ?_)
  refine L157_at hB (fun x hx=>?_) hl _ ds.length (ds.length + 1) 0 (by omega) (by omega) (by omega)
  obtain ⟨p,hp,hq⟩:=hd x hx
  refine ⟨p,hp,pureB hB.T hB.h210 (lf:=0) ((F210_eq _ _ _ _ _ _ _ _ _ _).trans ?_)⟩
  unfold F210
  refine S.optP hq ?_
  rfl
 have h115 : S.pureS (S.sem B) [.bool] 115 [.im (.sl false 7 ds),.fn (.func 210) [] [.pe (.fn (.func 167) [] []) 0]] = some (false,()):=by
  refine pureB hB.T hB.h115 (lf:=0) ((F115_c1_eq _ _ _ _ _).trans ?_)
  unfold F115_c1
  refine S.optP h157 ?_
  rfl
 have h166 : S.pureS (S.sem B) [.bool] 166 [.im (.sl false 7 ds),.im (.fn (.func 167) [] [])] = some (true,()):=by
  refine pureB hB.T hB.h166 (lf:=0) ((F166_0_eq _ _ _ _).trans ?_)
  unfold F166_0
  refine S.optP (S.plain_bool h115) ?_
  rfl
 refine pureB hB.T hB.h127 (lf:=0) ((F127_eq _ _ _).trans ?_)
 unfold F127
 refine S.optP h166 ?_
 rfl
theorem eq127 {mn:Bool} : ∀ (N:Nat),N ≤ 1000 → ∀ {lp:Bool} {a b n:Nat} {ds:List D},n < N → b ≤ 1000 → OkL ints arrs mn lp a b n ds → S.pureS (S.sem B) [.bool] 127 [.im (.sl false 7 ds)] = some (true,()):=by
 intro N
 induction N with
 | zero=>intro _ lp a b n ds hn; exact absurd hn (by omega)
 | succ N ih =>
  intro hN lp a b n ds hn hb h
  have hl:=h.len
  refine eq127_of hB (fun x hx=>?_) (by omega)
  obtain ⟨a', b', n', q1, q2, q3⟩ := h.mem x hx
  exact eq167 hB q3 (by omega) (fun hlt hb2 ho=>ih (by omega) (by omega) hb2 ho)
theorem L86_at {mn lp:Bool} {ds:List D} {N:Nat} (hN:N ≤ 1000) (ih:∀ {lp' : Bool} {a' b' n' : Nat} {ds:List D},n' < N → OkL ints arrs mn lp' a' b' n' ds → S.pureS (S.sem B) [.int .i64] 86 [.im (.sl false 7 ds)] = some ((n' : Int),())) (hl:ds.length ≤ 1000) (lf:Nat) :
  ∀ (m fuel i s:Nat) {a b n:Nat},ds.length - i = m → m < fuel → i ≤ ds.length → n ≤ N → s + n ≤ 1000 → OkL ints arrs mn lp a b n (ds.drop i) → L86_1 (S.sem B) lf ds fuel (((s + (ds.length - i) : Nat) : Int),(i:Int)) = some (((s + n : Nat) : Int),()):=by
 intro m
 induction m with
 | zero =>
  intro fuel i s a b n hm hf hi hn hs h
  obtain ⟨fuel,rfl⟩ : ∃ p,fuel = p + 1:=⟨fuel - 1,by omega⟩
  have h0 : ds.drop i = []:=List.drop_eq_nil_of_le (by omega)
  rw [h0] at h
  cases h
  unfold L86_1 B86_1
  refine S.cneg (dfalse (by omega)) ?_
  rw [show s + (ds.length - i) = s + 0 from by omega]
 | succ m ihm =>
  intro fuel i s a b n hm hf hi hn hs h
  obtain ⟨fuel,rfl⟩ : ∃ p,fuel = p + 1:=⟨fuel - 1,by omega⟩
  have hlt : i < ds.length:=by omega
  rw [List.drop_eq_getElem_cons hlt] at h
  cases h with
  | cons _ _ mid _ k1 k2 _ _ h1 h2 =>
   cases h1 with
   | mk _ _ a1 a2 _ n1 n2 _ k tag nm fn es body els hd htg he hbd hle hc =>
    have e1:=ih (by omega) hbd
    have e2:=ih (by omega) hle
    have w : IntKind.wrap .i64 ((i:Int) + 1) = ((i + 1 : Nat) : Int):=wrap_succ (n:=1000) (by omega) (by omega)
    have w1 : IntKind.wrap .i64 ((n1:Int) + (n2:Int)) = ((n1 + n2 : Nat) : Int):=by rw [wrap_ok (by omega) (by omega)]; omega
    have w2 : IntKind.wrap .i64 (((s + (ds.length - i) : Nat) : Int) + ((n1 + n2 : Nat) : Int)) = (((s + n1 + n2 + 1) + (ds.length - (i + 1)) : Nat) : Int):=by rw [wrap_ok (by omega) (by omega)]; omega
    have e:=ihm fuel (i + 1) (s + n1 + n2 + 1) (n:=k2) (by omega) (by omega) (by omega) (by omega) (by omega) h2
    unfold L86_1 B86_1
    refine S.cpos (dtrue (by omega)) ?_
    refine S.cpos (dtrue (by omega)) ?_
    refine S.optP (a:=ds[i]) (by rw [Int.toNat_natCast,List.getElem?_eq_getElem hlt]) ?_
    refine S.optP hd ?_
    refine S.optP e1 ?_
    refine S.optP e2 ?_
    rw [w1,w2,w]
    rw [e]
    congr 3
    omega
theorem eq86 {mn:Bool} : ∀ (N:Nat),N ≤ 1000 → ∀ {lp:Bool} {a b n:Nat} {ds:List D},n < N → OkL ints arrs mn lp a b n ds → S.pureS (S.sem B) [.int .i64] 86 [.im (.sl false 7 ds)] = some ((n:Int),()):=by
 intro N
 induction N with
 | zero=>intro _ lp a b n ds hn; exact absurd hn (by omega)
 | succ N ih =>
  intro hN lp a b n ds hn h
  have hl:=h.len
  refine pureB hB.T hB.h86 (lf:=ds.length + 1) ((F86_eq _ _ _).trans ?_)
  have e:=L86_at hB (N:=N) (by omega) (fun hlt ho=>ih (by omega) hlt ho) (ds:=ds) (by omega) (ds.length + 1) ds.length (ds.length + 1) 0 0 (by omega) (by omega) (by omega) (by omega) (by omega) h
  rw [Nat.zero_add,Nat.zero_add] at e
  exact e
end
end Go.Proofs.YtkinbnepkpoofaaGreatDoor
/- A made program may run; what may be asked for. -/
namespace Go.Proofs.YtkinbnepkpoofaaGreatDoor
open Go Go.AM
abbrev p3 (nm:Nm) (x y z:List D) : List D:=[gD x,hD y,.agg [.str nm,.sl true 0 [],.sl true 2 vM,.sl false 7 z]]
abbrev PA (nm:Nm) (x y z:List D) : AV:=.im (.agg [.sl false 4 (p3 nm x y z)])
abbrev F123 : AV:=.im (.fn (.func 123) [] [])
abbrev F126A : AV:=.im (.fn (.func 126) [] [])
structure WhB (B:S.BookM) : Prop where
 T : B.T = T
 inl : InlOk B
 h29 : Has B 29 fi29
 h71 : Has B 71 fi71_0
 h121 : Has B 121 fi121_c1
 h122 : Has B 122 fi122
 h72 : Has B 72 fi72
 h67 : Has B 67 fi67_c1
 h50 : Has B 50 fi50
 h18 : Has B 18 fi18
 g : S.pureS (S.sem B) [.bool] 123 [.im (.str [103])] = some (true,())
 h : S.pureS (S.sem B) [.bool] 123 [.im (.str [104])] = some (true,())
 m : S.pureS (S.sem B) [.bool] 123 [.im (.str nMain)] = some (true,())
 gp : S.pureS (S.sem B) [.bool] 124 [.im (.sl false 1 pG),F123] = some (true,())
 hp : S.pureS (S.sem B) [.bool] 124 [.im (.sl false 1 pH),F123] = some (true,())
 mp : S.pureS (S.sem B) [.bool] 124 [.im (.sl false 1 []),F123] = some (true,())
 gv : S.pureS (S.sem B) [.bool] 125 [.im (.sl false 2 vG),F126A] = some (true,())
 hv : S.pureS (S.sem B) [.bool] 125 [.im (.sl false 2 vH),F126A] = some (true,())
 mv : S.pureS (S.sem B) [.bool] 125 [.im (.sl false 2 vM),F126A] = some (true,())
 fg : ∀ x y z,S.pureS (S.sem B) [.int .i64] 26 [PA nMain x y z,.im (.str [103])] = some ((0:Int),())
 fh : ∀ x y z,S.pureS (S.sem B) [.int .i64] 26 [PA nMain x y z,.im (.str [104])] = some ((1:Int),())
 fm : ∀ x y z,S.pureS (S.sem B) [.int .i64] 26 [PA nMain x y z,.im (.str nMain)] = some ((2:Int),())
 ng : ∀ x,S.pureS (S.sem B) [.int .i64] 53 [FA [103] pG vG x] = some ((0:Int),())
 nh : ∀ x,S.pureS (S.sem B) [.int .i64] 53 [FA [104] pH vH x] = some ((0:Int),())
 nm : ∀ x,S.pureS (S.sem B) [.int .i64] 53 [FA nMain [] vM x] = some ((0:Int),())
section
variable {B:S.BookM} (hB:WhB B)
include hB
theorem L67_at {ds:List D} {bg:Nat} {bc0:D} (hd:∀ x ∈ ds,∃ p,S.stDec FN x = some p ∧ S.pureS (S.sem B) [.bool] bg [.im (fnD p),.pe bc0 0] = some (false,())) (hl:ds.length ≤ 1000) (lf:Nat) :
  ∀ (m fuel i:Nat),ds.length - i = m → m < fuel → i ≤ ds.length → L67_c1_1 (S.sem B) lf ds bg bc0 fuel (i:Int) = some ((-1 : Int),()):=by
 intro m
 induction m with
 | zero =>
  intro fuel i hm hf hi
  obtain ⟨fuel,rfl⟩ : ∃ p,fuel = p + 1:=⟨fuel - 1,by omega⟩
  unfold L67_c1_1 B67_c1_1
  refine S.cneg (dfalse (by omega)) ?_
  rfl
 | succ m ih =>
  intro fuel i hm hf hi
  obtain ⟨fuel,rfl⟩ : ∃ p,fuel = p + 1:=⟨fuel - 1,by omega⟩
  have hlt : i < ds.length:=by omega
  obtain ⟨p,hp,hq⟩:=hd _ (List.getElem_mem hlt)
  have w : IntKind.wrap .i64 ((i:Int) + 1) = ((i + 1 : Nat) : Int):=wrap_succ (n:=1000) (by omega) (by omega)
  have e:=ih fuel (i + 1) (by omega) (by omega) (by omega)
  unfold L67_c1_1 B67_c1_1
  refine S.cpos (dtrue (by omega)) ?_
  refine S.cpos (dtrue (by omega)) ?_
  refine S.optP (a:=ds[i]) (by rw [Int.toNat_natCast,List.getElem?_eq_getElem hlt]) ?_
  refine S.optP hp ?_
  refine S.optP hq ?_
  refine S.cneg rfl ?_
  rw [w]
  exact e
theorem eq72 {n:Nm} {ps vs bd:List D} (h1:S.pureS (S.sem B) [.bool] 123 [.im (.str n)] = some (true,())) (h2:S.pureS (S.sem B) [.bool] 124 [.im (.sl false 1 ps),F123] = some (true,())) (h3:S.pureS (S.sem B) [.bool] 125 [.im (.sl false 2 vs),F126A] = some (true,()))
  (h4:S.pureS (S.sem B) [.bool] 127 [.im (.sl false 7 bd)] = some (true,())) : S.pureS (S.sem B) [.bool] 72 [FA n ps vs bd] = some (true,()):=by
 refine pureB hB.T hB.h72 (lf:=0) ((F72_eq _ _ _ _ _ _).trans ?_)
 unfold F72
 refine S.optP h1 ?_
 refine S.cpos rfl ?_
 refine S.optP h2 ?_
 refine S.cpos rfl ?_
 refine S.optP h3 ?_
 refine S.cpos rfl ?_
 refine S.optP h4 ?_
 rfl
theorem eq29_of {ds:List D} (hd:∀ x ∈ ds,∃ p,S.stDec FN x = some p ∧ S.pureS (S.sem B) [.bool] 72 [.im (fnD p)] = some (true,())) (hl:ds.length ≤ 1000) :
  S.pureS (S.sem B) [.bool] 29 [.im (.agg [.sl false 4 ds])] = some (true,()):=by
 have h67 : S.pureS (S.sem B) [.int .i64] 67 [.im (.sl false 4 ds),.fn (.func 122) [] [.pe (.fn (.func 72) [] []) 0]] = some ((-1 : Int),()):=by
  refine pureB hB.T hB.h67 (lf:=ds.length + 1) ((F67_c1_eq _ _ _ _ _).trans ?_)
  refine L67_at hB (fun x hx=>?_) hl _ ds.length (ds.length + 1) 0 (by omega) (by omega) (by omega)
  obtain ⟨p,hp,hq⟩:=hd x hx
  refine ⟨p,hp,pureB hB.T hB.h122 (lf:=0) ((F122_eq _ _ _ _ _ _ _).trans ?_)⟩
  unfold F122
  refine S.optP hq ?_
  rfl
 have h121 : S.pureS (S.sem B) [.bool] 121 [.im (.sl false 4 ds),.fn (.func 122) [] [.pe (.fn (.func 72) [] []) 0]] = some (false,()):=by
  refine pureB hB.T hB.h121 (lf:=0) ((F121_c1_eq _ _ _ _ _).trans ?_)
  unfold F121_c1
  refine S.optP h67 ?_
  rfl
 have h71 : S.pureS (S.sem B) [.bool] 71 [.im (.sl false 4 ds),.im (.fn (.func 72) [] [])] = some (true,()):=by
  refine pureB hB.T hB.h71 (lf:=0) ((F71_0_eq _ _ _ _).trans ?_)
  unfold F71_0
  refine S.optP (S.plain_bool h121) ?_
  rfl
 refine pureB hB.T hB.h29 (lf:=0) ((F29_eq _ _ _).trans ?_)
 unfold F29
 refine S.optP h71 ?_
 rfl
structure Bd (B:S.BookM) (x:List D) (c:Nat) : Prop where
 r : S.pureS (S.sem B) [.bool] 127 [.im (.sl false 7 x)] = some (true,())
 c : S.pureS (S.sem B) [.int .i64] 86 [.im (.sl false 7 x)] = some ((c:Int),())
theorem eq29 {nm:Nm} (hn:S.pureS (S.sem B) [.bool] 123 [.im (.str nm)] = some (true,())) {x y z:List D} {a b c:Nat} (hx:Bd B x a) (hy:Bd B y b) (hz:Bd B z c) :
  S.pureS (S.sem B) [.bool] 29 [PA nm x y z] = some (true,()):=by
 refine eq29_of hB (fun d hd=>?_) (by show 3 ≤ 1000; omega)
 rcases List.mem_cons.1 hd with rfl | hd
 ·
  exact ⟨([103],pG,vG,x),rfl,eq72 hB hB.g hB.gp hB.gv hx.r⟩
 rcases List.mem_cons.1 hd with rfl | hd
 ·
  exact ⟨([104],pH,vH,y),rfl,eq72 hB hB.h hB.hp hB.hv hy.r⟩
 cases List.mem_singleton.1 hd
 exact ⟨(nm,[],vM,z),rfl,eq72 hB hn hB.mp hB.mv hz.r⟩
theorem L50_count {nm:Nm} {x y z:List D} {a b c:Nat} (hx:Bd B x a) (hy:Bd B y b) (hz:Bd B z c) (hc:a + b + c ≤ 400) {r:Option (S.Hms.T [.int .i64])}
  (h:L50_2 (S.sem B) 4 (p3 nm x y z) (L50_1 (S.sem B) 4 (p3 nm x y z) 0) 4 (0:Int) = r) : L50_1 (S.sem B) 4 (p3 nm x y z) 4 ((0:Int),(0:Int)) = r:=by
 have w1 : IntKind.wrap .i64 ((0:Int) + (a:Int)) = (a:Int):=by rw [wrap_ok (by omega) (by omega)]; omega
 have w2 : IntKind.wrap .i64 ((a:Int) + (b:Int)) = ((a + b : Nat) : Int):=by rw [wrap_ok (by omega) (by omega)]; omega
 have w3 : IntKind.wrap .i64 (((a + b : Nat) : Int) + (c:Int)) = ((a + b + c : Nat) : Int):=by rw [wrap_ok (by omega) (by omega)]; omega
 show B50_1 (S.sem B) 4 (p3 nm x y z) _ ((0:Int),(0:Int)) (L50_1 (S.sem B) 4 (p3 nm x y z) 3) = r
 unfold B50_1
 refine S.cpos rfl ?_
 refine S.cpos rfl ?_
 refine S.optP (a:=gD x) rfl ?_
 refine S.optP (a:=([103],pG,vG,x)) rfl ?_
 refine S.optP hx.c ?_
 rw [w1]
 show B50_1 (S.sem B) 4 (p3 nm x y z) _ ((a:Int),(1:Int)) (L50_1 (S.sem B) 4 (p3 nm x y z) 2) = r
 unfold B50_1
 refine S.cpos rfl ?_
 refine S.cpos rfl ?_
 refine S.optP (a:=hD y) rfl ?_
 refine S.optP (a:=([104],pH,vH,y)) rfl ?_
 refine S.optP hy.c ?_
 rw [w2]
 show B50_1 (S.sem B) 4 (p3 nm x y z) _ (((a + b : Nat) : Int),(2:Int)) (L50_1 (S.sem B) 4 (p3 nm x y z) 1) = r
 unfold B50_1
 refine S.cpos rfl ?_
 refine S.cpos rfl ?_
 refine S.optP (a:=.agg [.str nm,.sl true 0 [],.sl true 2 vM,.sl false 7 z]) rfl ?_
 refine S.optP (a:=(nm,[],vM,z)) rfl ?_
 refine S.optP hz.c ?_
 rw [w3]
 show B50_1 (S.sem B) 4 (p3 nm x y z) (fun s2=>L50_2 (S.sem B) 4 (p3 nm x y z) (L50_1 (S.sem B) 4 (p3 nm x y z) 0) 4 s2) (((a + b + c : Nat) : Int),(3:Int)) (L50_1 (S.sem B) 4 (p3 nm x y z) 0) = r
 unfold B50_1
 refine S.cneg rfl ?_
 refine S.cneg rfl ?_
 refine S.cneg rfl ?_
 refine S.cneg (dfalse (by omega)) ?_
 exact h
theorem eq50 {x y z:List D} {a b c:Nat} (hx:Bd B x a) (hy:Bd B y b) (hz:Bd B z c) (hc:a + b + c ≤ 400) : S.pureS (S.sem B) [.int .i64] 50 [PA nMain x y z] = some ((0:Int),()):=by
 refine pureB hB.T hB.h50 (lf:=4) ((F50_eq _ _ _).trans ?_)
 unfold F50 G50
 refine S.optP (eq29 hB hB.m hx hy hz) ?_
 refine S.cneg rfl ?_
 refine L50_count hB hx hy hz hc ?_
 show B50_2 (S.sem B) 4 (p3 nMain x y z) _ (0:Int) (L50_2 (S.sem B) 4 (p3 nMain x y z) _ 3) = _
 unfold B50_2
 refine S.cpos rfl ?_
 refine S.cpos rfl ?_
 refine S.optP (a:=gD x) rfl ?_
 refine S.optP (a:=([103],pG,vG,x)) rfl ?_
 refine S.optP (hB.fg x y z) ?_
 refine S.cneg rfl ?_
 show B50_2 (S.sem B) 4 (p3 nMain x y z) _ (1:Int) (L50_2 (S.sem B) 4 (p3 nMain x y z) _ 2) = _
 unfold B50_2
 refine S.cpos rfl ?_
 refine S.cpos rfl ?_
 refine S.optP (a:=hD y) rfl ?_
 refine S.optP (a:=([104],pH,vH,y)) rfl ?_
 refine S.optP (hB.fh x y z) ?_
 refine S.cneg rfl ?_
 show B50_2 (S.sem B) 4 (p3 nMain x y z) _ (2:Int) (L50_2 (S.sem B) 4 (p3 nMain x y z) _ 1) = _
 unfold B50_2
 refine S.cpos rfl ?_
 refine S.cpos rfl ?_
 refine S.optP (a:=mD z) rfl ?_
 refine S.optP (a:=(nMain,[],vM,z)) rfl ?_
 refine S.optP (hB.fm x y z) ?_
 refine S.cneg rfl ?_
 show B50_2 (S.sem B) 4 (p3 nMain x y z) _ (3:Int) (L50_2 (S.sem B) 4 (p3 nMain x y z) _ 0) = _
 unfold B50_2
 refine S.cneg rfl ?_
 refine S.cpos rfl ?_
 refine S.optP (a:=mD z) rfl ?_
 refine S.optP (a:=(nMain,[],vM,z)) rfl ?_
 refine S.cneg rfl ?_
 refine S.cneg rfl ?_
 rfl
theorem eq50g {x y z:List D} {a b c:Nat} (hx:Bd B x a) (hy:Bd B y b) (hz:Bd B z c) (hc:a + b + c ≤ 400)
  (fg:S.pureS (S.sem B) [.int .i64] 26 [PA [103] x y z,.im (.str [103])] = some ((0:Int),())) (fh:S.pureS (S.sem B) [.int .i64] 26 [PA [103] x y z,.im (.str [104])] = some ((1:Int),())) : S.pureS (S.sem B) [.int .i64] 50 [PA [103] x y z] = some ((6:Int),()):=by
 refine pureB hB.T hB.h50 (lf:=4) ((F50_eq _ _ _).trans ?_)
 unfold F50 G50
 refine S.optP (eq29 hB hB.g hx hy hz) ?_
 refine S.cneg rfl ?_
 refine L50_count hB hx hy hz hc ?_
 show B50_2 (S.sem B) 4 (p3 [103] x y z) _ (0:Int) (L50_2 (S.sem B) 4 (p3 [103] x y z) _ 3) = _
 unfold B50_2
 refine S.cpos rfl ?_
 refine S.cpos rfl ?_
 refine S.optP (a:=gD x) rfl ?_
 refine S.optP (a:=([103],pG,vG,x)) rfl ?_
 refine S.optP fg ?_
 refine S.cneg rfl ?_
 show B50_2 (S.sem B) 4 (p3 [103] x y z) _ (1:Int) (L50_2 (S.sem B) 4 (p3 [103] x y z) _ 2) = _
 unfold B50_2
 refine S.cpos rfl ?_
 refine S.cpos rfl ?_
 refine S.optP (a:=hD y) rfl ?_
 refine S.optP (a:=([104],pH,vH,y)) rfl ?_
 refine S.optP fh ?_
 refine S.cneg rfl ?_
 show B50_2 (S.sem B) 4 (p3 [103] x y z) _ (2:Int) (L50_2 (S.sem B) 4 (p3 [103] x y z) _ 1) = _
 unfold B50_2
 refine S.cpos rfl ?_
 refine S.cpos rfl ?_
 refine S.optP (a:=.agg [.str [103],.sl true 0 [],.sl true 2 vM,.sl false 7 z]) rfl ?_
 refine S.optP (a:=([103],[],vM,z)) rfl ?_
 refine S.optP fg ?_
 refine S.cpos rfl ?_
 rfl
def wh (r1 r2 r3:Int) : Int × Int:=cond (r1 != 0) (r1,0) (cond (r2 != 0) (r2,1) (cond (r3 != 0) (r3,2) (0,-1)))
theorem eq18 {x y z:List D} {a b c:Nat} (hx:Bd B x a) (hy:Bd B y b) (hz:Bd B z c) (hc:a + b + c ≤ 400) {r1 r2 r3:Int} {t1 t2 t3:List D}
  (e1:S.lentS (S.sem B) KS 55 [.ptr 0 0 0,.im (.sl false 7 x),.im (.bool false)] (KH (p3 nMain x y z) [103] pG vG x false [.int .i64 0]) = some (KT r1 (p3 nMain x y z) [103] pG vG x false t1))
  (e2:S.lentS (S.sem B) KS 55 [.ptr 0 0 0,.im (.sl false 7 y),.im (.bool false)] (KH (p3 nMain x y z) [104] pH vH y false [.int .i64 0]) = some (KT r2 (p3 nMain x y z) [104] pH vH y false t2))
  (e3:S.lentS (S.sem B) KS 55 [.ptr 0 0 0,.im (.sl false 7 z),.im (.bool false)] (KH (p3 nMain x y z) nMain [] vM z true [.int .i64 0]) = some (KT r3 (p3 nMain x y z) nMain [] vM z true t3)) :
  S.pureS (S.sem B) [.int .i64,.int .i64] 18 [PA nMain x y z] = some ((wh r1 r2 r3).1,(wh r1 r2 r3).2,()):=by
 refine pureI hB.T hB.inl hB.h18 (lf:=4) ((F18_eq _ _ _).trans ?_)
 unfold F18 G18 wh
 refine S.optP (eq50 hB hx hy hz hc) ?_
 refine S.cneg rfl ?_
 show B18_1 (S.sem B) 4 (p3 nMain x y z) (0:Int) (L18_1 (S.sem B) 4 (p3 nMain x y z) 3) = _
 unfold B18_1
 refine S.cpos rfl ?_
 refine S.cpos rfl ?_
 refine S.optP (a:=gD x) rfl ?_
 refine S.optP (a:=([103],pG,vG,x)) rfl ?_
 refine S.optP (hB.ng x) ?_
 refine S.cneg rfl ?_
 refine S.optP e1 ?_
 by_cases h1 : (r1 != 0) = true
 ·
  refine S.cpos h1 ?_
  refine S.cpos h1 ?_
  rw [h1]
  rfl
 have h1 : (r1 != 0) = false:=Bool.eq_false_iff.2 h1
 refine S.cneg h1 ?_
 rw [h1]
 show B18_1 (S.sem B) 4 (p3 nMain x y z) (1:Int) (L18_1 (S.sem B) 4 (p3 nMain x y z) 2) = _
 unfold B18_1
 refine S.cpos rfl ?_
 refine S.cpos rfl ?_
 refine S.optP (a:=hD y) rfl ?_
 refine S.optP (a:=([104],pH,vH,y)) rfl ?_
 refine S.optP (hB.nh y) ?_
 refine S.cneg rfl ?_
 refine S.optP e2 ?_
 by_cases h2 : (r2 != 0) = true
 ·
  refine S.cpos h2 ?_
  refine S.cpos h2 ?_
  rw [h2]
  rfl
 have h2 : (r2 != 0) = false:=Bool.eq_false_iff.2 h2
 refine S.cneg h2 ?_
 rw [h2]
 show B18_1 (S.sem B) 4 (p3 nMain x y z) (2:Int) (L18_1 (S.sem B) 4 (p3 nMain x y z) 1) = _
 unfold B18_1
 refine S.cpos rfl ?_
 refine S.cpos rfl ?_
 refine S.optP (a:=mD z) rfl ?_
 refine S.optP (a:=(nMain,[],vM,z)) rfl ?_
 refine S.optP (hB.nm z) ?_
 refine S.cneg rfl ?_
 refine S.optP e3 ?_
 by_cases h3 : (r3 != 0) = true
 ·
  refine S.cpos h3 ?_
  refine S.cpos h3 ?_
  rw [h3]
  rfl
 have h3 : (r3 != 0) = false:=Bool.eq_false_iff.2 h3
 refine S.cneg h3 ?_
 rw [h3]
 show B18_1 (S.sem B) 4 (p3 nMain x y z) (3:Int) (L18_1 (S.sem B) 4 (p3 nMain x y z) 0) = _
 unfold B18_1
 refine S.cneg rfl ?_
 rfl
end
end Go.Proofs.YtkinbnepkpoofaaGreatDoor
/- A made program with a Continue too many. -/
namespace Go.Proofs.YtkinbnepkpoofaaGreatDoor
open Go Go.AM
theorem Sk.mono {ints arrs:List Nm} {lp:Bool} {k:Int} {nm fn:Nm} {es:Nat} {body els:List D} (h:Sk ints arrs lp k nm fn es body els) : Sk ints arrs true k nm fn es body els:=by
 rcases h with h | h | h | h | h | h | ⟨h1,_,h⟩ | ⟨h1,_,h⟩ | h | h
 ·
  exact .inl h
 ·
  exact .inr (.inl h)
 ·
  exact .inr (.inr (.inl h))
 ·
  exact .inr (.inr (.inr (.inl h)))
 ·
  exact .inr (.inr (.inr (.inr (.inl h))))
 ·
  exact .inr (.inr (.inr (.inr (.inr (.inl h)))))
 ·
  exact .inr (.inr (.inr (.inr (.inr (.inr (.inl ⟨h1,rfl,h⟩))))))
 ·
  exact .inr (.inr (.inr (.inr (.inr (.inr (.inr (.inl ⟨h1,rfl,h⟩)))))))
 ·
  exact .inr (.inr (.inr (.inr (.inr (.inr (.inr (.inr (.inl h))))))))
 ·
  exact .inr (.inr (.inr (.inr (.inr (.inr (.inr (.inr (.inr h))))))))
mutual
theorem OkS.mono {ints arrs:List Nm} {mn lp:Bool} {a b n:Nat} {d:D} : OkS ints arrs mn lp a b n d → OkS ints arrs mn true a b n d
 | .mk _ _ a1 a2 _ n1 n2 _ k tag nm fn es body els h ht he hb hl hc=>.mk true a a1 a2 b n1 n2 d k tag nm fn es body els h ht he hb.mono hl.mono hc.mono
theorem OkL.mono {ints arrs:List Nm} {mn lp:Bool} {a b n:Nat} {ds:List D} : OkL ints arrs mn lp a b n ds → OkL ints arrs mn true a b n ds
 | .nil _ _=>.nil true a
 | .cons _ _ m _ n1 n2 _ _ h hs=>.cons true a m b n1 n2 _ _ h.mono hs.mono
end
def Cont (d:D) : Prop:=S.stDec ST d = some (7,0,[],[],[],[],[])
theorem Cont.ok {d:D} (h:Cont d) (ints arrs:List Nm) (mn:Bool) (a:Nat) : OkS ints arrs mn true a a 1 d :=
 .mk true a a a a 0 0 d 7 0 [] [] [] [] [] h (.inl ⟨rfl,rfl⟩) (fun x hx=>by cases hx) (.nil _ _) (.nil _ _) (.inr (.inr (.inr (.inr (.inr (.inr (.inr (.inl ⟨rfl,rfl,rfl,rfl,rfl,rfl,rfl⟩))))))))
def bodyW (w:Bool) (x:List D) (d:D) : List D:=cond w (x ++ [d]) x
section
variable {B:S.BookM} (hB:CkB B) {ints arrs:List Nm} {p:List D} {f0:List UInt8} {f1 f2 f3:List D} {m:Bool} (sz:Szd B f0 f1 f2 f3 ints arrs) (fd:Fnd B p)
include hB sz fd
theorem eq55w (w:Bool) {cd:D} (hcd:Cont cd) {a b n:Nat} {ds:List D} {t:List D} (hn:n ≤ 900) (h:OkL ints arrs m false a b n ds) (ht:TagM t a) :
  ∃ t', S.lentS (S.sem B) KS 55 [.ptr 0 0 0, .im (.sl false 7 (bodyW w ds cd)), .im (.bool false)] (KH p f0 f1 f2 f3 m t) = some (KT (cond w 8 0) p f0 f1 f2 f3 m t') := by
 cases w with
 | false =>
  obtain ⟨t', _, e⟩ := eq55 hB sz fd (n + 1) (by omega) (by omega) h ht
  exact ⟨t', e⟩
 | true =>
  have hl:=h.len
  have hlen : (ds ++ [cd]).length = ds.length + 1:=by simp
  obtain ⟨t', g, e⟩ := L55_run hB sz fd (all := ds ++ [cd]) (by omega) (ds.length + 1) (N := n) (fun hlt ho hg => eq55 hB sz fd n (by omega) hlt ho hg) ds [cd] 0 1 (by omega) h ht (by rw [List.drop_zero])
  obtain ⟨t2,g2,e2⟩:=eq102 hB.T hB.h102 g (a1:=b) (q:=(7,0,[],[],[],[],[])) (.inl ⟨rfl,rfl⟩) p f0 f1 f2 f3
  refine ⟨t2,lentI hB.T hB.inl hB.h55 (lf:=ds.length + 1) ((F55_eq _ _ _ _ _ _ _ _ _ _ _).trans ?_)⟩
  show L55_1 (S.sem B) (ds.length + 1) (ds ++ [cd]) false (ds.length + 1) (((0:Nat) : Int),p,f0,f1,f2,f3,m,t) = _
  rw [show L55_1 (S.sem B) (ds.length + 1) (ds ++ [cd]) false (ds.length + 1) = L55_1 (S.sem B) (ds.length + 1) (ds ++ [cd]) false (1 + ds.length) from by rw [Nat.add_comm],e]
  unfold L55_1 B55_1
  refine S.cpos (dtrue (by rw [hlen]; omega)) ?_
  refine S.cpos (dtrue (by omega)) ?_
  refine S.optP (a:=cd) (by rw [Nat.zero_add,Int.toNat_natCast,List.getElem?_append_right (Nat.le_refl _),Nat.sub_self]; rfl) ?_
  refine S.optP hcd ?_
  refine S.optP e2 ?_
  refine S.cneg rfl ?_
  refine S.cneg rfl ?_
  refine S.cpos rfl ?_
  refine S.cpos rfl ?_
  rfl
end
theorem bdW {B:S.BookM} {ints arrs:List Nm} (hR:RtB B ints arrs) (w:Bool) {cd:D} (hcd:Cont cd) {mn:Bool} {b n:Nat} {x:List D} (hn:n ≤ 100) (hb:b ≤ 100) (h:OkL ints arrs mn false 0 b n x) : ∃ c,c ≤ n + 1 ∧ Bd B (bodyW w x cd) c:=by
 cases w with
 | false=>exact ⟨n,by omega,eq127 hR (n + 1) (by omega) (by omega) (by omega) h,eq86 hR (n + 1) (by omega) (by omega) h⟩
 | true =>
  have o:=h.mono.snoc (hcd.ok ints arrs mn b)
  exact ⟨n + 1,by omega,eq127 hR (n + 2) (by omega) (by omega) (by omega) o,eq86 hR (n + 2) (by omega) (by omega) o⟩
structure CmB (B:S.BookM) : Prop where
 wh : WhB B
 ck : CkB B
 rG : RtB B iG aG
 rH : RtB B iH aG
 rM : RtB B iM aM
 h194 : Has B 194 fi194
 h195 : Has B 195 fi195
 h152 : Has B 152 fi152
 h96 : Has B 96 fi96
 yes : S.pureS (S.sem B) [.bool] 15 [] = some (true,())
 sG : ∀ x,Szd B [103] pG vG x iG aG
 sH : ∀ x,Szd B [104] pH vH x iH aG
 sM : ∀ x,Szd B nMain [] vM x iM aM
section
variable {B:S.BookM} (hB:CmB B)
include hB
theorem fndM {x y z:List D} : Fnd B (p3 nMain x y z) where
 len:=rfl
 g:=hB.wh.fg x y z
 h:=hB.wh.fh x y z
 gd:=⟨[103],pG,vG,x,gD x,rfl,rfl,rfl⟩
 hd:=⟨[104],pH,vH,y,hD y,rfl,rfl,rfl⟩
theorem check_where {x y z:List D} {c:Nat} (hm:Made x y z c) {cd:D} (hcd:Cont cd) (w1 w2 w3:Bool) :
  S.pureS (S.sem B) [.int .i64,.int .i64] 18 [PA nMain (bodyW w1 x cd) (bodyW w2 y cd) (bodyW w3 z cd)] = some ((wh (cond w1 8 0) (cond w2 8 0) (cond w3 8 0)).1,(wh (cond w1 8 0) (cond w2 8 0) (cond w3 8 0)).2,()):=by
 obtain ⟨⟨n1,l1,o1⟩,⟨n2,l2,o2⟩,⟨n3,l3,o3⟩⟩:=hm
 have hc : c ≤ 24:=by have:=o3.tags; omega
 obtain ⟨c1,k1,bx⟩:=bdW hB.rG w1 hcd (by omega) (by omega) o1
 obtain ⟨c2,k2,by'⟩:=bdW hB.rH w2 hcd (by omega) (by omega) o2
 obtain ⟨c3,k3,bz⟩:=bdW hB.rM w3 hcd (by omega) (by omega) o3
 obtain ⟨t1,e1⟩:=eq55w hB.ck (hB.sG (bodyW w1 x cd)) (fndM hB (x:=bodyW w1 x cd) (y:=bodyW w2 y cd) (z:=bodyW w3 z cd)) (m:=false) w1 hcd (by omega) o1 TagM.start
 obtain ⟨t2,e2⟩:=eq55w hB.ck (hB.sH (bodyW w2 y cd)) (fndM hB (x:=bodyW w1 x cd) (y:=bodyW w2 y cd) (z:=bodyW w3 z cd)) (m:=false) w2 hcd (by omega) o2 TagM.start
 obtain ⟨t3,e3⟩:=eq55w hB.ck (hB.sM (bodyW w3 z cd)) (fndM hB (x:=bodyW w1 x cd) (y:=bodyW w2 y cd) (z:=bodyW w3 z cd)) (m:=true) w3 hcd (by omega) o3 TagM.start
 exact eq18 hB.wh bx by' bz (by omega) e1 e2 e3
theorem check_g {x y z:List D} {c:Nat} (hm:Made x y z c) {cd:D} (hcd:Cont cd) (w1 w2 w3:Bool)
  (fg:∀ x y z,S.pureS (S.sem B) [.int .i64] 26 [PA [103] x y z,.im (.str [103])] = some ((0:Int),())) (fh:∀ x y z,S.pureS (S.sem B) [.int .i64] 26 [PA [103] x y z,.im (.str [104])] = some ((1:Int),())) :
  S.pureS (S.sem B) [.int .i64,.int .i64] 18 [PA [103] (bodyW w1 x cd) (bodyW w2 y cd) (bodyW w3 z cd)] = some ((6:Int),(-1 : Int),()):=by
 obtain ⟨⟨n1,l1,o1⟩,⟨n2,l2,o2⟩,⟨n3,l3,o3⟩⟩:=hm
 have hc : c ≤ 24:=by have:=o3.tags; omega
 obtain ⟨c1,k1,bx⟩:=bdW hB.rG w1 hcd (by omega) (by omega) o1
 obtain ⟨c2,k2,by'⟩:=bdW hB.rH w2 hcd (by omega) (by omega) o2
 obtain ⟨c3,k3,bz⟩:=bdW hB.rM w3 hcd (by omega) (by omega) o3
 have e50:=eq50g hB.wh bx by' bz (by omega) (fg _ _ _) (fh _ _ _)
 refine pureI hB.wh.T hB.wh.inl hB.wh.h18 (lf:=4) ((F18_eq _ _ _).trans ?_)
 unfold F18 G18
 refine S.optP e50 ?_
 refine S.cpos rfl ?_
 rfl
end
end Go.Proofs.YtkinbnepkpoofaaGreatDoor
/- CheckWhere: what is told of a made program with Continues too many. -/
namespace Go.Proofs.YtkinbnepkpoofaaGreatDoor
open Go Go.AM
theorem mapO_two {f:AV → Option AV} : ∀ {vs:List AV} {a b:AV},mapO f vs = some [a,b] → ∃ x y,vs = [x,y] ∧ f x = some a ∧ f y = some b
 | [],a,b,h=>by cases h
 | [x],a,b,h=>by
  simp only [mapO] at h
  split at h
  ·
   rename_i h2; cases h2; cases h
  ·
   cases h
 | [x,y],a,b,h=>by
  simp only [mapO] at h
  split at h
  ·
   rename_i y1 ys h1 h2
   split at h2
   ·
    rename_i z1 zs h3 h4
    cases h4
    cases h2
    cases h
    exact ⟨x,y,rfl,h1,h3⟩
   ·
    cases h2
  ·
   cases h
 | x :: y :: z :: vs,a,b,h=>by
  simp only [mapO] at h
  split at h
  ·
   rename_i y1 ys h1 h2
   split at h2
   ·
    rename_i z1 zs h3 h4
    split at h4
    ·
     rename_i q1 qs h5 h6
     cases h4
     cases h2
     cases h
    ·
     cases h4
   ·
    cases h2
  ·
   cases h
theorem snapI {H:Heap} {n:Nat} {x:AV} {k:IntKind} {b:Int} (h:snap H n x = some (.im (.int k b))) : x = .im (.int k b):=by
 cases x with
 | im d=>cases n <;> (simp [snap] at h; rw [h])
 | pe d k=>cases n <;> simp [snap] at h
 | ref i o l =>
  cases n with
  | zero=>simp [snap] at h
  | succ n =>
   simp only [snap] at h
   split at h
   ·
    cases h
   ·
    split at h
    ·
     split at h <;> cases h
    ·
     cases h
   ·
    cases h
 | ptr i j k =>
  cases n with
  | zero=>simp [snap] at h
  | succ n =>
   simp only [snap] at h
   split at h
   ·
    split at h
    ·
     split at h <;> cases h
    ·
     cases h
   ·
    cases h
 | agg cs =>
  cases n with
  | zero=>simp [snap] at h
  | succ n =>
   simp only [snap] at h
   split at h
   ·
    unfold mkAgg at h
    split at h <;> cases h
   ·
    cases h
 | fn f a c =>
  cases n with
  | zero=>simp [snap] at h
  | succ n =>
   simp only [snap] at h
   split at h
   ·
    unfold mkFn at h
    split at h <;> cases h
   ·
    cases h
 | ifc t x =>
  cases n with
  | zero=>simp [snap] at h
  | succ n =>
   simp only [snap] at h
   split at h
   ·
    unfold mkIfc at h
    split at h <;> cases h
   ·
    cases h
 | tup vs =>
  cases n with
  | zero=>simp [snap] at h
  | succ n =>
   simp only [snap] at h
   split at h <;> cases h
 | mp i=>cases n <;> simp [snap] at h
 | bad=>cases n <;> simp [snap] at h
theorem plain_2 {cs:Oracle} {g:FuncId} {xs:List AV} {k k2:IntKind} {n n2:Int} (h:S.pureS cs [.int k,.int k2] g xs = some (n,n2,())) : S.plainS cs [.int k,.int k2] g xs = some (n,n2,()):=by
 unfold S.pureS at h
 unfold S.plainS
 split at h
 ·
  rename_i res H' hc
  split at h
  ·
   rename_i v hs
   have e:=S.decR_eq h
   subst e
   have hres : res = .tup [.im (.int k n),.im (.int k2 n2)]:=by
    have hs : snap H' 12 res = some (.tup [.im (.int k n),.im (.int k2 n2)]):=hs
    cases res with
    | tup vs =>
     simp only [snap] at hs
     split at hs
     ·
      rename_i ys hm
      cases hs
      obtain ⟨x,y,rfl,h1,h2⟩:=mapO_two hm
      rw [snapI h1,snapI h2]
     ·
      cases hs
    | im d=>simp [snap] at hs
    | pe d k=>simp [snap] at hs
    | ref i o l =>
     simp only [snap] at hs
     split at hs
     ·
      cases hs
     ·
      split at hs
      ·
       split at hs <;> cases hs
      ·
       cases hs
     ·
      cases hs
    | ptr i j k =>
     simp only [snap] at hs
     split at hs
     ·
      split at hs
      ·
       split at hs <;> cases hs
      ·
       cases hs
     ·
      cases hs
    | agg cs =>
     simp only [snap] at hs
     split at hs
     ·
      rename_i ys _
      unfold mkAgg at hs
      split at hs <;> cases hs
     ·
      cases hs
    | fn f a c =>
     simp only [snap] at hs
     split at hs
     ·
      unfold mkFn at hs
      split at hs <;> cases hs
     ·
      cases hs
    | ifc t x =>
     simp only [snap] at hs
     split at hs
     ·
      unfold mkIfc at hs
      split at hs <;> cases hs
     ·
      cases hs
    | mp i=>simp [snap] at hs
    | bad=>simp [snap] at hs
   subst hres
   have hp : plainR (.tup [.im (.int k n),.im (.int k2 n2)]) = true:=rfl
   rw [if_pos hp]
   exact h
  ·
   cases h
 ·
  cases h
theorem ct_ok : Cont ctD:=rfl
theorem scDec_cell {c:Sc} (hc:c ≠ .any) {d:D} {x:c.T} (h:S.scDec c d = some x) : okCell (.im d) = true:=by
 cases d with
 | agg cs=>cases c <;> first | exact absurd rfl hc | (simp [S.scDec,D.asInt,D.asBool,D.asStr,D.asSl,D.asFn] at h)
 | _=>rfl
theorem scsDec_cells : ∀ {l:List Sc} {cs:List D} {x:Scs.T l},(∀ c ∈ l,c ≠ .any) → S.scsDec l cs = some x → (cs.map AV.im).all okCell = true
 | [],cs,x,hl,h=>by
  simp only [S.scsDec] at h
  split at h
  ·
   rfl
  ·
   cases h
 | [s],cs,x,hl,h=>by
  simp only [S.scsDec] at h
  split at h
  ·
   rename_i d
   rw [List.map_cons,List.all_cons,scDec_cell (hl s (by simp)) h]
   rfl
  ·
   cases h
 | s :: t :: ss,cs,x,hl,h=>by
  simp only [S.scsDec] at h
  split at h
  ·
   cases h
  ·
   rename_i d ds
   split at h
   ·
    rename_i y h1
    split at h
    ·
     rename_i ys h2
     rw [List.map_cons,List.all_cons,scDec_cell (hl s (by simp)) h1,Bool.true_and]
     exact scsDec_cells (fun c hc=>hl c (List.mem_cons_of_mem _ hc)) h2
    ·
     cases h
   ·
    cases h
theorem okS_cells {d:D} {p:Int × Int × Nm × Nm × List D × List D × List D} (h:S.stDec ST d = some p) : (AV.im d).cells.all okCell = true:=by
 cases d with
 | agg cs=>exact scsDec_cells (fun c hc=>by simp only [ST,List.mem_cons,List.not_mem_nil,or_false] at hc; rcases hc with rfl | rfl | rfl | rfl | rfl | rfl | rfl <;> (intro h; cases h)) h
 | _=>cases h
theorem okL_cells {ints arrs:List Nm} {mn lp:Bool} {a b n:Nat} {ds:List D} (h:OkL ints arrs mn lp a b n ds) : (List.all (List.map AV.im ds) fun (e:AV)=>e.cells.all okCell) = true:=by
 rw [List.all_eq_true]
 intro e he
 obtain ⟨d,hd,rfl⟩:=List.mem_map.1 he
 obtain ⟨_,_,_,_,_,hs⟩:=h.mem d hd
 obtain ⟨p,hp⟩:=hs.dec
 exact okS_cells hp
theorem tk (x:List D) (d:D) : List.take (List.length (List.take (List.length ([] ++ x)) (List.drop 0 ([] ++ x)) ++ [d])) (List.drop 0 (List.take (List.length ([] ++ x)) (List.drop 0 ([] ++ x)) ++ [d])) = x ++ [d]:=by simp only [List.nil_append,List.drop_zero,List.take_length]
theorem lenT (x:List D) (d:D) : List.length (List.take (List.length ([] ++ x)) (List.drop 0 ([] ++ x)) ++ [d]) = x.length + 1:=by simp
def InlOk5 (B:S.BookM) : Prop:=∀ p ∈ inlL5,B.fi p.1 = some p.2 ∧ B.known p.1 = none ∧ ∀ xs,B.norm p.1 xs = xs
theorem pureJ {B:S.BookM} (hT:B.T = T) (hI:InlOk5 B) {f:FuncId} {i:Fi} (h:Has B f i) {l:List S.Hm} {lf:Nat} {xs:List AV} {x:S.Hms.T l} (hb:S.bodyS T (SGJ (S.sem B)) (S.sem B) i lf xs [] (S.endP l) = some x) : S.pureS (S.sem B) l f xs = some x:=by
 refine S.pure_rule (sg:=SGJ (S.sem B)) h.fi h.known (h.norm xs) (by rw [hT]; exact hb) (hI:=SGJ_ok hT hI _)
structure CwB (B:S.BookM) : Prop where
 cr : CmB B
 inl : InlOk5 B
 h5 : Has B 5 fi5
 fg : ∀ x y z,S.pureS (S.sem B) [.int .i64] 26 [PA [103] x y z,.im (.str [103])] = some ((0:Int),())
 fh : ∀ x y z,S.pureS (S.sem B) [.int .i64] 26 [PA [103] x y z,.im (.str [104])] = some ((1:Int),())
section
variable {B:S.BookM} (hB:CwB B)
include hB
theorem eq5 {a b p:List D} (ha:Bytes a) (hb:Bytes b) (la:a.length ≤ 9223372036854775807) (lb:b.length ≤ 9223372036854775807) (own:Bool) (w1 w2 w3:Bool) :
  S.pureS (S.sem B) [.bool] 5 [.im (.agg [.sl false 4 p,.bool own,.sl false 1 a,.sl false 1 b]),.im (.bool w1),.im (.bool w2),.im (.bool w3)] = some (true,()):=by
 have hF:=hB.cr
 have w : IntKind.wrap .i64 (Int.tdiv ((b.length : Nat) : Int) (2:Int)) = ((b.length / 2 : Nat) : Int):=by
  rw [show Int.tdiv ((b.length : Nat) : Int) (2:Int) = ((b.length / 2 : Nat) : Int) from rfl]
  exact wrap_ok (by omega) (by omega)
 have hb2 : (b.drop (b.length / 2)).length ≤ 9223372036854775807:=by rw [List.length_drop]; omega
 obtain ⟨x,t1,e1,g1,n1,p1,p2,p3,p4,p5⟩:=stmts_all hF.wh.T hF.h194 hF.h195 hF.h152 hF.h96 (ints:=iG) (arrs:=aG) (by decide) (by decide) hb (by omega) 1 (by omega) (Nat.zero_le _) (e:=4) (g:=0) false false (by omega) (most:=4) (by omega)
 obtain ⟨y,t2,e2,g2,n2,q1,q2,q3,q4,q5⟩:=stmts_all hF.wh.T hF.h194 hF.h195 hF.h152 hF.h96 (ints:=iH) (arrs:=aG) (by decide) (by decide) (hb.drop (b.length / 2)) hb2 1 (by omega) (Nat.zero_le _) (e:=3) (g:=0) false false (by omega) (most:=3) (by omega)
 obtain ⟨z,t3,e3,g3,n3,r1,r2,r3,r4,r5⟩:=stmts_all hF.wh.T hF.h194 hF.h195 hF.h152 hF.h96 (ints:=iM) (arrs:=aM) (by decide) (by decide) ha (by omega) 2 (by omega) (Nat.zero_le _) (e:=24) (g:=0) true false (by omega) (most:=14) (by omega)
 have z1:=p3.nomain
 have z2:=q3.nomain
 subst z1
 subst z2
 have hm : Made x y z g3:=⟨⟨n1,by omega,p3⟩,⟨n2,by omega,q3⟩,⟨n3,by omega,r3⟩⟩
 have lx:=p3.len
 have ly:=q3.len
 have lz:=r3.len
 have cw:=plain_2 (check_where hB.cr hm ct_ok w1 w2 w3)
 have cg:=plain_2 (check_g hB.cr hm ct_ok w1 w2 w3 hB.fg hB.fh)
 have ox:=okL_cells p3
 have oy:=okL_cells q3
 have oz:=okL_cells r3
 refine pureJ hF.wh.T hB.inl hB.h5 (lf:=6) ((F5_eq _ 0 _ _ _ _ _ _ _).trans ?_)
 unfold F5
 rw [w,List.take_length,Int.toNat_natCast]
 refine S.optP hB.cr.yes ?_
 refine S.cneg rfl ?_
 refine S.cpos (dtrue (by omega)) ?_
 refine S.cpos (dtrue (by omega)) ?_
 refine S.optP p5 ?_
 refine S.optP q5 ?_
 refine S.optP r5 ?_
 cases w3 <;> cases w2 <;> cases w1 <;> (
  repeat first
   | refine S.cpos (S.eqA_refl _) ?_
   | refine S.cpos oz ?_
   | refine S.cpos oy ?_
   | refine S.cpos ox ?_
   | refine S.cpos (dtrue (by dsimp only; rw [lenT]; omega)) ?_
   | refine S.cpos (dtrue (by dsimp only; rw [List.nil_append]; omega)) ?_
   | refine S.cpos rfl ?_
   | refine S.cneg rfl ?_
  refine S.optP (by first | exact cw | (simp only [tk]; exact cw)) ?_
  refine S.optP (by first | exact cg | (simp only [tk]; exact cg)) ?_
  repeat first
   | refine S.cpos rfl ?_
   | refine S.cneg rfl ?_
  rfl)
end
end Go.Proofs.YtkinbnepkpoofaaGreatDoor