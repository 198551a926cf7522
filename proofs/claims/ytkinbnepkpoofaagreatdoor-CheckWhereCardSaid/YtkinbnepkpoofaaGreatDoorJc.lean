/- Texts joined into one: Am26 Am27 Am28 Am29 Am30 Am31 Am32 Am33 Am34 Am35 Am36 Am37 Am64. -/
import Derived.Test.YtkinbnepkpoofaaGreatDoorJb
import Derived.Laws.Cover3
import Derived.ChangeArms
import Derived.ChangeSlices
import Derived.ProofKit
import Derived.WalkKit
import Derived.OpenShut
import Derived.ShutString
import Derived.ChangeOld
import Derived.Below
import Derived.SizedLaws
/- The abstract machine,part 26: code; and that it does what the model's does. -/
set_option linter.unusedVariables false
set_option linter.unusedSimpArgs false
namespace Go.AM
inductive Ex where
 | normal
 | exit (id:Nat)
 | ret
 deriving Inhabited
def Ex.to : Ex → Exit
 | .normal=>.normal
 | .exit id=>.exit id
 | .ret=>.ret
structure Px extends Cx where
 nl : Nat
 live : Nat → Option (List Bool)
 after : Nat → Option (List Bool)
 out : Option (List Bool)
 frz : Nat → Bool
 clm : Nat → List (Nat × Nat)
def clmV (id k:Nat) : AV → Option AV
 | .im (.agg ds)=>match ds[k]? with
  | some (.sl _ 0 [])=>some (.agg ((ds.map .im).set k (.ref id 0 0)))
  | _=>none
 | .agg cs=>match cs[k]? with
  | some (.im (.sl _ 0 []))=>some (.agg (cs.set k (.ref id 0 0)))
  | _=>none
 | .im (.sl _ 0 [])=>if k == 0 then some (.ref id 0 0) else none
 | _=>none
def claims (d:Nat) : List (Nat × Nat) → Env → Heap → Env × Heap
 | [],env,H=>(env,H)
 | (k,sz) :: l,env,H=>match env[d]? with
  | some v=>match clmV H.length k v with
   | some v'=>claims d l (env.set d v') (H ++ [some (.c sz [])])
   | none=>claims d l env H
  | none=>claims d l env H
def frzIds : List Nat → Env → Heap → Env × Heap
 | [],env,H=>(env,H)
 | id :: ids,env,H=>match frz id env H with
  | some (env', H') => frzIds ids env' H'
  | none=>frzIds ids env H
def opIds (env:Env) : List Operand → List Nat
 | []=>[]
 | x :: xs=>match opd env x with
  | some v=>AV.ids v ++ opIds env xs
  | none=>opIds env xs
def preIds (env:Env) (H:Heap) (o:Oper) : List Nat:=match o.op with
 | .load _ _=>(reach H 400 (opIds env o.op.operands.toList) []).reverse.filter fun i=>!(opIds env o.op.operands.toList).contains i
 | _=>(reach H 400 (opIds env o.op.operands.toList) []).reverse
def pre (X:Px) (env:Env) (H:Heap) (o:Oper) (d:Nat) : Env × Heap :=
 if X.frz d then frzIds (preIds env H o) env H else (env,H)
def stepF (X:Px) (ops:Array Oper) (env:Env) (H:Heap) (o:Oper) : Option (Env × Heap) :=
 match o.dst with
 | some d=>match stepO X.toCx X.nl ops (pre X env H o d).1 (pre X env H o d).2 o with
  | some (env', H') => some (claims d (X.clm d) env' H')
  | none=>none
 | none=>stepO X.toCx X.nl ops env H o
def runF (X:Px) (ops:Array Oper) : List Oper → Env → Heap → Option (Env × Heap)
 | [],env,H=>some (env,H)
 | o :: os,env,H=>match stepF X ops env H o with
  | some (env', H') => runF X ops os env' H'
  | none=>none
def runD (X:Px) (ops:Array Oper) (env:Env) (H:Heap) : Option (Env × Heap) :=
 match runP X.toCx ops (ops.toList.take (cutOf ops)) env H with
 | some (env', H') => runF X ops (ops.toList.drop (cutOf ops)) env' H'
 | none=>none
def mask : List Bool → Env → Env
 | true :: bs,x :: env=>x :: mask bs env
 | false :: bs,_ :: env=>.bad :: mask bs env
 | [],_ :: env=>.bad :: mask [] env
 | _,[]=>[]
def regionOf : Code → Option Nat
 | .region id _ _=>some id
 | .seq a b=>match regionOf a with
  | some i=>some i
  | none=>regionOf b
 | .cond _ a b=>match regionOf a with
  | some i=>some i
  | none=>regionOf b
 | .block _ c=>regionOf c
 | .loop c=>regionOf c
 | _=>none
def lentIds : Nat → Heap → List Nat
 | 0,_=>[]
 | _ + 1,[]=>[]
 | n + 1,some (.m _ es) :: H=>AV.idss es ++ lentIds n H
 | n + 1,_ :: H=>lentIds n H
def keepL (nl:Nat) (H:Heap) (env:Env) : List Nat:=reach H 400 (AV.idss env ++ lentIds nl H) (List.range nl)
def forget (nl:Nat) (bs:Option (List Bool)) (env:Env) (H:Heap) : Env × Heap:=match bs with
 | some bs=>(AV.rens (posn (keepL nl H (mask bs env))) (mask bs env),pickH H (keepL nl H (mask bs env)))
 | none=>(env,H)
def headOf (X:Px) (c:Code) (env:Env) (H:Heap) : Env × Heap :=
 match regionOf c with
 | some i=>forget X.nl (X.live i) env H
 | none=>(env,H)
def iter (head:Env → Heap → Env × Heap) (body:Env → Heap → Option (Ex × Env × Heap)) : Nat → Env → Heap → Option (Ex × Env × Heap)
 | 0,_,_=>none
 | n + 1,env,H=>match body (head env H).1 (head env H).2 with
  | some (.normal, env', H') => iter head body n env' H'
  | r=>r
def exec (X:Px) (lf:Nat) : Code → Env → Heap → Option (Ex × Env × Heap)
 | .skip,env,H=>some (.normal,env,H)
 | .region _ ops draw,env,H=>match (if draw then runD X ops env H else runF X ops ops.toList env H) with
  | some (env', H') => some (.normal, env', H')
  | none=>none
 | .seq a b,env,H=>match exec X lf a env H with
  | some (.normal, env', H') => exec X lf b env' H'
  | r=>r
 | .cond c t e,env,H=>match opd env c with
  | some (.im (.bool true))=>exec X lf t env H
  | some (.im (.bool false))=>exec X lf e env H
  | _=>none
 | .block id c,env,H=>match exec X lf c env H with
  | some (.exit i, env', H') => if i == id then some (.normal, forget X.nl (X.after id) env' H') else some (.exit i, env', H')
  | some (.normal, env', H') => some (.normal, forget X.nl (X.after id) env' H')
  | some (.ret, env', H') => some (.ret, env', H')
  | none=>none
 | .loop c,env,H=>iter (headOf X c) (exec X lf c) lf env H
 | .exit id,env,H=>some (.exit id,env,H)
 | .ret,env,H=>some (.ret,forget X.nl X.out env H)
 | _,_,_=>none
def codeOK : Code → Bool
 | .region _ ops draw=>!draw || drawOK ops
 | .seq a b=>codeOK a && codeOK b
 | .cond _ a b=>codeOK a && codeOK b
 | .block _ c=>codeOK c
 | .loop c=>codeOK c
 | _=>true
section
variable {P:Program} {I I' : Nat → Option (Array Value)} {κ κ' : Nat → Option Loc} {w w' : World} {H H' : Heap} {DF:List Deferred} {A:Nat → Prop} {κ0:Nat → Option Loc} {I0:Nat → Option (Array Value)} {w0:World} {env env' : Env} {a:Act} {ops:Array Oper} {Q:Exit → Act → World → Prop} {X:Px}
abbrev Stx (DF:List Deferred) (A:Nat → Prop) (κ0:Nat → Option Loc) (nl:Nat) (I0:Nat → Option (Array Value)) (w0:World) (H:Heap) (env:Env) (a:Act) (w:World) : Prop:=∃ I κ,St DF A κ0 nl I0 w0 I κ H w env a
theorem setl_same {α:Type} {l:List α} {i:Nat} {x:α} (h:l[i]? = some x) : l.set i x = l:=by
 apply List.ext_getElem?
 intro j
 rw [List.getElem?_set]
 split
 ·
  rename_i e
  subst e
  rw [h]
  have : i < l.length:=by
   rcases Nat.lt_or_ge i l.length with hl | hl
   ·
    exact hl
   ·
    rw [List.getElem?_eq_none hl] at h; cases h
  simp [this]
 ·
  rfl
theorem frzIds_st : ∀ (ids:List Nat) {env:Env} {H:Heap} {nl:Nat},Stx DF A κ0 nl I0 w0 H env a w → Stx DF A κ0 nl I0 w0 (frzIds ids env H).2 (frzIds ids env H).1 a w
 | [],env,H,nl,h=>h
 | id :: ids,env,H,nl,⟨I,κ,s⟩=>by
  unfold frzIds
  split
  ·
   rename_i env' H' h
   obtain ⟨I', _, _, s'⟩ := s.freeze h
   exact frzIds_st ids ⟨_,_,s'⟩
  ·
   exact frzIds_st ids ⟨I,κ,s⟩
theorem clmV_rv {id k:Nat} {v v' : AV} {x:Value} (h:clmV id k v = some v') (hr:RV I κ v x) (hκ:∀ i l,κ i = some l → κ' i = some l) (hid:κ' id = some .nil) : RV I κ' v' x:=by
 have hnil : ∀ {t:Bool} {y:Value},RD I (.sl t 0 []) y → RV I κ' (.ref id 0 0) y:=by
  intro t y h
  cases h with
  | slnil=>exact .refnil _ hid
  | slz _ _ _ h0=>omega
  | sle _ _ _ h0=>omega
  | sl _ _ _ _ _ _ _ _ h0=>omega
 unfold clmV at h
 split at h
 ·
  rename_i ds
  split at h
  ·
   rename_i t hk
   simp at h
   subst h
   cases hr with
   | im _ _ hr =>
   cases hr with
   | agg _ vs hr =>
   obtain ⟨y,hy,hyr⟩:=hr.get hk
   have hs:=(hr.toRVs (κ:=κ')).set k (hnil hyr)
   rw [show vs.set k y = vs from setl_same hy] at hs
   exact .agg _ _ hs
  ·
   simp at h
 ·
  rename_i cs
  split at h
  ·
   rename_i t hk
   simp at h
   subst h
   cases hr with
   | agg _ vs hr =>
   obtain ⟨y,hy,hyr⟩:=hr.get hk
   cases hyr with
   | im _ _ hyr =>
   have hs:=(RVs.mono (fun _ _ h=>h) hκ hr).set k (hnil hyr)
   rw [show vs.set k y = vs from setl_same hy] at hs
   exact .agg _ _ hs
  ·
   simp at h
 ·
  split at h
  ·
   simp at h
   subst h
   cases hr with
   | im _ _ hr=>exact hnil hr
  ·
   simp at h
 ·
  simp at h
theorem claims_st : ∀ (l:List (Nat × Nat)) {d:Nat} {env:Env} {H:Heap} {nl:Nat},Stx DF A κ0 nl I0 w0 H env a w → Stx DF A κ0 nl I0 w0 (claims d l env H).2 (claims d l env H).1 a w
 | [],d,env,H,nl,h=>h
 | (k,sz) :: l,d,env,H,nl,⟨I,κ,s⟩=>by
  unfold claims
  split
  ·
   rename_i v hv
   split
   ·
    rename_i v' hc
    refine claims_st l ?_
    have hid:=s.none_at (Nat.le_refl _)
    have hw' : WR I κ (extH H (some (.c sz []))) w:=⟨s.wr.im,fun i l hl=>by
     obtain ⟨blk,hb,hlies⟩:=s.wr.own _ _ hl
     exact ⟨blk,grown_sub _ H _ _ hb,hlies⟩,s.wr.inj,s.wr.apart⟩
    obtain ⟨g,hw2⟩:=hw'.newnil hid (blk:=.c sz []) (by simp [extH]) rfl
    obtain ⟨x,hx,hxr⟩:=s.env.get hv
    have hr:=clmV_rv hc hxr g.loc (by simp)
    obtain ⟨I', κ', s'⟩ := s.adds (b := some (.c sz [])) (v := v') (x := x) (some d) ⟨I, _, g, hw2, hr, fun i hi => by simp [hi], fun h => by simp at h, fun _ => by simp⟩
    have he : (a.put (some d) x).tmps.toList = a.tmps.toList:=by
     have:=setl_same hx
     simpa [Act.put] using this
    refine ⟨I', κ', s'.wr, ?_, s'.mv, s'.own, s'.dom, s.nodef, s'.lent, s'.len⟩
    have h2:=s'.env
    rw [he] at h2
    exact h2
   ·
    exact claims_st l ⟨I,κ,s⟩
  ·
   exact claims_st l ⟨I,κ,s⟩
theorem pre_st {o:Oper} {d:Nat} (s:Stx DF A κ0 X.nl I0 w0 H env a w) : Stx DF A κ0 X.nl I0 w0 (pre X env H o d).2 (pre X env H o d).1 a w:=by
 unfold pre
 split
 ·
  exact frzIds_st _ s
 ·
  exact s
theorem stepF_wp (hT : X.T.ok P) (hc : CallOK P X.call) (s : Stx DF A κ0 X.nl I0 w0 H env a w) {i : Nat} {o : Oper} (ho : ops[i]? = some o) (h : stepF X ops env H o = some (env', H')) {K : Act → World → Prop}
  (hK : ∀ a' w', Stx DF A κ0 X.nl I0 w0 H' env' a' w' → K a' w') : wpOp P ops Q i K a w := by
 unfold stepF at h
 split at h
 ·
  rename_i d hd
  split at h
  ·
   rename_i e2 H2 he
   simp at h
   have h1 : (claims d (X.clm d) e2 H2).1 = env':=by rw [h]
   have h2 : (claims d (X.clm d) e2 H2).2 = H':=by rw [h]
   obtain ⟨I,κ,s'⟩:=pre_st (X:=X) (o:=o) (d:=d) s
   refine stepO_wp hT hc s' ho he fun a' w' I' κ' s''=>hK _ _ ?_
   rw [← h1,← h2]
   exact claims_st _ ⟨_,_,s''⟩
  ·
   simp at h
 ·
  obtain ⟨I,κ,s⟩:=s
  exact stepO_wp hT hc s ho h fun a' w' I' κ' s''=>hK _ _ ⟨_,_,s''⟩
theorem runF_wp (hT : X.T.ok P) (hc : CallOK P X.call) (hQ : ∀ a' w', Stx DF A κ0 X.nl I0 w0 H' env' a' w' → Q .normal a' w') : ∀ (os : List Oper) (l : List Nat) {H w env a}, l.map (ops[·]?) = os.map some →
  Stx DF A κ0 X.nl I0 w0 H env a w → runF X ops os env H = some (env', H') → wpOps P ops Q l a w
 | [],l,H,w,env,a,hl,s,h=>by
  have : l = []:=by simpa using hl
  subst this
  simp [runF] at h
  obtain ⟨rfl,rfl⟩:=h
  exact hQ _ _ s
 | o :: os,l,H,w,env,a,hl,s,h=>by
  cases l with
  | nil=>simp at hl
  | cons i l =>
   simp only [List.map_cons,List.cons.injEq] at hl
   obtain ⟨hi,hl⟩:=hl
   unfold runF at h
   split at h
   ·
    rename_i e2 H2 h2
    rw [wpOps_cons]
    exact stepF_wp hT hc s hi h2 fun a' w' s'=>runF_wp hT hc hQ os l hl s' h
   ·
    simp at h
theorem range_drop (ops:Array Oper) (m:Nat) (hm:m ≤ ops.size) : (List.range' m (ops.size - m)).map (ops[·]?) = (ops.toList.drop m).map some:=by
 apply List.ext_getElem?
 intro i
 simp only [List.getElem?_map,List.getElem?_drop,Array.getElem?_toList]
 by_cases h : i < ops.size - m
 ·
  rw [List.getElem?_range' h,Array.getElem?_eq_getElem (by omega)]
  simp [show m + i < ops.size by omega]
 ·
  rw [List.getElem?_eq_none (by simp; omega),Array.getElem?_eq_none (by omega)]
  rfl
theorem runD_wp (hT : X.T.ok P) (hc : CallOK P X.call) (hm : P.follows .mixedOrders = true) (hQ : ∀ a' w', Stx DF A κ0 X.nl I0 w0 H' env' a' w' → Q .normal a' w') (hd : drawOK ops = true) (s : Stx DF A κ0 X.nl I0 w0 H env a w)
  (h : runD X ops env H = some (env', H')) {id : Nat} : (Code.region id ops true).wp P Q a w := by
 have d:=drawIn_spec hd
 have hpos:=d.pos
 refine wp_region_any hm ?_
 unfold runD at h
 split at h
 ·
  rename_i e1 H1 hr
  obtain ⟨st,h0,h1,hs⟩:=runP_trace _ _ _ _ hr
  have hlen : (ops.toList.take (cutOf ops)).length = cutOf ops:=by simp; omega
  rw [hlen] at h1
  have T : Trace X.toCx ops (cutOf ops) st:=⟨fun i hi=>by
   refine ⟨ops[i]'(by omega),by simp [show i < ops.size by omega],hs i _ ?_⟩
   rw [List.getElem?_take,if_pos hi]
   simp [show i < ops.size by omega]⟩
  obtain ⟨I1,κ1,s1⟩:=s
  have s1 : St DF A κ0 X.nl I0 w0 I1 κ1 (st 0).2 { w with drawn:=w.drawn + 1 } (st 0).1 a:=by
   rw [h0]
   exact s1.later ⟨rfl,rfl,rfl,Nat.le_refl _,fun _ _=>rfl⟩
  have hno : ∀ i,¬ isL (Array.replicate ops.size false) i:=fun i h=>by
   unfold isL at h
   by_cases hlt : i < ops.size <;> simp [hlt] at h
  refine wpAny_part hT hc d T s1 (fun a' w' I' κ' s'=>?_) ops.size (Array.replicate ops.size false) I1 κ1 _ (st 0).1 a (List.range (cutOf ops)) (by simp; omega) (fun i hi _=>by simpa using hi) (fun k _=>hno k) ?_
  ·
   rw [h1] at s'
   exact runF_wp hT hc hQ _ _ (range_drop ops _ (by omega)) ⟨_,_,s'⟩ h
  ·
   refine ⟨⟨s1.wr.im,fun i l hl=>?_,s1.wr.inj,s1.wr.apart⟩,s1.env,.refl _,rfl,fun _ _=>rfl,fun i _ hl=>absurd hl (hno i),fun _ _=>rfl,fun i hi hg=>⟨fun hl=>absurd hl (hno i),fun hk=>?_⟩,fun _ _ _ _ _ _ h=>.inl h,s1.nodef,fun i hl=>absurd hl (hno i),by simp⟩
   ·
    obtain ⟨blk,hb,hlies⟩:=s1.wr.own _ _ hl
    exact ⟨blk,T.sub (by omega) (Nat.le_refl _) _ _ hb,hlies⟩
   ·
    exact absurd (s1.none_at (T.lens (i:=0) (j:=i) (by omega) (by omega))) hk
 ·
  simp at h
theorem mask_rv : ∀ (bs:List Bool) {env:Env} {vs:List Value},RVs I κ env vs → RVs I κ (mask bs env) vs
 | true :: bs,x :: env,vs,h=>by cases h with | cons _ _ _ _ h hs=>exact .cons _ _ _ _ h (mask_rv bs hs)
 | false :: bs,x :: env,vs,h=>by cases h with | cons _ _ _ _ h hs=>exact .cons _ _ _ _ (.bad _) (mask_rv bs hs)
 | [],x :: env,vs,h=>by cases h with | cons _ _ _ _ h hs=>exact .cons _ _ _ _ (.bad _) (mask_rv [] hs)
 | [],[],vs,h=>h
 | true :: _,[],vs,h=>h
 | false :: _,[],vs,h=>h
theorem keepL_nodup (nl:Nat) (H:Heap) (env:Env) : (keepL nl H env).Nodup:=reach_nodup H _ _ _ List.nodup_range
theorem keepL_pre (nl:Nat) (H:Heap) (env:Env) : ∀ i,i < nl → (keepL nl H env)[i]? = some i:=by
 intro i hi
 obtain ⟨more,h⟩:=reach_pre H 400 (AV.idss env ++ lentIds nl H) (List.range nl)
 unfold keepL
 rw [h,List.getElem?_append_left (by simpa using hi)]
 simp [hi]
theorem forget_st (bs:Option (List Bool)) (s:Stx DF A κ0 X.nl I0 w0 H env a w) : Stx DF A κ0 X.nl I0 w0 (forget X.nl bs env H).2 (forget X.nl bs env H).1 a w:=by
 unfold forget
 split
 ·
  rename_i bs
  obtain ⟨I,κ,s⟩:=s
  have s' : St DF A κ0 X.nl I0 w0 I κ H w (mask bs env) a:=⟨s.wr,mask_rv bs s.env,s.mv,s.own,s.dom,s.nodef,s.lent,s.len⟩
  exact ⟨_,_,s'.pick (keepL_nodup _ _ _) (keepL_pre _ _ _)⟩
 ·
  exact s
theorem headOf_st (c:Code) (s:Stx DF A κ0 X.nl I0 w0 H env a w) : Stx DF A κ0 X.nl I0 w0 (headOf X c env H).2 (headOf X c env H).1 a w:=by
 unfold headOf
 split
 ·
  exact forget_st _ s
 ·
  exact s
theorem exists_min {p:Nat → Prop} (h:∃ n,p n) : ∃ n,p n ∧ ∀ k,p k → n ≤ k:=by
 obtain ⟨n,hn⟩:=h
 induction n using Nat.strongRecOn with
 | _ n ih =>
  by_cases hx : ∃ k,k < n ∧ p k
  ·
   obtain ⟨k,hk,hpk⟩:=hx
   exact ih k hk hpk
  ·
   exact ⟨n,hn,fun k hk=>by
    rcases Nat.lt_or_ge k n with h | h
    ·
     exact absurd ⟨k,h,hk⟩ hx
    ·
     exact h⟩
open Classical in
noncomputable def leastOf (p:Nat → Prop) : Nat:=if h : ∃ n,p n then Classical.choose (exists_min h) else 0
theorem leastOf_spec {p:Nat → Prop} (h:∃ n,p n) : p (leastOf p) ∧ ∀ k,p k → leastOf p ≤ k:=by
 unfold leastOf
 rw [dif_pos h]
 exact Classical.choose_spec (exists_min h)
theorem iter_wp {c:Code} {body:Env → Heap → Option (Ex × Env × Heap)} {head:Env → Heap → Env × Heap} (hhead:∀ env H a w,Stx DF A κ0 X.nl I0 w0 H env a w → Stx DF A κ0 X.nl I0 w0 (head env H).2 (head env H).1 a w)
  (hbody : ∀ {env H a w} {e : Ex} {env' : Env} {H' : Heap} {Q : Exit → Act → World → Prop}, Stx DF A κ0 X.nl I0 w0 H env a w → body env H = some (e, env', H') → (∀ a' w', Stx DF A κ0 X.nl I0 w0 H' env' a' w' → Q e.to a' w') → c.wp P Q a w)
  {e : Ex} (hQ : ∀ a' w', Stx DF A κ0 X.nl I0 w0 H' env' a' w' → Q e.to a' w') (n : Nat) (h : iter head body n env H = some (e, env', H')) (s : Stx DF A κ0 X.nl I0 w0 H env a w) : (Code.loop c).wp P Q a w := by
 -- what is left of the rounds
 let Left : Act → World → Nat → Prop := fun a w n => ∃ env H, Stx DF A κ0 X.nl I0 w0 H env a w ∧ iter head body n env H = some (e, env', H')
 have hex : ∃ n,Left a w n:=⟨n,env,H,s,h⟩
 refine wp_loop (fun a w=>∃ n,Left a w n) (fun a w=>leastOf (Left a w)) hex fun a w hI=>?_
 obtain ⟨⟨env1,H1,s1,h1⟩,hle⟩:=leastOf_spec hI
 generalize hN : leastOf (Left a w) = N at h1 hle
 cases N with
 | zero=>simp [iter] at h1
 | succ N =>
  unfold iter at h1
  split at h1
  ·
   rename_i e2 H2 hb
   refine hbody (hhead _ _ _ _ s1) hb fun a' w' s'=>?_
   have hx : ∃ n, Left a' w' n := ⟨N, e2, H2, s', h1⟩
   refine ⟨hx,?_⟩
   have := (leastOf_spec hx).2 N ⟨e2, H2, s', h1⟩
   omega
  ·
   rename_i hne
   refine hbody (hhead _ _ _ _ s1) h1 fun a' w' s'=>?_
   have:=hQ a' w' s'
   cases e with
   | normal=>exact absurd h1 (hne _ _)
   | exit id=>exact this
   | ret=>exact this
theorem exec_wp (hT:X.T.ok P) (hc:CallOK P X.call) (hm:P.follows .mixedOrders = true) {lf:Nat} : ∀ (c:Code) {env H a w} {e:Ex} {env' : Env} {H' : Heap} {Q:Exit → Act → World → Prop},codeOK c = true → Stx DF A κ0 X.nl I0 w0 H env a w →
  exec X lf c env H = some (e, env', H') → (∀ a' w', Stx DF A κ0 X.nl I0 w0 H' env' a' w' → Q e.to a' w') → c.wp P Q a w
 | .skip, env, H, a, w, e, env', H', Q, hk, s, h, hQ => by
  simp [exec] at h
  obtain ⟨rfl,rfl,rfl⟩:=h
  exact wp_skip (hQ _ _ s)
 | .exit id, env, H, a, w, e, env', H', Q, hk, s, h, hQ => by
  simp [exec] at h
  obtain ⟨rfl,rfl,rfl⟩:=h
  exact wp_exit (hQ _ _ s)
 | .ret, env, H, a, w, e, env', H', Q, hk, s, h, hQ => by
  simp only [exec,Option.some.injEq,Prod.mk.injEq] at h
  obtain ⟨rfl,h⟩:=h
  have:=forget_st (X:=X) X.out s
  rw [h] at this
  exact wp_ret (hQ _ _ this)
 | .region id ops draw, env, H, a, w, e, env', H', Q, hk, s, h, hQ => by
  unfold exec at h
  split at h
  ·
   rename_i e2 H2 hr
   simp at h
   obtain ⟨rfl,rfl,rfl⟩:=h
   cases draw with
   | true =>
    simp only [if_true] at hr
    exact runD_wp hT hc hm hQ (by simpa [codeOK] using hk) s hr
   | false =>
    simp only [Bool.false_eq_true,if_false] at hr
    exact wp_region (runF_wp hT hc hQ ops.toList _ (range_map ops) s hr)
  ·
   simp at h
 | .seq x y, env, H, a, w, e, env', H', Q, hk, s, h, hQ => by
  simp only [codeOK,Bool.and_eq_true] at hk
  unfold exec at h
  split at h
  ·
   rename_i e2 H2 hx
   exact wp_seq (exec_wp hT hc hm x hk.1 s hx fun a' w' s'=>exec_wp hT hc hm y hk.2 s' h hQ)
  ·
   rename_i hne
   refine wp_seq (exec_wp hT hc hm x hk.1 s h fun a' w' s'=>?_)
   have:=hQ a' w' s'
   cases e with
   | normal=>exact absurd h (hne _ _)
   | exit id=>exact this
   | ret=>exact this
 | .cond c x y, env, H, a, w, e, env', H', Q, hk, s, h, hQ => by
  simp only [codeOK,Bool.and_eq_true] at hk
  unfold exec at h
  obtain ⟨I,κ,st⟩:=s
  split at h
  ·
   rename_i hc'
   have hr:=opd_rv st.env hc'
   generalize hv : a.eval c = v at hr
   cases hr with
   | im _ _ hr =>
   cases hr
   exact wp_cond_true hv (exec_wp hT hc hm x hk.1 ⟨_,_,st⟩ h hQ)
  ·
   rename_i hc'
   have hr:=opd_rv st.env hc'
   generalize hv : a.eval c = v at hr
   cases hr with
   | im _ _ hr =>
   cases hr
   exact wp_cond_false hv (exec_wp hT hc hm y hk.2 ⟨_,_,st⟩ h hQ)
  ·
   simp at h
 | .block id c, env, H, a, w, e, env', H', Q, hk, s, h, hQ => by
  unfold exec at h
  split at h
  ·
   rename_i i e2 H2 hx
   split at h
   ·
    rename_i hi
    simp only [Option.some.injEq,Prod.mk.injEq] at h
    simp at hi
    obtain ⟨rfl,h⟩:=h
    exact wp_block (exec_wp hT hc hm c (by simpa [codeOK] using hk) s hx fun a' w' s'=>by
     show (if i = id then Q .normal a' w' else Q (.exit i) a' w')
     rw [if_pos hi]
     have:=forget_st (X:=X) (X.after id) s'
     rw [h] at this
     exact hQ _ _ this)
   ·
    rename_i hi
    simp at h hi
    obtain ⟨rfl,rfl,rfl⟩:=h
    exact wp_block (exec_wp hT hc hm c (by simpa [codeOK] using hk) s hx fun a' w' s'=>by
     show (if i = id then Q .normal a' w' else Q (.exit i) a' w')
     rw [if_neg hi]
     exact hQ _ _ s')
  ·
   rename_i e2 H2 hx
   simp only [Option.some.injEq,Prod.mk.injEq] at h
   obtain ⟨rfl,h⟩:=h
   refine wp_block (exec_wp hT hc hm c (by simpa [codeOK] using hk) s hx fun a' w' s'=>?_)
   have:=forget_st (X:=X) (X.after id) s'
   rw [h] at this
   exact hQ _ _ this
  ·
   rename_i e2 H2 hx
   simp at h
   obtain ⟨rfl,rfl,rfl⟩:=h
   exact wp_block (exec_wp hT hc hm c (by simpa [codeOK] using hk) s hx fun a' w' s'=>hQ _ _ s')
  ·
   simp at h
 | .loop c, env, H, a, w, e, env', H', Q, hk, s, h, hQ => by
  unfold exec at h
  exact iter_wp (fun env H a w=>headOf_st c) (fun s' h' hQ'=>exec_wp hT hc hm c (by simpa [codeOK] using hk) s' h' hQ') hQ lf h s
 | .rangeFunc .., env, H, a, w, e, env', H', Q, hk, s, h, hQ => by simp [exec] at h
 | .scope _, env, H, a, w, e, env', H', Q, hk, s, h, hQ => by simp [exec] at h
 | .label _, env, H, a, w, e, env', H', Q, hk, s, h, hQ => by simp [exec] at h
 | .goto _, env, H, a, w, e, env', H', Q, hk, s, h, hQ => by simp [exec] at h
 | .refuse _, env, H, a, w, e, env', H', Q, hk, s, h, hQ => by simp [exec] at h
end
end Go.AM
/- The abstract machine,part 27: functions: what a body comes to is what a call of it comes to. -/
namespace Go.AM
structure Fi where
 fn : Func
 code : Code
 own : Nat → Bool
 keep : Nat → Bool
 lend : FuncId → Bool
 cast : Oper → Cs
 live : Nat → Option (List Bool)
 after : Nat → Option (List Bool)
 out : Option (List Bool)
 frz : Nat → Bool
 clm : Nat → List (Nat × Nat)
structure Fi.ok (P:Program) (f:FuncId) (i:Fi) : Prop where
 get : P.funcs[f]? = some i.fn
 name : (i.fn.name == "runtime.NumGoroutine") = false
 body : i.fn.body = some i.code
 draws : codeOK i.code = true
def Fi.px (i:Fi) (T:Tab) (call:Oracle) (nl:Nat) : Px:={ T,call,own:=i.own,keep:=i.keep,lend:=i.lend,cast:=i.cast,nl,live:=i.live,after:=i.after,out:=i.out,frz:=i.frz,clm:=i.clm }
def resOf (T:Tab) (env:Env) (H:Heap) : List ResultVar → Option (List AV)
 | []=>some []
 | .tmp t :: rs=>match env[t]?,resOf T env H rs with
  | some v,some vs=>some (v :: vs)
  | _,_=>none
 | .cell a t :: rs => match ev0 T env H { dst := none, op := .load t (.tmp a), type := t, pos := "", after := #[], guard := none }, resOf T env H rs with
  | some v,some vs=>some (v :: vs)
  | _,_=>none
def oneOf : List AV → AV
 | [x]=>x
 | xs=>.tup xs
def fin (T:Tab) (nl:Nat) (rs:List ResultVar) (env:Env) (H:Heap) : Option (AV × Heap):=match resOf T env H rs with
 | some vs=>some (AV.ren (posn (keepL nl H vs)) (oneOf vs),pickH H (keepL nl H vs))
 | none=>none
def entry (n:Nat) (as:List AV) : Env:=as ++ rep (n - as.length) (.tup [])
abbrev Sp:=List AV → Heap → Option (AV × Heap)
def Ok1 (P:Program) (f:FuncId) (sp:Sp) : Prop:=∀ (as:List AV) (H:Heap) (res:AV) (H' : Heap),sp as H = some (res,H') →
 ∀ (I:Nat → Option (Array Value)) (κ:Nat → Option Loc) (w:World) (vals:List Value),WR I κ H w → (∀ i blk,H[i]? = some (some blk) → ∃ l,κ i = some l) → RVs I κ as vals →
  Goes P ((callFunc f vals.toArray).run P w) fun v w' => ∃ I' κ', St [] (lentOf κ) κ H.length I w I' κ' H' w' [res] ⟨#[v], []⟩
section
variable {P:Program} {I I' : Nat → Option (Array Value)} {κ κ' : Nat → Option Loc} {w w' : World} {H H' : Heap} {DF:List Deferred} {A:Nat → Prop} {κ0:Nat → Option Loc} {nl:Nat} {I0:Nat → Option (Array Value)} {w0:World} {env:Env} {a:Act} {T:Tab}
theorem rep_rv {n:Nat} : RVs I κ (rep n (.tup [])) (List.replicate n undef):=by
 induction n with
 | zero=>exact .nil
 | succ n ih=>exact .cons _ _ _ _ undef_rv ih
def resEl (tmps:Array Value) : ResultVar → Sem Value
 | .tmp t=>pure (tmps.getD t undef)
 | .cell x t=>do loadVar t (← asAddr (tmps.getD x undef))
theorem results_eq (fn:Func) (tmps:Array Value) : results fn tmps = (do let vs ← fn.results.mapM (resEl tmps); pure (if h:vs.size = 1 then vs[0] else .tuple vs)):=by
 unfold results
 have : (fun r=>match r with
  | ResultVar.tmp t=>pure (tmps.getD t undef)
  | ResultVar.cell x t=>do loadVar t (← asAddr (tmps.getD x undef)) : ResultVar → Sem Value) = resEl tmps:=by
  funext r
  cases r <;> rfl
 rw [← this]
 rfl
theorem load_run {o:Oper} {t:TypeId} {x:Tmp} (ho:o.op = .load t (.tmp x)) {ad:Addr} (hx:a.tmps.getD x undef = .pointer (some ad)) {y:Value} (h:(execOp a.eval o).run P w = .ok (.value y) w) : (loadVar t ad).run P w = .ok y w:=by
 unfold execOp at h
 rw [ho] at h
 simp only [Act.eval,hx,Instr.loadAt,Instr.sureAddr] at h
 simp at h
 cases hl : (loadVar t ad).run P w with
 | ok v w' =>
  rw [hl] at h
  simpa using h
 | halt v w' =>
  rw [hl] at h
  simp at h
theorem resOf_run (hT:T.ok P) (hw:WR I κ H w) (he:RVs I κ env a.tmps.toList) : ∀ {rs:List ResultVar} {vs:List AV},resOf T env H rs = some vs →
  ∃ ws,(rs.mapM (resEl a.tmps)).run P w = .ok ws w ∧ RVs I κ vs ws
 | [],vs,h=>by
  simp [resOf] at h
  subst h
  exact ⟨[],by simp,.nil⟩
 | .tmp t :: rs,vs,h=>by
  unfold resOf at h
  split at h
  ·
   rename_i v vs' h1 h2
   simp at h
   subst h
   obtain ⟨ws,hrun,hr⟩:=resOf_run hT hw he h2
   obtain ⟨x,hx,hxr⟩:=he.get h1
   refine ⟨x :: ws,?_,.cons _ _ _ _ hxr hr⟩
   simp at hx
   simp [List.mapM_cons,hrun,hx,resEl]
  ·
   simp at h
 | .cell x t :: rs,vs,h=>by
  unfold resOf at h
  split at h
  ·
   rename_i v vs' h1 h2
   simp at h
   subst h
   obtain ⟨ws,hrun,hr⟩:=resOf_run hT hw he h2
   obtain ⟨y,hy,hyr⟩:=ev0_sound (P:=P) hT hw he h1
   have hp : ∃ ad,a.tmps.getD x undef = .pointer (some ad):=by
    unfold ev0 at h1
    simp only at h1
    split at h1
    ·
     split at h1
     ·
      rename_i hx
      have hxr:=opd_rv he hx
      simp only [Act.eval] at hxr
      generalize a.tmps.getD x undef = u at hxr ⊢
      cases hxr; exact ⟨_,rfl⟩
     ·
      rename_i hx
      have hxr:=opd_rv he hx
      simp only [Act.eval] at hxr
      generalize a.tmps.getD x undef = u at hxr ⊢
      cases hxr; exact ⟨_,rfl⟩
     ·
      simp at h1
    ·
     simp at h1
   obtain ⟨ad,had⟩:=hp
   have hl:=load_run (P:=P) rfl had hy
   refine ⟨y :: ws,?_,.cons _ _ _ _ hyr hr⟩
   simp only [List.mapM_cons,resEl,had,asAddr]
   simp [hl,hrun]
  ·
   simp at h
theorem fin_run (hT:T.ok P) (hw:WR I κ H w) (he:RVs I κ env a.tmps.toList) {fn:Func} {vs:List AV} (h:resOf T env H fn.results.toList = some vs) : ∃ v,(results fn a.tmps).run P w = .ok v w ∧ RV I κ (oneOf vs) v:=by
 obtain ⟨ws,hrun,hr⟩:=resOf_run hT hw he h
 rw [results_eq,Array.mapM_eq_mapM_toList]
 have hlen:=hr.length
 cases vs with
 | nil =>
  cases hr
  exact ⟨.tuple #[],by simp [hrun],.tup _ _ .nil⟩
 | cons x xs =>
  cases xs with
  | nil =>
   cases hr with
   | cons _ _ v _ h1 h2 =>
    cases h2
    exact ⟨v,by simp [hrun],h1⟩
  | cons y ys =>
   refine ⟨.tuple ws.toArray,?_,.tup _ _ hr⟩
   have : ¬ ws.length = 1:=by simp at hlen; omega
   simp [hrun,this]
end
end Go.AM
/- The abstract machine,part 28: the operations with what is to hold of what comes of them handed in: so what is not known yet stops nothing. -/
namespace Go.AM
def optP {α:Type} (o:Option α) (p:α → Prop) : Prop:=match o with
 | some a=>p a
 | none=>False
@[simp] theorem optP_some {α:Type} (a:α) (p:α → Prop) : optP (some a) p = p a:=rfl
@[simp] theorem optP_none {α:Type} (p:α → Prop) : optP (none:Option α) p = False:=rfl
theorem optP_spec {α:Type} {o:Option α} {p:α → Prop} (h:optP o p) : ∃ a,o = some a ∧ p a:=by
 cases o with
 | none=>exact h.elim
 | some a=>exact ⟨a,rfl,h⟩
def castCK : Sc → D → (D → Prop) → Prop
 | .any,d,k=>k d
 | .int kd,d,k=>optP (d.asInt kd) fun n=>k (.int kd n)
 | .bool,d,k=>optP d.asBool fun n=>k (.bool n)
 | .str,d,k=>optP d.asStr fun n=>k (.str n)
 | .sl z,d,k=>optP (d.asSl z) fun n=>k (.sl false z n)
 | .fn g,d,k=>optP (d.asFn g) fun _=>k (.fn (.func g) [] [])
def castCsK : List Sc → List D → (List D → Prop) → Prop
 | [],[],k=>k []
 | s :: ss,d :: ds,k=>castCK s d fun x=>castCsK ss ds fun xs=>k (x :: xs)
 | _,_,_=>False
def unList : Nat → List D → (List D → Prop) → Prop
 | 0,l,k=>match l with
  | []=>k []
  | _ :: _=>False
 | n + 1,l,k=>match l with
  | []=>False
  | d :: l=>unList n l fun ds=>k (d :: ds)
def castDK : Sh → D → (D → Prop) → Prop
 | .any,d,k=>k d
 | .c s,d,k=>castCK s d k
 | .st l,d,k=>optP d.asAgg fun cs=>unList l.length cs fun cs=>castCsK l cs fun l=>k (.agg l)
def castVK (c:Cs) (v:AV) (k:AV → Prop) : Prop:=match c with
 | .any=>k v
 | .p s=>match v with
  | .pe d n=>castDK s d fun d'=>k (.pe d' n)
  | v=>k v
 | .v s=>match v with
  | .im d=>castDK s d fun d'=>k (.im d')
  | v=>k v
theorem unList_spec : ∀ (n:Nat) {l:List D} {k:List D → Prop},unList n l k → k l
 | 0,[],k,h=>h
 | 0,_ :: _,k,h=>h.elim
 | n + 1,[],k,h=>h.elim
 | n + 1,d :: l,k,h=>by
  unfold unList at h
  exact unList_spec n (k:=fun ds=>k (d :: ds)) h
theorem castCK_spec {s:Sc} {d:D} {k:D → Prop} (h:castCK s d k) : ∃ x,castC s d = some x ∧ k x:=by
 cases s with
 | any=>exact ⟨d,rfl,h⟩
 | _ =>
  obtain ⟨n,hd,h⟩:=optP_spec h
  exact ⟨_,by simp only [castC,hd],h⟩
theorem castCsK_spec : ∀ {l:List Sc} {ds:List D} {k:List D → Prop},castCsK l ds k → ∃ x,castCs l ds = some x ∧ k x
 | [],[],k,h=>⟨[],rfl,h⟩
 | [],_ :: _,k,h=>by simp [castCsK] at h
 | _ :: _,[],k,h=>by simp [castCsK] at h
 | s :: ss,d :: ds,k,h=>by
  unfold castCsK at h
  obtain ⟨x,hx,h⟩:=castCK_spec h
  obtain ⟨xs,hxs,h⟩:=castCsK_spec h
  exact ⟨x :: xs,by simp only [castCs,hx,hxs],h⟩
theorem castDK_spec {s:Sh} {d:D} {k:D → Prop} (h:castDK s d k) : ∃ x,castD s d = some x ∧ k x:=by
 unfold castDK at h
 split at h
 ·
  exact ⟨d,rfl,h⟩
 ·
  exact castCK_spec h
 ·
  obtain ⟨cs,hd,h⟩:=optP_spec h
  obtain ⟨x,hx,h⟩:=castCsK_spec (unList_spec _ h)
  exact ⟨_,by simp only [castD,hd,hx],h⟩
theorem castVK_spec {s:Cs} {v:AV} {k:AV → Prop} (h:castVK s v k) : ∃ x,castV s v = some x ∧ k x:=by
 cases s with
 | any=>exact ⟨v,by cases v <;> rfl,h⟩
 | p s =>
  cases v with
  | pe d n =>
   obtain ⟨x,hx,h⟩:=castDK_spec h
   exact ⟨_,by simp only [castV,hx],h⟩
  | _=>exact ⟨_,rfl,h⟩
 | v s =>
  cases v with
  | im d =>
   obtain ⟨x,hx,h⟩:=castDK_spec h
   exact ⟨_,by simp only [castV,hx],h⟩
  | _=>exact ⟨_,rfl,h⟩
def bndK (x:AV) (y:Nat) (k:Nat → Prop) : Prop:=match x with
 | .im (.int _ i)=>0 ≤ i ∧ i ≤ (y:Int) ∧ k i.toNat
 | _=>False
def bndOK (env:Env) (x:Option Operand) (y d:Nat) (k:Nat → Prop) : Prop:=match x with
 | some x=>match opd env x with
  | some v=>bndK v y k
  | none=>False
 | none=>k d
theorem bndOK_spec {env:Env} {x:Option Operand} {y d:Nat} {k:Nat → Prop} (h:bndOK env x y d k) : ∃ n,bndO env x y d = some n ∧ k n:=by
 unfold bndOK at h
 split at h
 ·
  split at h
  ·
   rename_i hv
   unfold bndK at h
   split at h
   ·
    obtain ⟨h1,h2,h⟩:=h
    exact ⟨_,by simp only [bndO,hv,bnd,h1,h2,if_true],h⟩
   ·
    exact h.elim
  ·
   exact h.elim
 ·
  exact ⟨d,rfl,h⟩
def indexAddrK (T:Tab) (env:Env) (H:Heap) (t:TypeId) (x i:Operand) (k:AV → Prop) : Prop:=match T.ty t with
 | some ⟨.slice e,_,_,_⟩=>match T.ty e with
  | some ie=>match opd env i with
   | some (.im (.int _ n))=>match opd env x with
    | some (.im (.sl _ sz es))=>if sz == ie.size then 0 ≤ n ∧ optP es[n.toNat]? fun d=>k (.pe d 0) else False
    | some (.ref id off len)=>match H[id]? with
     | some (some b)=>if b.sz == ie.size then 0 ≤ n ∧ n.toNat < len ∧ k (.ptr id (off + n.toNat) 0) else False
     | _=>False
    | _=>False
   | _=>False
  | none=>False
 | _=>False
theorem indexAddrK_spec {T:Tab} {env:Env} {H:Heap} {o:Oper} {t:TypeId} {x i:Operand} (ho:o.op = .indexAddr t x i) {k:AV → Prop} (h:indexAddrK T env H t x i k) : ∃ v,ev0 T env H o = some v ∧ k v:=by
 unfold indexAddrK at h
 unfold ev0
 rw [ho]
 simp only
 split at h
 ·
  split at h
  ·
   split at h
   ·
    split at h
    ·
     split at h
     ·
      obtain ⟨h0,h⟩:=h
      obtain ⟨d,hd,h⟩:=optP_spec h
      exact ⟨_,by simp only [*,if_true],h⟩
     ·
      exact h.elim
    ·
     split at h
     ·
      split at h
      ·
       obtain ⟨h0,h1,h⟩:=h
       exact ⟨_,by simp only [*,if_true],h⟩
      ·
       exact h.elim
     ·
      exact h.elim
    ·
     exact h.elim
   ·
    exact h.elim
  ·
   exact h.elim
 ·
  exact h.elim
def indexK (T:Tab) (env:Env) (H:Heap) (o:Oper) (t:TypeId) (x i:Operand) (k:AV → Prop) : Prop:=match T.ty t with
 | some ⟨.string,_,_,_⟩=>match opd env i with
  | some (.im (.int _ n))=>match opd env x with
   | some (.im (.str s))=>0 ≤ n ∧ optP s[n.toNat]? fun c=>k (.im (.int .u8 c.toNat))
   | _=>False
  | _=>False
 | _=>match ev0 T env H o with
  | some v=>k v
  | none=>False
theorem indexK_spec {T:Tab} {env:Env} {H:Heap} {o:Oper} {t:TypeId} {x i:Operand} (ho:o.op = .index t x i) {k:AV → Prop} (h:indexK T env H o t x i k) : ∃ v,ev0 T env H o = some v ∧ k v:=by
 unfold indexK at h
 split at h
 ·
  unfold ev0
  rw [ho]
  simp only
  split at h
  ·
   split at h
   ·
    obtain ⟨h0,h⟩:=h
    obtain ⟨d,hd,h⟩:=optP_spec h
    exact ⟨_,by simp only [*,if_true],h⟩
   ·
    exact h.elim
  ·
   exact h.elim
 ·
  split at h
  ·
   rename_i hv; exact ⟨_,hv,h⟩
  ·
   exact h.elim
def sliceK (T:Tab) (env:Env) (H:Heap) (t:TypeId) (x:Operand) (lo hi:Option Operand) (k:AV → Prop) : Prop:=match T.ty t with
 | some ⟨.string,_,_,_⟩=>match opd env x with
  | some (.im (.str s))=>bndOK env hi s.length s.length fun h=>bndOK env lo h 0 fun l=>k (.im (.str ((s.take h).drop l)))
  | _=>False
 | some ⟨.slice e,_,_,_⟩=>match T.ty e with
  | some i=>match opd env x with
   | some (.im (.sl _ sz es))=>if sz == i.size then bndOK env hi es.length es.length fun h=>bndOK env lo h 0 fun l=>k (.im (.sl false sz ((es.take h).drop l))) else False
   | some (.ref id off len)=>match H[id]? with
    | some (some b)=>if b.sz == i.size then bndOK env hi len len fun h=>bndOK env lo h 0 fun l=>k (.ref id (off + l) (h - l)) else False
    | _=>False
   | _=>False
  | none=>False
 | _=>False
theorem sliceK_spec {T:Tab} {env:Env} {H:Heap} {o:Oper} {t:TypeId} {x:Operand} {lo hi:Option Operand} (ho:o.op = .slice t x lo hi none) {k:AV → Prop} (h:sliceK T env H t x lo hi k) : ∃ v,ev0 T env H o = some v ∧ k v:=by
 unfold sliceK at h
 unfold ev0
 rw [ho]
 simp only
 split at h
 ·
  split at h
  ·
   obtain ⟨n,hn,h⟩:=bndOK_spec h
   obtain ⟨m,hm,h⟩:=bndOK_spec h
   exact ⟨_,by simp only [*,if_true],h⟩
  ·
   exact h.elim
 ·
  split at h
  ·
   split at h
   ·
    split at h
    ·
     skip
     obtain ⟨n,hn,h⟩:=bndOK_spec h
     obtain ⟨m,hm,h⟩:=bndOK_spec h
     exact ⟨_,by simp only [*,if_true],h⟩
    ·
     exact h.elim
   ·
    split at h
    ·
     split at h
     ·
      skip
      obtain ⟨n,hn,h⟩:=bndOK_spec h
      obtain ⟨m,hm,h⟩:=bndOK_spec h
      exact ⟨_,by simp only [*,if_true],h⟩
     ·
      exact h.elim
    ·
     exact h.elim
   ·
    exact h.elim
  ·
   exact h.elim
 ·
  exact h.elim
def binIntK (op:BinOp) (kd:IntKind) (a:Int) (kd' : IntKind) (b:Int) (k:D → Prop) : Prop:=match op with
 | .shl=>0 ≤ b ∧ k (.int kd (kd.wrap (a * 2 ^ (min b.toNat kd.bits))))
 | .shr=>0 ≤ b ∧ k (.int kd (a.fdiv (2 ^ (min b.toNat kd.bits))))
 | .quo=>if kd = kd' then b ≠ 0 ∧ k (.int kd (kd.wrap (a.tdiv b))) else False
 | .rem=>if kd = kd' then b ≠ 0 ∧ k (.int kd (a.tmod b)) else False
 | _=>match binInt op kd a kd' b with
  | some d=>k d
  | none=>False
theorem binIntK_spec {op:BinOp} {kd kd' : IntKind} {a b:Int} {k:D → Prop} (h:binIntK op kd a kd' b k) : ∃ d,binInt op kd a kd' b = some d ∧ k d:=by
 unfold binIntK at h
 split at h
 ·
  obtain ⟨hb,h⟩:=h
  have hb : ¬ b < 0:=by omega
  exact ⟨_,by simp only [binInt,hb,if_false],h⟩
 ·
  obtain ⟨hb,h⟩:=h
  have hb : ¬ b < 0:=by omega
  exact ⟨_,by simp only [binInt,hb,if_false],h⟩
 ·
  split at h
  ·
   rename_i hk
   obtain ⟨hb,h⟩:=h
   exact ⟨_,by simp only [binInt,hk,hb,if_false,if_true],h⟩
  ·
   exact h.elim
 ·
  split at h
  ·
   rename_i hk
   obtain ⟨hb,h⟩:=h
   exact ⟨_,by simp only [binInt,hk,hb,if_false,if_true],h⟩
  ·
   exact h.elim
 ·
  split at h
  ·
   rename_i hd; exact ⟨_,hd,h⟩
  ·
   exact h.elim
def eqAnd : List D → List D → Option Bool
 | [],[]=>some true
 | a :: as,b :: bs=>match eqCell a b,eqAnd as bs with
  | some x,some y=>some (x && y)
  | _,_=>none
 | _,_=>none
theorem eqAnd_spec : ∀ {as bs:List D} {r:Bool},eqAnd as bs = some r → eqCells as bs = some r
 | [],[],r,h=>by simpa [eqAnd,eqCells] using h
 | [],_ :: _,r,h=>by simp [eqAnd] at h
 | _ :: _,[],r,h=>by simp [eqAnd] at h
 | a :: as,b :: bs,r,h=>by
  unfold eqAnd at h
  split at h
  ·
   rename_i x y hx hy
   simp at h
   subst h
   unfold eqCells
   rw [hx]
   cases x with
   | true=>simpa using eqAnd_spec hy
   | false=>rfl
  ·
   simp at h
def binOpK (T:Tab) (env:Env) (H:Heap) (o:Oper) (op:BinOp) (t:TypeId) (x y:Operand) (k:AV → Prop) : Prop:=match opd env x,opd env y with
 | some (.im (.int kd a)),some (.im (.int kd' b))=>binIntK op kd a kd' b fun d=>k (.im d)
 | some (.im (.str a)),some (.im (.str b))=>match op with
  | .add=>a.length + b.length ≤ 9223372036854775807 ∧ k (.im (.str (a ++ b)))
  | _=>match binStr op a b with
   | some d=>k (.im d)
   | none=>False
 | some (.im (.agg a)),some (.im (.agg b))=>if eqOn T t a b then match eqAnd a b with
  | some r=>match eqOp op r with
   | some d=>k (.im d)
   | none=>False
  | none=>False
  else False
 | _,_=>match ev0 T env H o with
  | some v=>k v
  | none=>False
theorem binOpK_spec {T:Tab} {env:Env} {H:Heap} {o:Oper} {op:BinOp} {t u:TypeId} {x y:Operand} (ho:o.op = .binOp op t x y u) {k:AV → Prop} (h:binOpK T env H o op t x y k) : ∃ v,ev0 T env H o = some v ∧ k v:=by
 unfold binOpK at h
 split at h
 ·
  rename_i hx hy
  obtain ⟨d,hd,h⟩:=binIntK_spec h
  refine ⟨.im d,?_,h⟩
  unfold ev0
  rw [ho]
  simp only [hx,hy,hd,Option.map_some]
 ·
  rename_i a b hx hy
  have e0 : ev0 T env H o = (binStr op a b).map .im:=by
   unfold ev0
   rw [ho]
   simp only [hx,hy]
  rw [e0]
  split at h
  ·
   obtain ⟨hl,h⟩:=h
   exact ⟨_,by simp only [binStr,hl,if_true,Option.map_some],h⟩
  ·
   split at h
   ·
    rename_i hd
    exact ⟨_,by simp only [hd,Option.map_some],h⟩
   ·
    exact h.elim
 ·
  rename_i a b hx hy
  split at h
  ·
   rename_i ht
   split at h
   ·
    rename_i hr
    split at h
    ·
     rename_i he
     refine ⟨_,?_,h⟩
     unfold ev0
     rw [ho]
     simp only [hx,hy,ht,if_true,eqAnd_spec hr,he,Option.map_some]
    ·
     exact h.elim
   ·
    exact h.elim
  ·
   exact h.elim
 ·
  split at h
  ·
   rename_i hv; exact ⟨_,hv,h⟩
  ·
   exact h.elim
def selK (env:Env) (c a b:Operand) (k:AV → Prop) : Prop:=match opd env c with
 | some (.im (.bool t))=>cond t (match opd env a with
  | some v=>k v
  | none=>False) (match opd env b with
  | some v=>k v
  | none=>False)
 | _=>False
theorem selK_spec {T:Tab} {env:Env} {H:Heap} {o:Oper} {c a b:Operand} (ho:o.op = .pick c a b) {k:AV → Prop} (h:selK env c a b k) : ∃ v,ev0 T env H o = some v ∧ k v:=by
 unfold selK at h
 unfold ev0
 rw [ho]
 simp only
 split at h
 ·
  rename_i t hc
  simp only [hc]
  cases t with
  | true =>
   simp only [cond_true] at h
   split at h
   ·
    rename_i v hv; exact ⟨v,by simp [hv],h⟩
   ·
    exact h.elim
  | false =>
   simp only [cond_false] at h
   split at h
   ·
    rename_i v hv; exact ⟨v,by simp [hv],h⟩
   ·
    exact h.elim
 ·
  exact h.elim
end Go.AM
/- The abstract machine,part 29: operations on memory,calls,and single operations of a region,with what is to hold of what comes of them handed in. -/
namespace Go.AM
theorem clos_mapim : ∀ (ds:List D),clos (ds.map AV.im) = some ds
 | []=>rfl
 | d :: ds=>by simp [clos,clo,clos_mapim ds]
theorem mkAgg_mapim (ds:List D) : mkAgg (ds.map AV.im) = .im (.agg ds):=by simp [mkAgg,clos_mapim]
theorem asAgg_eq {d:D} {cs:List D} (h:d.asAgg = some cs) : d = .agg cs:=by
 cases d <;> simp [D.asAgg] at h
 rw [h]
def D.noAgg : D → Bool
 | .agg _=>false
 | _=>true
def loadD (agg:Bool) (sz bsz:Nat) (d:D) (k:Nat) (c:Cs) (K:AV → Prop) : Prop :=
 if k == 0 && sz == bsz then match c with
  | .v (.c .any)=>if !agg && sz == 1 then d.noAgg = true ∧ K (.im d) else False
  | .v (.c s)=>if !agg && sz == 1 then castCK s d fun d'=>K (.im d') else False
  | .v (.st l)=>if agg && l.length == sz then castDK (.st l) d fun d'=>K (.im d') else False
  | c=>match part' agg sz (d.cells.map .im) k with
   | some v=>castVK c v K
   | none=>False
 else if agg then match part' agg sz (d.cells.map .im) k with
   | some v=>castVK c v K
   | none=>False
  else optP d.asAgg fun cs=>optP cs[k]? fun x=>castVK c (.im x) K
theorem castC_noAgg {s:Sc} {d x:D} (h:castC s d = some x) (hs:s ≠ .any) : d.noAgg = true:=by
 cases s <;> cases d <;> first | rfl | exact absurd rfl hs | simp [castC,D.asInt,D.asBool,D.asStr,D.asSl,D.asFn] at h
theorem noAgg_cells {d:D} (h:d.noAgg = true) : d.cells = [d]:=by cases d <;> first | rfl | simp [D.noAgg] at h
theorem castCs_len : ∀ {l:List Sc} {cs ds:List D},castCs l cs = some ds → cs.length = l.length
 | [],[],ds,h=>rfl
 | [],_ :: _,ds,h=>by simp [castCs] at h
 | _ :: _,[],ds,h=>by simp [castCs] at h
 | s :: ss,c :: cs,ds,h=>by
  unfold castCs at h
  split at h
  ·
   rename_i h1 h2
   simp [castCs_len h2]
  ·
   simp at h
theorem loadD_spec {agg : Bool} {sz bsz : Nat} {d : D} {k : Nat} {c : Cs} {K : AV → Prop} (h : loadD agg sz bsz d k c K) : ∃ v v', part' agg sz (d.cells.map .im) k = some v ∧ castV c v = some v' ∧ K v' := by
 unfold loadD at h
 split at h
 ·
  rename_i hk
  simp only [Bool.and_eq_true,beq_iff_eq] at hk
  obtain ⟨rfl,hsz⟩:=hk
  split at h
  ·
   split at h
   ·
    rename_i hc
    simp only [Bool.and_eq_true,beq_iff_eq,Bool.not_eq_true'] at hc
    obtain ⟨ha,hs⟩:=hc
    obtain ⟨hn,h⟩:=h
    refine ⟨.im d,.im d,?_,rfl,h⟩
    rw [noAgg_cells hn,ha]
    rfl
   ·
    exact h.elim
  ·
   rename_i s hs
   split at h
   ·
    rename_i hc
    simp only [Bool.and_eq_true,beq_iff_eq,Bool.not_eq_true'] at hc
    obtain ⟨ha,hsz1⟩:=hc
    obtain ⟨x,hx,h⟩:=castCK_spec h
    refine ⟨.im d,.im x,?_,?_,h⟩
    ·
     rw [noAgg_cells (castC_noAgg hx (fun e=>hs e)),ha]
     rfl
    ·
     simp only [castV,castD,hx]
   ·
    exact h.elim
  ·
   rename_i l
   split at h
   ·
    rename_i hc
    simp only [Bool.and_eq_true,beq_iff_eq] at hc
    obtain ⟨ha,hl⟩:=hc
    obtain ⟨x,hx,h⟩:=castDK_spec h
    refine ⟨.im d,.im x,?_,by simp only [castV,hx],h⟩
    unfold castD at hx
    simp only at hx
    split at hx
    ·
     rename_i cs hd
     split at hx
     ·
      rename_i l' hl'
      have:=castCs_len hl'
      cases d <;> simp [D.asAgg] at hd
      subst hd
      subst ha
      rename_i cs
      have e : part' true sz (cs.map AV.im) 0 = some (mkAgg (cs.map AV.im)):=by
       have h1 : sz ≤ cs.length:=by omega
       have h2 : (cs.map AV.im).take sz = cs.map AV.im:=List.take_of_length_le (by simp; omega)
       simp [part', h1, h2]
      rw [mkAgg_mapim] at e
      exact e
     ·
      simp at hx
    ·
     simp at hx
   ·
    exact h.elim
  ·
   split at h
   ·
    rename_i hv
    obtain ⟨x,hx,h⟩:=castVK_spec h
    exact ⟨_,x,hv,hx,h⟩
   ·
    exact h.elim
 ·
  split at h
  ·
   split at h
   ·
    rename_i hv
    obtain ⟨x,hx,h⟩:=castVK_spec h
    exact ⟨_,x,hv,hx,h⟩
   ·
    exact h.elim
  ·
   rename_i ha
   obtain ⟨cs,hd,h⟩:=optP_spec h
   obtain ⟨x,hx,h⟩:=optP_spec h
   obtain ⟨y,hy,h⟩:=castVK_spec h
   refine ⟨.im x,y,?_,hy,h⟩
   cases d <;> simp [D.asAgg] at hd
   subst hd
   simp only [Bool.not_eq_true] at ha
   rw [ha]
   simp [part', D.cells, hx]
def partK (agg:Bool) (sz:Nat) (cs:List AV) (k:Nat) (c:Cs) (K:AV → Prop) : Prop:=match part' agg sz cs k with
 | some v=>castVK c v K
 | none=>False
theorem partK_spec {agg : Bool} {sz : Nat} {cs : List AV} {k : Nat} {c : Cs} {K : AV → Prop} (h : partK agg sz cs k c K) : ∃ v v', part' agg sz cs k = some v ∧ castV c v = some v' ∧ K v' := by
 unfold partK at h
 split at h
 ·
  rename_i hv
  obtain ⟨x,hx,h⟩:=castVK_spec h
  exact ⟨_,x,hv,hx,h⟩
 ·
  exact h.elim
def loadK (T:Tab) (c:Cs) (env:Env) (H:Heap) (t:TypeId) (a:Operand) (K:AV → Prop) : Prop:=match T.ty t with
 | some i=>match opd env a with
  | some (.ptr id j k)=>match H[id]? with
   | some (some b)=>match b with
    | .c sz ds=>optP ds[j]? fun d=>loadD (isAggD i.desc) i.size sz d k c K
    | .m sz es=>optP es[j]? fun e=>partK (isAggD i.desc) i.size e.cells k c K
    | .o _=>False
   | _=>False
  | some (.pe d k)=>partK (isAggD i.desc) i.size (d.cells.map .im) k c K
  | _=>False
 | none=>False
theorem loadK_spec {T : Tab} {c : Cs} {env : Env} {H : Heap} {o : Oper} {t : TypeId} {a : Operand} (ho : o.op = .load t a) {K : AV → Prop} (h : loadK T c env H t a K) : ∃ v v', ev0 T env H o = some v ∧ castV c v = some v' ∧ K v' := by
 unfold loadK at h
 unfold ev0
 rw [ho]
 simp only
 split at h
 ·
  rename_i i hi
  split at h
  ·
   rename_i id j k ha
   split at h
   ·
    rename_i b hb
    split at h
    ·
     rename_i sz ds
     obtain ⟨d,hd,h⟩:=optP_spec h
     obtain ⟨v, v', h1, h2, h3⟩ := loadD_spec h
     refine ⟨v, v', ?_, h2, h3⟩
     rw [← h1]
     simp [hi,ha,elem,hb,Blk.get,hd,im_cells]
    ·
     rename_i sz es
     obtain ⟨d,hd,h⟩:=optP_spec h
     obtain ⟨v, v', h1, h2, h3⟩ := partK_spec h
     refine ⟨v, v', ?_, h2, h3⟩
     rw [← h1]
     simp [hi,ha,elem,hb,Blk.get,hd]
    ·
     exact h.elim
   ·
    exact h.elim
  ·
   rename_i d k ha
   obtain ⟨v, v', h1, h2, h3⟩ := partK_spec h
   refine ⟨v, v', ?_, h2, h3⟩
   rw [← h1]
   simp [hi,ha]
  ·
   exact h.elim
 ·
  exact h.elim
def makeSliceK (T:Tab) (env:Env) (id:Nat) (t:TypeId) (l c:Operand) (K:AV → Option Blk → Prop) : Prop:=match T.ty t with
 | some ⟨.slice e,_,_,_⟩=>match T.ty e with
  | some ie=>match constD ie.zero,opd env l,opd env c with
   | some z,some (.im (.int _ n)),some (.im (.int _ m)) =>
    if z.cells.length == ie.size && ie.size != 0 then n = m ∧ 0 ≤ n ∧ n * ie.bytes ≤ 140737488355328 ∧ n ≤ 140737488355328 ∧ K (.ref id 0 (rep n.toNat z).length) (some (.c ie.size (rep n.toNat z))) else False
   | _,_,_=>False
  | none=>False
 | _=>False
theorem makeSliceK_spec {T:Tab} {own:Nat → Bool} {env:Env} {id:Nat} {o:Oper} {t:TypeId} {l c:Operand} (ho:o.op = .makeSlice t l c) {K:AV → Option Blk → Prop} (h:makeSliceK T env id t l c K) :
  ∃ ans,ev1 T own env o = some ans ∧ K (ans.av id) ans.blk:=by
 unfold makeSliceK at h
 unfold ev1
 rw [ho]
 simp only
 split at h
 ·
  split at h
  ·
   split at h
   ·
    split at h
    ·
     rename_i hc
     obtain ⟨h1,h2,h3,h4,h⟩:=h
     simp only [Bool.and_eq_true] at hc
     rename_i ie _ _ _ _ z _ n _ m hz hl hm
     refine ⟨.row (.c ie.size (rep n.toNat z)),?_,h⟩
     simp only [*]
     rw [if_pos]
     simp only [Bool.and_eq_true,hc,h1,decide_eq_true_eq,beq_self_eq_true]
     subst h1
     exact ⟨⟨⟨⟨⟨trivial,trivial⟩,trivial⟩,h2⟩,h3⟩,h4⟩
    ·
     exact h.elim
   ·
    exact h.elim
  ·
   exact h.elim
 ·
  exact h.elim
def storeP (H:Heap) (id j:Nat) (b:Blk) (k sz:Nat) (v:AV) (K:Heap → Prop) : Prop:=match b.get j with
 | some e=>k + sz ≤ e.cells.length ∧ K (H.set id (some (b.put j (mkEl (spl e.cells k v.cells)))))
 | none=>False
def evSK (T:Tab) (env:Env) (H:Heap) (o:Oper) (K:Heap → Prop) : Prop:=match o.op with
 | .store t x y=>match T.ty t,opd env x,opd env y with
  | some i,some (.ptr id j k),some v=>match H[id]? with
   | some (some b)=>if v.cells.length == i.size && i.size != 0 && v.cells.all okCell then
     (if k == 0 && i.size == b.sz then j < b.len ∧ K (H.set id (some (b.put j (mkEl v.cells))))
     else match b with
      | .c sz ds=>match clo v with
       | some d=>if i.size == 1 && d.noAgg then optP ds[j]? fun e=>optP e.asAgg fun cs=>cs.length ≠ 1 ∧ k < cs.length ∧ K (H.set id (some (.c sz (ds.set j (.agg (cs.set k d))))))
        else storeP H id j (.c sz ds) k i.size v K
       | none=>storeP H id j (.c sz ds) k i.size v K
      | .m sz es=>storeP H id j (.m sz es) k i.size v K
      | .o _=>False)
    else False
   | _=>False
  | _,_,_=>False
 | _=>False
theorem set_mapim (cs:List D) (k:Nat) (d:D) : (cs.map AV.im).set k (.im d) = (cs.set k d).map AV.im:=by simp [List.map_set]
theorem mkEl_mapim {cs:List D} (h:cs.length ≠ 1) : mkEl (cs.map AV.im) = .im (.agg cs):=by
 match cs with
 | []=>rfl
 | [_]=>simp at h
 | a :: b :: cs =>
  show mkAgg (List.map AV.im (a :: b :: cs)) = _
  exact mkAgg_mapim _
theorem evSK_spec {T : Tab} {env : Env} {H : Heap} {o : Oper} {K : Heap → Prop} (h : evSK T env H o K) : ∃ H', evS T env H o = some H' ∧ K H' := by
 unfold evSK at h
 split at h
 ·
  rename_i t x y ho
  split at h
  ·
   rename_i i id j k v hi hx hy
   split at h
   ·
    rename_i b hb
    split at h
    ·
     rename_i hc
     split at h
     ·
      rename_i hk
      obtain ⟨hj,h⟩:=h
      refine ⟨_,?_,h⟩
      unfold evS
      rw [ho]
      simp only [hi,hx,hy,hb]
      rw [if_pos hc,if_pos hk,if_pos hj]
     ·
      rename_i hk
      have gen : ∀ {b : Blk}, H[id]? = some (some b) → ¬ (k == 0 && i.size == b.sz) = true → storeP H id j b k i.size v K → ∃ H', evS T env H o = some H' ∧ K H' := by
       intro b hb hk h
       unfold storeP at h
       split at h
       ·
        rename_i e he
        obtain ⟨h1,h⟩:=h
        refine ⟨_,?_,h⟩
        unfold evS
        rw [ho]
        simp only [hi,hx,hy,hb]
        rw [if_pos hc,if_neg hk]
        simp only [he]
        rw [if_pos h1]
       ·
        exact h.elim
      split at h
      ·
       rename_i sz ds
       split at h
       ·
        rename_i d hd
        split at h
        ·
         rename_i hs1
         obtain ⟨e,he,h⟩:=optP_spec h
         obtain ⟨cs,hcs,h⟩:=optP_spec h
         obtain ⟨hl1,hkl,hfin⟩:=h
         refine gen hb hk ?_
         have hv:=clo_eq hd
         subst hv
         simp only [Bool.and_eq_true,beq_iff_eq] at hs1
         have hee:=asAgg_eq hcs
         subst hee
         have hd1 : (AV.im d).cells = [.im d]:=by rw [im_cells,noAgg_cells hs1.2]; rfl
         have hg : (Blk.c sz ds).get j = some (.im (.agg cs)):=by simp [Blk.get,he]
         unfold storeP
         simp only [hg]
         refine ⟨by simp [AV.cells]; omega,?_⟩
         have : mkEl (spl (AV.im (.agg cs)).cells k (AV.im d).cells) = .im (.agg (cs.set k d)):=by
          rw [hd1]
          simp only [AV.cells,spl,set_mapim]
          exact mkEl_mapim (by simpa using hl1)
         rw [this]
         exact hfin
        ·
         exact gen hb hk h
       ·
        exact gen hb hk h
      ·
       exact gen hb hk h
      ·
       exact h.elim
    ·
     exact h.elim
   ·
    exact h.elim
  ·
   exact h.elim
 ·
  exact h.elim
end Go.AM
/- The abstract machine,part 30: appends,calls,and single operations of a region,with what is to hold of what comes of them handed in. -/
namespace Go.AM
def evAK (T:Tab) (nl:Nat) (env:Env) (H:Heap) (o:Oper) (K:AV → Env → Heap → Prop) : Prop:=match o.op with
 | .call { callee:=.builtin .append,args,argTypes }=>match argTypes.toList,opds env args.toList with
  | [t,t'],some [s,x]=>if t == t' then match T.ty t with
   | some ⟨.slice e,_,_,_⟩=>match T.ty e with
    | some ie=>match constD ie.zero,srcB ie.size H s,srcB ie.size H x with
     | some z,some bs,some bx=>if ie.size != 0 && z.cells.length == ie.size then
       cond (bx.es.all (fun e=>e.cells.all okCell)) ((bs.app ie.size bx).len * ie.bytes ≤ 140737488355328 ∧ (bs.app ie.size bx).len ≤ 140737488355328 ∧ (match s with
        | .ref id _ _ =>
         if Nat.ble nl id then K (.ref id 0 ((bs.app ie.size bx).sub id (fun _ _=>.bad)).len) (AV.subs id (fun _ _=>.bad) env) (((Heap.sub id (fun _ _=>.bad) H).set id none).set id (some ((bs.app ie.size bx).sub id (fun _ _=>.bad))))
         else K (.ref H.length 0 ((bs.app ie.size bx).sub id (fun _ _=>.bad)).len) (AV.subs id (fun _ _=>.bad) env) (((Heap.sub id (fun _ _=>.bad) H).set id none) ++ [some ((bs.app ie.size bx).sub id (fun _ _=>.bad))])
        | .im (.sl _ 0 [])=>K (.ref H.length 0 (bs.app ie.size bx).len) env (H ++ [some (bs.app ie.size bx)])
        | .im (.sl true _ _)=>bx.len ≠ 0 ∧ K (.ref H.length 0 (bs.app ie.size bx).len) env (H ++ [some (bs.app ie.size bx)])
        | _=>False)) False
      else False
     | _,_,_=>False
    | none=>False
   | _=>False
   else False
  | _,_=>False
 | _=>False
theorem evAK_spec {T : Tab} {nl : Nat} {env : Env} {H : Heap} {o : Oper} {K : AV → Env → Heap → Prop} (h : evAK T nl env H o K) : ∃ v env' H', evA T nl env H o = some (v, env', H') ∧ K v env' H' := by
 unfold evAK at h
 split at h
 ·
  rename_i args argTypes ho
  split at h
  ·
   rename_i t t' s x hats hargs
   split at h
   ·
    rename_i htt
    split at h
    ·
     rename_i e i1 i2 i3 hty
     split at h
     ·
      rename_i ie hie
      split at h
      ·
       rename_i z bs bx hz hbs hbx
       split at h
       ·
        rename_i hc
        cases hb : bx.es.all (fun e=>e.cells.all okCell) with
        | false=>rw [hb] at h; exact h.elim
        | true =>
         rw [hb] at h
         obtain ⟨h1,h2,h⟩:=h
         have c1 : (ie.size != 0 && z.cells.length == ie.size && bx.es.all (fun e=>e.cells.all okCell)) = true:=by rw [hb,hc]; rfl
         have c2 : (decide ((bs.app ie.size bx).len * ie.bytes ≤ 140737488355328) && decide ((bs.app ie.size bx).len ≤ 140737488355328)) = true:=by
          simp only [Bool.and_eq_true,decide_eq_true_eq]
          exact ⟨h1,h2⟩
         split at h
         ·
          split at h
          ·
           rename_i hn
           refine ⟨_,_,_,?_,h⟩
           unfold evA
           rw [ho]
           simp only [hats,hargs,htt,if_true,hty,hie,hz,hbs,hbx]
           rw [if_pos c1,if_pos c2,if_pos hn]
          ·
           rename_i hn
           refine ⟨_,_,_,?_,h⟩
           unfold evA
           rw [ho]
           simp only [hats,hargs,htt,if_true,hty,hie,hz,hbs,hbx]
           rw [if_pos c1,if_pos c2,if_neg hn]
         ·
          refine ⟨_,_,_,?_,h⟩
          unfold evA
          rw [ho]
          simp only [hats,hargs,htt,if_true,hty,hie,hz,hbs,hbx]
          rw [if_pos c1,if_pos c2]
         ·
          rename_i hno
          obtain ⟨h3,h⟩:=h
          have h3 : (bx.len != 0) = true:=by simpa using h3
          refine ⟨_,_,_,?_,h⟩
          unfold evA
          rw [ho]
          simp only [hats,hargs,htt,if_true,hty,hie,hz,hbs,hbx]
          rw [if_pos c1,if_pos c2]
          rw [if_pos h3]
         ·
          exact h.elim
       ·
        exact h.elim
      ·
       exact h.elim
     ·
      exact h.elim
    ·
     exact h.elim
   ·
    exact h.elim
  ·
   exact h.elim
 ·
  exact h.elim
abbrev CallW:=FuncId → List AV → Heap → (AV → Heap → Prop) → Prop
def RelO (call : Oracle) (cw : CallW) : Prop := ∀ g as H K, cw g as H K → ∃ res H', call g as H = some (res, H') ∧ K res H'
def callPK (cw:CallW) (H:Heap) (g:FuncId) (as:List AV) (K:AV → Prop) : Prop :=
 if (AV.idss as).isEmpty then cw g as [] fun res H'=>match snap H' 12 res with
  | some v=>K v
  | none=>False
 else match mapO (snap H 12) as with
  | some bs=>cw g bs [] fun res _=>if plainR res then K res else False
  | none=>False
theorem callPK_spec {call:Oracle} {cw:CallW} (hr:RelO call cw) {H:Heap} {g:FuncId} {as:List AV} {K:AV → Prop} (h:callPK cw H g as K) : ∃ v,callP call H g as = some v ∧ K v:=by
 unfold callPK at h
 unfold callP
 split at h
 ·
  rename_i hi
  obtain ⟨res, H', he, h⟩ := hr _ _ _ _ h
  split at h
  ·
   rename_i v hv
   exact ⟨v,by simp only [hi,if_true,he,hv],h⟩
  ·
   exact h.elim
 ·
  rename_i hi
  rw [if_neg hi]
  split at h
  ·
   rename_i bs hbs
   obtain ⟨res, H', he, h⟩ := hr _ _ _ _ h
   split at h
   ·
    rename_i hp
    exact ⟨res,by simp [*],h⟩
   ·
    exact h.elim
  ·
   exact h.elim
def callLK (cw:CallW) (env:Env) (H:Heap) (g:FuncId) (as:List AV) (K:AV → Env → Heap → Prop) : Prop :=
 cw g (AV.rens (posn (reach H 400 (AV.idss as) [])) as) (pickH H (reach H 400 (AV.idss as) [])) fun res H' =>
  K (AV.ren (backF (reach H 400 (AV.idss as) []) H.length) res) (AV.rens (keepF (reach H 400 (AV.idss as) []) H') env) (backH (reach H 400 (AV.idss as) []) H H')
theorem callLK_spec {call:Oracle} {cw:CallW} (hr:RelO call cw) {env:Env} {H:Heap} {g:FuncId} {as:List AV} {K:AV → Env → Heap → Prop} (h:callLK cw env H g as K) :
  ∃ v env' H', callL call env H g as = some (v, env', H') ∧ K v env' H' := by
 unfold callLK at h
 obtain ⟨res, H', he, h⟩ := hr _ _ _ _ h
 exact ⟨_,_,_,by simp only [callL,he],h⟩
def restK (X:Cx) (env:Env) (H:Heap) (id:Nat) (o:Oper) (K:AV → Option Blk → Prop) : Prop:=match ev1 X.T X.own env o with
 | some ans=>castVK (X.cast o) (ans.av id) fun v=>K v ans.blk
 | none=>match ev0 X.T env H o with
  | some v=>castVK (X.cast o) v fun v=>K v none
  | none=>False
def evPK (X:Cx) (cw:CallW) (env:Env) (H:Heap) (id:Nat) (o:Oper) (K:AV → Option Blk → Prop) : Prop:=match o.op with
 | .makeSlice t l c=>makeSliceK X.T env id t l c fun v b=>castVK (X.cast o) v fun v=>K v b
 | .load t a=>loadK X.T (X.cast o) env H t a fun v=>K v none
 | .pick c a b=>selK env c a b fun v=>castVK (X.cast o) v fun v=>K v none
 | .binOp op t x y _=>binOpK X.T env H o op t x y fun v=>castVK (X.cast o) v fun v=>K v none
 | .indexAddr t x i=>indexAddrK X.T env H t x i fun v=>castVK (X.cast o) v fun v=>K v none
 | .index t x i=>indexK X.T env H o t x i fun v=>castVK (X.cast o) v fun v=>K v none
 | .slice t x lo hi none=>sliceK X.T env H t x lo hi fun v=>castVK (X.cast o) v fun v=>K v none
 | .call { callee:=.value f,args,.. }=>match opd env f,opds env args.toList with
  | some fv,some as=>match fnOf fv with
   | some (g,a,c)=>callPK cw H g (a ++ as ++ c) fun v=>castVK (X.cast o) v fun v=>K v none
   | none=>False
  | _,_=>False
 | _=>restK X env H id o K
theorem evP_of0 {X : Cx} {env : Env} {H : Heap} {id : Nat} {o : Oper} {v v' : AV} (h1 : ev1 X.T X.own env o = none) (h0 : ev0 X.T env H o = some v) (hc : castV (X.cast o) v = some v') : evP X env H id o = some (v', none) := by
 unfold evP evQ
 simp only [h1,h0,hc]
theorem evPK_spec {X:Cx} {cw:CallW} (hr:RelO X.call cw) {env:Env} {H:Heap} {id:Nat} {o:Oper} {K:AV → Option Blk → Prop} (h:evPK X cw env H id o K) : ∃ v b,evP X env H id o = some (v,b) ∧ K v b:=by
 unfold evPK at h
 split at h
 ·
  rename_i t l c ho
  obtain ⟨ans,ha,h⟩:=makeSliceK_spec (own:=X.own) ho h
  obtain ⟨v,hv,h⟩:=castVK_spec h
  exact ⟨_,_,by unfold evP evQ; simp [*],h⟩
 ·
  rename_i t a ho
  obtain ⟨v, v', h0, hc, h⟩ := loadK_spec ho h
  exact ⟨_,_,evP_of0 (by unfold ev1; rw [ho]) h0 hc,h⟩
 ·
  rename_i c a b ho
  obtain ⟨v,h0,h⟩:=selK_spec (T:=X.T) (H:=H) ho h
  obtain ⟨v', hc, h⟩ := castVK_spec h
  exact ⟨_,_,evP_of0 (by unfold ev1; rw [ho]) h0 hc,h⟩
 ·
  rename_i op t x y u ho
  obtain ⟨v,h0,h⟩:=binOpK_spec ho h
  obtain ⟨v', hc, h⟩ := castVK_spec h
  exact ⟨_,_,evP_of0 (by unfold ev1; rw [ho]) h0 hc,h⟩
 ·
  rename_i t x i ho
  obtain ⟨v,h0,h⟩:=indexAddrK_spec ho h
  obtain ⟨v', hc, h⟩ := castVK_spec h
  exact ⟨_,_,evP_of0 (by unfold ev1; rw [ho]) h0 hc,h⟩
 ·
  rename_i t x i ho
  obtain ⟨v,h0,h⟩:=indexK_spec ho h
  obtain ⟨v', hc, h⟩ := castVK_spec h
  exact ⟨_,_,evP_of0 (by unfold ev1; rw [ho]) h0 hc,h⟩
 ·
  rename_i t x lo hi ho
  obtain ⟨v,h0,h⟩:=sliceK_spec ho h
  obtain ⟨v', hc, h⟩ := castVK_spec h
  exact ⟨_,_,evP_of0 (by unfold ev1; rw [ho]) h0 hc,h⟩
 ·
  rename_i f args ats ho
  split at h
  ·
   rename_i fv as hf has
   split at h
   ·
    rename_i g a c hfn
    obtain ⟨v,hv,h⟩:=callPK_spec hr h
    obtain ⟨v', hc, h⟩ := castVK_spec h
    refine ⟨_,_,?_,h⟩
    have e1 : ev1 X.T X.own env o = none:=by unfold ev1; rw [ho]
    have e0 : ev0 X.T env H o = none:=by unfold ev0; rw [ho]
    have ec : evC X.call env H o = some v:=by unfold evC; rw [ho]; simp only [hf,has,hfn,hv]
    unfold evP evQ
    simp only [e1,e0,ec]
    simp only [hc]
   ·
    exact h.elim
  ·
   exact h.elim
 ·
  unfold restK at h
  split at h
  ·
   rename_i ans ha
   obtain ⟨v,hv,h⟩:=castVK_spec h
   exact ⟨_,_,by unfold evP evQ; simp [*],h⟩
  ·
   rename_i h1
   split at h
   ·
    rename_i v h0
    obtain ⟨v', hc, h⟩ := castVK_spec h
    exact ⟨_,_,evP_of0 h1 h0 hc,h⟩
   ·
    exact h.elim
noncomputable def setK {α:Type} (l:List α) : Nat → α → (List α → Prop) → Prop:=List.rec (fun _ _ k=>k []) (fun x xs ih n v k=>Nat.casesOn n (k (v :: xs)) fun m=>ih m v fun ys=>k (x :: ys)) l
theorem setK_spec {α:Type} : ∀ (l:List α) {n:Nat} {v:α} {k:List α → Prop},setK l n v k → k (l.set n v)
 | [],n,v,k,h=>h
 | x :: l,0,v,k,h=>h
 | x :: l,n + 1,v,k,h=>setK_spec l (n:=n) (k:=fun ys=>k (x :: ys)) h
noncomputable def putK (env:Env) (d:Option Tmp) (v:AV) (k:Env → Prop) : Prop:=match d with
 | some d=>setK env d v k
 | none=>k env
theorem putK_spec {env:Env} {d:Option Tmp} {v:AV} {k:Env → Prop} (h:putK env d v k) : k (putE env d v):=by
 cases d with
 | none=>exact h
 | some d=>exact setK_spec env h
noncomputable def forceL {α:Type} (l:List α) : (List α → Prop) → Prop:=List.rec (fun k=>k []) (fun x _ ih k=>ih fun ys=>k (x :: ys)) l
theorem forceL_spec {α:Type} : ∀ (l:List α) {k:List α → Prop},forceL l k → k l
 | [],k,h=>h
 | x :: l,k,h=>forceL_spec l (k:=fun ys=>k (x :: ys)) h
noncomputable def getL {α:Type} (l:List α) : Nat → Option α:=List.rec (fun _=>none) (fun x _ ih n=>Nat.casesOn n (some x) ih) l
theorem getL_eq {α:Type} : ∀ (l:List α) (n:Nat),getL l n = l[n]?
 | [],n=>rfl
 | x :: l,0=>rfl
 | x :: l,n + 1=>by
  show getL l n = _
  rw [getL_eq l n]
  simp
noncomputable def guardK (ops:Array Oper) (env:Env) (o:Oper) (k1 k0:Env → Prop) : Prop:=match o.guard with
 | none=>k1 env
 | some (j,want)=>match getL ops.toList j with
  | some oj=>match oj.dst with
   | some t=>match getL env t with
    | some (.im (.bool b))=>cond b (setK env t (.im (.bool true)) fun e=>cond want (k1 e) (k0 e)) (setK env t (.im (.bool false)) fun e=>cond want (k0 e) (k1 e))
    | some (.tup _)=>k0 env
    | _=>False
   | none=>False
  | none=>False
theorem set_same {α:Type} {l:List α} {i:Nat} {x:α} (h:l[i]? = some x) : l.set i x = l:=by
 apply List.ext_getElem?
 intro j
 rw [List.getElem?_set]
 split
 ·
  rename_i e
  subst e
  rw [h]
  have : i < l.length:=by
   rcases Nat.lt_or_ge i l.length with hl | hl
   ·
    exact hl
   ·
    rw [List.getElem?_eq_none hl] at h; cases h
  simp [this]
 ·
  rfl
theorem guardK_spec {ops:Array Oper} {env:Env} {o:Oper} {k1 k0:Env → Prop} (h:guardK ops env o k1 k0) : (guardOf ops env o = some true ∧ k1 env) ∨ (guardOf ops env o = some false ∧ k0 env):=by
 unfold guardK at h
 simp only [getL_eq,Array.getElem?_toList] at h
 unfold guardOf
 split at h
 ·
  rename_i hg
  exact .inl ⟨by rw [hg],h⟩
 ·
  rename_i j want hg
  rw [hg]
  simp only
  split at h
  ·
   rename_i oj hj
   split at h
   ·
    rename_i t ht
    split at h
    ·
     rename_i b hb
     cases b with
     | true =>
      have h:=setK_spec env (k:=fun e=>cond want (k1 e) (k0 e)) h
      rw [set_same hb] at h
      cases want with
      | true=>exact .inl ⟨by simp [hj,ht,hb],h⟩
      | false=>exact .inr ⟨by simp [hj,ht,hb],h⟩
     | false =>
      have h:=setK_spec env (k:=fun e=>cond want (k0 e) (k1 e)) h
      rw [set_same hb] at h
      cases want with
      | true=>exact .inr ⟨by simp [hj,ht,hb],h⟩
      | false=>exact .inl ⟨by simp [hj,ht,hb],h⟩
    ·
     rename_i vs hb
     exact .inr ⟨by simp [hj,ht,hb],h⟩
    ·
     exact h.elim
   ·
    exact h.elim
  ·
   exact h.elim
noncomputable def stepPK (X:Cx) (cw:CallW) (ops:Array Oper) (env:Env) (H:Heap) (o:Oper) (K:Env → Heap → Prop) : Prop :=
 guardK ops env o (fun env=>evPK X cw env H H.length o fun v b=>putK env o.dst v fun e=>forceL (extH H b) fun h=>K e h) (fun env=>putK env o.dst (.tup []) fun e=>K e H)
theorem stepPK_spec {X : Cx} {cw : CallW} (hr : RelO X.call cw) {ops : Array Oper} {env : Env} {H : Heap} {o : Oper} {K : Env → Heap → Prop} (h : stepPK X cw ops env H o K) : ∃ env' H', stepP X ops env H o = some (env', H') ∧ K env' H' := by
 unfold stepPK at h
 unfold stepP
 rcases guardK_spec h with ⟨hg,h⟩ | ⟨hg,h⟩
 ·
  obtain ⟨v,b,hv,h⟩:=evPK_spec hr h
  have h:=forceL_spec _ (k:=fun h=>K _ h) (putK_spec (k:=fun e=>forceL (extH H b) fun h=>K e h) h)
  simp only [hg,hv]
  cases b with
  | none=>exact ⟨_,_,rfl,h⟩
  | some b=>exact ⟨_,_,rfl,h⟩
 ·
  simp only [hg]
  exact ⟨_,_,rfl,putK_spec (k:=fun e=>K e H) h⟩
noncomputable def stepOK (X:Cx) (cw:CallW) (nl:Nat) (ops:Array Oper) (env:Env) (H:Heap) (o:Oper) (K:Env → Heap → Prop) : Prop :=
 guardK ops env o (fun env=>match o.op with
  | .store _ _ _=>evSK X.T env H o fun H'=>forceL H' fun h=>putK env o.dst (.tup []) fun e=>K e h
  | .call { callee:=.builtin .append,.. }=>evAK X.T nl env H o fun v env' H'=>forceL env' fun env'=>forceL H' fun H'=>putK env' o.dst v fun e=>K e H'
  | .call { callee:=.value f,args,.. }=>match opd env f,opds env args.toList with
   | some fv,some as=>match fnOf fv with
    | some (g,a,c)=>if X.lend g || X.keep (o.dst.getD 0) then callLK cw env H g (a ++ as ++ c) fun v env' H'=>castVK (X.cast o) v fun v=>forceL env' fun env'=>forceL H' fun H'=>putK env' o.dst v fun e=>K e H'
     else callPK cw H g (a ++ as ++ c) fun v=>castVK (X.cast o) v fun v=>putK env o.dst v fun e=>K e H
    | none=>False
   | _,_=>False
  | _=>evPK X cw env H H.length o fun v b=>putK env o.dst v fun e=>forceL (extH H b) fun h=>K e h) (fun env=>putK env o.dst (.tup []) fun e=>K e H)
theorem stepOK_spec {X : Cx} {cw : CallW} (hr : RelO X.call cw) {nl : Nat} {ops : Array Oper} {env : Env} {H : Heap} {o : Oper} {K : Env → Heap → Prop} (h : stepOK X cw nl ops env H o K) : ∃ env' H', stepO X nl ops env H o = some (env', H') ∧ K env' H' := by
 unfold stepOK at h
 unfold stepO
 rcases guardK_spec h with ⟨hg,h⟩ | ⟨hg,h⟩
 ·
  simp only [hg]
  split at h
  ·
   rename_i t x y ho
   obtain ⟨H', hs, h⟩ := evSK_spec h
   have el : evL X env H o = none:=by unfold evL; rw [ho]
   have ep : evP X env H H.length o = none:=by
    unfold evP evQ
    have e1 : ev1 X.T X.own env o = none:=by unfold ev1; rw [ho]
    have e0 : ev0 X.T env H o = none:=by unfold ev0; rw [ho]
    have ec : evC X.call env H o = none:=by unfold evC; rw [ho]
    have ex : evX X.T env H H.length o = none:=by unfold evX; rw [ho]
    simp only [e1,e0,ec,ex]
   simp only [el,ep,hs]
   exact ⟨_,_,rfl,putK_spec (k:=fun e=>K e H') (forceL_spec H' (k:=fun h=>putK env o.dst (.tup []) fun e=>K e h) h)⟩
  ·
   rename_i args ats ho
   obtain ⟨v, env', H', ha, h⟩ := evAK_spec h
   have el : evL X env H o = none:=by unfold evL; rw [ho]
   have ep : evP X env H H.length o = none:=by
    unfold evP evQ
    have e1 : ev1 X.T X.own env o = none:=by unfold ev1; rw [ho]
    have e0 : ev0 X.T env H o = none:=by unfold ev0; rw [ho]
    have ec : evC X.call env H o = none:=by unfold evC; rw [ho]
    have ex : evX X.T env H H.length o = none:=by unfold evX; rw [ho]
    simp only [e1,e0,ec,ex]
   have es : evS X.T env H o = none:=by unfold evS; rw [ho]
   simp only [el,ep,es,ha]
   exact ⟨_,_,rfl,putK_spec (k:=fun e=>K e H') (forceL_spec H' (k:=fun H'=>putK env' o.dst v fun e=>K e H') (forceL_spec env' (k:=fun env'=>forceL H' fun H'=>putK env' o.dst v fun e=>K e H') h))⟩
  ·
   rename_i f args ats ho
   split at h
   ·
    rename_i fv as hf has
    split at h
    ·
     rename_i g a c hfn
     split at h
     ·
      rename_i hl
      obtain ⟨v, env', H', hv, h⟩ := callLK_spec hr h
      obtain ⟨v', hc, h⟩ := castVK_spec h
      have el : evL X env H o = some (v, env', H') := by unfold evL; rw [ho]; simp only [hf, has, hfn, hl, if_true, hv]
      simp only [el,hc]
      exact ⟨_,_,rfl,putK_spec (k:=fun e=>K e H') (forceL_spec H' (k:=fun H'=>putK env' o.dst v' fun e=>K e H') (forceL_spec env' (k:=fun env'=>forceL H' fun H'=>putK env' o.dst v' fun e=>K e H') h))⟩
     ·
      rename_i hl
      obtain ⟨v,hv,h⟩:=callPK_spec hr h
      obtain ⟨v', hc, h⟩ := castVK_spec h
      have el : evL X env H o = none:=by
       unfold evL
       rw [ho]
       simp only [hf,has,hfn]
       rw [if_neg hl]
      have ep : evP X env H H.length o = some (v', none) := by
       unfold evP evQ
       have e1 : ev1 X.T X.own env o = none:=by unfold ev1; rw [ho]
       have e0 : ev0 X.T env H o = none:=by unfold ev0; rw [ho]
       have ec : evC X.call env H o = some v:=by unfold evC; rw [ho]; simp only [hf,has,hfn,hv]
       simp only [e1,e0,ec]
       simp only [hc]
      simp only [el,ep]
      exact ⟨_,_,rfl,putK_spec (k:=fun e=>K e H) h⟩
    ·
     exact h.elim
   ·
    exact h.elim
  ·
   rename_i hno _ hno3
   have el : evL X env H o = none:=by
    unfold evL
    split
    ·
     rename_i f args ats ho
     exact absurd ho (hno3 _ _ _)
    ·
     rfl
   obtain ⟨v,b,hv,h⟩:=evPK_spec hr h
   have h:=forceL_spec _ (k:=fun h=>K _ h) (putK_spec (k:=fun e=>forceL (extH H b) fun h=>K e h) h)
   simp only [el,hv]
   cases b with
   | none=>exact ⟨_,_,rfl,h⟩
   | some b=>exact ⟨_,_,rfl,h⟩
 ·
  simp only [hg]
  exact ⟨_,_,rfl,putK_spec (k:=fun e=>K e H) h⟩
end Go.AM
/- The abstract machine,part 31: code with what is to hold behind it handed in. -/
namespace Go.AM
noncomputable def stepFK (X:Px) (cw:CallW) (ops:Array Oper) (env:Env) (H:Heap) (o:Oper) (K:Env → Heap → Prop) : Prop :=
 match o.dst with
 | some d=>if X.frz d then forceL (pre X env H o d).1 fun e=>forceL (pre X env H o d).2 fun h=>stepOK X.toCx cw X.nl ops e h o fun env' H'=>forceL (claims d (X.clm d) env' H').1 fun e=>forceL (claims d (X.clm d) env' H').2 fun h=>K e h
  else if (X.clm d).isEmpty then stepOK X.toCx cw X.nl ops env H o K
  else stepOK X.toCx cw X.nl ops env H o fun env' H'=>forceL (claims d (X.clm d) env' H').1 fun e=>forceL (claims d (X.clm d) env' H').2 fun h=>K e h
 | none=>stepOK X.toCx cw X.nl ops env H o K
theorem stepFK_spec {X : Px} {cw : CallW} (hr : RelO X.call cw) {ops : Array Oper} {env : Env} {H : Heap} {o : Oper} {K : Env → Heap → Prop} (h : stepFK X cw ops env H o K) : ∃ env' H', stepF X ops env H o = some (env', H') ∧ K env' H' := by
 unfold stepFK at h
 unfold stepF
 split at h
 ·
  rename_i d hd
  split at h
  ·
   have h:=forceL_spec _ (k:=fun h=>stepOK X.toCx cw X.nl ops _ h o _) (forceL_spec _ (k:=fun e=>forceL (pre X env H o d).2 fun h=>stepOK X.toCx cw X.nl ops e h o _) h)
   obtain ⟨e1,H1,h1,h⟩:=stepOK_spec hr h
   have h:=forceL_spec _ (k:=fun h=>K _ h) (forceL_spec _ (k:=fun e=>forceL (claims d (X.clm d) e1 H1).2 fun h=>K e h) h)
   refine ⟨_,_,?_,h⟩
   try simp only [hd]
   rw [h1]
  ·
   rename_i hf
   have hp : pre X env H o d = (env,H):=by unfold pre; rw [if_neg hf]
   split at h
   ·
    rename_i hc
    obtain ⟨e1,H1,h1,h⟩:=stepOK_spec hr h
    refine ⟨e1,H1,?_,h⟩
    try simp only [hd]
    rw [hp,h1]
    have : X.clm d = []:=by simpa using hc
    simp [this,claims]
   ·
    obtain ⟨e1,H1,h1,h⟩:=stepOK_spec hr h
    have h:=forceL_spec _ (k:=fun h=>K _ h) (forceL_spec _ (k:=fun e=>forceL (claims d (X.clm d) e1 H1).2 fun h=>K e h) h)
    refine ⟨_,_,?_,h⟩
    try simp only [hd]
    rw [hp,h1]
 ·
  rename_i hd
  try simp only [hd]
  exact stepOK_spec hr h
noncomputable def runFK (X:Px) (cw:CallW) (ops:Array Oper) : List Oper → Env → Heap → (Env → Heap → Prop) → Prop
 | [],env,H,K=>K env H
 | o :: os,env,H,K=>stepFK X cw ops env H o fun env' H'=>runFK X cw ops os env' H' K
theorem runFK_spec {X : Px} {cw : CallW} (hr : RelO X.call cw) {ops : Array Oper} {K : Env → Heap → Prop} : ∀ (os : List Oper) {env : Env} {H : Heap}, runFK X cw ops os env H K → ∃ env' H', runF X ops os env H = some (env', H') ∧ K env' H'
 | [],env,H,h=>⟨env,H,rfl,h⟩
 | o :: os,env,H,h=>by
  unfold runFK at h
  obtain ⟨e1,H1,h1,h⟩:=stepFK_spec hr h
  obtain ⟨e2,H2,h2,h⟩:=runFK_spec hr os h
  exact ⟨e2,H2,by unfold runF; simp only [h1,h2],h⟩
noncomputable def runPK (X:Cx) (cw:CallW) (ops:Array Oper) : List Oper → Env → Heap → (Env → Heap → Prop) → Prop
 | [],env,H,K=>K env H
 | o :: os,env,H,K=>stepPK X cw ops env H o fun env' H'=>runPK X cw ops os env' H' K
theorem runPK_spec {X : Cx} {cw : CallW} (hr : RelO X.call cw) {ops : Array Oper} {K : Env → Heap → Prop} : ∀ (os : List Oper) {env : Env} {H : Heap}, runPK X cw ops os env H K → ∃ env' H', runP X ops os env H = some (env', H') ∧ K env' H'
 | [],env,H,h=>⟨env,H,rfl,h⟩
 | o :: os,env,H,h=>by
  unfold runPK at h
  obtain ⟨e1,H1,h1,h⟩:=stepPK_spec hr h
  obtain ⟨e2,H2,h2,h⟩:=runPK_spec hr os h
  exact ⟨e2,H2,by unfold runP; simp only [h1,h2],h⟩
noncomputable def runDK (X:Px) (cw:CallW) (ops:Array Oper) (env:Env) (H:Heap) (K:Env → Heap → Prop) : Prop :=
 runPK X.toCx cw ops (ops.toList.take (cutOf ops)) env H fun env' H'=>runFK X cw ops (ops.toList.drop (cutOf ops)) env' H' K
theorem runDK_spec {X : Px} {cw : CallW} (hr : RelO X.call cw) {ops : Array Oper} {env : Env} {H : Heap} {K : Env → Heap → Prop} (h : runDK X cw ops env H K) : ∃ env' H', runD X ops env H = some (env', H') ∧ K env' H' := by
 unfold runDK at h
 unfold runD
 obtain ⟨e1,H1,h1,h⟩:=runPK_spec hr _ h
 obtain ⟨e2,H2,h2,h⟩:=runFK_spec hr _ h
 exact ⟨e2,H2,by simp only [h1,h2],h⟩
abbrev Kx:=Ex → Env → Heap → Prop
def loopK (head:Env → Heap → Env × Heap) (R:Env → Heap → Prop) (K:Kx) : Kx:=fun x env' H'=>match x with
 | .normal=>R (head env' H').1 (head env' H').2
 | x=>K x env' H'
def iterV (head:Env → Heap → Env × Heap) (body:Env → Heap → Kx → Prop) : Nat → Env → Heap → Kx → Prop
 | 0,_,_,_=>False
 | n + 1,env,H,K=>body env H (loopK head (fun env' H'=>iterV head body n env' H' K) K)
def seqK (k1:Env → Heap → Prop) (K:Kx) : Kx:=fun x env H=>match x with
 | .normal=>k1 env H
 | x=>K x env H
def blockK (X:Px) (id:Nat) (K:Kx) : Kx:=fun x env' H'=>match x with
 | .exit i=>if i == id then K .normal (forget X.nl (X.after id) env' H').1 (forget X.nl (X.after id) env' H').2 else K (.exit i) env' H'
 | .normal=>K .normal (forget X.nl (X.after id) env' H').1 (forget X.nl (X.after id) env' H').2
 | .ret=>K .ret env' H'
noncomputable def W (X:Px) (cw:CallW) : Code → Env → Heap → Kx → Prop
 | .skip,env,H,K=>K .normal env H
 | .region _ ops draw,env,H,K=>if draw then runDK X cw ops env H fun env' H'=>K .normal env' H' else runFK X cw ops ops.toList env H fun env' H'=>K .normal env' H'
 | .seq a b,env,H,K=>W X cw a env H (seqK (fun env' H'=>W X cw b env' H' K) K)
 | .cond c t e,env,H,K=>match opd env c with
  | some (.im (.bool b))=>cond b (W X cw t env H K) (W X cw e env H K)
  | _=>False
 | .block id c,env,H,K=>W X cw c env H (blockK X id K)
 | .loop c,env,H,K=>∃ n,iterV (headOf X c) (W X cw c) n (headOf X c env H).1 (headOf X c env H).2 K
 | .exit id,env,H,K=>K (.exit id) env H
 | .ret,env,H,K=>K .ret (forget X.nl X.out env H).1 (forget X.nl X.out env H).2
 | _,_,_,_=>False
theorem iter_mono {head:Env → Heap → Env × Heap} {body body' : Env → Heap → Option (Ex × Env × Heap)} (hb:∀ env H r,body env H = some r → body' env H = some r) : ∀ {n m:Nat} {env:Env} {H:Heap} {r:Ex × Env × Heap},n ≤ m →
  iter head body n env H = some r → iter head body' m env H = some r
 | 0,m,env,H,r,_,h=>by simp [iter] at h
 | n + 1,0,env,H,r,hn,h=>by omega
 | n + 1,m + 1,env,H,r,hn,h=>by
  unfold iter at h ⊢
  cases hx : body (head env H).1 (head env H).2 with
  | none=>rw [hx] at h; simp at h
  | some q =>
   rw [hx] at h
   rw [hb _ _ _ hx]
   obtain ⟨x,e,H2⟩:=q
   cases x with
   | normal=>exact iter_mono hb (by omega) h
   | exit i=>exact h
   | ret=>exact h
theorem exec_mono {X:Px} {lf lf' : Nat} (hl:lf ≤ lf') : ∀ (c:Code) {env:Env} {H:Heap} {r:Ex × Env × Heap},exec X lf c env H = some r → exec X lf' c env H = some r:=by
 intro c
 induction c with
 | seq a b iha ihb =>
  intro env H r h
  simp only [exec] at h ⊢
  cases hx : exec X lf a env H with
  | none=>rw [hx] at h; simp at h
  | some q =>
   rw [hx] at h
   rw [iha hx]
   obtain ⟨x,e,H2⟩:=q
   cases x with
   | normal=>exact ihb h
   | exit i=>exact h
   | ret=>exact h
 | cond c t e iht ihe =>
  intro env H r h
  simp only [exec] at h ⊢
  split at h
  ·
   exact iht h
  ·
   exact ihe h
  ·
   simp at h
 | block id c ih =>
  intro env H r h
  simp only [exec] at h ⊢
  cases hx : exec X lf c env H with
  | none=>rw [hx] at h; simp at h
  | some q =>
   rw [hx] at h
   rw [ih hx]
   exact h
 | loop c ih =>
  intro env H r h
  simp only [exec] at h ⊢
  exact iter_mono (fun _ _ _=>ih) hl h
 | _=>intro env H r h; exact h
def Fin1 (X : Px) (c : Code) (env : Env) (H : Heap) (K : Kx) : Prop := ∃ lf x env' H', exec X lf c env H = some (x, env', H') ∧ K x env' H'
theorem iterV_spec {X:Px} {cw:CallW} {c:Code} (ih:∀ {env:Env} {H:Heap} {K:Kx},W X cw c env H K → Fin1 X c env H K) : ∀ (n:Nat) {env:Env} {H:Heap} {K:Kx},iterV (headOf X c) (W X cw c) n (headOf X c env H).1 (headOf X c env H).2 K →
  ∃ lf m x env' H', iter (headOf X c) (exec X lf c) m env H = some (x, env', H') ∧ K x env' H'
 | 0,env,H,K,h=>h.elim
 | n + 1,env,H,K,h=>by
  unfold iterV at h
  obtain ⟨lf,x,e1,H1,hx,h⟩:=ih h
  cases x with
  | normal =>
   obtain ⟨lf2,m,x2,e2,H2,h2,h3⟩:=iterV_spec ih n (show iterV (headOf X c) (W X cw c) n (headOf X c e1 H1).1 (headOf X c e1 H1).2 K from h)
   refine ⟨max lf lf2,m + 1,x2,e2,H2,?_,h3⟩
   unfold iter
   rw [exec_mono (Nat.le_max_left lf lf2) _ hx]
   exact iter_mono (fun _ _ _ h=>exec_mono (Nat.le_max_right lf lf2) _ h) (Nat.le_refl _) h2
  | exit i=>exact ⟨lf,1,.exit i,e1,H1,by unfold iter; rw [hx],h⟩
  | ret=>exact ⟨lf,1,.ret,e1,H1,by unfold iter; rw [hx],h⟩
theorem W_spec {X:Px} {cw:CallW} (hr:RelO X.call cw) : ∀ (c:Code) {env:Env} {H:Heap} {K:Kx},W X cw c env H K → Fin1 X c env H K:=by
 intro c
 induction c with
 | skip=>intro env H K h; exact ⟨0,_,_,_,rfl,h⟩
 | exit id=>intro env H K h; exact ⟨0,_,_,_,rfl,h⟩
 | ret=>intro env H K h; exact ⟨0,_,_,_,rfl,h⟩
 | region id ops draw =>
  intro env H K h
  simp only [W] at h
  cases draw with
  | true =>
   simp only [if_true] at h
   obtain ⟨e1,H1,h1,h⟩:=runDK_spec hr h
   exact ⟨0,_,_,_,by simp only [exec,if_true,h1],h⟩
  | false =>
   simp only [Bool.false_eq_true,if_false] at h
   obtain ⟨e1,H1,h1,h⟩:=runFK_spec hr _ h
   exact ⟨0,_,_,_,by simp only [exec,Bool.false_eq_true,if_false,h1],h⟩
 | seq a b iha ihb =>
  intro env H K h
  simp only [W] at h
  obtain ⟨lf,x,e1,H1,h1,h⟩:=iha h
  cases x with
  | normal =>
   obtain ⟨lf2,x2,e2,H2,h2,h3⟩:=ihb h
   refine ⟨max lf lf2,x2,e2,H2,?_,h3⟩
   simp only [exec,exec_mono (Nat.le_max_left lf lf2) _ h1,exec_mono (Nat.le_max_right lf lf2) _ h2]
  | exit i=>exact ⟨lf,_,_,_,by simp only [exec,h1],h⟩
  | ret=>exact ⟨lf,_,_,_,by simp only [exec,h1],h⟩
 | cond c t e iht ihe =>
  intro env H K h
  simp only [W] at h
  split at h
  ·
   rename_i b hb
   cases b with
   | true =>
    obtain ⟨lf,x,e1,H1,h1,h⟩:=iht h
    exact ⟨lf,x,e1,H1,by simp only [exec,hb,h1],h⟩
   | false =>
    obtain ⟨lf,x,e1,H1,h1,h⟩:=ihe h
    exact ⟨lf,x,e1,H1,by simp only [exec,hb,h1],h⟩
  ·
   exact h.elim
 | block id c ih =>
  intro env H K h
  simp only [W] at h
  obtain ⟨lf,x,e1,H1,h1,h⟩:=ih h
  cases x with
  | normal=>exact ⟨lf,_,_,_,by simp only [exec,h1],h⟩
  | exit i =>
   simp only [blockK] at h
   split at h
   ·
    rename_i hi
    exact ⟨lf,_,_,_,by simp only [exec,h1,hi,if_true],h⟩
   ·
    rename_i hi
    exact ⟨lf,_,_,_,by simp only [exec,h1]; rw [if_neg hi],h⟩
  | ret=>exact ⟨lf,_,_,_,by simp only [exec,h1],h⟩
 | loop c ih =>
  intro env H K h
  simp only [W] at h
  obtain ⟨n,h⟩:=h
  obtain ⟨lf,m,x,e1,H1,h1,h⟩:=iterV_spec ih n h
  refine ⟨max lf m,x,e1,H1,?_,h⟩
  simp only [exec]
  exact iter_mono (fun _ _ _ h=>exec_mono (Nat.le_max_left lf m) _ h) (Nat.le_max_right lf m) h1
 | _=>intro env H K h; exact h.elim
end Go.AM
/- The abstract machine,part 32: functions by signature: what a body makes hold is told of its calls. -/
namespace Go.AM
def finK (T:Tab) (i:Fi) (nl:Nat) (K:AV → Heap → Prop) : Kx:=fun x env' H'=>match x with
 | .exit _=>False
 | _=>match fin T nl i.fn.results.toList env' H' with
  | some (v,H2)=>K v H2
  | none=>False
abbrev Sc.T : Sc → Type
 | .any=>D
 | .int _=>Int
 | .bool=>Bool
 | .str=>List UInt8
 | .sl _=>List D
 | .fn _=>Unit
abbrev Scs.T : List Sc → Type
 | []=>Unit
 | [s]=>s.T
 | s :: t :: ss=>s.T × Scs.T (t :: ss)
def Sc.enc : (s:Sc) → s.T → D
 | .any,d=>d
 | .int k,n=>.int k n
 | .bool,b=>.bool b
 | .str,s=>.str s
 | .sl z,l=>.sl false z l
 | .fn g,_=>.fn (.func g) [] []
def Scs.enc : (l:List Sc) → Scs.T l → List D
 | [],_=>[]
 | [s],x=>[s.enc x]
 | s :: t :: ss,p=>s.enc p.1 :: Scs.enc (t :: ss) p.2
end Go.AM
/- The abstract machine,part 33: what is told of types by a program itself; casts by the types of slots; a function's policy. -/
namespace Go.AM
def tyOf (P:Program) (t:TypeId) : Option Tyi:=match P.underlying t,P.info? t with
 | some d,some f=>match f.zero with
  | some z=>some ⟨d,f.size,f.bytes,z⟩
  | none=>none
 | _,_=>none
theorem tyOf_ok {P:Program} {t:TypeId} {i:Tyi} (h:tyOf P t = some i) : Tyi.ok P t i:=by
 unfold tyOf at h
 split at h
 ·
  rename_i d f hd hf
  split at h
  ·
   rename_i z hz
   simp at h
   subst h
   exact ⟨hd,f,hf,rfl,rfl,hz⟩
  ·
   simp at h
 ·
  simp at h
def tabOf (P:Program) (eqs:TypeId → Option (List Ck)) : Tab:=⟨tyOf P,eqs⟩
theorem tabOf_ok {P:Program} {eqs:TypeId → Option (List Ck)} (h:∀ t ks a b,eqs t = some ks → areK ks a = true → areK ks b = true → EqOK P t a b) : (tabOf P eqs).ok P :=
 ⟨fun _ _=>tyOf_ok,fun t a b he=>by
  unfold eqOn at he
  split at he
  ·
   rename_i ks hk
   simp only [Bool.and_eq_true] at he
   exact h t ks a b hk he.1 he.2
  ·
   simp at he⟩
def scT (T:Tab) (t:TypeId) : Sc:=match T.ty t with
 | some i=>match i.desc with
  | .int k=>.int k
  | .bool=>.bool
  | .string=>.str
  | .slice e=>match T.ty e with
   | some ie=>.sl ie.size
   | none=>.any
  | _=>.any
 | none=>.any
def repL {α:Type} : Nat → List α → List α
 | 0,_=>[]
 | n + 1,x=>x ++ repL n x
def scsT (T:Tab) : Nat → TypeId → List Sc
 | 0,_=>[]
 | n + 1,t=>match T.ty t with
  | some i=>match i.desc with
   | .struct fs=>fs.toList.flatMap fun f=>scsT T n f.type
   | .array k e=>repL k (scsT T n e)
   | _=>[scT T t]
  | none=>[]
def shT (T:Tab) (t:TypeId) : Sh:=match T.ty t with
 | some i=>if isAggD i.desc then .st (scsT T 8 t) else .c (scT T t)
 | none=>.any
def castOp (T:Tab) (o:Oper) : Cs:=match o.op with
 | .load t _=>.v (shT T t)
 | .indexAddr t _ _=>match T.ty t with
  | some i=>match i.desc with
   | .slice e=>.p (shT T e)
   | _=>.any
  | none=>.any
 | .index _ _ _=>.v (shT T o.type)
 | .lookup _ _ _ false=>.v (shT T o.type)
 | .extract _ _=>.v (shT T o.type)
 | .field _ _ _=>.v (shT T o.type)
 | .pick _ _ _=>.v (shT T o.type)
 | .call { callee:=.value _,.. }=>.v (shT T o.type)
 | _=>.any
structure Pol where
 own : Nat → Bool:=fun _=>false
 keep : Nat → Bool:=fun _=>false
 lend : FuncId → Bool:=fun _=>false
 live : Nat → Option (List Bool):=fun _=>none
 after : Nat → Option (List Bool):=fun _=>none
 out : Option (List Bool):=none
 frz : Nat → Bool:=fun _=>false
 clm : Nat → List (Nat × Nat):=fun _=>[]
 raw : Nat → Bool:=fun _=>false
def mkFi (T:Tab) (fn:Func) (p:Pol) : Fi where
 fn:=fn
 code:=fn.body.getD .skip
 own:=p.own
 keep:=p.keep
 lend:=p.lend
 cast:=fun o=>if p.raw (o.dst.getD 0) then .any else castOp T o
 live:=p.live
 after:=p.after
 out:=p.out
 frz:=p.frz
 clm:=p.clm
def slots (n:Nat) (l:List Nat) : Option (List Bool):=some ((List.range n).map fun i=>l.any (Nat.beq i))
def isIn (l:List Nat) (n:Nat) : Bool:=l.any (Nat.beq n)
end Go.AM
/- The abstract machine,part 34: slices.Clone: a row of its own,whether what came in was nil or not. -/
namespace Go.AM
def cloneR0 (t : TypeId) : Code := .region 0 #[{ dst := some 2, op := .assign (.const (.slice none 0 0)), type := t, pos := "slices.go:355", after := #[], guard := none }] false
def cloneO4 (t : TypeId) : Oper := { dst := some 4, op := .binOp .eql t (.tmp 3) (.const (.slice none 0 0)) t, type := 4, pos := "slices.go:357", after := #[{ on := 0, ground := .data }], guard := none }
def cloneO1 (t : TypeId) : Array Oper := #[{ dst := some 3, op := .move (.tmp 0), type := t, pos := "slices.go:357", after := #[], guard := none },
 cloneO4 t]
def cloneR2 (t : TypeId) : Code := .seq (.region 2 #[{ dst := some 2, op := .assign (.const (.slice none 0 0)), type := t, pos := "slices.go:358", after := #[], guard := none }] false) .ret
def cloneR3 (t : TypeId) : Code := .seq (.region 3 #[{ dst := some 5, op := .buildSlice t 0 #[], type := t, pos := "slices.go:362", after := #[], guard := none },
 { dst := some 6, op := .move (.tmp 0), type := t, pos := "slices.go:362", after := #[], guard := none },
 { dst := some 7, op := .call { callee := .builtin .append, args := #[.tmp 5, .tmp 6], argTypes := #[t, t] }, type := t, pos := "slices.go:362", after := #[{ on := 0, ground := .data }, { on := 1, ground := .data }], guard := none },
 { dst := some 2, op := .assign (.tmp 7), type := t, pos := "slices.go:362", after := #[{ on := 2, ground := .data }, { on := 2, ground := .chain }, { on := 0, ground := .phase }, { on := 1, ground := .phase }, { on := 2, ground := .phase }], guard := none }] false) .ret
def cloneC (t:TypeId) : Code:=.seq (cloneR0 t) (.seq (.seq (.region 1 (cloneO1 t) false) (.cond (.tmp 4) (cloneR2 t) .skip)) (cloneR3 t))
def cloneFi (T:Tab) (fn:Func) : Fi:=mkFi T fn { own:=isIn [2,5] }
def cloneCond (bytes:Nat) (es:List D) : Prop:=(es.all fun d=>d.cells.all fun c=>okCell (.im c)) = true ∧ es.length * bytes ≤ 140737488355328 ∧ es.length ≤ 140737488355328
def cloneB (bytes:Nat) (es:List D) : Bool:=(es.all fun d=>d.cells.all fun c=>okCell (.im c)) && decide (es.length * bytes ≤ 140737488355328) && decide (es.length ≤ 140737488355328)
theorem cloneB_iff {bytes:Nat} {es:List D} : cloneB bytes es = true ↔ cloneCond bytes es:=by
 simp [cloneB,cloneCond,and_assoc]
def cloneSp (sz bytes:Nat) : Sp:=fun as H=>match as,H with
 | [.im d],[]=>match d.asSl sz with
  | some es=>if cloneB bytes es then some (.ref 0 0 es.length,[some (.c sz es)]) else none
  | none=>none
 | _,_=>none
def env1 (sz:Nat) (es:List D) : Env:=[.im (.sl false sz es),.tup [],.ref 0 0 0,.tup [],.tup [],.tup [],.tup [],.tup []]
def env2 (sz:Nat) (es:List D) : Env:=[.im (.sl false sz es),.tup [],.ref 0 0 0,.im (.sl false sz es),.tup [],.tup [],.tup [],.tup []]
theorem ret_of {X:Px} {lf id:Nat} {ops:Array Oper} {dr:Bool} {env:Env} {H:Heap} {r:Ex × Env × Heap} (h:exec X lf (.seq (.region id ops dr) .ret) env H = some r) : r.1 = .ret:=by
 simp only [exec] at h
 cases hx : (if dr = true then runD X ops env H else runF X ops ops.toList env H) with
 | none =>
  rw [hx] at h
  simp at h
 | some q =>
  rw [hx] at h
  obtain ⟨e,H2⟩:=q
  simp at h
  rw [← h]
theorem goes_val {P:Program} {v:Value} {w:World} {R:Value → World → Prop} (h:R v w) : Goes P (.ok (.value v) w) R:=h
theorem clone_ok {P:Program} {T:Tab} (hT:T.ok P) (hm:P.follows .mixedOrders = true) {f:FuncId} {fn:Func} {t e:TypeId} {sz bytes:Nat}
  (hget : P.funcs[f]? = some fn) (hname : (fn.name == "runtime.NumGoroutine") = false) (hbody : fn.body = some (cloneC t)) (hn : fn.ntmps = 8) (hres : fn.results.toList = [.tmp 2])
  (ht:P.underlying t = some (.slice e))
  (hr0:∀ es,exec ((cloneFi T fn).px T (fun _ _ _=>none) 0) 0 (cloneR0 t) [.im (.sl false sz es),.tup [],.tup [],.tup [],.tup [],.tup [],.tup [],.tup []] [] = some (.normal,env1 sz es,[some (.c sz [])]))
  (hop:∀ es o,(cloneO1 t)[0]? = some o → stepF ((cloneFi T fn).px T (fun _ _ _=>none) 0) (cloneO1 t) (env1 sz es) [some (.c sz [])] o = some (env2 sz es,[some (.c sz [])]))
  (hWt:∀ K,K (.ref 0 0 0) [some (.c sz [])] → W ((cloneFi T fn).px T (fun _ _ _=>none) 0) (fun _ _ _ _=>False) (cloneR2 t) ((env2 sz []).set 4 (.im (.bool true))) [some (.c sz [])] (finK T (cloneFi T fn) 0 K))
  (hWf:∀ es K,cloneCond bytes es → K (.ref 0 0 es.length) [some (.c sz es)] → W ((cloneFi T fn).px T (fun _ _ _=>none) 0) (fun _ _ _ _=>False) (cloneR3 t) ((env2 sz es).set 4 (.im (.bool false))) [some (.c sz [])] (finK T (cloneFi T fn) 0 K)) :
  Ok1 P f (cloneSp sz bytes):=by
 intro as H res H' hsp I κ w vals hw hdom hr
 unfold cloneSp at hsp
 split at hsp
 ·
  rename_i d
  split at hsp
  ·
   rename_i es hcast
   split at hsp
   ·
    rename_i hcond
    rw [cloneB_iff] at hcond
    simp at hsp
    obtain ⟨rfl,rfl⟩:=hsp
    have hvr : ∃ v,vals = [v] ∧ RV I κ (.im (.sl false sz es)) v:=by
     cases hr with
     | cons _ _ v _ h1 h2 =>
      cases h2
      cases h1 with
      | im _ _ h1=>exact ⟨v,rfl,.im _ _ (asSl_rd hcast h1)⟩
    obtain ⟨v,rfl,hv⟩:=hvr
    have hrun : (callFunc f #[v]).run P w = .ok (.enter f #[v]) w:=by
     have h1 : ¬ fn.name = "runtime.NumGoroutine" := by simpa using hname
     simp [callFunc,hget,h1,hbody]
    show Goes P ((callFunc f #[v]).run P w) _
    rw [hrun]
    show Calls P f #[v] w _
    have hbody' : fn.body = some (cloneC t):=hbody
    refine calls_of_wp hget hbody' ?_
    have hc0 : CallOK P (fun _ _ _=>none):=fun _ _ _ _ _ h=>by simp at h
    have hr0' : RelO (fun _ _ _=>none) (fun _ _ _ _=>False):=fun _ _ _ _ h=>h.elim
    let X : Px:=(cloneFi T fn).px T (fun _ _ _=>none) 0
    have s0 : Stx [] (lentOf κ) κ X.nl I w [] [.im (.sl false sz es),.tup [],.tup [],.tup [],.tup [],.tup [],.tup [],.tup []] { tmps:=#[v] ++ Array.replicate (fn.ntmps - 1) undef,defers:=[] } w:=by
     refine ⟨I,κ,hw,?_,.refl _,fun i b base cap sz nn h=>.inl ⟨i,base,cap,sz,nn,h⟩,hdom,rfl,fun _ _ _ h=>h,Nat.le_refl _⟩
     rw [hn]
     exact .cons _ _ _ _ hv (.cons _ _ _ _ undef_rv (.cons _ _ _ _ undef_rv (.cons _ _ _ _ undef_rv (.cons _ _ _ _ undef_rv (.cons _ _ _ _ undef_rv (.cons _ _ _ _ undef_rv (.cons _ _ _ _ undef_rv .nil)))))))
    have close : ∀ env2 H2, fin T 0 fn.results.toList env2 H2 = some (.ref 0 0 es.length, [some (.c sz es)]) → ∀ a' w', Stx [] (lentOf κ) κ X.nl I w H2 env2 a' w' → a'.defers = [] ∧ ∃ u, (results fn a'.tmps).run P w' = .ok u w' ∧
      ∃ I' κ', St [] (lentOf κ) κ 0 I w I' κ' [some (.c sz es)] w' [.ref 0 0 es.length] ⟨#[u], []⟩ := by
     intro env2 H2 hf a' w' ⟨I2,κ2,s2⟩
     unfold fin at hf
     split at hf
     ·
      rename_i vs hvs
      simp at hf
      obtain ⟨u,hu,hur⟩:=fin_run hT s2.wr s2.env hvs
      refine ⟨s2.nodef,u,hu,I2,pickK κ2 (keepL 0 H2 vs),?_⟩
      have s3 : St [] (lentOf κ) κ 0 I w I2 κ2 H2 w' [oneOf vs] ⟨#[u],[]⟩:=⟨s2.wr,.cons _ _ _ _ hur .nil,s2.mv,s2.own,s2.dom,rfl,fun i hi=>by omega,Nat.zero_le _⟩
      have:=s3.pick (keepL_nodup 0 H2 vs) (keepL_pre 0 H2 vs)
      rw [hf.2] at this
      simpa [AV.rens,hf.1] using this
     ·
      simp at hf
    have fin2 : ∀ (c:Code) (env2:Env) (H2:Heap),codeOK c = true → (∀ lf env H r,exec X lf c env H = some r → r.1 = .ret) → W X (fun _ _ _ _=>False) c env2 H2 (finK T (cloneFi T fn) 0 fun res H'=>res = .ref 0 0 es.length ∧ H' = [some (.c sz es)]) →
      ∀ (Q:Exit → Act → World → Prop) (a' : Act) (w' : World),Stx [] (lentOf κ) κ X.nl I w H2 env2 a' w' →
      (∀ a w', (a.defers = [] ∧ ∃ u, (results fn a.tmps).run P w' = .ok u w' ∧ ∃ I' κ', St [] (lentOf κ) κ 0 I w I' κ' [some (.c sz es)] w' [.ref 0 0 es.length] ⟨#[u], []⟩) → Q .ret a w') → c.wp P Q a' w' := by
     intro c env2 H2 hok hret hW Q a' w' s hQ
     obtain ⟨lf,x,e1,H1,h1,h⟩:=W_spec (X:=X) hr0' c hW
     unfold finK at h
     split at h
     ·
      exact h.elim
     ·
      rename_i hx
      split at h
      ·
       rename_i v H3 hf
       obtain ⟨rfl,rfl⟩:=h
       have hxr : x = .ret:=hret _ _ _ _ h1
       subst hxr
       exact exec_wp hT hc0 hm c hok s h1 fun a3 w3 s3=>hQ _ _ (close _ _ hf a3 w3 s3)
      ·
       exact h.elim
    refine wp_seq (exec_wp (X:=X) hT hc0 hm (cloneR0 t) rfl s0 (hr0 es) fun a1 w1 s1=>?_)
    refine wp_seq (wp_seq (wp_region ?_))
    show wpOps P (cloneO1 t) _ [0,1] a1 w1
    rw [wpOps_cons]
    refine stepF_wp (X:=X) hT hc0 s1 (ops:=cloneO1 t) (i:=0) rfl (hop es _ rfl) fun a2 w2 s2=>?_
    rw [wpOps_cons]
    obtain ⟨I2,κ2,s2⟩:=s2
    obtain ⟨v3,hv3,hr3⟩:=s2.env.get (i:=3) (d:=.im (.sl false sz es)) rfl
    have hv3' : a2.tmps.getD 3 undef = v3:=by
     simp at hv3
     simp [Array.getD_eq_getD_getElem?,hv3]
    have key : ∃ b : Bool,(b = true → es = []) ∧ (binOp .eql t v3 (.slice none 0 0)).run P w2 = .ok (.bool b) w2 ∧ ∃ a n c,v3 = .slice a n c:=by
     cases hr3 with
     | im _ _ hr3 =>
     cases hr3 with
     | slnil =>
      refine ⟨true,fun _=>rfl,?_,_,_,_,rfl⟩
      simp only [binOp]
      simp [run_equal_slice_nil w2 t e none 0 0 ht]
     | slz _ _ aa hz0 =>
      refine ⟨false,by simp,?_,_,_,_,rfl⟩
      simp only [binOp]
      simp [run_equal_slice_nil w2 t e (some aa) 0 0 ht]
     | sle _ A nn hz0 =>
      cases A with
      | none =>
       refine ⟨true,fun _=>rfl,?_,_,_,_,rfl⟩
       simp only [binOp]
       simp [run_equal_slice_nil w2 t e none 0 nn ht]
      | some aa =>
       refine ⟨false,by simp,?_,_,_,_,rfl⟩
       simp only [binOp]
       simp [run_equal_slice_nil w2 t e (some aa) 0 nn ht]
     | sl _ _ _ b off cap c vs h0 h1 h2 h3 h4 h5 h6 =>
      refine ⟨false,by simp,?_,_,_,_,rfl⟩
      simp only [binOp]
      simp [run_equal_slice_nil w2 t e _ _ _ ht]
    obtain ⟨b,hb,hrunb,aa,nn,cc,hv3s⟩:=key
    unfold wpOp
    refine .inl ?_
    refine Goes.wp ?_
    have hrun1 : (execOp a2.eval (cloneO4 t)).run P w2 = .ok (.value (.bool b)) w2:=by
     unfold execOp cloneO4
     simp only [Act.eval,hv3']
     subst hv3s
     simp [eqGuard_at_slice,hrunb]
    show Goes P ((execOp a2.eval (cloneO4 t)).run P w2) _
    rw [hrun1]
    refine goes_val ?_
    have s3:=s2.set (x:=.im (.bool b)) (v:=.bool b) (.im _ _ (.bool b)) (some 4)
    have heval : (a2.put (some 4) (.bool b)).eval (.tmp 4) = .bool b:=by
     have h4 : a2.tmps.size = 8:=by have:=s2.env.length; simpa [env2] using this
     simp [Act.put,Act.eval,Array.getD_eq_getD_getElem?,h4]
    cases b with
    | true =>
     have hes:=hb rfl
     subst hes
     refine wp_cond_true heval ?_
     exact fin2 (cloneR2 t) _ _ rfl (fun lf env H r h=>ret_of h) (hWt _ ⟨rfl,rfl⟩) _ _ _ ⟨_,_,s3⟩ fun a w h2=>h2
    | false =>
     refine wp_cond_false heval (wp_skip ?_)
     exact fin2 (cloneR3 t) _ _ rfl (fun lf env H r h=>ret_of h) (hWf es _ hcond ⟨rfl,rfl⟩) _ _ _ ⟨_,_,s3⟩ fun a w h2=>h2
   ·
    simp at hsp
  ·
   simp at hsp
 ·
  simp at hsp
end Go.AM
/- The abstract machine,part 35: a function that hands back a bool and a row of its own,or data. -/
namespace Go.AM
end Go.AM
/- The abstract machine,part 36: what a claim reads of its arguments is data,of the shapes of its types. -/
namespace Go.AM
def imm (w:World) (b:Nat) : Option (Array Value):=match w.heap[b]? with
 | some (.cells c _ _)=>some c
 | _=>none
def wtFs (P:Program) (W:TypeId → List D → Prop) : List Field → List D → Prop
 | [],cs=>cs = []
 | f :: fs,cs=>∃ a b,cs = a ++ b ∧ a.length = P.cellsOf f.type ∧ W f.type a ∧ wtFs P W fs b
def elD (P:Program) (e:TypeId) (d:D) : Prop:=match P.underlying e with
 | some (.struct _)=>∃ cs,d = .agg cs
 | _=>d.noAgg = true
def wt (P:Program) : Nat → TypeId → List D → Prop
 | 0,_,_=>False
 | n + 1,t,cs=>match P.underlying t with
  | some .bool=>∃ b,cs = [.bool b]
  | some (.int k)=>∃ m,cs = [.int k m] ∧ k.min ≤ m ∧ m ≤ k.max
  | some .string=>∃ s : List UInt8,cs = [.str s] ∧ s.length ≤ 9223372036854775807
  | some (.slice e)=>∃ es,cs = [.sl false (P.cellsOf e) es] ∧ es.length ≤ 9223372036854775807 ∧ ∀ d ∈ es,wt P n e d.cells ∧ elD P e d
  | some (.struct fs)=>wtFs P (wt P n) fs.toList cs
  | _=>False
def tiles (P:Program) : Nat → List Field → Nat → Bool
 | o,[],z=>o == z
 | o,f :: fs,z=>f.offset == o && tiles P (o + P.cellsOf f.type) fs z
def supp (P:Program) : Nat → TypeId → Bool
 | 0,_=>false
 | n + 1,t=>match P.underlying t with
  | some .bool=>true
  | some (.int _)=>true
  | some .string=>true
  | some (.slice e)=>P.cellsOf e != 0 && supp P n e
  | some (.struct fs)=>tiles P 0 fs.toList (P.cellsOf t) && fs.toList.all fun f=>supp P n f.type
  | _=>false
theorem tiles_le {P:Program} : ∀ {fs:List Field} {o z:Nat},tiles P o fs z = true → o ≤ z
 | [],o,z,h=>by simp [tiles] at h; omega
 | f :: fs,o,z,h=>by
  simp only [tiles,Bool.and_eq_true] at h
  have:=tiles_le h.2
  omega
theorem fields_rd {P:Program} {I:Nat → Option (Array Value)} {W:TypeId → List D → Prop} {cs:List Value} : ∀ {fs:List Field} {o:Nat},tiles P o fs cs.length = true →
  (∀ f ∈ fs,∃ ds,RDs I ds ((cs.drop f.offset).take (P.cellsOf f.type)) ∧ W f.type ds) → ∃ ds,RDs I ds (cs.drop o) ∧ wtFs P W fs ds
 | [],o,h,_=>by
  simp [tiles] at h
  refine ⟨[],?_,rfl⟩
  rw [h,List.drop_length]
  exact .nil
 | f :: fs,o,h,hf=>by
  simp only [tiles,Bool.and_eq_true,beq_iff_eq] at h
  obtain ⟨h1,h2⟩:=h
  obtain ⟨a,ha,hwa⟩:=hf f (by simp)
  obtain ⟨b,hb,hwb⟩:=fields_rd h2 (fun g hg=>hf g (by simp [hg]))
  rw [h1] at ha
  have hle:=tiles_le h2
  refine ⟨a ++ b,?_,a,b,rfl,?_,hwa,hwb⟩
  ·
   have:=ha.append hb
   rwa [show (cs.drop o).take (P.cellsOf f.type) ++ cs.drop (o + P.cellsOf f.type) = cs.drop o by
    rw [← List.drop_drop,List.take_append_drop]] at this
  ·
   have:=ha.length
   rw [← this]
   simp
   omega
theorem mapM_some {α β:Type} {f:α → Option β} : ∀ {l:List α} {r:List β},l.mapM f = some r → ∀ x ∈ l,∃ y,f x = some y
 | [],r,h,x,hx=>by simp at hx
 | a :: l,r,h,x,hx=>by
  rw [List.mapM_cons] at h
  cases ha : f a with
  | none=>rw [ha] at h; simp at h
  | some y =>
   rw [ha] at h
   cases hl : l.mapM f with
   | none=>rw [hl] at h; simp at h
   | some ys =>
    rcases List.mem_cons.1 hx with rfl | hx
    ·
     exact ⟨y,ha⟩
    ·
     exact mapM_some hl x hx
theorem mapM_all {α β:Type} {f:α → Option β} : ∀ {l:List α} {r:List β},l.mapM f = some r → r.length = l.length ∧ ∀ (i:Nat) (x:α),l[i]? = some x → f x = r[i]?
 | [],r,h=>by simp at h; subst h; simp
 | a :: l,r,h=>by
  rw [List.mapM_cons] at h
  cases ha : f a with
  | none=>rw [ha] at h; simp at h
  | some y =>
   rw [ha] at h
   cases hl : l.mapM f with
   | none=>rw [hl] at h; simp at h
   | some ys =>
    rw [hl] at h
    simp at h
    subst h
    obtain ⟨h1,h2⟩:=mapM_all hl
    refine ⟨by simp [h1],fun i x hx=>?_⟩
    cases i with
    | zero=>simp at hx; subst hx; simpa using ha
    | succ i=>simp at hx; simpa using h2 i x hx
theorem add_block (a:Addr) (n:Nat) : (a.add n).block = a.block:=by unfold Addr.add; split <;> rfl
theorem add_off (a:Addr) (n:Nat) : (a.add n).off = a.off + n:=by
 unfold Addr.add
 split
 ·
  rename_i h; rw [h]; rfl
 ·
  rfl
theorem cell_imm {w:World} {a:Addr} {x:Value} (h:w.cell? a = some x) : a.spot = none ∧ ∃ c,imm w a.block = some c ∧ c[a.off]? = some x:=by
 unfold World.cell? at h
 split at h
 ·
  rename_i c T fz hb
  split at h
  ·
   cases h
  ·
   rename_i hs
   simp at hs
   exact ⟨hs,c,by simp [imm,hb],h⟩
 ·
  cases h
theorem cells_at {w:World} {base:Nat} {a:Addr} {n:Nat} {cs:List Value} (h:w.cells? base a n = some cs) (h0:0 < n) :
  a.spot = none ∧ cs.length = n ∧ ∃ c,imm w a.block = some c ∧ ∀ i x,cs[i]? = some x → c[a.off + i]? = some x:=by
 unfold World.cells? at h
 split at h
 ·
  obtain ⟨hl,hg⟩:=mapM_all h
  simp at hl
  have key : ∀ i,i < n → w.cell? (a.add i) = cs[i]?:=fun i hi=>hg i i (by simp [hi])
  have h00:=key 0 h0
  rw [List.getElem?_eq_getElem (show 0 < cs.length by omega)] at h00
  obtain ⟨hs,c,hc,_⟩:=cell_imm h00
  rw [add_block] at hc
  have hz : a.add 0 = a:=by simp [Addr.add]
  rw [hz] at hs
  refine ⟨hs,hl,c,hc,fun i x hx=>?_⟩
  have hi : i < n:=by
   rcases Nat.lt_or_ge i cs.length with h | h
   ·
    omega
   ·
    rw [List.getElem?_eq_none h] at hx; cases hx
  have hk:=key i hi
  rw [hx] at hk
  obtain ⟨_, c', hc', hg'⟩ := cell_imm hk
  rw [add_block,hc] at hc'
  cases hc'
  rw [add_off] at hg'
  exact hg'
 ·
  cases h
theorem wt_len {P:Program} {n:Nat} {t:TypeId} {cs:List D} (h:wt P n t cs) (hs:∀ fs,P.underlying t ≠ some (.struct fs)) : ∃ d,cs = [d] ∧ d.noAgg = true:=by
 cases n with
 | zero=>exact h.elim
 | succ n =>
  unfold wt at h
  split at h
  ·
   obtain ⟨b,rfl⟩:=h; exact ⟨_,rfl,rfl⟩
  ·
   obtain ⟨m,rfl,_⟩:=h; exact ⟨_,rfl,rfl⟩
  ·
   obtain ⟨s,rfl,_⟩:=h; exact ⟨_,rfl,rfl⟩
  ·
   obtain ⟨es,rfl,_⟩:=h; exact ⟨_,rfl,rfl⟩
  ·
   rename_i fs he; exact absurd he (hs fs)
  ·
   exact h.elim
theorem elem_of {P:Program} {n:Nat} {e:TypeId} {ds:List D} (h:wt P n e ds) : ∃ d : D,d.cells = ds ∧ elD P e d:=by
 by_cases hs : ∃ fs,P.underlying e = some (.struct fs)
 ·
  obtain ⟨fs,hs⟩:=hs
  exact ⟨.agg ds,rfl,by unfold elD; rw [hs]; exact ⟨ds,rfl⟩⟩
 ·
  obtain ⟨d,rfl,hd⟩:=wt_len h (fun fs hf=>hs ⟨fs,hf⟩)
  refine ⟨d,noAgg_cells hd,?_⟩
  unfold elD
  split
  ·
   rename_i fs hf; exact absurd ⟨fs,hf⟩ hs
  ·
   exact hd
theorem elems_rd {P:Program} {w:World} {n:Nat} {e:TypeId} {sz:Nat} (a:Addr) : ∀ (m k:Nat),(∀ i,i < m → ∃ (cs:List Value) (ds:List D),w.cells? 0 (a.add ((k + i) * sz)) sz = some cs ∧ RDs (imm w) ds cs ∧ wt P n e ds) → 0 < sz →
  ∃ (es:List D) (vs:List Value),es.length = m ∧ RDs (imm w) (es.flatMap D.cells) vs ∧ (∀ d ∈ es,d.cells.length = sz ∧ wt P n e d.cells ∧ elD P e d) ∧
   ∀ (c:Array Value),imm w a.block = some c → ∀ i x,vs[i]? = some x → c[a.off + k * sz + i]? = some x
 | 0,k,_,h0=>⟨[],[],rfl,.nil,by simp,by simp⟩
 | m + 1,k,h,h0=>by
  obtain ⟨cs,ds,hcs,hrd,hwt⟩:=h 0 (by omega)
  obtain ⟨hsp,hl,c,hc,hat⟩:=cells_at hcs h0
  obtain ⟨d,hd,hel⟩:=elem_of hwt
  obtain ⟨es,vs,he1,he2,he3,he4⟩:=elems_rd (P:=P) (w:=w) (n:=n) (e:=e) a m (k + 1) (fun i hi=>by
   obtain ⟨cs,ds,h1,h2,h3⟩:=h (i + 1) (by omega)
   exact ⟨cs,ds,by rw [show k + 1 + i = k + (i + 1) by omega]; exact h1,h2,h3⟩) h0
  have hdl : d.cells.length = sz:=by rw [hd,← hrd.length,hl]
  refine ⟨d :: es,cs ++ vs,by simp [he1],?_,?_,?_⟩
  ·
   rw [List.flatMap_cons,hd]
   exact hrd.append he2
  ·
   intro x hx
   rcases List.mem_cons.1 hx with rfl | hx
   ·
    exact ⟨hdl,by rw [hd]; exact hwt,hel⟩
   ·
    exact he3 x hx
  ·
   intro c' hc' i x hx
   rw [List.getElem?_append] at hx
   split at hx
   ·
    rename_i hi
    have hcc : c = c':=by
     rw [add_block,hc'] at hc
     exact (Option.some.inj hc).symm
    have:=hat i x hx
    rw [add_off,Nat.add_zero] at this
    rw [← hcc]
    exact this
   ·
    rename_i hi
    have:=he4 c' hc' _ x hx
    rw [← this]
    congr 1
    rw [Nat.add_mul]
    omega
theorem trod_rd {H:Type} {enc:TypeId × Value → H} {P:Program} {w:World} : ∀ (n:Nat) {t:TypeId} {cs:List Value} {x:DataW H × List MemPlace} (m:Nat),supp P m t = true →
  DataW.trod enc P w 0 (fun _=>true) true n t cs = some x → ∃ ds,RDs (imm w) ds cs ∧ wt P m t ds
 | 0,t,cs,x,m,hs,h=>by simp [DataW.trod] at h
 | n + 1,t,cs,x,0,hs,h=>by simp [supp] at hs
 | n + 1,t,cs,x,m + 1,hs,h=>by
  unfold supp at hs
  split at hs
  ·
   rename_i ht
   unfold DataW.trod at h
   rw [ht] at h
   split at h <;> simp_all
   exact ⟨[.bool _],.cons _ _ _ _ (.bool _) .nil,by unfold wt; rw [ht]; exact ⟨_,rfl⟩⟩
  ·
   rename_i k ht
   obtain ⟨q,rfl,rfl,hw⟩:=DataW.trod_int ht h
   simp only [Lit.wf,Bool.and_eq_true,decide_eq_true_eq] at hw
   exact ⟨[.int k q],.cons _ _ _ _ (.int _ _) .nil,by unfold wt; rw [ht]; exact ⟨_,rfl,hw.1,hw.2⟩⟩
  ·
   rename_i ht
   obtain ⟨s,rfl,_,hz⟩:=DataW.trod_string ht h
   refine ⟨[.str s.data.toList],.cons _ _ _ _ ?_ .nil,by
    unfold wt
    rw [ht]
    refine ⟨_,rfl,?_⟩
    have h2 : s.data.toList.length = s.size:=Array.length_toList
    have hz' : s.size ≤ 9223372036854775807:=hz
    omega⟩
   have:=RD.str (I:=imm w) s.data.toList
   simpa using this
  ·
   rename_i e ht
   simp only [Bool.and_eq_true,bne_iff_ne,ne_eq] at hs
   obtain ⟨hz,hse⟩:=hs
   have h0 : 0 < P.cellsOf e:=by omega
   rcases DataW.trod_slice ht h with ⟨rfl, _⟩ | ⟨a, len, cap, elems, rest, n', hn, rfl, _, _, hlc, hcm, hel, hget, hsp, _⟩
   ·
    exact ⟨[.sl false (P.cellsOf e) []],.cons _ _ _ _ (.slnil _ _) .nil,by unfold wt; rw [ht]; exact ⟨[],rfl,Nat.zero_le _,by simp⟩⟩
   ·
    simp at hn
    subst hn
    obtain ⟨hrl,hrest⟩:=hsp rfl
    have each : ∀ i,i < cap → ∃ (cs:List Value) (ds:List D),w.cells? 0 (a.add ((0 + i) * P.cellsOf e)) (P.cellsOf e) = some cs ∧ RDs (imm w) ds cs ∧ wt P m e ds:=by
     intro i hi
     have hb : ∃ y,(w.cells? 0 (a.add (i * P.cellsOf e)) (P.cellsOf e)).bind (DataW.trod enc P w 0 (fun _=>true) true n e) = some y:=by
      by_cases hil : i < len
      ·
       exact ⟨elems[i]'(by omega),by rw [hget i hil,List.getElem?_eq_getElem]⟩
      ·
       refine ⟨rest[i - len]'(by omega),?_⟩
       have:=hrest (i - len) (by omega)
       rw [show len + (i - len) = i by omega] at this
       rw [this,List.getElem?_eq_getElem]
     obtain ⟨y,hy⟩:=hb
     rw [Option.bind_eq_some_iff] at hy
     obtain ⟨cs', h1, h2⟩ := hy
     obtain ⟨ds,h3,h4⟩:=trod_rd n m hse h2
     exact ⟨cs', ds, by rw [Nat.zero_add]; exact h1, h3, h4⟩
    by_cases hc0 : cap = 0
    ·
     have hl0 : len = 0:=by omega
     subst hc0 hl0
     exact ⟨[.sl false (P.cellsOf e) []],.cons _ _ _ _ (.slz _ _ a h0) .nil,by unfold wt; rw [ht]; exact ⟨[],rfl,Nat.zero_le _,by simp⟩⟩
    ·
     obtain ⟨cs0,ds0,h1,_,_⟩:=each 0 (by omega)
     obtain ⟨hspot,_,c,hc,_⟩:=cells_at h1 h0
     rw [add_block] at hc
     have hz0 : a.add ((0 + 0) * P.cellsOf e) = a:=by simp [Addr.add]
     rw [hz0] at hspot
     obtain ⟨es,vs,he1,he2,he3,he4⟩:=elems_rd (P:=P) (w:=w) (n:=m) (e:=e) a len 0 (fun i hi=>each i (by omega)) h0
     obtain ⟨es', vs', hf1, hf2, hf3, hf4⟩ := elems_rd (P := P) (w := w) (n := m) (e := e) a cap 0 each h0
     have hcap : a.off + cap * P.cellsOf e ≤ c.size:=by
      have hvl : vs'.length = cap * P.cellsOf e:=by
       rw [hf2.length,flat_len D.cells (P.cellsOf e) es' (fun d hd=>(hf3 d hd).1),hf1]
      have hpos : 0 < cap * P.cellsOf e:=Nat.mul_pos (by omega) h0
      have:=hf4 c hc (cap * P.cellsOf e - 1) _ (List.getElem?_eq_getElem (by omega))
      rcases Nat.lt_or_ge (a.off + 0 * P.cellsOf e + (cap * P.cellsOf e - 1)) c.size with h | h
      ·
       omega
      ·
       rw [Array.getElem?_eq_none h] at this; cases this
     have ha : a = ⟨a.block,a.off,none⟩:=by
      cases a
      simp at hspot
      simp [hspot]
     refine ⟨[.sl false (P.cellsOf e) es],.cons _ _ _ _ ?_ .nil,?_⟩
     ·
      rw [ha,← he1]
      refine .sl false (P.cellsOf e) es a.block a.off cap c vs h0 hc he2 (fun i x hx=>?_) (fun d hd=>(he3 d hd).1) (by simp) (by omega)
      have:=he4 c hc i x hx
      simpa using this
     ·
      unfold wt
      rw [ht]
      exact ⟨es,rfl,by have hcm' : cap ≤ 9223372036854775807:=hcm; omega,fun d hd=>(he3 d hd).2⟩
  ·
   rename_i fs ht
   simp only [Bool.and_eq_true] at hs
   unfold DataW.trod at h
   rw [ht] at h
   simp only at h
   split at h
   ·
    rename_i hlen
    simp only [Option.map_eq_some_iff] at h
    obtain ⟨xs,hxs,_⟩:=h
    have hall:=mapM_some hxs
    rw [← hlen] at hs
    obtain ⟨ds,hd,hw⟩:=fields_rd (W:=wt P m) (I:=imm w) hs.1 (fun f hf=>by
     obtain ⟨y,hy⟩:=hall f hf
     exact trod_rd n m (List.all_eq_true.1 hs.2 f hf) hy)
    exact ⟨ds,by simpa using hd,by unfold wt; rw [ht]; exact hw⟩
   ·
    simp at h
  ·
   simp at hs
end Go.AM
/- The abstract machine,part 37: from a function's contract to what a claim asks. -/
namespace Go.AM
theorem imm_wr (w:World) : WR (imm w) (fun _=>none) [] w:=by
 refine ⟨fun b c h=>?_,fun _ _ h=>by simp at h,fun _ _ _ _ _ _ _ _ _ _ _ h=>by simp at h,fun _ _ _ _ _ _ h=>by simp at h⟩
 unfold imm at h
 split at h
 ·
  rename_i c' T fz hb
  simp at h
  subst h
  exact ⟨T,fz,hb⟩
 ·
  cases h
theorem arg_cell {H:Type} {enc:TypeId × Value → H} {P:Program} {w:World} {t:TypeId} {v:Value} {d:DataW H} {p:List MemPlace} (m:Nat) (hs:supp P m t = true) (hv:v.cells.toList = [v])
  (h:DataW.Trod enc P w 0 (fun _=>true) true t v d p) : ∃ x,RV (imm w) (fun _=>none) (.im x) v ∧ wt P m t [x]:=by
 obtain ⟨n,h⟩:=h
 obtain ⟨ds,h1,h2⟩:=trod_rd n m hs h
 rw [hv] at h1
 cases h1 with
 | cons x _ _ _ h1 h3 =>
  cases h3
  exact ⟨x,.im _ _ h1,h2⟩
end Go.AM
/- The abstract machine,part 64: arguments of types that hold themselves. -/
namespace Go.AM
def suppT (P:Program) (ts:List TypeId) (t:TypeId) : Bool:=match P.underlying t with
 | some .bool=>true
 | some (.int _)=>true
 | some .string=>true
 | some (.slice e)=>P.cellsOf e != 0 && ts.contains e
 | some (.struct fs)=>tiles P 0 fs.toList (P.cellsOf t) && fs.toList.all fun f=>ts.contains f.type
 | _=>false
def suppC (P:Program) (ts:List TypeId) : Bool:=ts.all fun t=>suppT P ts t
theorem trod_rdC {H:Type} {enc:TypeId × Value → H} {P:Program} {w:World} {ts:List TypeId} (hts:suppC P ts = true) : ∀ (n:Nat) {t:TypeId} {cs:List Value} {x:DataW H × List MemPlace},t ∈ ts →
  DataW.trod enc P w 0 (fun _=>true) true n t cs = some x → ∃ ds,RDs (imm w) ds cs ∧ wt P n t ds
 | 0,t,cs,x,hs,h=>by simp [DataW.trod] at h
 | n + 1,t,cs,x,hs,h=>by
  have hs:=List.all_eq_true.1 hts t hs
  unfold suppT at hs
  split at hs
  ·
   rename_i ht
   unfold DataW.trod at h
   rw [ht] at h
   split at h <;> simp_all
   exact ⟨[.bool _],.cons _ _ _ _ (.bool _) .nil,by unfold wt; rw [ht]; exact ⟨_,rfl⟩⟩
  ·
   rename_i k ht
   obtain ⟨q,rfl,rfl,hw⟩:=DataW.trod_int ht h
   simp only [Lit.wf,Bool.and_eq_true,decide_eq_true_eq] at hw
   exact ⟨[.int k q],.cons _ _ _ _ (.int _ _) .nil,by unfold wt; rw [ht]; exact ⟨_,rfl,hw.1,hw.2⟩⟩
  ·
   rename_i ht
   obtain ⟨s,rfl,_,hz⟩:=DataW.trod_string ht h
   refine ⟨[.str s.data.toList],.cons _ _ _ _ ?_ .nil,by
    unfold wt
    rw [ht]
    refine ⟨_,rfl,?_⟩
    have h2 : s.data.toList.length = s.size:=Array.length_toList
    have hz' : s.size ≤ 9223372036854775807:=hz
    omega⟩
   have:=RD.str (I:=imm w) s.data.toList
   simpa using this
  ·
   rename_i e ht
   simp only [Bool.and_eq_true,bne_iff_ne,ne_eq] at hs
   obtain ⟨hz,hse⟩:=hs
   have h0 : 0 < P.cellsOf e:=by omega
   rcases DataW.trod_slice ht h with ⟨rfl, _⟩ | ⟨a, len, cap, elems, rest, n', hn, rfl, _, _, hlc, hcm, hel, hget, hsp, _⟩
   ·
    exact ⟨[.sl false (P.cellsOf e) []],.cons _ _ _ _ (.slnil _ _) .nil,by unfold wt; rw [ht]; exact ⟨[],rfl,Nat.zero_le _,by simp⟩⟩
   ·
    simp at hn
    subst hn
    obtain ⟨hrl,hrest⟩:=hsp rfl
    have each : ∀ i,i < cap → ∃ (cs:List Value) (ds:List D),w.cells? 0 (a.add ((0 + i) * P.cellsOf e)) (P.cellsOf e) = some cs ∧ RDs (imm w) ds cs ∧ wt P n e ds:=by
     intro i hi
     have hb : ∃ y,(w.cells? 0 (a.add (i * P.cellsOf e)) (P.cellsOf e)).bind (DataW.trod enc P w 0 (fun _=>true) true n e) = some y:=by
      by_cases hil : i < len
      ·
       exact ⟨elems[i]'(by omega),by rw [hget i hil,List.getElem?_eq_getElem]⟩
      ·
       refine ⟨rest[i - len]'(by omega),?_⟩
       have:=hrest (i - len) (by omega)
       rw [show len + (i - len) = i by omega] at this
       rw [this,List.getElem?_eq_getElem]
     obtain ⟨y,hy⟩:=hb
     rw [Option.bind_eq_some_iff] at hy
     obtain ⟨cs', h1, h2⟩ := hy
     obtain ⟨ds,h3,h4⟩:=trod_rdC hts n (List.contains_iff_mem.1 hse) h2
     exact ⟨cs', ds, by rw [Nat.zero_add]; exact h1, h3, h4⟩
    by_cases hc0 : cap = 0
    ·
     have hl0 : len = 0:=by omega
     subst hc0 hl0
     exact ⟨[.sl false (P.cellsOf e) []],.cons _ _ _ _ (.slz _ _ a h0) .nil,by unfold wt; rw [ht]; exact ⟨[],rfl,Nat.zero_le _,by simp⟩⟩
    ·
     obtain ⟨cs0,ds0,h1,_,_⟩:=each 0 (by omega)
     obtain ⟨hspot,_,c,hc,_⟩:=cells_at h1 h0
     rw [add_block] at hc
     have hz0 : a.add ((0 + 0) * P.cellsOf e) = a:=by simp [Addr.add]
     rw [hz0] at hspot
     obtain ⟨es,vs,he1,he2,he3,he4⟩:=elems_rd (P:=P) (w:=w) (n:=n) (e:=e) a len 0 (fun i hi=>each i (by omega)) h0
     obtain ⟨es', vs', hf1, hf2, hf3, hf4⟩ := elems_rd (P := P) (w := w) (n := n) (e := e) a cap 0 each h0
     have hcap : a.off + cap * P.cellsOf e ≤ c.size:=by
      have hvl : vs'.length = cap * P.cellsOf e:=by
       rw [hf2.length,flat_len D.cells (P.cellsOf e) es' (fun d hd=>(hf3 d hd).1),hf1]
      have hpos : 0 < cap * P.cellsOf e:=Nat.mul_pos (by omega) h0
      have:=hf4 c hc (cap * P.cellsOf e - 1) _ (List.getElem?_eq_getElem (by omega))
      rcases Nat.lt_or_ge (a.off + 0 * P.cellsOf e + (cap * P.cellsOf e - 1)) c.size with h | h
      ·
       omega
      ·
       rw [Array.getElem?_eq_none h] at this; cases this
     have ha : a = ⟨a.block,a.off,none⟩:=by
      cases a
      simp at hspot
      simp [hspot]
     refine ⟨[.sl false (P.cellsOf e) es],.cons _ _ _ _ ?_ .nil,?_⟩
     ·
      rw [ha,← he1]
      refine .sl false (P.cellsOf e) es a.block a.off cap c vs h0 hc he2 (fun i x hx=>?_) (fun d hd=>(he3 d hd).1) (by simp) (by omega)
      have:=he4 c hc i x hx
      simpa using this
     ·
      unfold wt
      rw [ht]
      exact ⟨es,rfl,by have hcm' : cap ≤ 9223372036854775807:=hcm; omega,fun d hd=>(he3 d hd).2⟩
  ·
   rename_i fs ht
   simp only [Bool.and_eq_true] at hs
   unfold DataW.trod at h
   rw [ht] at h
   simp only at h
   split at h
   ·
    rename_i hlen
    simp only [Option.map_eq_some_iff] at h
    obtain ⟨xs,hxs,_⟩:=h
    have hall:=mapM_some hxs
    rw [← hlen] at hs
    obtain ⟨ds,hd,hw⟩:=fields_rd (W:=wt P n) (I:=imm w) hs.1 (fun f hf=>by
     obtain ⟨y,hy⟩:=hall f hf
     exact trod_rdC hts n (List.contains_iff_mem.1 (List.all_eq_true.1 hs.2 f hf)) hy)
    exact ⟨ds,by simpa using hd,by unfold wt; rw [ht]; exact hw⟩
   ·
    simp at h
  ·
   simp at hs
theorem arg_structC {H:Type} {enc:TypeId × Value → H} {P:Program} {w:World} {t:TypeId} {cs:Array Value} {d:DataW H} {p:List MemPlace} (ts:List TypeId) (hts:suppC P ts = true) (ht:ts.contains t = true)
  (h:DataW.Trod enc P w 0 (fun _=>true) true t (.agg cs) d p) : ∃ n ds,RV (imm w) (fun _=>none) (.im (.agg ds)) (.agg cs) ∧ wt P n t ds:=by
 obtain ⟨n,h⟩:=h
 obtain ⟨ds,h1,h2⟩:=trod_rdC hts n (List.contains_iff_mem.1 ht) h
 refine ⟨n,ds,.im _ _ ?_,h2⟩
 have:=RD.agg ds _ h1
 simpa [Value.cells] using this
end Go.AM