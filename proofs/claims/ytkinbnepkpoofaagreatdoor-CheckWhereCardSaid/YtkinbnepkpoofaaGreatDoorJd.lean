/- Texts joined into one: Am39 Am41 Am42 Am43 Am44 Am40 Am45 Am46 Am63 Am47 Am48. -/
import Derived.Test.YtkinbnepkpoofaaGreatDoorJc
import Derived.Recover
/- The abstract machine,part 39: runs in which functions may panic,and call themselves. -/
set_option linter.unusedVariables false
set_option linter.unusedSimpArgs false
namespace Go.AM
inductive Ez where
 | normal
 | exit (id:Nat)
 | ret
 | pan (x:AV)
 deriving Inhabited
def pan1 (v:Value) : Exit:=.panic [{ v:=v,recovered:=false }]
def Ez.to : Ez → Exit
 | .normal=>.normal
 | .exit id=>.exit id
 | .ret=>.ret
 | .pan _=>.ret
def Ez.isPan : Ez → Bool
 | .pan _=>true
 | _=>false
def PanOK (P:Program) (pan:Oracle) : Prop:=∀ (f:FuncId) (as:List AV) (H:Heap) (x:AV) (H' : Heap),pan f as H = some (x,H') →
 ∀ (I:Nat → Option (Array Value)) (κ:Nat → Option Loc) (w:World) (vals:List Value),WR I κ H w → (∀ i blk,H[i]? = some (some blk) → ∃ l,κ i = some l) → RVs I κ as vals →
  (callFunc f vals.toArray).run P w = .ok (.enter f vals.toArray) w ∧ Calls P f vals.toArray w fun e w'=>∃ v,e = .panicked [{ v:=v,recovered:=false }] ∧
   ∃ I' κ', St [] (lentOf κ) κ H.length I w I' κ' H' w' [x] ⟨#[v], []⟩
def panO (pan:Oracle) (ops:Array Oper) (env:Env) (H:Heap) (o:Oper) : Option (AV × Env × Heap) :=
 match guardOf ops env o with
 | some true=>match o.op with
  | .panic x=>match opd env x with
   | some (.im (.ifc t d))=>some (.im (.ifc t d),env,H)
   | some (.ifc t y)=>some (.ifc t y,env,H)
   | _=>none
  | .call { callee:=.value f,args,.. }=>match opd env f,opds env args.toList with
   | some fv,some as=>match fnOf fv with
    | some (g,a,c)=>callL pan env H g (a ++ as ++ c)
    | none=>none
   | _,_=>none
  | _=>none
 | _=>none
section
variable {P:Program} {I I' : Nat → Option (Array Value)} {κ κ' : Nat → Option Loc} {w w' : World} {H H' : Heap} {DF:List Deferred} {A:Nat → Prop} {κ0:Nat → Option Loc} {I0:Nat → Option (Array Value)} {w0:World} {env env' : Env} {a:Act} {ops:Array Oper} {Q:Exit → Act → World → Prop} {X:Px} {pan:Oracle} {nl:Nat}
def Meets (DF:List Deferred) (A:Nat → Prop) (κ0:Nat → Option Loc) (nl:Nat) (I0:Nat → Option (Array Value)) (w0:World) (e:Ez) (env' : Env) (H' : Heap) (Q:Exit → Act → World → Prop) : Prop :=
 (e.isPan = false → ∀ a' w', Stx DF A κ0 nl I0 w0 H' env' a' w' → Q e.to a' w') ∧
 ∀ x,e = .pan x → ∀ I κ a' w' v,St DF A κ0 nl I0 w0 I κ H' w' env' a' → RV I κ x v → Q (pan1 v) a' w'
theorem callL_pan (hp:PanOK P pan) (s:St DF A κ0 nl I0 w0 I κ H w env a) {g:FuncId} {as:List AV} {vals:List Value} (hr:RVs I κ as vals) {y:AV} {H2:Heap}
  (h : callL pan env H g as = some (y, env', H2)) :
  (callFunc g vals.toArray).run P w = .ok (.enter g vals.toArray) w ∧ Calls P g vals.toArray w fun e w' => ∃ v, e = .panicked [{ v := v, recovered := false }] ∧ ∃ I' κ', St DF A κ0 nl I0 w0 I' κ' H2 w' env' a ∧ RV I' κ' y v := by
 unfold callL at h
 generalize hLe : reach H 400 (AV.idss as) [] = L at h
 have hL : L.Nodup:=by rw [← hLe]; exact reach_nodup H _ _ _ List.nodup_nil
 have hLs : ∀ i ∈ L,∃ b,H[i]? = some (some b):=by rw [← hLe]; exact reach_some H _ _ _ (by simp)
 split at h
 ·
  rename_i res H' hcall
  simp at h
  obtain ⟨rfl,rfl,rfl⟩:=h
  have hdom : ∀ (j:Nat) (blk:Blk),(pickH H L)[j]? = some (some blk) → ∃ l,pickK κ L j = some l:=fun j blk h=>by
   rw [pickH_get] at h
   cases hi : L[j]? with
   | none=>simp [hi] at h
   | some i =>
    simp [hi] at h
    obtain ⟨c,hc,rfl⟩:=bren_some h
    obtain ⟨l,hl⟩:=s.dom _ _ (Heap.at_some.1 hc)
    exact ⟨l,by simp [pickK,hi,hl]⟩
  obtain ⟨h1,h2⟩:=hp g _ _ res H' hcall I (pickK κ L) w vals (s.wr.pick hL) hdom (RVs.ren (fun _ _ h=>h) (pickK_ren hL) hr)
  refine ⟨h1, h2.mono fun e w' ⟨v, he, I', κ', s'⟩ => ⟨v, he, callL_core s hL hLs s'⟩⟩
 ·
  simp at h
theorem panic_run {o:Oper} {x0:Operand} (hop:o.op = .panic x0) {t:TypeId} {v:Value} (hv:a.eval x0 = .iface t v) : (execOp a.eval o).run P w = .halt (.panic (.iface t v)) w:=by
 unfold execOp
 simp [hop,hv,Instr.panic,goPanic]
theorem panO_wp (hp : PanOK P pan) (s : Stx DF A κ0 X.nl I0 w0 H env a w) {i : Nat} {o : Oper} (ho : ops[i]? = some o) {x : AV} (h : panO pan ops env H o = some (x, env', H')) {K : Act → World → Prop}
  (hQ:∀ I κ a' w' v,St DF A κ0 X.nl I0 w0 I κ H' w' env' a' → RV I κ x v → Q (pan1 v) a' w') : wpOp P ops Q i K a w:=by
 obtain ⟨I,κ,s⟩:=s
 unfold wpOp
 rw [ho]
 simp only
 unfold panO at h
 split at h
 ·
  rename_i hg
  rw [guardOf_wanted s.env hg]
  refine .inl ?_
  split at h
  ·
   rename_i x0 hop
   split at h
   ·
    rename_i t d hx
    simp at h
    obtain ⟨rfl,rfl,rfl⟩:=h
    have hev:=opd_rv s.env hx
    have : ∃ v,a.eval x0 = .iface t v:=by
     generalize a.eval x0 = u at hev
     cases hev with | im _ _ h=>cases h; exact ⟨_,rfl⟩
    obtain ⟨v,hv⟩:=this
    rw [hv] at hev
    unfold Oper.wp
    rw [panic_run hop hv,Oper.upon_panic]
    exact hQ _ _ _ _ _ s hev
   ·
    rename_i t y hx
    simp at h
    obtain ⟨rfl,rfl,rfl⟩:=h
    have hev:=opd_rv s.env hx
    have : ∃ v,a.eval x0 = .iface t v:=by
     generalize a.eval x0 = u at hev
     cases hev; exact ⟨_,rfl⟩
    obtain ⟨v,hv⟩:=this
    rw [hv] at hev
    unfold Oper.wp
    rw [panic_run hop hv,Oper.upon_panic]
    exact hQ _ _ _ _ _ s hev
   ·
    simp at h
  ·
   rename_i f args ats hop
   split at h
   ·
    rename_i fv as hf ha
    split at h
    ·
     rename_i g y c hgf
     obtain ⟨vals,hrun,hr⟩:=exec_call (P:=P) (w:=w) s.env hop hf ha hgf
     obtain ⟨h1,h2⟩:=callL_pan hp s hr h
     unfold Oper.wp
     rw [hrun,h1,Oper.upon_enter]
     refine h2.mono fun e w' ⟨v, he, I', κ', s', hr'⟩ => ?_
     subst he
     exact hQ _ _ _ _ _ s' hr'
    ·
     simp at h
   ·
    simp at h
  ·
   simp at h
 ·
  simp at h
end
end Go.AM
/- The abstract machine,part 41: a map is written into; literal slices of rows; the step of a run that may panic. -/
namespace Go.AM
def evU (T:Tab) (env:Env) (H:Heap) (o:Oper) : Option Heap:=match o.op with
 | .mapUpdate t m k x=>match T.ty t with
  | some ⟨.map kt et,_,_,_⟩=>match T.ty kt,opd env m,opd env k,opd env x with
   | some ⟨.int kd,_,_,_⟩,some (.mp i),some (.im (.int kd' n)),some (.im d)=>if kd = kd' ∧ d.plain = true then match H[i]? with
    | some (some (.o (.int .i64 (.ofNat c) :: ds)))=>match findD kd n ds with
     | some (some (j,_))=>match ds[j]? with
      | some (.agg [_,_,b])=>some (H.set i (some (.o (.int .i64 (.ofNat c) :: ds.set j (.agg [.int kd n,d,b])))))
      | _=>none
     | some none=>some (H.set i (some (.o (.int .i64 (.ofNat (c + 1)) :: (ds ++ [.agg [.int kd n,d,.int .i64 (.ofNat c)]])))))
     | none=>none
    | _=>none
    else none
   | _,_,_,_=>none
  | _=>none
 | _=>none
mutual
def rowsIn : AV → Bool
 | .im _=>true
 | .ref _ _ _=>true
 | .agg cs=>rowsIns cs
 | _=>false
def rowsIns : List AV → Bool
 | []=>true
 | x :: xs=>rowsIn x && rowsIns xs
end
def evB (X:Px) (ops:Array Oper) (env:Env) (H:Heap) (o:Oper) : Option (Env × Heap):=match o.op with
 | .buildSlice _ _ _=>match opds env o.op.operands.toList with
  | some vs=>if rowsIns vs then stepF X ops (frzIds (reach H 400 (AV.idss vs) []).reverse env H).1 (frzIds (reach H 400 (AV.idss vs) []).reverse env H).2 o
   else stepF { X with own:=fun _=>true } ops env H o
  | none=>none
 | .mapUpdate _ _ _ _=>if guardOf ops env o == some true then match evU X.T env H o with
  | some H'=>some (putE env o.dst (.tup []),H')
  | none=>none
  else none
 | _=>none
section
variable {P:Program} {I I' : Nat → Option (Array Value)} {κ κ' : Nat → Option Loc} {w w' : World} {H H' : Heap} {DF:List Deferred} {A:Nat → Prop} {κ0:Nat → Option Loc} {I0:Nat → Option (Array Value)} {w0:World} {env env' : Env} {a:Act} {ops:Array Oper} {Q:Exit → Act → World → Prop} {X:Px} {pan:Oracle} {nl:Nat}
theorem St.updO (s:St DF A κ0 nl I0 w0 I κ H w env a) {id r base cap:Nat} (hk:κ id = some (.at r base cap 0 0)) {ds ds' : List D} (hb:H[id]? = some (some (.o ds))) {o:Obj}
  (hm:MapAt { w with heap:=w.heap.setIfInBounds r o } r (.o ds')) : St DF A κ0 nl I0 w0 I κ (H.set id (some (.o ds'))) { w with heap:=w.heap.setIfInBounds r o } env a:=by
 have hlt : id < H.length:=(List.getElem?_eq_some_iff.1 hb).1
 have hother : ∀ k,k ≠ r → ({ w with heap:=w.heap.setIfInBounds r o } : World).heap[k]? = w.heap[k]?:=fun k hk=>by
  simp only
  rw [Array.getElem?_setIfInBounds_ne (Ne.symm hk)]
 refine ⟨⟨fun b' c h=>?_,fun i l h=>?_,s.wr.inj,s.wr.apart⟩,s.env,?_,s.own,fun i blk' h=>?_,s.nodef,s.lent,by simpa using s.len⟩
 ·
  obtain ⟨T,fr,hb⟩:=s.wr.im _ _ h
  have hne : b' ≠ r:=fun e=>by subst e; rw [s.wr.apart _ _ _ _ _ _ hk] at h; cases h
  exact ⟨T,fr,(hother _ hne).trans hb⟩
 ·
  by_cases hi : i = id
  ·
   subst hi
   rw [hk] at h
   cases h
   exact ⟨.o ds', by simp [hlt], .inl ⟨rfl, hm, rfl, rfl⟩⟩
  ·
   obtain ⟨blk', hb', hl'⟩ := s.wr.own _ _ h
   refine ⟨blk', by rw [List.getElem?_set_ne (Ne.symm hi)]; exact hb', ?_⟩
   cases l with
   | nil=>exact hl'
   | «at» b2 base2 cap2 sz2 nn2 =>
    have hne : b2 ≠ r:=fun e=>by subst e; exact hi (s.wr.inj _ _ _ _ _ _ _ _ _ _ _ h hk)
    rcases hl' with ⟨h1,h2,h3⟩ | ⟨h1,h0,c,T,vs,hb2,hcap,hv,hsz,hc⟩
    ·
     exact .inl ⟨h1,h2.at (hother _ hne),h3⟩
    exact .inr ⟨h1,h0,c,T,vs,(hother _ hne).trans hb2,hcap,hv,hsz,hc⟩
 ·
  refine s.mv.trans (B:=fun x=>x = r) ⟨rfl,rfl,rfl,by simp,fun x _ hx=>hother x hx,fun _ _ h=>h,fun _ _ h=>.inl h⟩ (fun x hx=>?_)
  subst hx
  exact s.own _ _ _ _ _ _ hk
 ·
  by_cases hi : i = id
  ·
   subst hi; exact ⟨_,hk⟩
  ·
   rw [List.getElem?_set_ne (Ne.symm hi)] at h
   exact s.dom _ _ h
theorem MapEs.set {ds:List D} {es:List MapEntry} (h:MapEs ds es) : ∀ {j:Nat} {e:MapEntry} {b k v:D} {kv z:Value},es[j]? = some e → (∃ x y,ds[j]? = some (.agg [x,y,b])) → RD (fun _=>none) k kv → RD (fun _=>none) v z →
  MapEs (ds.set j (.agg [k,v,b])) (es.modify j fun e=>{ e with key:=kv,val:=z }):=by
 induction h with
 | nil=>intro j e b k v kv z he; simp at he
 | cons k0 v0 e0 ds es hk hv hs ih =>
  intro j e b k v kv z he hd hkv hz
  cases j with
  | zero =>
   obtain ⟨x,y,hd⟩:=hd
   simp at hd
   obtain ⟨rfl,rfl,rfl⟩:=hd
   exact .cons _ _ { e0 with key:=kv,val:=z } _ _ hkv hz hs
  | succ j =>
   simp only [List.getElem?_cons_succ] at he hd
   exact .cons _ _ _ _ _ hk hv (ih he hd hkv hz)
theorem MapEs.snoc {ds:List D} {es:List MapEntry} (h:MapEs ds es) {k v:D} (e:MapEntry) (hk:RD (fun _=>none) k e.key) (hv:RD (fun _=>none) v e.val) : MapEs (ds ++ [.agg [k,v,.int .i64 (e.born : Nat)]]) (es ++ [e]):=by
 induction h with
 | nil=>exact .cons _ _ _ _ _ hk hv .nil
 | cons k0 v0 e0 ds es hk0 hv0 hs ih=>exact .cons _ _ _ _ _ hk0 hv0 ih
theorem D.plain_none {d:D} {v:Value} (h:d.plain = true) (hr:RD I d v) : RD (fun _=>none) d v:=D.plain_rd h hr
theorem evU_sound {T:Tab} (hT:T.ok P) (s:St DF A κ0 nl I0 w0 I κ H w env a) {o:Oper} (h:evU T env H o = some H') :
  ∃ w', (execOp a.eval o).run P w = .ok .skip w' ∧ St DF A κ0 nl I0 w0 I κ H' w' env a := by
 unfold evU at h
 split at h
 ·
  rename_i t m k x ho
  split at h
  ·
   rename_i kt et _ _ _ ht
   split at h
   ·
    rename_i kd _ _ _ i kd' n d hkt hm hk hx
    split at h
    ·
     rename_i hcond
     obtain ⟨rfl,hpl⟩:=hcond
     have h1:=(hT.ty _ _ ht).desc
     have h2:=(hT.ty _ _ hkt).desc
     have rm:=opd_rv s.env hm
     have rk:=opd_rv s.env hk
     have rx:=opd_rv s.env hx
     generalize hme : a.eval m = ve at rm
     generalize hke : a.eval k = ke at rk
     generalize hxe : a.eval x = xe at rx
     cases rk with | im _ _ rk =>
     cases rk
     cases rx with | im _ _ rx =>
     have rx:=D.plain_none hpl rx
     split at h
     ·
      rename_i c ds hb
      obtain ⟨r, es, clock, ds', base, cap, rfl, hκ, hds, hheap, hes⟩ := mp_at s.wr hb rm
      simp only [List.cons.injEq,D.int.injEq,true_and] at hds
      obtain ⟨hc,rfl⟩:=hds
      have hc : c = clock:=Int.ofNat.inj hc
      subst hc
      have hget : (getObj r).run P w = .ok (.map es c) w:=by simp [getObj,Sem.run,hheap]
      have hset : ∀ o', (setObj r o').run P w = .ok () { w with heap := w.heap.setIfInBounds r o' } := fun o' => by simp [setObj, Sem.run, hheap]
      have hlt : r < w.heap.size:=(Array.getElem?_eq_some_iff.1 hheap).1
      have hat : ∀ o', ({ w with heap := w.heap.setIfInBounds r o' } : World).heap[r]? = some o' := fun o' => by simp [hlt]
      have hck : ∀ b,(Instr.checkKey b 10000 kt (.int kd n)).run P w = .ok () w:=fun b=>checkKey_run h2 b n
      have base : ∀ q w2,Instr.findNow (.int kd) (.int kd n) es.toList 0 = some q → (match q with
        | some (i,_)=>do
         let key ← Instr.keyThatStays (((es[i]?).map (·.key)).getD (.int kd n)) (.int kd n)
         setObj r (.map (es.modify i fun e=>{ e with key,val:=xe }) c)
        | none=>setObj r (.map (es.push { key:=.int kd n,val:=xe,born:=c }) (c + 1)) : Sem Unit).run P w = .ok () w2 → (execOp a.eval o).run P w = .ok .skip w2:=by
       intro q w2 hq hrun
       unfold execOp
       rw [ho]
       simp only [hme,hke,hxe,Instr.mapUpdate,Instr.findKey,Sem.run_bind,run_underlying h1,run_underlying h2,Result.andThen_ok,hget,Sem.run_pure,hck,hq]
       cases q with
       | none=>simp only at hrun; simp only [hrun,Result.andThen_ok]
       | some q=>simp only [Sem.run_bind] at hrun; simp only [Sem.run_bind,hrun,Result.andThen_ok]
      split at h
      ·
       rename_i j u hf
       split at h
       ·
        rename_i k0 v0 b hdj
        simp at h
        subst h
        obtain ⟨q,hq,e,z,e1,e2,e3,e4,e5,e6⟩:=findD_run 0 hes hf
        rw [Nat.zero_add] at e4
        subst e4
        have hej : es[j]? = some e:=by simpa using e1
        refine ⟨_,base _ _ hq ?_,s.updO hκ hb (o:=.map (es.modify j fun e=>{ e with key:=.int kd n,val:=xe }) c) ⟨_,c,_,rfl,hat _,?_⟩⟩
        ·
         have hks : (Instr.keyThatStays (.int kd n) (.int kd n)).run P w = .ok (.int kd n) w:=by
          have : Instr.sameBits 10000 (.int kd n) (.int kd n) = true:=by simp [Instr.sameBits]
          simp only [Instr.keyThatStays,this,if_true,Sem.run_pure]
         simp only [hej,Option.map_some,Option.getD_some,e2,Sem.run_bind,hks,Result.andThen_ok,hset]
        ·
         rw [Array.toList_modify]
         exact hes.set e1 ⟨_,_,hdj⟩ (.int _ _) rx
       ·
        simp at h
      ·
       rename_i hf
       simp at h
       subst h
       obtain ⟨q,hq,e1⟩:=findD_run 0 hes hf
       have e1 : q = none:=e1
       subst e1
       refine ⟨_,base _ _ hq (hset _),s.updO hκ hb ⟨_,c + 1,_,rfl,hat _,?_⟩⟩
       rw [Array.toList_push]
       exact hes.snoc { key:=.int kd n,val:=xe,born:=c } (.int _ _) rx
      ·
       simp at h
     ·
      simp at h
    ·
     simp at h
   ·
    simp at h
  ·
   simp at h
 ·
  simp at h
theorem evB_wp (hT : X.T.ok P) (hc : CallOK P X.call) (s : Stx DF A κ0 X.nl I0 w0 H env a w) {i : Nat} {o : Oper} (ho : ops[i]? = some o) (h : evB X ops env H o = some (env', H')) {K : Act → World → Prop}
  (hK : ∀ a' w', Stx DF A κ0 X.nl I0 w0 H' env' a' w' → K a' w') : wpOp P ops Q i K a w := by
 unfold evB at h
 split at h
 ·
  split at h
  ·
   split at h
   ·
    exact stepF_wp hT hc (frzIds_st _ s) ho h hK
   ·
    exact stepF_wp (X:={ X with own:=fun _=>true }) hT hc s ho h hK
  ·
   simp at h
 ·
  split at h
  ·
   rename_i hg
   simp only [beq_iff_eq] at hg
   split at h
   ·
    rename_i H2 hu
    simp at h
    obtain ⟨rfl,rfl⟩:=h
    obtain ⟨I,κ,s⟩:=s
    obtain ⟨w2,hrun,s2⟩:=evU_sound hT s hu
    unfold wpOp
    rw [ho]
    simp only
    rw [guardOf_wanted s.env hg]
    refine .inl ?_
    unfold Oper.wp
    rw [hrun,Oper.upon_skip]
    exact hK _ _ ⟨I,κ,s2.set undef_rv o.dst⟩
   ·
    simp at h
  ·
   simp at h
 ·
  simp at h
end
end Go.AM
/- The abstract machine,part 42: runs in which functions may panic,and call themselves. -/
namespace Go.AM
def stepZ (X:Px) (pan:Oracle) (ops:Array Oper) (env:Env) (H:Heap) (o:Oper) : Option (Option AV × Env × Heap) :=
 match stepF X ops env H o with
 | some (env', H') => some (none, env', H')
 | none=>match evB X ops env H o with
  | some (env', H') => some (none, env', H')
  | none=>match panO pan ops env H o with
   | some (x, env', H') => some (some x, env', H')
   | none=>none
def runZ (X:Px) (pan:Oracle) (ops:Array Oper) : List Oper → Env → Heap → Option (Option AV × Env × Heap)
 | [],env,H=>some (none,env,H)
 | o :: os,env,H=>match stepZ X pan ops env H o with
  | some (none, env', H') => runZ X pan ops os env' H'
  | some (some x, env', H') => some (some x, env', H')
  | none=>none
def runY (X:Px) (pan:Oracle) (ops:Array Oper) (env:Env) (H:Heap) : Option (Option AV × Env × Heap) :=
 match runP X.toCx ops (ops.toList.take (cutOf ops)) env H with
 | some (env', H') => runZ X pan ops (ops.toList.drop (cutOf ops)) env' H'
 | none=>none
def endZ : Option (Option AV × Env × Heap) → Option (Ez × Env × Heap)
 | some (none, env', H') => some (.normal, env', H')
 | some (some x, env', H') => some (.pan x, env', H')
 | none=>none
section
variable {P:Program} {I I' : Nat → Option (Array Value)} {κ κ' : Nat → Option Loc} {w w' : World} {H H' : Heap} {DF:List Deferred} {A:Nat → Prop} {κ0:Nat → Option Loc} {I0:Nat → Option (Array Value)} {w0:World} {env env' : Env} {a:Act} {ops:Array Oper} {Q:Exit → Act → World → Prop} {X:Px} {pan:Oracle} {nl:Nat}
theorem stepZ_wp (hT : X.T.ok P) (hc : CallOK P X.call) (hp : PanOK P pan) (s : Stx DF A κ0 X.nl I0 w0 H env a w) {i : Nat} {o : Oper} (ho : ops[i]? = some o) {r : Option AV} (h : stepZ X pan ops env H o = some (r, env', H')) {K : Act → World → Prop}
  (hK : r = none → ∀ a' w', Stx DF A κ0 X.nl I0 w0 H' env' a' w' → K a' w')
  (hQ:∀ x,r = some x → ∀ I κ a' w' v,St DF A κ0 X.nl I0 w0 I κ H' w' env' a' → RV I κ x v → Q (pan1 v) a' w') : wpOp P ops Q i K a w:=by
 unfold stepZ at h
 split at h
 ·
  rename_i e2 H2 h2
  simp at h
  obtain ⟨rfl,rfl,rfl⟩:=h
  exact stepF_wp hT hc s ho h2 (hK rfl)
 ·
  split at h
  ·
   rename_i e2 H2 h2
   simp at h
   obtain ⟨rfl,rfl,rfl⟩:=h
   exact evB_wp hT hc s ho h2 (hK rfl)
  ·
   split at h
   ·
    rename_i x e2 H2 h2
    simp at h
    obtain ⟨rfl,rfl,rfl⟩:=h
    exact panO_wp hp s ho h2 (hQ _ rfl)
   ·
    simp at h
theorem runZ_wp (hT:X.T.ok P) (hc:CallOK P X.call) (hp:PanOK P pan) {e:Ez} (hM:Meets DF A κ0 X.nl I0 w0 e env' H' Q) : ∀ (os:List Oper) (l:List Nat) {H w env a},l.map (ops[·]?) = os.map some →
  Stx DF A κ0 X.nl I0 w0 H env a w → endZ (runZ X pan ops os env H) = some (e, env', H') → wpOps P ops Q l a w
 | [],l,H,w,env,a,hl,s,h=>by
  have : l = []:=by simpa using hl
  subst this
  simp [runZ,endZ] at h
  obtain ⟨rfl,rfl,rfl⟩:=h
  exact hM.1 rfl _ _ s
 | o :: os,l,H,w,env,a,hl,s,h=>by
  cases l with
  | nil=>simp at hl
  | cons i l =>
   simp only [List.map_cons,List.cons.injEq] at hl
   obtain ⟨hi,hl⟩:=hl
   unfold runZ at h
   rw [wpOps_cons]
   split at h
   ·
    rename_i e2 H2 h2
    exact stepZ_wp hT hc hp s hi h2 (fun _ a' w' s'=>runZ_wp hT hc hp hM os l hl s' h) (fun x hx=>by cases hx)
   ·
    rename_i x e2 H2 h2
    simp [endZ] at h
    obtain ⟨rfl,rfl,rfl⟩:=h
    exact stepZ_wp hT hc hp s hi h2 (fun hx=>by cases hx) (fun x' hx=>by cases hx; exact hM.2 _ rfl)
   ·
    simp [endZ] at h
theorem runY_wp (hT:X.T.ok P) (hc:CallOK P X.call) (hp:PanOK P pan) (hm:P.follows .mixedOrders = true) {e:Ez} (hM:Meets DF A κ0 X.nl I0 w0 e env' H' Q) (hd:drawOK ops = true) (s:Stx DF A κ0 X.nl I0 w0 H env a w)
  (h : endZ (runY X pan ops env H) = some (e, env', H')) {id : Nat} : (Code.region id ops true).wp P Q a w := by
 have d:=drawIn_spec hd
 have hpos:=d.pos
 refine wp_region_any hm ?_
 unfold runY at h
 split at h
 ·
  rename_i e1 H1 hr
  obtain ⟨st,h0,h1,hs⟩:=runP_trace _ _ _ _ hr
  have hlen : (ops.toList.take (cutOf ops)).length = cutOf ops:=by simp; omega
  rw [hlen] at h1
  have T : Trace X.toCx ops (cutOf ops) st:=⟨fun i hi=>by
   refine ⟨ops[i]'(by omega),by simp [show i < ops.size by omega],hs i _ ?_⟩
   rw [List.getElem?_take,if_pos hi]
   simp [show i < ops.size by omega]⟩
  obtain ⟨I1,κ1,s1⟩:=s
  have s1 : St DF A κ0 X.nl I0 w0 I1 κ1 (st 0).2 { w with drawn:=w.drawn + 1 } (st 0).1 a:=by
   rw [h0]
   exact s1.later ⟨rfl,rfl,rfl,Nat.le_refl _,fun _ _=>rfl⟩
  have hno : ∀ i,¬ isL (Array.replicate ops.size false) i:=fun i h=>by
   unfold isL at h
   by_cases hlt : i < ops.size <;> simp [hlt] at h
  refine wpAny_part hT hc d T s1 (fun a' w' I' κ' s'=>?_) ops.size (Array.replicate ops.size false) I1 κ1 _ (st 0).1 a (List.range (cutOf ops)) (by simp; omega) (fun i hi _=>by simpa using hi) (fun k _=>hno k) ?_
  ·
   rw [h1] at s'
   exact runZ_wp hT hc hp hM _ _ (range_drop ops _ (by omega)) ⟨_,_,s'⟩ h
  ·
   refine ⟨⟨s1.wr.im,fun i l hl=>?_,s1.wr.inj,s1.wr.apart⟩,s1.env,.refl _,rfl,fun _ _=>rfl,fun i _ hl=>absurd hl (hno i),fun _ _=>rfl,fun i hi hg=>⟨fun hl=>absurd hl (hno i),fun hk=>?_⟩,fun _ _ _ _ _ _ h=>.inl h,s1.nodef,fun i hl=>absurd hl (hno i),by simp⟩
   ·
    obtain ⟨blk,hb,hlies⟩:=s1.wr.own _ _ hl
    exact ⟨blk,T.sub (by omega) (Nat.le_refl _) _ _ hb,hlies⟩
   ·
    exact absurd (s1.none_at (T.lens (i:=0) (j:=i) (by omega) (by omega))) hk
 ·
  simp [endZ] at h
end
abbrev Sz:=List AV → Heap → Option (Bool × AV × Heap)
structure OkZ (P:Program) (f:FuncId) (sp:Sz) : Prop where
 ret : Ok1 P f fun as H=>match sp as H with
  | some (false,r,H')=>some (r,H')
  | _=>none
 pan : ∀ (as:List AV) (H:Heap) (x:AV) (H' : Heap),sp as H = some (true,x,H') →
  ∀ (I:Nat → Option (Array Value)) (κ:Nat → Option Loc) (w:World) (vals:List Value),WR I κ H w → (∀ i blk,H[i]? = some (some blk) → ∃ l,κ i = some l) → RVs I κ as vals →
   (callFunc f vals.toArray).run P w = .ok (.enter f vals.toArray) w ∧ Calls P f vals.toArray w fun e w'=>∃ v,e = .panicked [{ v:=v,recovered:=false }] ∧
    ∃ I' κ', St [] (lentOf κ) κ H.length I w I' κ' H' w' [x] ⟨#[v], []⟩
end Go.AM
/- The abstract machine,part 43: a function that defers a closure; a closure that recovers. -/
namespace Go.AM
abbrev Dfr:=FuncId → Option D → List AV → Heap → Option Heap
def modeOf : Option Value → FrameMode
 | none=>.returning
 | some v=>.panicking [{ v:=v,recovered:=false }]
def modeTo : Option Value → FrameMode
 | none=>.returning
 | some v=>.panicking [{ v:=v,recovered:=true }]
def RM (I:Nat → Option (Array Value)) : Option D → Option Value → Prop
 | none,none=>True
 | some d,some v=>RD I d v
 | _,_=>False
def DfrOK (P:Program) (dfr:Dfr) : Prop:=∀ (g:FuncId) (m:Option D) (as:List AV) (H H' : Heap),dfr g m as H = some H' →
 ∀ (I:Nat → Option (Array Value)) (κ:Nat → Option Loc) (w:World) (vals:List Value) (mv:Option Value),WR I κ H w → (∀ i blk,H[i]? = some (some blk) → ∃ l,κ i = some l) → RVs I κ as vals → RM I m mv →
  (callFunc g vals.toArray).run P w = .ok (.enter g vals.toArray) w ∧ CallsD P g vals.toArray (modeOf mv) w fun e u' w'=>(∃ v,e = .returned v) ∧ u' = modeTo mv ∧
   ∃ I' κ', St [] (lentOf κ) κ H.length I w I' κ' H' w' [] ⟨#[], []⟩
def liveF (H:Heap) (i:Nat) : Option Nat:=match H.at i with
 | some _=>some i
 | none=>none
def hasAll (H:Heap) (l:List Nat) : Bool:=l.all fun i=>(H.at i).isSome
def defOf : Code → Option (Array Oper × Tmp)
 | .region _ ops false=>match ops[ops.size - 1]? with
  | some ⟨none,.defer { callee:=.value (.tmp t),args:=⟨[]⟩,argTypes:=_ },_,_,_,none⟩=>some (ops,t)
  | _=>none
 | _=>none
def endF (T:Tab) (nl:Nat) (rs:List ResultVar) (env:Env) (H:Heap) : Option (Bool × AV × Heap):=match fin T nl rs env H with
 | some (r,H2)=>some (false,r,H2)
 | none=>none
def endP (nl:Nat) (x:AV) (H' : Heap) : Option (Bool × AV × Heap):=some (true,AV.ren (posn (keepL nl H' [x])) x,pickH H' (keepL nl H' [x]))
section
variable {P:Program} {I I' : Nat → Option (Array Value)} {κ κ' : Nat → Option Loc} {w w' : World} {H H' : Heap} {DF:List Deferred} {A:Nat → Prop} {κ0:Nat → Option Loc} {I0:Nat → Option (Array Value)} {w0:World} {env env' : Env} {a:Act} {ops:Array Oper} {Q:Exit → Act → World → Prop} {X:Px} {pan:Oracle} {nl:Nat} {T:Tab}
mutual
theorem RV.on (hI:∀ b c,I b = some c → I' b = some c) : ∀ {x:AV} {v:Value},RV I κ x v → (∀ i ∈ AV.ids x,∀ l,κ i = some l → κ' i = some l) → RV I' κ' x v
 | _,_,.im d v hr,h=>.im _ _ (hr.mono hI)
 | _,_,.refnil i hk,h=>.refnil _ (h i (by simp [AV.ids]) _ hk)
 | _,_,.ref i off len b base cap sz nn hk hl,h=>.ref _ _ _ _ _ _ _ _ (h i (by simp [AV.ids]) _ hk) hl
 | _,_,.refend i off b base cap sz nn o hk hl ho,h=>.refend _ _ _ _ _ _ _ _ (h i (by simp [AV.ids]) _ hk) hl ho
 | _,_,.ptr i j k b base cap sz nn hk,h=>.ptr _ _ _ _ _ _ _ _ (h i (by simp [AV.ids]) _ hk)
 | _,_,.mp i b base cap sz nn hk,h=>.mp _ _ _ _ _ _ (h i (by simp [AV.ids]) _ hk)
 | _,_,.pe _ _ _ _ _ _ h1 h2 h3,h=>.pe _ _ _ _ _ _ (hI _ _ h1) (h2.mono hI) h3
 | _,_,.agg cs vs hr,h=>.agg _ _ (RVs.on hI hr (by simpa [AV.ids] using h))
 | _,_,.fn f a c va vc h1 h2,h=>.fn _ _ _ _ _ (RVs.on hI h1 (fun i hi=>h i (by simp [AV.ids,hi]))) (RVs.on hI h2 (fun i hi=>h i (by simp [AV.ids,hi])))
 | _,_,.ifc t x v hr,h=>.ifc _ _ _ (RV.on hI hr (by simpa [AV.ids] using h))
 | _,_,.tup vs ws hr,h=>.tup _ _ (RVs.on hI hr (by simpa [AV.ids] using h))
 | _,_,.bad v,h=>.bad v
theorem RVs.on (hI:∀ b c,I b = some c → I' b = some c) : ∀ {xs:List AV} {vs:List Value},RVs I κ xs vs → (∀ i ∈ AV.idss xs,∀ l,κ i = some l → κ' i = some l) → RVs I' κ' xs vs
 | _,_,.nil,h=>.nil
 | _,_,.cons x xs v vs hr hrs,h=>.cons _ _ _ _ (RV.on hI hr (fun i hi=>h i (by simp [AV.idss,hi]))) (RVs.on hI hrs (fun i hi=>h i (by simp [AV.idss,hi])))
end
theorem St.begin (s:St DF A κ0 nl I0 w0 I κ H w env a) : St DF (lentOf κ) κ H.length I w I κ H w env a :=
 ⟨s.wr,s.env,.refl _,fun i b base cap sz nn h=>.inl ⟨i,base,cap,sz,nn,h⟩,s.dom,s.nodef,fun _ _ _ h=>h,Nat.le_refl _⟩
theorem St.back (s:St DF A κ0 nl I0 w0 I κ H w env a) {DF' : List Deferred} {env2:Env} {a2:Act} (s2:St DF' (lentOf κ) κ H.length I w I' κ' H' w' env2 a2) : St DF' A κ0 nl I0 w0 I' κ' H' w' env2 a2:=by
 have hA : ∀ b,lentOf κ b → A b ∨ w0.heap.size ≤ b:=fun b ⟨i,base,cap,sz,nn,h⟩=>s.own _ _ _ _ _ _ h
 have hlen:=s.len
 refine ⟨s2.wr,s2.env,s.mv.trans s2.mv hA,fun i b base cap sz nn h=>?_,s2.dom,s2.nodef,fun i hi l h=>s.lent i hi l (s2.lent i (by omega) l h),by have:=s2.len; omega⟩
 rcases s2.own _ _ _ _ _ _ h with h' | h'
 ·
  exact hA b h'
 ·
  have:=s.mv.size; exact .inr (by omega)
theorem liveF_ok (s:St DF A κ0 nl I0 w0 I κ H w env a) {DF' : List Deferred} {env2:Env} {a2:Act} (s2:St DF' (lentOf κ) κ H.length I w I' κ' H' w' env2 a2) : ∀ i j,liveF H' i = some j → ∀ l,κ i = some l → κ' j = some l:=by
 intro i j h l hl
 unfold liveF at h
 split at h
 ·
  rename_i b hb
  simp at h
  subst h
  obtain ⟨l', hl'⟩ := s2.dom _ _ (Heap.at_some.1 hb)
  have hi : i < H.length:=by
   obtain ⟨blk,hb,_⟩:=s.wr.own _ _ hl
   exact (List.getElem?_eq_some_iff.1 hb).1
  have:=s2.lent i hi l' hl'
  rw [hl] at this
  cases this
  exact hl'
 ·
  simp at h
theorem hasAll_ok (s:St DF A κ0 nl I0 w0 I κ H w env a) {DF' : List Deferred} {env2:Env} {a2:Act} (s2:St DF' (lentOf κ) κ H.length I w I' κ' H' w' env2 a2) {xs:List AV} (h:hasAll H' (AV.idss xs) = true) : ∀ i ∈ AV.idss xs,∀ l,κ i = some l → κ' i = some l:=by
 intro i hi l hl
 unfold hasAll at h
 rw [List.all_eq_true] at h
 have:=h i hi
 refine liveF_ok s s2 i i ?_ l hl
 unfold liveF
 cases hh : H'.at i with
 | none=>rw [hh] at this; cases this
 | some b=>rfl
theorem runK_wp (hT : X.T.ok P) (hc : CallOK P X.call) (hp : PanOK P pan) {l2 : List Nat} (hQ : ∀ a' w', Stx DF A κ0 X.nl I0 w0 H' env' a' w' → wpOps P ops Q l2 a' w') : ∀ (os : List Oper) (l : List Nat) {H w env a}, l.map (ops[·]?) = os.map some →
  Stx DF A κ0 X.nl I0 w0 H env a w → runZ X pan ops os env H = some (none, env', H') → wpOps P ops Q (l ++ l2) a w
 | [],l,H,w,env,a,hl,s,h=>by
  have : l = []:=by simpa using hl
  subst this
  simp [runZ] at h
  obtain ⟨rfl,rfl⟩:=h
  exact hQ _ _ s
 | o :: os,l,H,w,env,a,hl,s,h=>by
  cases l with
  | nil=>simp at hl
  | cons i l =>
   simp only [List.map_cons,List.cons.injEq] at hl
   obtain ⟨hi,hl⟩:=hl
   unfold runZ at h
   rw [List.cons_append,wpOps_cons]
   split at h
   ·
    rename_i e2 H2 h2
    exact stepZ_wp hT hc hp s hi h2 (fun _ a' w' s'=>runK_wp hT hc hp hQ os l hl s' h) (fun x hx=>by cases hx)
   ·
    simp at h
   ·
    simp at h
def EndsAs (A:Nat → Prop) (κ0:Nat → Option Loc) (nl:Nat) (I0:Nat → Option (Array Value)) (w0:World) (r:Bool × AV × Heap) : Ending → World → Prop:=fun e w'=>∃ v,(e = if r.1 then .panicked [{ v:=v,recovered:=false }] else .returned v) ∧
 ∃ I' κ', St [] A κ0 nl I0 w0 I' κ' r.2.2 w' [r.2.1] ⟨#[v], []⟩
theorem endF_ok (hT:T.ok P) {DF:List Deferred} (s:St DF A κ0 nl I0 w0 I κ H w env a) {fn:Func} {r:Bool × AV × Heap} (h:endF T nl fn.results.toList env H = some r) :
  ∃ v,(results fn a.tmps).run P w = .ok v w ∧ EndsAs A κ0 nl I0 w0 r (.returned v) w:=by
 unfold endF at h
 split at h
 ·
  rename_i res H2 hf
  simp at h
  subst h
  unfold fin at hf
  split at hf
  ·
   rename_i vs hvs
   simp at hf
   obtain ⟨rfl,rfl⟩:=hf
   obtain ⟨v,hv,hvr⟩:=fin_run hT s.wr s.env hvs
   refine ⟨v,hv,v,rfl,I,pickK κ (keepL nl H vs),?_⟩
   have s3 : St [] A κ0 nl I0 w0 I κ H w [oneOf vs] ⟨#[v],[]⟩:=⟨s.wr,.cons _ _ _ _ hvr .nil,s.mv,s.own,s.dom,rfl,s.lent,s.len⟩
   have:=s3.pick (keepL_nodup nl H vs) (keepL_pre nl H vs)
   simpa [AV.rens] using this
  ·
   simp at hf
 ·
  simp at h
end
end Go.AM
/- The abstract machine,part 44: contracts of functions that defer,and of closures that recover; a program's run,calls deep. -/
namespace Go.AM
section
variable {P:Program} {T:Tab}
theorem enter_run {f:FuncId} {i:Fi} (hi:i.ok P f) (w:World) (vals:List Value) : (callFunc f vals.toArray).run P w = .ok (.enter f vals.toArray) w:=by
 have h1 : ¬ i.fn.name = "runtime.NumGoroutine" := by simpa using hi.name
 simp [callFunc,hi.get,h1,hi.body]
theorem enter_st {i:Fi} {call:Oracle} {as:List AV} {H:Heap} {I:Nat → Option (Array Value)} {κ:Nat → Option Loc} {w:World} {vals:List Value} (hw:WR I κ H w) (hdom:∀ i blk,H[i]? = some (some blk) → ∃ l,κ i = some l) (hr:RVs I κ as vals) :
  St [] (lentOf κ) κ (i.px T call H.length).nl I w I κ H w (entry i.fn.ntmps as) { tmps:=vals.toArray ++ Array.replicate (i.fn.ntmps - vals.toArray.size) undef,defers:=[] }:=by
 have hlen:=hr.length
 refine ⟨hw,?_,.refl _,fun i b base cap sz nn h=>.inl ⟨i,base,cap,sz,nn,h⟩,hdom,rfl,fun _ _ _ h=>h,Nat.le_refl _⟩
 simp only [Array.toList_append,Array.toList_replicate,List.size_toArray,hlen]
 exact hr.append rep_rv
theorem recover_run {ρ:Operand → Value} {o:Oper} {args:Array Operand} {ts:Array TypeId} (ho:o.op = .call { callee:=.builtin .recover,args:=args,argTypes:=ts }) (w:World) : (execOp ρ o).run P w = .ok .recover w:=by
 unfold execOp
 rw [ho]
 rfl
def hasDef : Code → Bool
 | .seq a b=>(defOf a).isSome || hasDef b
 | _=>false
def retsOf (r:FuncId → Sz) : Oracle:=fun f as H=>match r f as H with
 | some (false,r,H')=>some (r,H')
 | _=>none
def pansOf (r:FuncId → Sz) : Oracle:=fun f as H=>match r f as H with
 | some (true,r,H')=>some (r,H')
 | _=>none
theorem pansOf_ok {r:FuncId → Sz} (h:∀ f,OkZ P f (r f)) : PanOK P (pansOf r):=by
 intro f as H x H' he
 unfold pansOf at he
 split at he
 ·
  rename_i r0 H2 hr
  simp at he
  obtain ⟨rfl,rfl⟩:=he
  exact (h f).pan as H _ _ hr
 ·
  simp at he
end
end Go.AM
/- The abstract machine,part 40: a program's own book of functions; a closed run,as a call. -/
namespace Go.AM
def fiP (P:Program) (T:Tab) (pol:FuncId → Pol) (f:FuncId) : Option Fi:=match P.funcs[f]? with
 | some fn=>match fn.body with
  | some c=>if codeOK c then some (mkFi T fn (pol f)) else none
  | none=>none
 | none=>none
theorem fiP_ok {P : Program} {T : Tab} {pol : FuncId → Pol} (hn : ∀ (f : FuncId) (fn : Func), P.funcs[f]? = some fn → (fn.name == "runtime.NumGoroutine") = false) {f : FuncId} {i : Fi} (h : fiP P T pol f = some i) : i.ok P f := by
 unfold fiP at h
 split at h
 ·
  rename_i fn hf
  split at h
  ·
   rename_i c hb
   split at h
   ·
    rename_i hk
    simp at h
    subst h
    refine ⟨hf,hn f fn hf,?_,?_⟩
    ·
     simp [mkFi,hb]
    ·
     simpa [mkFi,hb] using hk
   ·
    simp at h
  ·
   simp at h
 ·
  simp at h
def lookL {α:Type} : List (Nat × α) → Nat → Option α
 | [],_=>none
 | p :: l,k=>if Nat.beq p.1 k then some p.2 else lookL l k
theorem lookL_mem {α:Type} {l:List (Nat × α)} {k:Nat} {x:α} (h:lookL l k = some x) : (k,x) ∈ l:=by
 induction l with
 | nil=>simp [lookL] at h
 | cons p l ih =>
  unfold lookL at h
  split at h
  ·
   rename_i hp
   simp only [Nat.beq_eq] at hp
   simp at h
   subst h hp
   simp
  ·
   exact List.mem_cons_of_mem _ (ih h)
theorem OkZ.of {P:Program} {f:FuncId} {sp sp' : Sz} (h:OkZ P f sp) (hs:∀ as H r,sp' as H = some r → sp as H = some r) : OkZ P f sp':=by
 constructor
 ·
  intro as H res H' hsp
  refine h.ret as H res H' ?_
  dsimp only at hsp ⊢
  split at hsp
  ·
   rename_i r H2 he
   rw [hs _ _ _ he]
   exact hsp
  ·
   simp at hsp
 ·
  intro as H x H' he
  exact h.pan as H x H' (hs _ _ _ he)
theorem OkZ.plain {P:Program} {f:FuncId} {sp:Sp} (h:Ok1 P f sp) : OkZ P f fun as H=>match sp as H with
  | some (r,H')=>some (false,r,H')
  | none=>none:=by
 constructor
 ·
  intro as H res H' hsp
  refine h as H res H' ?_
  dsimp only at hsp
  cases hs : sp as H with
  | none=>rw [hs] at hsp; simp at hsp
  | some r =>
   rw [hs] at hsp
   simp at hsp
   rw [← hsp.1,← hsp.2]
 ·
  intro as H x H' he
  cases hs : sp as H with
  | none=>rw [hs] at he; simp at he
  | some r=>rw [hs] at he; simp at he
end Go.AM
/- The abstract machine,part 45: lists,numbers and texts,as the kernel reckons them fast. -/
namespace Go.AM
noncomputable def setF {α β:Type} (l:List α) : Nat → α → (List α → β) → β:=List.rec (fun _ _ k=>k []) (fun x xs ih n v k=>Nat.casesOn n (k (v :: xs)) fun m=>ih m v fun ys=>k (x :: ys)) l
theorem setF_eq {α β:Type} : ∀ (l:List α) (n:Nat) (v:α) (k:List α → β),setF l n v k = k (l.set n v)
 | [],_,_,_=>rfl
 | x :: l,0,_,_=>rfl
 | x :: l,n + 1,v,k=>setF_eq l n v fun ys=>k (x :: ys)
noncomputable def allF {α β:Type} (l:List α) : (List α → β) → β:=List.rec (fun k=>k []) (fun x _ ih k=>ih fun ys=>k (x :: ys)) l
theorem allF_eq {α β:Type} : ∀ (l:List α) (k:List α → β),allF l k = k l
 | [],_=>rfl
 | x :: l,k=>allF_eq l fun ys=>k (x :: ys)
noncomputable def snocF {α β:Type} (l:List α) (b:α) : (List α → β) → β:=List.rec (fun k=>k [b]) (fun x _ ih k=>ih fun ys=>k (x :: ys)) l
theorem snocF_eq {α β:Type} (b:α) : ∀ (l:List α) (k:List α → β),snocF l b k = k (l ++ [b])
 | [],_=>rfl
 | x :: l,k=>snocF_eq b l fun ys=>k (x :: ys)
noncomputable def lenF {α:Type} (l:List α) : Nat:=List.rec (fun n=>n) (fun _ _ ih n=>ih (Nat.succ n)) l 0
theorem lenF_go {α:Type} : ∀ (l:List α) (n:Nat),(List.rec (motive:=fun _=>Nat → Nat) (fun n=>n) (fun _ _ ih n=>ih (Nat.succ n)) l n : Nat) = l.length + n
 | [],n=>by simp
 | x :: l,n=>by
  show (List.rec (motive:=fun _=>Nat → Nat) (fun n=>n) (fun _ _ ih n=>ih (Nat.succ n)) l (Nat.succ n) : Nat) = _
  rw [lenF_go l]
  simp only [List.length_cons]
  omega
theorem lenF_eq {α:Type} (l:List α) : lenF l = l.length:=by
 show (List.rec (motive:=fun _=>Nat → Nat) (fun n=>n) (fun _ _ ih n=>ih (Nat.succ n)) l 0 : Nat) = _
 rw [lenF_go l]; rfl
def bD (b:Bool) : D:=match b with
 | true=>.bool true
 | false=>.bool false
theorem bD_eq (b:Bool) : bD b = .bool b:=by cases b <;> rfl
theorem kind_eq {k k' : IntKind} (h:Nat.beq k.ctorIdx k'.ctorIdx = true) : k = k':=by
 rw [Nat.beq_eq] at h
 cases k <;> cases k' <;> first | rfl | (exact absurd h (by decide))
def cmpF (op:BinOp) (a b:Nat) : Option Bool:=match op with
 | .eql=>some (Nat.beq a b)
 | .neq=>some (!(Nat.beq a b))
 | .lss=>some (Nat.blt a b)
 | .leq=>some (Nat.ble a b)
 | .gtr=>some (Nat.blt b a)
 | .geq=>some (Nat.ble b a)
 | _=>none
theorem cmpF_eq {op:BinOp} {a b:Nat} {r:Bool} (h:cmpF op a b = some r) (k:IntKind) : binInt op k (.ofNat a) k (.ofNat b) = some (.bool r):=by
 cases op <;> simp only [cmpF,Option.some.injEq,reduceCtorEq] at h <;> subst h <;> simp only [binInt,if_true,Option.some.injEq,D.bool.injEq]
 ·
  rw [Bool.eq_iff_iff]; simp only [beq_iff_eq,Nat.beq_eq]; exact ⟨fun h=>Int.ofNat.inj h,fun h=>by rw [h]⟩
 ·
  rw [Bool.eq_iff_iff]; simp only [bne_iff_ne, ne_eq, Bool.not_eq_true', ← Bool.not_eq_true, Nat.beq_eq]; exact not_congr ⟨fun h => Int.ofNat.inj h, fun h => by rw [h]⟩
 ·
  rw [Bool.eq_iff_iff]; simp only [decide_eq_true_eq,Nat.blt_eq]; exact Int.ofNat_lt
 ·
  rw [Bool.eq_iff_iff]; simp only [decide_eq_true_eq,Nat.ble_eq]; exact Int.ofNat_le
 ·
  rw [Bool.eq_iff_iff]; simp only [decide_eq_true_eq,Nat.blt_eq]; exact Int.ofNat_lt
 ·
  rw [Bool.eq_iff_iff]; simp only [decide_eq_true_eq,Nat.ble_eq]; exact Int.ofNat_le
def negF (op:BinOp) : Option Bool:=match op with
 | .eql=>some false
 | .neq=>some true
 | .lss=>some true
 | .leq=>some true
 | .gtr=>some false
 | .geq=>some false
 | _=>none
theorem negF_eq {op:BinOp} {r:Bool} (h:negF op = some r) (k:IntKind) (a b:Nat) : binInt op k (.negSucc a) k (.ofNat b) = some (.bool r):=by
 have h1 : Int.negSucc a < Int.ofNat b:=Int.lt_of_lt_of_le (Int.negSucc_lt_zero a) (Int.natCast_nonneg b)
 cases op <;> simp [negF] at h <;> subst h <;> simp only [binInt,if_true,Option.some.injEq,D.bool.injEq]
 ·
  simp
 ·
  simp
 ·
  simp only [decide_eq_true_eq]; exact h1
 ·
  simp only [decide_eq_true_eq]; exact Int.le_of_lt h1
 ·
  simp only [decide_eq_false_iff_not]; intro h; exact absurd (Int.lt_trans h1 h) (Int.lt_irrefl _)
 ·
  simp only [decide_eq_false_iff_not]; intro h; exact absurd (Int.lt_of_lt_of_le h1 h) (Int.lt_irrefl _)
theorem wrap64 (n:Int) (h0:-9223372036854775808 ≤ n) (h1:n < 9223372036854775808) : IntKind.wrap .i64 n = n:=by
 unfold IntKind.wrap
 have e1 : (2 ^ IntKind.i64.bits : Int) = 18446744073709551616:=by decide
 have e2 : (2 ^ (IntKind.i64.bits - 1) : Int) = 9223372036854775808:=by decide
 have e3 : IntKind.i64.signed = true:=rfl
 simp only [e1,e2,e3,Bool.true_and,ge_iff_le,decide_eq_true_eq]
 split <;> omega
def arF (op:BinOp) (a b:Nat) : Option D:=match op with
 | .add=>match Nat.blt (Nat.add a b) 9223372036854775808 with
  | true=>some (.int .i64 (.ofNat (Nat.add a b)))
  | false=>none
 | .sub=>match Nat.ble b a with
  | true=>match Nat.blt a 9223372036854775808 with
   | true=>some (.int .i64 (.ofNat (Nat.sub a b)))
   | false=>none
  | false=>match Nat.blt b 9223372036854775808 with
   | true=>some (.int .i64 (.negSucc (Nat.sub (Nat.sub b a) 1)))
   | false=>none
 | .mul=>match Nat.blt (Nat.mul a b) 9223372036854775808 with
  | true=>some (.int .i64 (.ofNat (Nat.mul a b)))
  | false=>none
 | _=>none
theorem arF_eq {op:BinOp} {a b:Nat} {d:D} (h:arF op a b = some d) : binInt op .i64 (.ofNat a) .i64 (.ofNat b) = some d:=by
 cases op <;> simp only [arF] at h <;> try cases h
 ·
  split at h
  ·
   rename_i hb
   rw [Nat.blt_eq] at hb
   cases h
   simp only [binInt,if_true]
   rw [wrap64 _ (by simp only [Int.ofNat_eq_natCast]; omega) (by simp only [Int.ofNat_eq_natCast]; have : Nat.add a b = a + b:=rfl; omega)]
   rfl
  ·
   cases h
 ·
  split at h
  ·
   rename_i hb
   rw [Nat.ble_eq] at hb
   split at h
   ·
    rename_i hc
    rw [Nat.blt_eq] at hc
    cases h
    simp only [binInt,if_true]
    rw [wrap64 _ (by simp only [Int.ofNat_eq_natCast]; omega) (by simp only [Int.ofNat_eq_natCast]; omega)]
    simp only [Int.ofNat_eq_natCast,Option.some.injEq,D.int.injEq,true_and]
    show (a:Int) - b = ((a - b : Nat) : Int)
    omega
   ·
    cases h
  ·
   rename_i hb
   have hb' : ¬ b ≤ a:=fun hh=>by rw [← Nat.ble_eq] at hh; rw [hh] at hb; cases hb
   split at h
   ·
    rename_i hc
    rw [Nat.blt_eq] at hc
    cases h
    simp only [binInt,if_true]
    rw [wrap64 _ (by simp only [Int.ofNat_eq_natCast]; omega) (by simp only [Int.ofNat_eq_natCast]; omega)]
    simp only [Int.ofNat_eq_natCast,Option.some.injEq,D.int.injEq,true_and]
    rw [Int.negSucc_eq]
    show (a:Int) - b = -(((b - a - 1 : Nat) : Int) + 1)
    omega
   ·
    cases h
 ·
  split at h
  ·
   rename_i hb
   rw [Nat.blt_eq] at hb
   cases h
   simp only [binInt,if_true]
   rw [show (Int.ofNat a * Int.ofNat b : Int) = Int.ofNat (a * b) from rfl,wrap64 _ (by simp only [Int.ofNat_eq_natCast]; omega) (by simp only [Int.ofNat_eq_natCast]; have : Nat.mul a b = a * b:=rfl; omega)]
   rfl
  ·
   cases h
def binF (op:BinOp) (k:IntKind) (a:Int) (k' : IntKind) (b:Int) : Option D :=
 match Nat.beq k.ctorIdx k'.ctorIdx with
 | false=>binInt op k a k' b
 | true=>match a with
  | .ofNat a=>match b with
   | .ofNat b=>match cmpF op a b with
    | some r=>some (bD r)
    | none=>match k with
     | .i64=>match arF op a b with
      | some d=>some d
      | none=>binInt op .i64 (.ofNat a) k' (.ofNat b)
     | k=>binInt op k (.ofNat a) k' (.ofNat b)
   | b=>binInt op k (.ofNat a) k' b
  | .negSucc a=>match b with
   | .ofNat b=>match negF op with
    | some r=>some (bD r)
    | none=>binInt op k (.negSucc a) k' (.ofNat b)
   | b=>binInt op k (.negSucc a) k' b
theorem binF_eq (op:BinOp) (k:IntKind) (a:Int) (k' : IntKind) (b:Int) : binF op k a k' b = binInt op k a k' b:=by
 unfold binF
 split
 ·
  rfl
 ·
  rename_i hk
  have hk:=kind_eq hk
  subst hk
  split
  ·
   split
   ·
    split
    ·
     rename_i r hr
     rw [bD_eq,cmpF_eq hr]
    ·
     split
     ·
      split
      ·
       rename_i d hd
       rw [arF_eq hd]
      ·
       rfl
     ·
      rfl
   ·
    rfl
  ·
   split
   ·
    split
    ·
     rename_i r hr
     rw [bD_eq,negF_eq hr]
    ·
     rfl
   ·
    rfl
noncomputable def strF (a:List UInt8) : List UInt8 → Bool:=List.rec (fun b=>match b with
 | []=>true
 | _ :: _=>false) (fun x _ ih b=>match b with
 | []=>false
 | y :: b=>match Nat.beq x.toNat y.toNat with
  | true=>ih b
  | false=>false) a
theorem strF_eq : ∀ (a b:List UInt8),strF a b = (a == b)
 | [],[]=>rfl
 | [],_ :: _=>rfl
 | _ :: _,[]=>rfl
 | x :: a,y :: b=>by
  show (match Nat.beq x.toNat y.toNat with
   | true=>strF a b
   | false=>false) = _
  rw [strF_eq a b,List.cons_beq_cons]
  cases h : Nat.beq x.toNat y.toNat with
  | true =>
   rw [Nat.beq_eq,UInt8.toNat_inj] at h
   simp [h]
  | false =>
   have : x ≠ y:=fun e=>by
    rw [e] at h
    rw [show Nat.beq y.toNat y.toNat = true by rw [Nat.beq_eq]] at h
    cases h
   simp [this]
noncomputable def binStrF (op:BinOp) (a b:List UInt8) : Option D:=match op with
 | .eql=>some (bD (strF a b))
 | .neq=>some (bD (!(strF a b)))
 | _=>binStr op a b
theorem binStrF_eq (op:BinOp) (a b:List UInt8) : binStrF op a b = binStr op a b:=by
 cases op <;> simp [binStrF,binStr,bD_eq,strF_eq]
end Go.AM
/- The abstract machine,part 46: one operation,as the kernel reckons it fast. -/
namespace Go.AM
noncomputable def opdF (env:Env) : Operand → Option AV
 | .tmp t=>getL env t
 | .const v=>(constD v).map .im
 | .func f=>some (.im (.fn (.func f) [] []))
 | .global _=>none
theorem opdF_eq (env:Env) (x:Operand) : opdF env x = opd env x:=by
 cases x <;> simp [opdF,opd,getL_eq]
noncomputable def elemF (H:Heap) (id j:Nat) : Option AV:=match getL H id with
 | some (some (.c _ ds))=>match getL ds j with
  | some d=>some (.im d)
  | none=>none
 | some (some (.m _ es))=>getL es j
 | _=>none
theorem elemF_eq (H:Heap) (id j:Nat) : elemF H id j = elem H id j:=by
 unfold elemF elem
 simp only [getL_eq]
 cases H[id]? with
 | none=>rfl
 | some b=>cases b with
  | none=>rfl
  | some b=>cases b with
   | c sz ds=>simp only [Blk.get]; cases ds[j]? <;> rfl
   | m sz es=>rfl
   | o ds=>rfl
noncomputable def partF (agg:Bool) (sz:Nat) (e:AV) (k:Nat) : Option AV:=match agg with
 | false=>match e with
  | .im (.agg ds)=>match getL ds k with
   | some d=>some (.im d)
   | none=>none
  | .agg cs=>getL cs k
  | e=>part' false sz e.cells k
 | true=>match e with
  | .im (.agg ds)=>match Nat.beq k 0 with
   | true=>match Nat.beq (lenF ds) sz with
    | true=>some (.im (.agg ds))
    | false=>part' true sz (AV.im (.agg ds)).cells k
   | false=>part' true sz (AV.im (.agg ds)).cells k
  | e=>part' true sz e.cells k
theorem clos_ims (ds:List D) : clos (ds.map .im) = some ds:=by
 induction ds with
 | nil=>rfl
 | cons d ds ih=>simp [clos,clo,ih]
theorem partF_eq (agg:Bool) (sz:Nat) (e:AV) (k:Nat) : partF agg sz e k = part' agg sz e.cells k:=by
 unfold partF
 split
 ·
  split
  ·
   rename_i ds
   rw [getL_eq]
   simp only [part', AV.cells, Bool.false_eq_true, if_false, List.getElem?_map]
   cases ds[k]? <;> rfl
  ·
   rw [getL_eq]
   simp [part', AV.cells]
  ·
   rfl
 ·
  split
  ·
   rename_i ds
   split
   ·
    rename_i hk
    rw [Nat.beq_eq] at hk
    subst hk
    split
    ·
     rename_i hl
     rw [Nat.beq_eq,lenF_eq] at hl
     subst hl
     simp only [part', AV.cells, if_true, List.length_map, Nat.zero_add, Nat.le_refl, List.drop_zero]
     rw [List.take_of_length_le (by simp)]
     simp only [mkAgg,clos_ims]
    ·
     rfl
   ·
    rfl
  ·
   rfl
noncomputable def valF (X:Px) (env:Env) (H:Heap) (o:Oper) (d:Nat) : Option AV:=match o.op with
 | .move x=>opdF env x
 | .assign x=>match X.own d with
  | true=>none
  | false=>opdF env x
 | .pick c a b=>match opdF env c with
  | some (.im (.bool true))=>opdF env a
  | some (.im (.bool false))=>opdF env b
  | _=>none
 | .binOp op t x y _=>match opdF env x with
  | some (.im (.int k a))=>match opdF env y with
   | some (.im (.int k' b))=>match binF op k a k' b with
    | some d=>some (.im d)
    | none=>none
   | _=>none
  | some (.im (.str a))=>match opdF env y with
   | some (.im (.str b))=>match binStrF op a b with
    | some d=>some (.im d)
    | none=>none
   | _=>none
  | _=>ev0 X.T env H o
 | .load t a=>match opdF env a with
  | some (.ptr id j k)=>match X.T.ty t with
   | some i=>match elemF H id j with
    | some e=>partF (isAggD i.desc) i.size e k
    | none=>none
   | none=>none
  | some (.pe d k)=>match X.T.ty t with
   | some i=>partF (isAggD i.desc) i.size (.im d) k
   | none=>none
  | _=>none
 | .indexAddr t x i=>match X.T.ty t with
  | some ⟨.slice e,_,_,_⟩=>match X.T.ty e with
   | some ie=>match opdF env i with
    | some (.im (.int _ (.ofNat n)))=>match opdF env x with
     | some (.im (.sl _ sz es))=>match Nat.beq sz ie.size with
      | true=>match getL es n with
       | some d=>some (.pe d 0)
       | none=>none
      | false=>none
     | some (.ref id off len)=>match getL H id with
      | some (some b)=>match Nat.beq b.sz ie.size with
       | true=>match Nat.blt n len with
        | true=>some (.ptr id (Nat.add off n) 0)
        | false=>none
       | false=>none
      | _=>none
     | _=>none
    | _=>none
   | none=>none
  | _=>none
 | .fieldAddr st x f=>match X.T.ty st with
  | some i=>match fieldOff i.desc f with
   | some (off,ft)=>match X.T.ty ft with
    | some j=>match Nat.beq j.size 0 with
     | true=>none
     | false=>match opdF env x with
      | some (.ptr id e k)=>some (.ptr id e (Nat.add k off))
      | some (.pe d k)=>some (.pe d (Nat.add k off))
      | _=>none
    | none=>none
   | none=>none
  | none=>none
 | .extract x i=>match opdF env x with
  | some (.tup vs)=>getL vs i
  | _=>none
 | .nilCheck x=>match opdF env x with
  | some (.ptr id j k)=>some (.ptr id j k)
  | some (.pe d k)=>some (.pe d k)
  | _=>none
 | .index t x i=>match opdF env x with
  | some (.im (.str s))=>match X.T.ty t with
   | some ⟨.string,_,_,_⟩=>match opdF env i with
    | some (.im (.int _ (.ofNat n)))=>match getL s n with
     | some c=>some (.im (.int .u8 (.ofNat c.toNat)))
     | none=>none
    | _=>none
   | _=>none
  | _=>ev0 X.T env H o
 | .call { callee:=.builtin .len,args,argTypes }=>match argTypes.toList with
  | [t]=>match args.toList with
   | [a]=>match X.T.ty t with
    | some ⟨.string,_,_,_⟩=>match opdF env a with
     | some (.im (.str s))=>some (.im (.int .i64 (.ofNat (lenF s))))
     | _=>none
    | some ⟨.slice _,_,_,_⟩=>match opdF env a with
     | some (.im (.sl _ _ es))=>some (.im (.int .i64 (.ofNat (lenF es))))
     | some (.ref _ _ len)=>some (.im (.int .i64 (.ofNat len)))
     | _=>none
    | _=>none
   | _=>none
  | _=>none
 | .unOp _ _ _=>ev0 X.T env H o
 | .convert _ _ _=>ev0 X.T env H o
 | .makeInterface _ _=>ev0 X.T env H o
 | .makeFunc _ _ _=>ev0 X.T env H o
 | .slice _ _ _ _ _=>ev0 X.T env H o
 | .field _ _ _=>ev0 X.T env H o
 | _=>none
def flat (X:Px) (d:Nat) : Op → Bool
 | .move _=>true
 | .assign _=>!X.own d
 | .pick _ _ _=>true
 | .binOp _ _ _ _ _=>true
 | .load _ _=>true
 | .indexAddr _ _ _=>true
 | .fieldAddr _ _ _=>true
 | .extract _ _=>true
 | .nilCheck _=>true
 | .index _ _ _=>true
 | .call { callee:=.builtin .len,.. }=>true
 | .unOp _ _ _=>true
 | .convert _ _ _=>true
 | .makeInterface _ _=>true
 | .makeFunc _ _ _=>true
 | .slice _ _ _ _ _=>true
 | .field _ _ _=>true
 | _=>false
section
variable {X:Px} {env:Env} {H:Heap} {o:Oper} {d:Nat} {v:AV}
theorem valF_flat (h:valF X env H o d = some v) : flat X d o.op = true:=by
 unfold valF at h
 unfold flat
 split at h <;> first | rfl | (cases h; done) | skip
 ·
  split at h
  ·
   cases h
  ·
   rename_i hd; simp [hd]
theorem valF_ok (h:valF X env H o d = some v) : ev0 X.T env H o = some v:=by
 obtain ⟨dst,op,type,pos,after,guard⟩:=o
 unfold valF at h
 simp only [opdF_eq,getL_eq,elemF_eq,partF_eq,binF_eq,binStrF_eq,lenF_eq] at h
 cases op with
 | move x=>exact h
 | assign x =>
  simp only at h
  split at h
  ·
   cases h
  ·
   exact h
 | pick c a b =>
  simp only [ev0] at h ⊢
  split at h
  ·
   rename_i hc; simp only [hc,if_true]; exact h
  ·
   rename_i hc; simp only [hc,Bool.false_eq_true,if_false]; exact h
  ·
   cases h
 | binOp op t x y u =>
  simp only at h
  split at h
  ·
   rename_i hx
   split at h
   ·
    rename_i hy
    simp only [ev0,hx,hy]
    split at h
    ·
     rename_i hb; cases h; simp [hb]
    ·
     cases h
   ·
    cases h
  ·
   rename_i hx
   split at h
   ·
    rename_i hy
    simp only [ev0,hx,hy]
    split at h
    ·
     rename_i hb; cases h; simp [hb]
    ·
     cases h
   ·
    cases h
  ·
   exact h
 | load t a =>
  simp only [ev0] at h ⊢
  split at h
  ·
   rename_i hx
   split at h
   ·
    rename_i ht
    simp only [ht,hx]
    exact h
   ·
    cases h
  ·
   rename_i hx
   split at h
   ·
    rename_i ht
    simp only [ht,hx]
    rw [im_cells] at h
    exact h
   ·
    cases h
  ·
   cases h
 | indexAddr t x i =>
  simp only [ev0] at h ⊢
  split at h
  ·
   rename_i ht
   simp only [ht]
   split at h
   ·
    rename_i hte
    simp only [hte]
    split at h
    ·
     rename_i n hi
     have h0 : (0:Int) ≤ Int.ofNat n:=Int.natCast_nonneg n
     have h1 : (Int.ofNat n).toNat = n:=rfl
     simp only [hi,h0,if_true,h1]
     split at h
     ·
      rename_i hx
      simp only [hx]
      split at h
      ·
       rename_i hsz
       rw [Nat.beq_eq] at hsz
       simp only [hsz,beq_self_eq_true,if_true]
       exact h
      ·
       cases h
     ·
      rename_i hx
      simp only [hx]
      split at h
      ·
       rename_i hb
       simp only [hb]
       split at h
       ·
        rename_i hsz
        rw [Nat.beq_eq] at hsz
        simp only [hsz,beq_self_eq_true,if_true]
        split at h
        ·
         rename_i hlt
         rw [Nat.blt_eq] at hlt
         rw [if_pos hlt]
         exact h
        ·
         cases h
       ·
        cases h
      ·
       cases h
     ·
      cases h
    ·
     cases h
   ·
    cases h
  ·
   cases h
 | fieldAddr st x f =>
  simp only [ev0] at h ⊢
  split at h
  ·
   rename_i ht
   simp only [ht]
   split at h
   ·
    rename_i hf
    simp only [hf]
    split at h
    ·
     rename_i hft
     simp only [hft]
     split at h
     ·
      cases h
     ·
      rename_i hsz
      have hsz' : (‹Tyi›.size == 0) = false:=by
       rw [beq_eq_false_iff_ne]
       intro e
       rw [e] at hsz
       cases hsz
      simp only [hsz', Bool.false_eq_true, if_false]
      exact h
    ·
     cases h
   ·
    cases h
  ·
   cases h
 | extract x i=>exact h
 | nilCheck x=>exact h
 | index t x i =>
  simp only at h
  split at h
  ·
   rename_i hx
   split at h
   ·
    rename_i ht
    simp only [ev0,ht]
    split at h
    ·
     rename_i n hi
     have h0 : (0:Int) ≤ Int.ofNat n:=Int.natCast_nonneg n
     have h1 : (Int.ofNat n).toNat = n:=rfl
     simp only [hi,h0,if_true,h1,hx]
     exact h
    ·
     cases h
   ·
    cases h
  ·
   exact h
 | call c =>
  obtain ⟨callee,args,argTypes⟩:=c
  cases callee with
  | builtin b =>
   cases b <;> simp only at h <;> try (cases h; done)
   simp only [ev0]
   split at h
   ·
    rename_i ht
    simp only [ht]
    split at h
    ·
     rename_i a ha
     have hop : opds env args.toList = match opd env a with
      | some v=>some [v]
      | none=>none:=by
      rw [ha]
      simp only [opds]
      cases opd env a <;> rfl
     simp only [hop]
     split at h
     ·
      rename_i hty
      split at h
      ·
       rename_i hx
       simp only [hx,hty]
       exact h
      ·
       cases h
     ·
      rename_i hty
      split at h
      ·
       rename_i hx
       simp only [hx,hty]
       exact h
      ·
       rename_i hx
       simp only [hx,hty]
       exact h
      ·
       cases h
     ·
      cases h
    ·
     cases h
   ·
    cases h
  | _=>cases h
 | unOp _ _ _=>exact h
 | convert _ _ _=>exact h
 | makeInterface _ _=>exact h
 | makeFunc _ _ _=>exact h
 | slice _ _ _ _ _=>exact h
 | field _ _ _=>exact h
 | _=>cases h
theorem flat_ev1 (h:flat X d o.op = true) (hd:o.dst = some d) : ev1 X.T X.own env o = none:=by
 obtain ⟨dst,op,type,pos,after,guard⟩:=o
 simp only at hd
 subst hd
 cases op <;> simp [flat] at h <;> simp [ev1,h]
theorem flat_evL (h:flat X d o.op = true) : evL X.toCx env H o = none:=by
 obtain ⟨dst,op,type,pos,after,guard⟩:=o
 cases op with
 | call c =>
  obtain ⟨callee,args,argTypes⟩:=c
  cases callee with
  | builtin b=>rfl
  | _=>simp [flat] at h
 | _=>rfl
structure PlainX (X:Px) : Prop where
 frz : ∀ d,X.frz d = false
 clm : ∀ d,X.clm d = []
 cast : ∀ o,X.cast o = .any
theorem stepF_plain (hX:PlainX X) {ops:Array Oper} : stepF X ops env H o = stepO X.toCx X.nl ops env H o:=by
 unfold stepF
 split
 ·
  rename_i d hd
  have hp : pre X env H o d = (env,H):=by simp [pre,hX.frz]
  rw [hp]
  split
  ·
   rename_i he
   simp only [hX.clm,claims]
   exact he.symm
  ·
   rename_i he
   exact he.symm
 ·
  rfl
theorem stepF_val (hX:PlainX X) {ops:Array Oper} (hg:guardOf ops env o = some true) (hd:o.dst = some d) (h:valF X env H o d = some v) : stepF X ops env H o = some (env.set d v,H):=by
 have hf:=valF_flat h
 rw [stepF_plain hX]
 unfold stepO
 simp only [hg,flat_evL hf]
 have he : evP X.toCx env H H.length o = some (v,none):=by
  unfold evP evQ
  simp only [flat_ev1 hf hd,valF_ok h,hX.cast,castV]
 simp only [he,hd,putE]
end
end Go.AM
/- The abstract machine,part 63: blocks are lent,as the kernel reckons it fast. -/
namespace Go.AM
noncomputable def posnF (L:List Nat) (i:Nat) : Option Nat:=List.rec (fun _=>none) (fun x _ ih n=>match Nat.beq x i with
 | true=>some n
 | false=>ih (Nat.succ n)) L 0
theorem posnF_go (i:Nat) : ∀ (L:List Nat) (n:Nat),(List.rec (motive:=fun _=>Nat → Option Nat) (fun _=>none) (fun x _ ih n=>match Nat.beq x i with
  | true=>some n
  | false=>ih (Nat.succ n)) L n : Option Nat) = (posn L i).map (· + n)
 | [],n=>rfl
 | x :: L,n=>by
  show (match Nat.beq x i with
   | true=>some n
   | false=>List.rec (motive:=fun _=>Nat → Option Nat) (fun _=>none) (fun x _ ih n=>match Nat.beq x i with
    | true=>some n
    | false=>ih (Nat.succ n)) L (Nat.succ n)) = _
  rw [posnF_go i L (Nat.succ n)]
  have e : posn (x :: L) i = if x == i then some 0 else match posn L i with
   | some j=>some (j + 1)
   | none=>none:=rfl
  rw [e]
  cases hx : Nat.beq x i with
  | true =>
   have : x = i:=Nat.eq_of_beq_eq_true hx
   simp [this]
  | false =>
   have : x ≠ i:=Nat.ne_of_beq_eq_false hx
   simp only [beq_iff_eq,this,if_false]
   cases posn L i with
   | none=>rfl
   | some j=>simp only [Option.map_some]; congr 1; omega
theorem posnF_eq (L:List Nat) (i:Nat) : posnF L i = posn L i:=by
 unfold posnF
 rw [posnF_go]
 cases posn L i <;> rfl
noncomputable def idL (x:AV) (t:List Nat) : List Nat:=match x with
 | .im _=>t
 | .pe _ _=>t
 | .bad=>t
 | .ref i _ _=>i :: t
 | .ptr i _ _=>i :: t
 | .mp i=>i :: t
 | x=>AV.ids x ++ t
theorem idL_eq (x:AV) (t:List Nat) : idL x t = AV.ids x ++ t:=by cases x <;> simp [idL,AV.ids]
noncomputable def idsL (inner:AV → List Nat → List Nat) (l:List AV) (t:List Nat) : List Nat:=List.rec t (fun x _ ih=>inner x ih) l
theorem idsL_eq {inner:AV → List Nat → List Nat} (h:∀ x t,inner x t = AV.ids x ++ t) : ∀ (l:List AV) (t:List Nat),idsL inner l t = AV.idss l ++ t
 | [],t=>by simp [idsL,AV.idss]
 | x :: l,t=>by
  show inner x (idsL inner l t) = _
  rw [h,idsL_eq h l t]
  simp [AV.idss]
noncomputable def id1 (x:AV) (t:List Nat) : List Nat:=match x with
 | .agg cs=>idsL idL cs t
 | .fn _ a c=>idsL idL a (idsL idL c t)
 | .im _=>t
 | .ref i _ _=>i :: t
 | .ptr i _ _=>i :: t
 | x=>idL x t
theorem id1_eq (x:AV) (t:List Nat) : id1 x t = AV.ids x ++ t:=by cases x <;> simp [id1,AV.ids,idL_eq,idsL_eq idL_eq]
noncomputable def id2 (x:AV) (t:List Nat) : List Nat:=match x with
 | .agg cs=>idsL id1 cs t
 | .im _=>t
 | x=>id1 x t
theorem id2_eq (x:AV) (t:List Nat) : id2 x t = AV.ids x ++ t:=by cases x <;> simp [id2,AV.ids,id1_eq,idsL_eq id1_eq]
noncomputable def memF (l:List Nat) (i:Nat) : Bool:=List.rec false (fun x _ ih=>match Nat.beq x i with
 | true=>true
 | false=>ih) l
theorem memF_eq (i:Nat) : ∀ l : List Nat,memF l i = l.contains i
 | []=>rfl
 | x :: l=>by
  show (match Nat.beq x i with
   | true=>true
   | false=>memF l i) = _
  rw [memF_eq i l,List.contains_cons]
  cases hx : Nat.beq x i with
  | true =>
   have : x = i:=Nat.eq_of_beq_eq_true hx
   simp [this]
  | false =>
   have : x ≠ i:=Nat.ne_of_beq_eq_false hx
   have : (i == x) = false:=by simp; exact fun e=>this e.symm
   rw [this]; rfl
noncomputable def reachF (H:Heap) (n:Nat) : List Nat → List Nat → List Nat:=Nat.rec (fun _ seen=>seen) (fun _ ih todo seen=>match todo with
 | []=>seen
 | i :: todo=>match memF seen i with
  | true=>ih todo seen
  | false=>match getL H i with
   | some (some (.c _ _))=>snocF seen i fun s=>ih todo s
   | some (some (.m _ es))=>snocF seen i fun s=>ih (idsL id2 es todo) s
   | some (some (.o _))=>snocF seen i fun s=>ih todo s
   | _=>ih todo seen) n
theorem reachF_eq (H:Heap) : ∀ (n:Nat) (todo seen:List Nat),reachF H n todo seen = reach H n todo seen
 | 0,todo,seen=>rfl
 | n + 1,[],seen=>rfl
 | n + 1,i :: todo,seen=>by
  show (match memF seen i with
   | true=>reachF H n todo seen
   | false=>match getL H i with
    | some (some (.c _ _))=>snocF seen i fun s=>reachF H n todo s
    | some (some (.m _ es))=>snocF seen i fun s=>reachF H n (idsL id2 es todo) s
    | some (some (.o _))=>snocF seen i fun s=>reachF H n todo s
    | _=>reachF H n todo seen) = _
  rw [memF_eq,getL_eq]
  simp only [snocF_eq,reachF_eq H n,idsL_eq id2_eq]
  conv=>rhs; unfold reach
  cases seen.contains i with
  | true=>rfl
  | false =>
   simp only [Bool.false_eq_true,if_false]
   cases H[i]? with
   | none=>rfl
   | some b=>cases b with
    | none=>rfl
    | some b=>cases b <;> rfl
section
variable {β:Type}
noncomputable def renL (f:Nat → Option Nat) (x:AV) (k:AV → β) : β:=match x with
 | .im d=>k (.im d)
 | .bad=>k .bad
 | .pe d j=>k (.pe d j)
 | .ref i o n=>match f i with
  | some j=>k (.ref j o n)
  | none=>k .bad
 | .ptr i o n=>match f i with
  | some j=>k (.ptr j o n)
  | none=>k .bad
 | .mp i=>match f i with
  | some j=>k (.mp j)
  | none=>k .bad
 | x=>k (AV.ren f x)
theorem renL_eq (f:Nat → Option Nat) (x:AV) (k:AV → β) : renL f x k = k (AV.ren f x):=by
 cases x with
 | ref i o n=>simp only [renL,AV.ren]; cases f i <;> rfl
 | ptr i o n=>simp only [renL,AV.ren]; cases f i <;> rfl
 | mp i=>simp only [renL,AV.ren]; cases f i <;> rfl
 | _=>simp [renL,AV.ren]
noncomputable def rensL (inner:AV → (AV → β) → β) (l:List AV) : (List AV → β) → β:=List.rec (fun k=>k []) (fun x _ ih k=>inner x fun y=>ih fun ys=>k (y :: ys)) l
theorem rensL_eq {inner:AV → (AV → β) → β} {f:Nat → Option Nat} (h:∀ x k,inner x k = k (AV.ren f x)) : ∀ (l:List AV) (k:List AV → β),rensL inner l k = k (AV.rens f l)
 | [],k=>by simp [rensL,AV.rens]
 | x :: l,k=>by
  show inner x (fun y=>rensL inner l fun ys=>k (y :: ys)) = _
  rw [h,rensL_eq h l]
  simp [AV.rens]
noncomputable def ren1 (f:Nat → Option Nat) (x:AV) (k:AV → β) : β:=match x with
 | .agg cs=>rensL (renL f) cs fun ys=>k (.agg ys)
 | .fn g a c=>rensL (renL f) a fun a'=>rensL (renL f) c fun c'=>k (.fn g a' c')
 | .im d=>k (.im d)
 | x=>renL f x k
theorem ren1_eq (f:Nat → Option Nat) (x:AV) (k:AV → β) : ren1 f x k = k (AV.ren f x):=by
 cases x <;> simp [ren1,AV.ren,renL_eq,rensL_eq (renL_eq f)]
noncomputable def ren2 (f:Nat → Option Nat) (x:AV) (k:AV → β) : β:=match x with
 | .agg cs=>rensL (ren1 f) cs fun ys=>k (.agg ys)
 | .im d=>k (.im d)
 | .tup vs=>rensL (ren1 f) vs fun ys=>k (.tup ys)
 | x=>ren1 f x k
theorem ren2_eq (f:Nat → Option Nat) (x:AV) (k:AV → β) : ren2 f x k = k (AV.ren f x):=by
 cases x <;> simp [ren2,AV.ren,ren1_eq,rensL_eq (ren1_eq f)]
noncomputable def elF (f:Nat → Option Nat) (x:AV) (k:AV → β) : β:=ren2 f x fun y=>match y with
 | .bad=>k (.agg [.bad])
 | .agg cs=>k (.agg cs)
 | y=>k y
theorem elF_eq (f:Nat → Option Nat) (x:AV) (k:AV → β) : elF f x k = k (el (AV.ren f x)):=by
 unfold elF
 rw [ren2_eq]
 cases AV.ren f x <;> rfl
noncomputable def elsF (f:Nat → Option Nat) (l:List AV) : (List AV → β) → β:=List.rec (fun k=>k []) (fun x _ ih k=>elF f x fun y=>ih fun ys=>k (y :: ys)) l
theorem elsF_eq (f:Nat → Option Nat) : ∀ (l:List AV) (k:List AV → β),elsF f l k = k (l.map fun e=>el (AV.ren f e))
 | [],k=>rfl
 | x :: l,k=>by
  show elF f x (fun y=>elsF f l fun ys=>k (y :: ys)) = _
  rw [elF_eq,elsF_eq f l]
  rfl
noncomputable def brenF (f:Nat → Option Nat) (b:Option Blk) (k:Option Blk → β) : β:=match b with
 | none=>k none
 | some b=>match b with
  | .c sz ds=>k (some (.c sz ds))
  | .m sz es=>elsF f es fun ys=>k (some (.m sz ys))
  | .o ds=>k (some (.o ds))
theorem brenF_eq (f:Nat → Option Nat) (b:Option Blk) (k:Option Blk → β) : brenF f b k = k (bren f b):=by
 cases b with
 | none=>rfl
 | some b=>cases b with
  | c sz ds=>rfl
  | m sz es=>simp only [brenF,elsF_eq,bren,Blk.ren]
  | o ds=>rfl
noncomputable def brensF (f:Nat → Option Nat) (l:Heap) : (Heap → β) → β:=List.rec (fun k=>k []) (fun x _ ih k=>brenF f x fun y=>ih fun ys=>k (y :: ys)) l
theorem brensF_eq (f:Nat → Option Nat) : ∀ (l:Heap) (k:Heap → β),brensF f l k = k (l.map (bren f))
 | [],k=>rfl
 | x :: l,k=>by
  show brenF f x (fun y=>brensF f l fun ys=>k (y :: ys)) = _
  rw [brenF_eq,brensF_eq f l]
  rfl
noncomputable def pickF (H:Heap) (P:List Nat) (L:List Nat) : (Heap → β) → β:=List.rec (fun k=>k []) (fun i _ ih k=>match getL H i with
 | some b=>brenF (posnF P) b fun y=>ih fun ys=>k (y :: ys)
 | none=>ih fun ys=>k (none :: ys)) L
theorem pickF_go (H:Heap) (P:List Nat) : ∀ (L:List Nat) (k:Heap → β),pickF H P L k = k (L.map fun i=>bren (posn P) (H.at i))
 | [],k=>rfl
 | i :: L,k=>by
  show (match getL H i with
   | some b=>brenF (posnF P) b fun y=>pickF H P L fun ys=>k (y :: ys)
   | none=>pickF H P L fun ys=>k (none :: ys)) = _
  have e : posnF P = posn P:=funext (posnF_eq P)
  rw [getL_eq]
  simp only [brenF_eq,pickF_go H P L,e,List.map_cons,Heap.at]
  cases H[i]? <;> rfl
theorem pickF_eq (H:Heap) (L:List Nat) (k:Heap → β) : pickF H L L k = k (pickH H L):=pickF_go H L L k
noncomputable def backFF (L:List Nat) (base:Nat) (j:Nat) : Option Nat:=match getL L j with
 | some i=>some i
 | none=>some (base + (j - L.length))
theorem backFF_eq (L:List Nat) (base:Nat) : backFF L base = backF L base:=by
 funext j
 unfold backFF backF
 rw [getL_eq]
 cases L[j]? <;> rfl
noncomputable def stayF (L:List Nat) : Heap → Bool:=List.rec (fun _=>true) (fun _ _ ih H'=>match H' with
 | []=>false
 | b :: t=>match b with
  | some _=>ih t
  | none=>false) L
theorem stayF_at : ∀ {L:List Nat} {H' : Heap},stayF L H' = true → ∀ j,j < L.length → ∃ b,H'.at j = some b
 | [], H', _, j, hj => absurd hj (by simp)
 | x :: L, H', h, j, hj => by
  have h : (match (generalizing:=false) H' with
   | []=>false
   | b :: t=>match (generalizing:=false) b with
    | some _=>stayF L t
    | none=>false) = true:=h
  split at h
  ·
   cases h
  ·
   rename_i b t
   split at h
   ·
    rename_i b'
    cases j with
    | zero => exact ⟨b', rfl⟩
    | succ j =>
     obtain ⟨c,hc⟩:=stayF_at h j (by simpa using hj)
     exact ⟨c,by simpa [Heap.at] using hc⟩
   ·
    cases h
theorem stayF_keep {L:List Nat} {H' : Heap} (h:stayF L H' = true) : keepF L H' = some:=by
 funext i
 unfold keepF
 split
 ·
  rename_i j hj
  have:=posn_get hj
  obtain ⟨b,hb⟩:=stayF_at h j (List.getElem?_eq_some_iff.1 this).1
  rw [hb]
 ·
  rfl
theorem ren_some_both : (∀ x : AV,AV.ren some x = x) ∧ (∀ l : List AV,AV.rens some l = l):=by
 have key : ∀ x : AV,AV.ren some x = x:=by
  intro x
  refine AV.rec (motive_1:=fun x=>AV.ren some x = x) (motive_2:=fun l=>AV.rens some l = l) ?_ ?_ ?_ ?_ ?_ ?_ ?_ ?_ ?_ ?_ ?_ ?_ x
  all_goals (intros; simp_all [AV.ren,AV.rens])
 refine ⟨key,fun l=>?_⟩
 rw [rens_eq,List.map_congr_left (g:=id) fun x _=>key x,List.map_id]
theorem ren_some (x:AV) : AV.ren some x = x:=ren_some_both.1 x
theorem rens_some (l:List AV) : AV.rens some l = l:=ren_some_both.2 l
noncomputable def fullF (es:List AV) : Bool:=List.rec true (fun x _ ih=>match x with
 | .bad=>false
 | _=>ih) es
theorem fullF_map : ∀ {es:List AV},fullF es = true → (es.map fun e=>el (AV.ren some e)) = es
 | [],_=>rfl
 | x :: es,h=>by
  have h : (match (generalizing:=false) x with
   | .bad=>false
   | _=>fullF es) = true:=h
  simp only [List.map_cons,ren_some]
  cases x with
  | bad=>cases h
  | _=>exact congrArg _ ((List.map_congr_left fun e _=>by rw [ren_some]).trans (fullF_map h))
noncomputable def sameF (b:Option Blk) (k:Option Blk → β) : β:=match b with
 | none=>k none
 | some b=>match b with
  | .c sz ds=>k (some (.c sz ds))
  | .m sz es=>match fullF es with
   | true=>k (some (.m sz es))
   | false=>brenF some (some (.m sz es)) k
  | .o ds=>k (some (.o ds))
theorem sameF_eq (b:Option Blk) (k:Option Blk → β) : sameF b k = k (bren some b):=by
 cases b with
 | none=>rfl
 | some b=>cases b with
  | c sz ds=>rfl
  | o ds=>rfl
  | m sz es =>
   unfold sameF
   cases h : fullF es with
   | true=>simp only [h,bren,Blk.ren,fullF_map h]
   | false=>simp only [h,brenF_eq]
noncomputable def backG (L:List Nat) (base:Nat) (H' : Heap) (H:Heap) : Nat → (Heap → β) → β:=List.rec (fun _ k=>brensF (backFF L base) (H'.drop L.length) k) (fun b _ ih i k=>match posnF L i with
 | some j=>match getL H' j with
  | some b'=>brenF (backFF L base) b' fun y=>ih (Nat.succ i) fun ys=>k (y :: ys)
  | none=>ih (Nat.succ i) fun ys=>k (none :: ys)
 | none=>sameF b fun y=>ih (Nat.succ i) fun ys=>k (y :: ys)) H
theorem backG_go {L:List Nat} {base:Nat} {H' H : Heap} (hs:keepF L H' = some) : ∀ (S:Heap) (i:Nat) (k:Heap → β),(∀ j,S[j]? = H[i + j]?) →
  backG L base H' S i k = k (((List.range' i S.length).map fun i=>match posn L i with
   | some j=>bren (backF L base) (H'.at j)
   | none=>bren (keepF L H') (H.at i)) ++ (H'.drop L.length).map (bren (backF L base)))
 | [],i,k,_=>by
  show brensF (backFF L base) (H'.drop L.length) k = _
  rw [brensF_eq,backFF_eq]
  rfl
 | b :: S,i,k,hS=>by
  show (match posnF L i with
   | some j=>match getL H' j with
    | some b'=>brenF (backFF L base) b' fun y=>backG L base H' S (Nat.succ i) fun ys=>k (y :: ys)
    | none=>backG L base H' S (Nat.succ i) fun ys=>k (none :: ys)
   | none=>sameF b fun y=>backG L base H' S (Nat.succ i) fun ys=>k (y :: ys)) = _
  have ih:=fun k' : Heap → β=>backG_go (base:=base) (H:=H) hs S (Nat.succ i) k' (fun j=>by
   have:=hS (j + 1)
   rw [List.getElem?_cons_succ] at this
   rw [this]
   congr 1
   omega)
  have hb : H.at i = b:=by
   have:=hS 0
   simp only [List.getElem?_cons_zero,Nat.add_zero] at this
   simp only [Heap.at,← this]
  rw [posnF_eq]
  simp only [getL_eq]
  simp only [brenF_eq,sameF_eq,ih,backFF_eq,List.length_cons,List.range'_succ,List.map_cons,List.cons_append]
  cases posn L i with
  | none=>simp only [hb,hs]
  | some j =>
   simp only [Heap.at]
   cases H'[j]? <;> rfl
theorem backG_eq {L:List Nat} {H' H : Heap} (hs:keepF L H' = some) (k:Heap → β) : backG L H.length H' H 0 k = k (backH L H H'):=by
 rw [backG_go (H:=H) hs H 0 k (fun j=>by rw [Nat.zero_add])]
 unfold backH
 rw [List.range_eq_range']
 rfl
end
end Go.AM
/- The abstract machine,part 47: stores,memory,and calls,as the kernel reckons them fast. -/
namespace Go.AM
noncomputable def storeF {β:Type} (T:Tab) (env:Env) (H:Heap) (t:TypeId) (x y:Operand) (k:Nat → Blk → Option β) (slow:Option β) : Option β :=
 match opdF env x with
 | some (.ptr id j c)=>match T.ty t with
  | some i=>match opdF env y with
   | some v=>match okCell v with
    | true=>match Nat.beq i.size 1 with
     | true=>match getL H id with
      | some (some (.c sz ds))=>match v with
       | .im d=>match getL ds j with
        | some e=>match Nat.beq sz 1 with
         | true=>match Nat.beq c 0 with
          | true=>setF ds j d fun ds'=>k id (.c sz ds')
          | false=>slow
         | false=>match e with
          | .agg cs=>match Nat.blt c (lenF cs) && Nat.blt 1 (lenF cs) with
           | true=>setF cs c d fun cs'=>setF ds j (.agg cs') fun ds'=>k id (.c sz ds')
           | false=>slow
          | _=>slow
        | none=>slow
       | _=>slow
      | some (some (.m sz es))=>match Nat.beq sz 1 with
       | true=>slow
       | false=>match getL es j with
        | some (.agg cs)=>match Nat.blt c (lenF cs) && Nat.blt 1 (lenF cs) with
         | true=>setF cs c v fun cs'=>setF es j (mkAgg cs') fun es'=>k id (many sz es')
         | false=>slow
        | _=>slow
      | _=>slow
     | false=>slow
    | false=>slow
   | none=>slow
  | none=>slow
 | _=>slow
theorem okCell_cells {v:AV} (h:okCell v = true) : v.cells = [v]:=by
 cases v with
 | im d=>cases d <;> simp [okCell] at h <;> rfl
 | agg _=>simp [okCell] at h
 | tup _=>simp [okCell] at h
 | bad=>simp [okCell] at h
 | _=>rfl
theorem mkEl_two {cs:List AV} (h:1 < cs.length) : mkEl cs = mkAgg cs:=by
 match cs,h with
 | a :: b :: l,_=>rfl
theorem storeF_ok {β:Type} {T:Tab} {env:Env} {H:Heap} {t:TypeId} {x y:Operand} {k:Nat → Blk → Option β} {slow:Option β} {r:β} (h:storeF T env H t x y k slow = some r) {o:Oper} (ho:o.op = .store t x y) :
  (∃ id b,evS T env H o = some (H.set id (some b)) ∧ k id b = some r) ∨ slow = some r:=by
 unfold storeF at h
 simp only [opdF_eq,getL_eq,setF_eq,lenF_eq] at h
 split at h
 ·
  rename_i id j c hx
  split at h
  ·
   rename_i i ht
   split at h
   ·
    rename_i v hy
    split at h
    ·
     rename_i hok
     split at h
     ·
      rename_i hsz
      rw [Nat.beq_eq] at hsz
      have hcl:=okCell_cells hok
      have hs0 : (i.size != 0) = true:=by rw [hsz]; rfl
      have hall : v.cells.all okCell = true:=by rw [hcl]; simp [hok]
      have hlen : (v.cells.length == i.size) = true:=by rw [hcl,hsz]; rfl
      split at h
      ·
       rename_i sz ds hb
       split at h
       ·
        rename_i d
        split at h
        ·
         rename_i e he
         have hjl : j < ds.length:=(List.getElem?_eq_some_iff.1 he).1
         split at h
         ·
          rename_i hb1
          rw [Nat.beq_eq] at hb1
          split at h
          ·
           rename_i hc
           rw [Nat.beq_eq] at hc
           left
           refine ⟨id,.c sz (ds.set j d),?_,h⟩
           unfold evS
           rw [ho]
           simp only [ht,hx,hy,hb,hlen,hs0,hall,Bool.and_self,if_true]
           have e1 : (c == 0 && i.size == (Blk.c sz ds).sz) = true:=by simp [hc,hsz,hb1,Blk.sz]
           rw [if_pos e1,if_pos (show j < (Blk.c sz ds).len from hjl),hcl]
           simp [mkEl,hok,Blk.put,Blk.put.putC,clo]
          ·
           exact .inr h
         ·
          rename_i hb1
          have hb1' : sz ≠ 1:=fun e=>by rw [e] at hb1; cases hb1
          split at h
          ·
           rename_i cs
           split at h
           ·
            rename_i hc
            simp only [Bool.and_eq_true,Nat.blt_eq] at hc
            obtain ⟨hc,hc1⟩:=hc
            left
            refine ⟨id,.c sz (ds.set j (.agg (cs.set c d))),?_,h⟩
            unfold evS
            rw [ho]
            simp only [ht,hx,hy,hb,hlen,hs0,hall,Bool.and_self,if_true]
            have e1 : ¬ (c == 0 && i.size == (Blk.c sz ds).sz) = true:=by simp only [Bool.and_eq_true,beq_iff_eq,Blk.sz]; omega
            rw [if_neg e1]
            have hget : (Blk.c sz ds).get j = some (.im (.agg cs)):=by simp [Blk.get,he]
            simp only [hget]
            rw [if_pos (by simp only [AV.cells,List.length_map]; omega),hcl]
            have e2 : spl (AV.im (.agg cs)).cells c [AV.im d] = (cs.set c d).map .im:=by
             simp only [spl,AV.cells,List.map_set]
            have e3 : mkAgg ((cs.set c d).map .im) = .im (.agg (cs.set c d)):=by simp only [mkAgg,clos_ims]
            rw [e2,mkEl_two (by simpa using hc1),e3]
            rfl
           ·
            exact .inr h
          ·
           exact .inr h
        ·
         exact .inr h
       ·
        exact .inr h
      ·
       rename_i sz es hb
       split at h
       ·
        exact .inr h
       ·
        rename_i hb1
        have hb1' : sz ≠ 1:=fun e=>by rw [e] at hb1; cases hb1
        split at h
        ·
         rename_i cs he
         split at h
         ·
          rename_i hc
          simp only [Bool.and_eq_true,Nat.blt_eq] at hc
          obtain ⟨hc,hc1⟩:=hc
          left
          refine ⟨id,many sz (es.set j (mkAgg (cs.set c v))),?_,h⟩
          unfold evS
          rw [ho]
          simp only [ht,hx,hy,hb,hlen,hs0,hall,Bool.and_self,if_true]
          have e1 : ¬ (c == 0 && i.size == (Blk.m sz es).sz) = true:=by simp only [Bool.and_eq_true,beq_iff_eq,Blk.sz]; omega
          rw [if_neg e1]
          have hget : (Blk.m sz es).get j = some (.agg cs):=by simp [Blk.get,he]
          simp only [hget]
          rw [if_pos (by simp only [AV.cells]; omega),hcl]
          have e2 : spl (AV.agg cs).cells c [v] = cs.set c v:=by simp only [spl,AV.cells]
          rw [e2,mkEl_two (by simpa using hc1)]
          rfl
         ·
          exact .inr h
        ·
         exact .inr h
      ·
       exact .inr h
     ·
      exact .inr h
    ·
     exact .inr h
   ·
    exact .inr h
  ·
   exact .inr h
 ·
  exact .inr h
noncomputable def imsF (l:List AV) : Bool:=List.rec true (fun x _ ih=>match x with
 | .im _=>ih
 | _=>false) l
theorem imsF_ids : ∀ {l:List AV},imsF l = true → AV.idss l = [] ∧ ∀ f,AV.rens f l = l
 | [],_=>⟨rfl,fun _=>rfl⟩
 | x :: l,h=>by
  cases x with
  | im d =>
   have h : imsF l = true:=h
   obtain ⟨h1,h2⟩:=imsF_ids h
   exact ⟨by simp [AV.idss,AV.ids,h1],fun f=>by simp [AV.rens,AV.ren,h2]⟩
  | _=>exact Bool.noConfusion (show false = true from h)
noncomputable def argsF (env:Env) (l:List Operand) : Option (List AV):=List.rec (some []) (fun x _ ih=>match opdF env x with
 | some v=>match ih with
  | some vs=>some (v :: vs)
  | none=>none
 | none=>none) l
theorem argsF_eq (env:Env) : ∀ (l:List Operand),argsF env l = opds env l
 | []=>rfl
 | x :: l=>by
  show (match opdF env x with
   | some v=>match argsF env l with
    | some vs=>some (v :: vs)
    | none=>none
   | none=>none) = _
  rw [opdF_eq,argsF_eq env l]
  simp only [opds]
  cases opd env x with
  | none=>rfl
  | some v=>cases opds env l <;> rfl
noncomputable def putF {β:Type} (env:Env) (d:Option Nat) (v:AV) (k:Env → β) : β:=match d with
 | some d=>setF env d v k
 | none=>k env
theorem putF_eq {β:Type} (env:Env) (d:Option Nat) (v:AV) (k:Env → β) : putF env d v k = k (putE env d v):=by
 cases d with
 | none=>rfl
 | some d=>exact setF_eq env d v k
noncomputable def rensF {β:Type} (f:Nat → Option Nat) (l:List AV) : (List AV → β) → β:=List.rec (fun k=>k []) (fun x _ ih k=>match x with
 | .im d=>ih fun ys=>k (.im d :: ys)
 | .bad=>ih fun ys=>k (.bad :: ys)
 | .ref i o n=>match f i with
  | some j=>ih fun ys=>k (.ref j o n :: ys)
  | none=>ih fun ys=>k (.bad :: ys)
 | .ptr i o n=>match f i with
  | some j=>ih fun ys=>k (.ptr j o n :: ys)
  | none=>ih fun ys=>k (.bad :: ys)
 | x=>ih fun ys=>k (AV.ren f x :: ys)) l
theorem rensF_eq {β:Type} (f:Nat → Option Nat) : ∀ (l:List AV) (k:List AV → β),rensF f l k = k (AV.rens f l)
 | [],_=>rfl
 | x :: l,k=>by
  have ih : ∀ k' : List AV → β,List.rec (motive:=fun _=>(List AV → β) → β) (fun k=>k []) (fun x _ ih k=>match x with
   | .im d=>ih fun ys=>k (.im d :: ys)
   | .bad=>ih fun ys=>k (.bad :: ys)
   | .ref i o n=>match f i with
    | some j=>ih fun ys=>k (.ref j o n :: ys)
    | none=>ih fun ys=>k (.bad :: ys)
   | .ptr i o n=>match f i with
    | some j=>ih fun ys=>k (.ptr j o n :: ys)
    | none=>ih fun ys=>k (.bad :: ys)
   | x=>ih fun ys=>k (AV.ren f x :: ys)) l k' = k' (AV.rens f l):=rensF_eq f l
  cases x with
  | im d=>exact (ih fun ys=>k (.im d :: ys)).trans (by simp only [AV.rens,AV.ren])
  | bad=>exact (ih fun ys=>k (.bad :: ys)).trans (by simp only [AV.rens,AV.ren])
  | ref i o n =>
   cases hf : f i with
   | some j =>
    have : rensF f (.ref i o n :: l) k = rensF f l fun ys=>k (.ref j o n :: ys):=by
     show (match f i with
      | some j=>rensF f l fun ys=>k (.ref j o n :: ys)
      | none=>rensF f l fun ys=>k (.bad :: ys)) = _
     rw [hf]
    rw [this,rensF_eq f l]
    simp only [AV.rens,AV.ren,hf]
   | none =>
    have : rensF f (.ref i o n :: l) k = rensF f l fun ys=>k (.bad :: ys):=by
     show (match f i with
      | some j=>rensF f l fun ys=>k (.ref j o n :: ys)
      | none=>rensF f l fun ys=>k (.bad :: ys)) = _
     rw [hf]
    rw [this,rensF_eq f l]
    simp only [AV.rens,AV.ren,hf]
  | ptr i o n =>
   cases hf : f i with
   | some j =>
    have : rensF f (.ptr i o n :: l) k = rensF f l fun ys=>k (.ptr j o n :: ys):=by
     show (match f i with
      | some j=>rensF f l fun ys=>k (.ptr j o n :: ys)
      | none=>rensF f l fun ys=>k (.bad :: ys)) = _
     rw [hf]
    rw [this,rensF_eq f l]
    simp only [AV.rens,AV.ren,hf]
   | none =>
    have : rensF f (.ptr i o n :: l) k = rensF f l fun ys=>k (.bad :: ys):=by
     show (match f i with
      | some j=>rensF f l fun ys=>k (.ptr j o n :: ys)
      | none=>rensF f l fun ys=>k (.bad :: ys)) = _
     rw [hf]
    rw [this,rensF_eq f l]
    simp only [AV.rens,AV.ren,hf]
  | _=>exact ih _
abbrev Rz:=Option (Ez × Env × Heap)
noncomputable def backR (L:List Nat) (env:Env) (H:Heap) (res:AV) (H' : Heap) (k:AV → Env → Heap → Rz) : Rz:=match stayF L H' with
 | true=>ren2 (backFF L H.length) res fun v=>backG L H.length H' H 0 fun H2=>k v env H2
 | false=>rensF (keepF L H') env fun env'=>allF (backH L H H') fun H2=>k (AV.ren (backF L H.length) res) env' H2
theorem backR_eq (L:List Nat) (env:Env) (H:Heap) (res:AV) (H' : Heap) (k:AV → Env → Heap → Rz) : backR L env H res H' k = k (AV.ren (backF L H.length) res) (AV.rens (keepF L H') env) (backH L H H'):=by
 unfold backR
 cases h : stayF L H' with
 | true =>
  have hk:=stayF_keep h
  simp only [ren2_eq,backFF_eq,backG_eq hk,hk,rens_some]
 | false=>simp only [rensF_eq,allF_eq]
noncomputable def lendR (sz:FuncId → Sz) (env:Env) (H:Heap) (g:FuncId) (as:List AV) (d:Option Nat) (L:List Nat) (k:Env → Heap → Rz) : Rz :=
 rensL (ren2 (posnF L)) as fun as'=>pickF H L L fun HL=>match sz g as' HL with
 | some (false,res,H')=>backR L env H res H' fun v env' H2=>putF env' d v fun e=>k e H2
 | some (true, x, H') => backR L env H x H' fun v env' H2 => some (.pan v, env', H2)
 | none=>none
theorem lendR_eq (sz:FuncId → Sz) (env:Env) (H:Heap) (g:FuncId) (as:List AV) (d:Option Nat) (L:List Nat) (k:Env → Heap → Rz) : lendR sz env H g as d L k = match sz g (AV.rens (posn L) as) (pickH H L) with
  | some (false,res,H')=>backR L env H res H' fun v env' H2=>putF env' d v fun e=>k e H2
  | some (true, x, H') => backR L env H x H' fun v env' H2 => some (.pan v, env', H2)
  | none=>none:=by
 have e : posnF L = posn L:=funext (posnF_eq L)
 unfold lendR
 rw [rensL_eq (ren2_eq (posnF L)),pickF_eq,e]
noncomputable def callR (sz:FuncId → Sz) (env:Env) (H:Heap) (g:FuncId) (as:List AV) (d:Option Nat) (k:Env → Heap → Rz) : Rz :=
 match imsF as with
 | true=>match sz g as [] with
  | some (false,.im x,[])=>putF env d (.im x) fun env'=>k env' H
  | some (false,res,H')=>backR [] env H res H' fun v env' H2=>putF env' d v fun e=>k e H2
  | some (true, x, H') => backR [] env H x H' fun v env' H2 => some (.pan v, env', H2)
  | none=>none
 | false=>allF (reachF H 400 (idsL id2 as []) []) fun L=>lendR sz env H g as d L k
noncomputable def guardF (ops:Array Oper) (env:Env) (g:Option (Nat × Bool)) : Option Bool:=match g with
 | none=>some true
 | some (j,want)=>match getL ops.toList j with
  | some oj=>match oj.dst with
   | some t=>match getL env t with
    | some (.im (.bool true))=>some want
    | some (.im (.bool false))=>some (!want)
    | some (.tup _)=>some false
    | _=>none
   | none=>none
  | none=>none
theorem guardF_eq (ops:Array Oper) (env:Env) (o:Oper) : guardF ops env o.guard = guardOf ops env o:=by
 unfold guardF guardOf
 simp only [getL_eq,Array.getElem?_toList]
 cases o.guard with
 | none=>rfl
 | some g =>
  obtain ⟨j,want⟩:=g
  simp only
  cases ops[j]? with
  | none=>rfl
  | some oj =>
   simp only
   cases oj.dst with
   | none=>rfl
   | some t =>
    simp only
    cases env[t]? with
    | none=>rfl
    | some v=>cases v with
     | im d=>cases d with
      | bool b=>cases b <;> cases want <;> rfl
      | _=>rfl
     | _=>rfl
noncomputable def slowR (X:Px) (pan:Oracle) (ops:Array Oper) (o:Oper) (env:Env) (H:Heap) (k:Env → Heap → Rz) : Rz :=
 match stepZ X pan ops env H o with
  | some (none, env', H') => allF env' fun env' => allF H' fun H' => k env' H'
  | some (some x, env', H') => some (.pan x, env', H')
  | none=>none
noncomputable def newR (o:Oper) (env:Env) (H:Heap) (k:Env → Heap → Rz) (slow:Rz) (a:Option Ans) : Rz:=match o.dst with
 | some d=>match a with
  | some a=>setF env d (a.av (lenF H)) fun env'=>match a.blk with
   | some b=>snocF H (some b) fun H'=>k env' H'
   | none=>k env' H
  | none=>slow
 | none=>slow
noncomputable def doneR (X:Px) (sz:FuncId → Sz) (pan:Oracle) (ops:Array Oper) (o:Oper) (env:Env) (H:Heap) (k:Env → Heap → Rz) : Rz:=match o.op with
 | .store t x y=>match o.dst with
  | none=>storeF X.T env H t x y (fun id b=>setF H id (some b) fun H'=>k env H') (match evS X.T env H o with
   | some H'=>allF H' fun H'=>k env H'
   | none=>none)
  | some _=>slowR X pan ops o env H k
 | .call { callee:=.value f,args,.. }=>match opdF env f with
  | some fv=>match fnOf fv with
   | some (g,a,c)=>match argsF env args.toList with
    | some as=>callR sz env H g (a ++ as ++ c) o.dst k
    | none=>none
   | none=>none
  | none=>none
 | .call { callee:=.builtin .append,.. }=>match evA X.T X.nl env H o with
  | some (v, env', H') => allF (putE env' o.dst v) fun e => allF H' fun H' => k e H'
  | none=>none
 | .alloc _=>newR o env H k (slowR X pan ops o env H k) (ev1 X.T X.own env o)
 | .box _ _=>newR o env H k (slowR X pan ops o env H k) (ev1 X.T X.own env o)
 | .build _ _=>newR o env H k (slowR X pan ops o env H k) (ev1 X.T X.own env o)
 | .buildSlice _ _ _=>newR o env H k (slowR X pan ops o env H k) (ev1 X.T X.own env o)
 | _=>match o.dst with
  | some d=>match valF X env H o d with
   | some v=>setF env d v fun env'=>k env' H
   | none=>slowR X pan ops o env H k
  | none=>slowR X pan ops o env H k
noncomputable def stepR (X:Px) (sz:FuncId → Sz) (pan:Oracle) (ops:Array Oper) (o:Oper) (env:Env) (H:Heap) (k:Env → Heap → Rz) : Rz :=
 match guardF ops env o.guard with
 | some true=>doneR X sz pan ops o env H k
 | some false=>putF env o.dst (.tup []) fun env'=>k env' H
 | none=>none
end Go.AM
/- The abstract machine,part 48: a fast step is a step. -/
namespace Go.AM
section
variable {P:Program} {I I' : Nat → Option (Array Value)} {κ κ' : Nat → Option Loc} {w w' : World} {H H' : Heap} {DF:List Deferred} {A:Nat → Prop} {κ0:Nat → Option Loc} {I0:Nat → Option (Array Value)} {w0:World} {env env' : Env} {a:Act} {ops:Array Oper} {Q:Exit → Act → World → Prop} {X:Px} {pan:Oracle} {nl:Nat} {sz:FuncId → Sz} {k:Env → Heap → Rz} {r:Ez × Env × Heap}
theorem rets_ok (hs:∀ f,OkZ P f (sz f)) : CallOK P (retsOf sz):=fun f=>(hs f).ret
theorem slowR_wp (hT:X.T.ok P) (hc:CallOK P X.call) (hp:PanOK P pan) (s:Stx DF A κ0 X.nl I0 w0 H env a w) {i:Nat} {o:Oper} (ho:ops[i]? = some o) (h:slowR X pan ops o env H k = some r) {K:Act → World → Prop}
  (hK : ∀ env' H' a' w', k env' H' = some r → Stx DF A κ0 X.nl I0 w0 H' env' a' w' → K a' w')
  (hQ : ∀ x env' H', r = (.pan x, env', H') → ∀ I κ a' w' v, St DF A κ0 X.nl I0 w0 I κ H' w' env' a' → RV I κ x v → Q (pan1 v) a' w') : wpOp P ops Q i K a w := by
 unfold slowR at h
 simp only [allF_eq] at h
 split at h
 ·
  rename_i e2 H2 hz
  exact stepZ_wp hT hc hp s ho hz (fun _ a' w' s'=>hK _ _ _ _ h s') (fun x hx=>by cases hx)
 ·
  rename_i x e2 H2 hz
  cases h
  exact stepZ_wp hT hc hp s ho hz (fun hx=>by cases hx) (fun x' hx I κ a' w' v s' hr=>by cases hx; exact hQ _ _ _ rfl I κ a' w' v s' hr)
 ·
  cases h
theorem newR_ok {o:Oper} {slow:Rz} {ans:Option Ans} (h:newR o env H k slow ans = some r) :
  (∃ d an,o.dst = some d ∧ ans = some an ∧ k (env.set d (an.av H.length)) (extH H an.blk) = some r) ∨ slow = some r:=by
 unfold newR at h
 simp only [setF_eq,snocF_eq,lenF_eq] at h
 split at h
 ·
  rename_i d hd
  split at h
  ·
   rename_i an
   left
   refine ⟨d,an,hd,rfl,?_⟩
   split at h
   ·
    rename_i b hb; rw [hb]; exact h
   ·
    rename_i hb; rw [hb]; exact h
  ·
   exact .inr h
 ·
  exact .inr h
theorem stepF_new (hX:PlainX X) {o:Oper} (hg:guardOf ops env o = some true) {d:Nat} (hd:o.dst = some d) {an:Ans} (he:ev1 X.T X.own env o = some an) (hL:evL X.toCx env H o = none) :
  stepF X ops env H o = some (env.set d (an.av H.length),extH H an.blk):=by
 rw [stepF_plain hX]
 unfold stepO
 simp only [hg,hL]
 have hp : evP X.toCx env H H.length o = some (an.av H.length,an.blk):=by
  unfold evP evQ
  simp only [he,hX.cast,castV]
 rw [hp]
 cases an.blk with
 | none=>simp only [hd,putE,extH]
 | some b=>simp only [hd,putE,extH]
theorem newR_wp (hX:PlainX X) (hT:X.T.ok P) (hc:CallOK P X.call) (hp:PanOK P pan) (s:Stx DF A κ0 X.nl I0 w0 H env a w) {i:Nat} {o:Oper} (ho:ops[i]? = some o) (hg:guardOf ops env o = some true)
  (h:newR o env H k (slowR X pan ops o env H k) (ev1 X.T X.own env o) = some r) (hL:evL X.toCx env H o = none) {K:Act → World → Prop}
  (hK : ∀ env' H' a' w', k env' H' = some r → Stx DF A κ0 X.nl I0 w0 H' env' a' w' → K a' w')
  (hQ : ∀ x env' H', r = (.pan x, env', H') → ∀ I κ a' w' v, St DF A κ0 X.nl I0 w0 I κ H' w' env' a' → RV I κ x v → Q (pan1 v) a' w') : wpOp P ops Q i K a w := by
 rcases newR_ok h with ⟨d,an,hd,he,hk⟩ | h
 ·
  exact stepF_wp hT hc s ho (stepF_new hX hg hd he hL) fun a' w' s'=>hK _ _ _ _ hk s'
 ·
  exact slowR_wp hT hc hp s ho h hK hQ
theorem callR_wp (hX:PlainX X) (hT:X.T.ok P) (hs:∀ f,OkZ P f (sz f)) (hcall:X.call = retsOf sz) (s:Stx DF A κ0 X.nl I0 w0 H env a w) {i:Nat} {o:Oper} (ho:ops[i]? = some o) (hg:guardOf ops env o = some true)
  {f:Operand} {args:Array Operand} {ts:Array TypeId} (hop:o.op = .call { callee:=.value f,args:=args,argTypes:=ts }) {fv:AV} (hf:opd env f = some fv) {g:FuncId} {a0 c as0:List AV} (hfn:fnOf fv = some (g,a0,c)) (has:opds env args.toList = some as0)
  (h:callR sz env H g (a0 ++ as0 ++ c) o.dst k = some r) {K:Act → World → Prop}
  (hK : ∀ env' H' a' w', k env' H' = some r → Stx DF A κ0 X.nl I0 w0 H' env' a' w' → K a' w')
  (hQ : ∀ x env' H', r = (.pan x, env', H') → ∀ I κ a' w' v, St DF A κ0 X.nl I0 w0 I κ H' w' env' a' → RV I κ x v → Q (pan1 v) a' w') : wpOp P ops Q i K a w := by
 have hc : CallOK P X.call:=hcall ▸ rets_ok hs
 have hp : PanOK P (pansOf sz):=pansOf_ok hs
 -- blocks are lent
 have back : ∀ (L:List Nat) (as:List AV),reach H 400 (AV.idss (a0 ++ as0 ++ c)) [] = L → AV.rens (posn L) (a0 ++ as0 ++ c) = as → ∀ (b:Bool) (res:AV) (H' : Heap),sz g as (pickH H L) = some (b,res,H') →
   (match b with
    | false=>backR L env H res H' fun v env' H2=>putF env' o.dst v fun e=>k e H2
    | true => backR L env H res H' fun v env' H2 => some (.pan v, env', H2)) = some r → wpOp P ops Q i K a w := by
  intro L as hL has' b res H' hz h
  cases b with
  | false =>
   simp only [backR_eq,putF_eq] at h
   have hst : stepF { X with lend:=fun _=>true } ops env H o = some (putE (AV.rens (keepF L H') env) o.dst (AV.ren (backF L H.length) res),backH L H H'):=by
    rw [stepF_plain (X:={ X with lend:=fun _=>true }) ⟨hX.frz,hX.clm,hX.cast⟩]
    unfold stepO
    have hev : evL ({ X with lend:=fun _=>true } : Px).toCx env H o = some (AV.ren (backF L H.length) res,AV.rens (keepF L H') env,backH L H H'):=by
     unfold evL
     rw [hop]
     simp only [hf,has,hfn,Bool.true_or,if_true]
     unfold callL
     rw [hL,has']
     have hr : X.call g as (pickH H L) = some (res,H'):=by rw [hcall]; simp [retsOf,hz]
     simp only [hr]
    simp only [hg,hev,hX.cast,castV]
   exact stepF_wp (X:={ X with lend:=fun _=>true }) hT hc s ho hst fun a' w' s'=>hK _ _ _ _ h s'
  | true =>
   simp only [backR_eq] at h
   cases h
   have hpn : panO (pansOf sz) ops env H o = some (AV.ren (backF L H.length) res,AV.rens (keepF L H') env,backH L H H'):=by
    unfold panO
    simp only [hg]
    rw [hop]
    simp only [hf,has,hfn]
    unfold callL
    rw [hL,has']
    have hr : pansOf sz g as (pickH H L) = some (res,H'):=by simp [pansOf,hz]
    simp only [hr]
   exact panO_wp hp s ho hpn fun I κ a' w' v s' hr=>hQ _ _ _ rfl I κ a' w' v s' hr
 unfold callR at h
 split at h
 ·
  rename_i hi
  obtain ⟨hids,hren⟩:=imsF_ids hi
  have hL : reach H 400 (AV.idss (a0 ++ as0 ++ c)) [] = []:=by rw [hids]; rfl
  split at h
  ·
   rename_i x hz
   simp only [putF_eq] at h
   have hst : stepF { X with lend:=fun _=>false,keep:=fun _=>false } ops env H o = some (putE env o.dst (.im x),H):=by
    rw [stepF_plain (X:={ X with lend:=fun _=>false,keep:=fun _=>false }) ⟨hX.frz,hX.clm,hX.cast⟩]
    unfold stepO
    have hL0 : evL ({ X with lend:=fun _=>false,keep:=fun _=>false } : Px).toCx env H o = none:=by
     unfold evL
     rw [hop]
     simp only [hf,has,hfn,Bool.false_or,Bool.false_eq_true,if_false]
    have he : evP ({ X with lend:=fun _=>false,keep:=fun _=>false } : Px).toCx env H H.length o = some (.im x,none):=by
     unfold evP evQ
     have h1 : ev1 X.T X.own env o = none:=by unfold ev1; rw [hop]
     have h0 : ev0 X.T env H o = none:=by unfold ev0; rw [hop]
     have hcc : evC X.call env H o = some (.im x):=by
      unfold evC
      rw [hop]
      simp only [hf,has,hfn]
      unfold callP
      rw [hids]
      have hr : X.call g (a0 ++ as0 ++ c) [] = some (.im x,[]):=by rw [hcall]; simp only [retsOf,hz]
      simp only [List.isEmpty_nil,if_true,hr,snap]
     simp only [h1,h0,hcc,hX.cast,castV]
    simp only [hg,hL0,he]
   exact stepF_wp (X:={ X with lend:=fun _=>false,keep:=fun _=>false }) hT hc s ho hst fun a' w' s'=>hK _ _ _ _ h s'
  ·
   rename_i res H' _ hz
   exact back [] (a0 ++ as0 ++ c) hL (hren _) false res H' hz h
  ·
   rename_i x H' hz
   exact back [] (a0 ++ as0 ++ c) hL (hren _) true x H' hz h
  ·
   cases h
 ·
  rw [allF_eq,reachF_eq,idsL_eq id2_eq,List.append_nil,lendR_eq] at h
  split at h
  ·
   rename_i res H' hz
   exact back _ _ rfl rfl false res H' hz h
  ·
   rename_i x H' hz
   exact back _ _ rfl rfl true x H' hz h
  ·
   cases h
theorem doneR_wp (hX:PlainX X) (hT:X.T.ok P) (hs:∀ f,OkZ P f (sz f)) (hcall:X.call = retsOf sz) (hpan:pan = pansOf sz) (s:Stx DF A κ0 X.nl I0 w0 H env a w) {i:Nat} {o:Oper} (ho:ops[i]? = some o) (hg:guardOf ops env o = some true)
  (h:doneR X sz pan ops o env H k = some r) {K:Act → World → Prop}
  (hK : ∀ env' H' a' w', k env' H' = some r → Stx DF A κ0 X.nl I0 w0 H' env' a' w' → K a' w')
  (hQ : ∀ x env' H', r = (.pan x, env', H') → ∀ I κ a' w' v, St DF A κ0 X.nl I0 w0 I κ H' w' env' a' → RV I κ x v → Q (pan1 v) a' w') : wpOp P ops Q i K a w := by
 have hc : CallOK P X.call:=hcall ▸ rets_ok hs
 have hp : PanOK P pan:=hpan ▸ pansOf_ok hs
 unfold doneR at h
 simp only [opdF_eq,argsF_eq,setF_eq,allF_eq] at h
 split at h
 ·
  rename_i t x y hop
  split at h
  ·
   rename_i hd
   have key : ∀ H2,evS X.T env H o = some H2 → k env H2 = some r → wpOp P ops Q i K a w:=by
    intro H2 he hk
    have hst : stepF X ops env H o = some (env,H2):=by
     rw [stepF_plain hX]
     unfold stepO
     have hL : evL X.toCx env H o = none:=by unfold evL; rw [hop]
     have hP : evP X.toCx env H H.length o = none:=by
      unfold evP evQ
      have h1 : ev1 X.T X.own env o = none:=by unfold ev1; rw [hop]
      have h0 : ev0 X.T env H o = none:=by unfold ev0; rw [hop]
      have h2 : evC X.call env H o = none:=by unfold evC; rw [hop]
      have h3 : evX X.T env H H.length o = none:=by unfold evX; rw [hop]
      simp only [h1,h0,h2,h3]
     simp only [hg,hL,hP,he,hd,putE]
    exact stepF_wp hT hc s ho hst fun a' w' s'=>hK _ _ _ _ hk s'
   rcases storeF_ok h hop with ⟨id,b,he,hk⟩ | h
   ·
    exact key _ he hk
   ·
    split at h
    ·
     rename_i H2 he
     exact key _ he h
    ·
     cases h
  ·
   exact slowR_wp hT hc hp s ho h hK hQ
 ·
  rename_i f args ts hop
  split at h
  ·
   rename_i fv hf
   split at h
   ·
    rename_i g a0 c hfn
    split at h
    ·
     rename_i as0 has
     exact callR_wp hX hT hs hcall s ho hg hop hf hfn has h hK hQ
    ·
     cases h
   ·
    cases h
  ·
   cases h
 ·
  rename_i args ts hop
  split at h
  ·
   rename_i v e2 H2 he
   have hst : stepF X ops env H o = some (putE e2 o.dst v,H2):=by
    rw [stepF_plain hX]
    unfold stepO
    have hL : evL X.toCx env H o = none:=by unfold evL; rw [hop]
    have hP : evP X.toCx env H H.length o = none:=by
     unfold evP evQ
     have h1 : ev1 X.T X.own env o = none:=by unfold ev1; rw [hop]
     have h0 : ev0 X.T env H o = none:=by unfold ev0; rw [hop]
     have h2 : evC X.call env H o = none:=by unfold evC; rw [hop]
     have h3 : evX X.T env H H.length o = none:=by unfold evX; rw [hop]
     simp only [h1,h0,h2,h3]
    have hS : evS X.T env H o = none:=by unfold evS; rw [hop]
    simp only [hg,hL,hP,hS,he]
   exact stepF_wp hT hc s ho hst fun a' w' s'=>hK _ _ _ _ h s'
  ·
   cases h
 ·
  rename_i hop
  exact newR_wp hX hT hc hp s ho hg h (by unfold evL; rw [hop]) hK hQ
 ·
  rename_i hop
  exact newR_wp hX hT hc hp s ho hg h (by unfold evL; rw [hop]) hK hQ
 ·
  rename_i hop
  exact newR_wp hX hT hc hp s ho hg h (by unfold evL; rw [hop]) hK hQ
 ·
  rename_i hop
  exact newR_wp hX hT hc hp s ho hg h (by unfold evL; rw [hop]) hK hQ
 ·
  split at h
  ·
   rename_i d hd
   split at h
   ·
    rename_i v hv
    exact stepF_wp hT hc s ho (stepF_val hX hg hd hv) fun a' w' s'=>hK _ _ _ _ h s'
   ·
    exact slowR_wp hT hc hp s ho h hK hQ
  ·
   exact slowR_wp hT hc hp s ho h hK hQ
theorem stepR_wp (hX:PlainX X) (hT:X.T.ok P) (hs:∀ f,OkZ P f (sz f)) (hcall:X.call = retsOf sz) (hpan:pan = pansOf sz) (s:Stx DF A κ0 X.nl I0 w0 H env a w) {i:Nat} {o:Oper} (ho:ops[i]? = some o)
  (h:stepR X sz pan ops o env H k = some r) {K:Act → World → Prop}
  (hK : ∀ env' H' a' w', k env' H' = some r → Stx DF A κ0 X.nl I0 w0 H' env' a' w' → K a' w')
  (hQ : ∀ x env' H', r = (.pan x, env', H') → ∀ I κ a' w' v, St DF A κ0 X.nl I0 w0 I κ H' w' env' a' → RV I κ x v → Q (pan1 v) a' w') : wpOp P ops Q i K a w := by
 unfold stepR at h
 rw [guardF_eq] at h
 split at h
 ·
  rename_i hg
  exact doneR_wp hX hT hs hcall hpan s ho hg h hK hQ
 ·
  rename_i hg
  rw [putF_eq] at h
  have hst : stepF X ops env H o = some (putE env o.dst (.tup []),H):=by
   rw [stepF_plain hX]
   unfold stepO
   simp only [hg]
  exact stepF_wp hT (hcall ▸ rets_ok hs) s ho hst fun a' w' s'=>hK _ _ _ _ h s'
 ·
  cases h
end
end Go.AM