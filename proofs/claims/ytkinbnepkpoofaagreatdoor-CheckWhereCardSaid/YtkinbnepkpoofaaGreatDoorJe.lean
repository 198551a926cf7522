/- Texts joined into one: Am49 Am52 Am53 Am54 Am55 Am56 Am57 Am60 Am50 Am59 Am51 Am61 Am58 Am62. -/
import Derived.Test.YtkinbnepkpoofaaGreatDoorJd
import Derived.Laws.Externs
import Derived.Test.YtkinbnepkpoofaaGreatDoorJc
/- The abstract machine,part 49: drawn regions in which stores,appends and calls may come ahead of what is plain. -/
set_option linter.unusedVariables false
set_option linter.unusedSimpArgs false
namespace Go.AM
structure Plan where
 a : List Nat
 b : List (Nat × List Nat)
structure DrawQ (ops:Array Oper) (ms:List Nat) (p:Plan) : Prop where
 ons : ∀ i,i < ops.size → ∀ e ∈ opOns ops i,e < i
 mask : ∀ i,i < ops.size → ∀ k,k < ops.size → maskAt ms i k = true → ∃ e ∈ opOns ops i,e = k ∨ maskAt ms e k = true
 cover : ∀ i,i < ops.size → i ∈ p.a ∨ i ∈ p.b.map (·.1)
 alt : ∀ i ∈ p.a,i < ops.size
 blt : ∀ i ∈ p.b.map (·.1),i < ops.size
 asort : p.a.Pairwise (· < ·)
 chain : (p.b.map (·.1)).Pairwise fun x y=>maskAt ms y x = true
 disj : ∀ i ∈ p.a,i ∉ p.b.map (·.1)
 apre : ∀ i ∈ p.a,∀ k,k < ops.size → maskAt ms i k = true → k ∈ p.a
 looks : ∀ i ∈ p.a,∀ j ∈ p.a,i ≠ j → ∀ t,opDst ops j = some t → (t ∈ opLooks ops i → maskAt ms i j = true) ∧ opDst ops i ≠ some t
 blooks : ∀ b ∈ p.b.map (·.1),∀ f ∈ p.a,∀ t,opDst ops f = some t → (t ∈ opLooks ops b → maskAt ms b f = true) ∧ opDst ops b ≠ some t
 fl : ∀ x ∈ p.b,∀ f ∈ p.a,maskAt ms x.1 f = true ∨ f ∈ x.2
 fa : ∀ x ∈ p.b,∀ f ∈ x.2,f ∈ p.a
theorem DrawQ.lt {ops:Array Oper} {ms:List Nat} {p:Plan} (d:DrawQ ops ms p) : ∀ i,i < ops.size → ∀ k,k < ops.size → maskAt ms i k = true → k < i:=by
 intro i
 induction i using Nat.strongRecOn with
 | _ i ih =>
  intro hi k hk hm
  obtain ⟨e,he,h⟩:=d.mask i hi k hk hm
  have:=d.ons i hi e he
  rcases h with rfl | h
  ·
   exact this
  ·
   have:=ih e this (by omega) k hk h
   omega
theorem wp_frame {P:Program} {Q:Exit → Act → World → Prop} {o:Oper} {a:Act} {w:World} {K:Act → World → Prop} (hh:o.wp P a w K Q) : o.wp P a w (fun a' w'=>K a' w' ∧ ∃ v,a'.tmps = (a.put o.dst v).tmps) Q:=by
 unfold Oper.wp at *
 generalize (execOp a.eval o).run P w = r at *
 cases r with
 | ok n w' =>
  cases n <;> simp only [Oper.upon] at hh ⊢ <;>
   first
    | exact ⟨hh,_,rfl⟩
    | exact ⟨hh,undef,by cases o.dst <;> rfl⟩
    | exact Calls.mono hh (fun e w'' he=>by cases e <;> first | exact ⟨he,_,rfl⟩ | exact he)
    | exact Rows.mono hh (fun _ _ he=>⟨he,_,rfl⟩)
    | exact hh
 | halt x w'=>cases x <;> simp only [Oper.upon] at hh ⊢ <;> exact hh
theorem wpOp_frame {P:Program} {ops:Array Oper} {Q:Exit → Act → World → Prop} {i:Nat} {o:Oper} (ho:ops[i]? = some o) {a:Act} {w:World} {K:Act → World → Prop} (hh:wpOp P ops Q i K a w) :
  wpOp P ops Q i (fun a' w'=>K a' w' ∧ ∃ v,a'.tmps = (a.put o.dst v).tmps) a w:=by
 unfold wpOp at *
 rw [ho] at hh ⊢
 simp only at hh ⊢
 split
 ·
  rename_i hw; simp only [hw,if_true] at hh; exact hh.imp wp_frame id
 ·
  rename_i hw; simp only [hw] at hh; exact ⟨hh,_,rfl⟩
structure TraceA (X:Cx) (ops:Array Oper) (a:List Nat) (n:Nat) (s:Nat → Env × Heap) : Prop where
 step : ∀ i,i < n → i ∈ a → ∃ o,ops[i]? = some o ∧ stepP X ops (s i).1 (s i).2 o = some (s (i + 1))
 skip : ∀ i,i < n → i ∉ a → s (i + 1) = s i
section
variable {X:Cx} {ops:Array Oper} {al:List Nat} {n:Nat} {s:Nat → Env × Heap}
theorem cnt_at : ∀ {l:List Nat},l.Pairwise (· < ·) → ∀ {p i:Nat},l[p]? = some i → (l.filter (fun x=>decide (x < i))).length = p ∧ (l.filter (fun x=>decide (x < i + 1))).length = p + 1
 | [],_,p,i,h=>by simp at h
 | x :: l,hs,0,i,h=>by
  rw [List.pairwise_cons] at hs
  simp at h
  subst h
  have h1 : l.filter (fun y=>decide (y < x)) = []:=by
   rw [List.filter_eq_nil_iff]
   intro y hy
   have:=hs.1 y hy
   simp; omega
  have h2 : l.filter (fun y=>decide (y < x + 1)) = []:=by
   rw [List.filter_eq_nil_iff]
   intro y hy
   have:=hs.1 y hy
   simp; omega
  simp [List.filter_cons,h1,h2]
 | x :: l,hs,p + 1,i,h=>by
  rw [List.pairwise_cons] at hs
  simp only [List.getElem?_cons_succ] at h
  have hx:=hs.1 i (List.mem_of_getElem? h)
  obtain ⟨h1,h2⟩:=cnt_at hs.2 h
  simp only [List.filter_cons,hx,decide_true,if_true,List.length_cons,h1,show x < i + 1 by omega,h2]
  exact ⟨trivial,trivial⟩
theorem cnt_no {l:List Nat} {i:Nat} (h:i ∉ l) : (l.filter (fun x=>decide (x < i + 1))) = (l.filter (fun x=>decide (x < i))):=by
 apply List.filter_congr
 intro x hx
 have : x ≠ i:=fun e=>h (e ▸ hx)
 rw [decide_eq_decide]
 omega
theorem runP_traceA {os:List Oper} (hs:al.Pairwise (· < ·)) (hos:al.map (ops[·]?) = os.map some) (hn:∀ i ∈ al,i < n) {env:Env} {H:Heap} {r:Env × Heap} (h:runP X ops os env H = some r) :
  ∃ s,TraceA X ops al n s ∧ s 0 = (env,H) ∧ s n = r:=by
 obtain ⟨s,h0,h1,hst⟩:=runP_trace os env H r h
 have hlen : al.length = os.length:=by simpa using congrArg List.length hos
 refine ⟨fun i=>s (al.filter (fun x=>decide (x < i))).length,⟨fun i hi ha=>?_,fun i hi ha=>?_⟩,?_,?_⟩
 ·
  obtain ⟨p,hp,hpi⟩:=List.getElem_of_mem ha
  have hpq : al[p]? = some i:=by rw [List.getElem?_eq_getElem hp,hpi]
  obtain ⟨c1,c2⟩:=cnt_at hs hpq
  have ho : ops[i]? = (os[p]?):=by
   have:=congrArg (·[p]?) hos
   simp only [List.getElem?_map,hpq,Option.map_some] at this
   cases hop : os[p]? with
   | none=>rw [hop] at this; simp at this
   | some o=>rw [hop] at this; simpa using this
  have hop : p < os.length:=by omega
  refine ⟨os[p],by rw [ho,List.getElem?_eq_getElem hop],?_⟩
  simp only [c1,c2]
  exact hst p _ (List.getElem?_eq_getElem hop)
 ·
  simp only [cnt_no ha]
 ·
  have : al.filter (fun x=>decide (x < 0)) = []:=by
   rw [List.filter_eq_nil_iff]
   intro x hx
   simp
  simp only [this,List.length_nil,h0]
 ·
  have : al.filter (fun x=>decide (x < n)) = al:=by
   rw [List.filter_eq_self]
   intro x hx
   simpa using hn x hx
  simp only [this,hlen,h1]
theorem TraceA.len (T:TraceA X ops al n s) : ∀ j,j ≤ n → (s j).1.length = (s 0).1.length
 | 0,_=>rfl
 | j + 1,hj=>by
  by_cases ha : j ∈ al
  ·
   obtain ⟨o,ho,h⟩:=T.step j (by omega) ha
   rw [(stepP_env h).1,T.len j (by omega)]
  ·
   rw [T.skip j (by omega) ha,T.len j (by omega)]
theorem TraceA.same (T:TraceA X ops al n s) {t:Tmp} (i:Nat) : ∀ j,i ≤ j → j ≤ n → (∀ k ∈ al,i ≤ k → k < j → opDst ops k ≠ some t) → (s j).1[t]? = (s i).1[t]?
 | 0,hij,_,_=>by
  have : i = 0:=by omega
  subst this; rfl
 | j + 1,hij,hj,hd=>by
  by_cases h : i = j + 1
  ·
   subst h; rfl
  ·
   have ih:=T.same i j (by omega) (by omega) (fun k ha h1 h2=>hd k ha h1 (by omega))
   by_cases ha : j ∈ al
   ·
    obtain ⟨o,ho,hs⟩:=T.step j (by omega) ha
    have hk:=hd j ha (by omega) (by omega)
    simp only [opDst,ho] at hk
    rw [(stepP_env hs).2 t hk,ih]
   ·
    rw [T.skip j (by omega) ha,ih]
theorem TraceA.pre (T:TraceA X ops al n s) (i:Nat) : ∀ j,i ≤ j → j ≤ n → ∃ more,(s j).2 = (s i).2 ++ more
 | 0,hij,_=>by
  have : i = 0:=by omega
  subst this; exact ⟨[],by simp⟩
 | j + 1,hij,hj=>by
  by_cases h : i = j + 1
  ·
   subst h; exact ⟨[],by simp⟩
  ·
   obtain ⟨more,hm⟩:=T.pre i j (by omega) (by omega)
   by_cases ha : j ∈ al
   ·
    obtain ⟨o,ho,hs⟩:=T.step j (by omega) ha
    rcases stepP_heap hs with h | ⟨b,h⟩
    ·
     exact ⟨more,by rw [h,hm]⟩
    ·
     exact ⟨more ++ [some b],by rw [h,hm,List.append_assoc]⟩
   ·
    exact ⟨more,by rw [T.skip j (by omega) ha,hm]⟩
theorem TraceA.sub (T:TraceA X ops al n s) {i j:Nat} (hij:i ≤ j) (hj:j ≤ n) (id:Nat) (b:Blk) (h:(s i).2[id]? = some (some b)) : (s j).2[id]? = some (some b):=by
 obtain ⟨more,hm⟩:=T.pre i j hij hj
 have hi : id < (s i).2.length:=by
  rcases Nat.lt_or_ge id (s i).2.length with h' | h'
  ·
   exact h'
  ·
   simp [List.getElem?_eq_none h'] at h
 rw [hm,List.getElem?_append_left hi]
 exact h
theorem TraceA.lens (T:TraceA X ops al n s) {i j:Nat} (hij:i ≤ j) (hj:j ≤ n) : (s i).2.length ≤ (s j).2.length:=by
 obtain ⟨more,hm⟩:=T.pre i j hij hj
 rw [hm]; simp
theorem TraceA.made (T:TraceA X ops al n s) (id:Nat) (h0:(s 0).2.length ≤ id) : ∀ j,j ≤ n → id < (s j).2.length → ∃ i ∈ al,i < j ∧ (s i).2.length = id ∧ (s (i + 1)).2.length ≠ (s i).2.length
 | 0,_,h=>by omega
 | j + 1,hj,h=>by
  by_cases hlt : id < (s j).2.length
  ·
   obtain ⟨i,ha,hi,h1,h2⟩:=T.made id h0 j (by omega) hlt
   exact ⟨i,ha,by omega,h1,h2⟩
  ·
   by_cases ha : j ∈ al
   ·
    obtain ⟨o,ho,hs⟩:=T.step j (by omega) ha
    rcases stepP_heap hs with h' | ⟨b,h'⟩
    ·
     rw [h'] at h; omega
    ·
     rw [h'] at h
     simp at h
     exact ⟨j,ha,by omega,by omega,by rw [h']; simp⟩
   ·
    rw [T.skip j (by omega) ha] at h
    exact absurd h hlt
theorem TraceA.apart (T:TraceA X ops al n s) {i k:Nat} (hi:i < n) (hk:k < n) (gi:(s (i + 1)).2.length ≠ (s i).2.length) (gk:(s (k + 1)).2.length ≠ (s k).2.length) (h:(s i).2.length = (s k).2.length) : i = k:=by
 have h1:=T.lens (i:=i) (j:=i + 1) (by omega) (by omega)
 have h2:=T.lens (i:=k) (j:=k + 1) (by omega) (by omega)
 rcases Nat.lt_trichotomy i k with h' | h' | h'
 ·
  have:=T.lens (i:=i + 1) (j:=k) (by omega) (by omega); omega
 ·
  exact h'
 ·
  have:=T.lens (i:=k + 1) (j:=i) (by omega) (by omega); omega
end
end Go.AM
/- The abstract machine,part 52: plain operations come in any order. -/
namespace Go.AM
section
variable {P:Program} {DF:List Deferred} {A:Nat → Prop} {κ0:Nat → Option Loc} {nl:Nat} {I0:Nat → Option (Array Value)} {w0:World} {X:Cx} {ops:Array Oper} {Q:Exit → Act → World → Prop} {p:Plan} {s:Nat → Env × Heap}
structure PartA (DF:List Deferred) (X:Cx) (ops:Array Oper) (al:List Nat) (s:Nat → Env × Heap) (I1:Nat → Option (Array Value)) (κ1:Nat → Option Loc) (w1:World) (listed:Array Bool) (I:Nat → Option (Array Value)) (κ:Nat → Option Loc) (w:World) (E:Env) (a:Act) : Prop where
 wr : WR I κ (s ops.size).2 w
 env : RVs I κ E a.tmps.toList
 mv : Move (fun _=>False) I1 w1 I w
 elen : E.length = (s 0).1.length
 eout : ∀ t,(∀ i ∈ al,isL listed i → opDst ops i ≠ some t) → E[t]? = (s 0).1[t]?
 ein : ∀ i ∈ al,isL listed i → ∀ t,opDst ops i = some t → E[t]? = (s ops.size).1[t]?
 kold : ∀ id,id < (s 0).2.length → κ id = κ1 id
 knew : ∀ i ∈ al,(s (i + 1)).2.length ≠ (s i).2.length → (isL listed i ↔ κ (s i).2.length ≠ none)
 kown : ∀ i b base cap sz nn,κ i = some (.at b base cap sz nn) → κ1 i = some (.at b base cap sz nn) ∨ w1.heap.size ≤ b
 nodef : a.defers = DF
variable {I1 I:Nat → Option (Array Value)} {κ1 κ:Nat → Option Loc} {w1 w:World} {listed:Array Bool} {E:Env} {a:Act} {ms:List Nat}
structure Down (ops:Array Oper) (listed:Array Bool) : Prop where
 down : ∀ i,isL listed i → ∀ e ∈ opOns ops i,isL listed e
 size : listed.size = ops.size
theorem Down.set (dn:Down ops listed) {i:Nat} (hi:i < ops.size) (hon:∀ e ∈ opOns ops i,isL listed e) : Down ops (listed.setIfInBounds i true):=by
 have hsz : i < listed.size:=by rw [dn.size]; exact hi
 refine ⟨fun j hj e he=>?_,by simp [dn.size]⟩
 rw [isL_set hsz] at hj ⊢
 rcases hj with rfl | hj
 ·
  exact .inr (hon e he)
 ·
  exact .inr (dn.down j hj e he)
theorem Down.anc (d:DrawQ ops ms p) (dn:Down ops listed) : ∀ i,isL listed i → ∀ k,k < ops.size → maskAt ms i k = true → isL listed k:=by
 intro i
 induction i using Nat.strongRecOn with
 | _ i ih =>
  intro hi k hk hm
  have hlt : i < ops.size:=dn.size ▸ isL_lt hi
  obtain ⟨e,he,h⟩:=d.mask i hlt k hk hm
  have hel:=dn.down i hi e he
  rcases h with rfl | h
  ·
   exact hel
  ·
   exact ih e (d.ons i hlt e he) hel k hk h
theorem Down.anc' (d:DrawQ ops ms p) (dn:Down ops listed) {i:Nat} (hi:i < ops.size) (hon:∀ e ∈ opOns ops i,isL listed e) {k:Nat} (hk:k < ops.size) (hm:maskAt ms i k = true) : isL listed k:=by
 obtain ⟨e,he,h⟩:=d.mask i hi k hk hm
 rcases h with rfl | h
 ·
  exact hon _ he
 ·
  exact dn.anc d e (hon _ he) k hk h
theorem PartA.looks (d:DrawQ ops ms p) (T:TraceA X ops p.a ops.size s) (dn:Down ops listed) (q:PartA DF X ops p.a s I1 κ1 w1 listed I κ w E a) {i:Nat} (hi:i ∈ p.a) (hun:¬ isL listed i) (hon:∀ e ∈ opOns ops i,isL listed e) :
  ∀ t ∈ opLooks ops i,(s i).1[t]? = E[t]?:=by
 intro t ht
 have hin:=d.alt i hi
 by_cases hw : ∃ j ∈ p.a,i ≠ j ∧ opDst ops j = some t
 ·
  obtain ⟨j,hj,hij,hd⟩:=hw
  have hjn:=d.alt j hj
  have h2:=(d.looks i hi j hj hij t hd).1 ht
  have h1:=d.lt i hin j hjn h2
  have hl:=dn.anc' d hin hon hjn h2
  rw [q.ein j hj hl t hd]
  have e1 : (s ops.size).1[t]? = (s (j + 1)).1[t]?:=T.same (j + 1) ops.size (by omega) (Nat.le_refl _) (fun k ka h1 h2 hk=>(d.looks k ka j hj (by omega) t hd).2 hk)
  have e2 : (s i).1[t]? = (s (j + 1)).1[t]?:=T.same (j + 1) i (by omega) (by omega) (fun k ka h1 h2 hk=>(d.looks k ka j hj (by omega) t hd).2 hk)
  rw [e1,e2]
 ·
  have hw' : ∀ j ∈ p.a,i ≠ j → opDst ops j ≠ some t:=fun j hj hij hd=>hw ⟨j,hj,hij,hd⟩
  rw [q.eout t (fun k hk hl=>hw' k hk (fun e=>hun (e ▸ hl)))]
  exact T.same 0 i (by omega) (by omega) (fun k ka h1 h2=>hw' k ka (by omega))
theorem PartA.next (hT:X.T.ok P) (hc:CallOK P X.call) (d:DrawQ ops ms p) (T:TraceA X ops p.a ops.size s) (dn:Down ops listed) (hk1:∀ id,(s 0).2.length ≤ id → κ1 id = none) (q:PartA DF X ops p.a s I1 κ1 w1 listed I κ w E a) {i:Nat} (hi:i ∈ p.a) (hun:¬ isL listed i)
  (hon : ∀ e ∈ opOns ops i, isL listed e) {K : Act → World → Prop} (hK : ∀ a' w' I' κ' E', PartA DF X ops p.a s I1 κ1 w1 (listed.setIfInBounds i true) I' κ' w' E' a' → K a' w') : wpOp P ops Q i K a w := by
 have hin:=d.alt i hi
 obtain ⟨o,ho,hstep⟩:=T.step i hin hi
 have hlooks:=q.looks d T dn hi hun hon
 simp only [opLooks,ho] at hlooks
 have hdst : opDst ops i = o.dst:=by simp only [opDst,ho]
 have hsz : i < listed.size:=by rw [dn.size]; omega
 have heout : ∀ v t,(∀ k ∈ p.a,isL (listed.setIfInBounds i true) k → opDst ops k ≠ some t) → (putE E o.dst v)[t]? = (s 0).1[t]?:=by
  intro v t h
  have hi':=h i hi (by rw [isL_set hsz]; exact .inl rfl)
  rw [hdst] at hi'
  rw [putE_ne hi']
  exact q.eout t fun k hk hl=>h k hk (by rw [isL_set hsz]; exact .inr hl)
 have hdist : ∀ k ∈ p.a,k ≠ i → ∀ t,opDst ops k = some t → o.dst ≠ some t:=fun k hk hki t ht=>by
  rw [← hdst]
  exact (d.looks i hi k hk (Ne.symm hki) t ht).2
 have hein : ∀ v,(s (i + 1)).1 = putE (s i).1 o.dst v → ∀ k ∈ p.a,isL (listed.setIfInBounds i true) k → ∀ t,opDst ops k = some t → (putE E o.dst v)[t]? = (s ops.size).1[t]?:=by
  intro v hv k hk hl t ht
  by_cases hki : k = i
  ·
   subst hki
   have e1 : (s ops.size).1[t]? = (s (k + 1)).1[t]?:=T.same (k + 1) ops.size (by omega) (Nat.le_refl _) (fun j ja h1 h2 hj=>(d.looks j ja k hi (by omega) t ht).2 hj)
   rw [e1,hv]
   exact putE_eq (hdst ▸ ht) (by rw [q.elen,T.len k (by omega)])
  ·
   rw [putE_ne (hdist k hk hki t ht)]
   rw [isL_set hsz] at hl
   exact q.ein k hk (hl.resolve_left hki) t ht
 unfold wpOp
 rw [ho]
 simp only
 rcases stepP_cases hstep with ⟨hg,h1,h2⟩ | ⟨hg,v,b,hev,h1,h2⟩
 ·
  rw [guardOf_congr hlooks] at hg
  rw [guardOf_wanted q.env hg]
  have hsame : (s (i + 1)).2.length = (s i).2.length:=by rw [h2]
  refine hK (a.put o.dst undef) w I κ (putE E o.dst (.tup [])) ⟨q.wr,?_,q.mv,by rw [putE_len,q.elen],heout _,hein _ h1,q.kold,fun k hk hgr=>?_,q.kown,?_⟩
  ·
   cases hd : o.dst with
   | none=>exact q.env
   | some t=>simpa [putE,Act.put] using q.env.set t undef_rv
  ·
   rw [isL_set hsz]
   by_cases hki : k = i
   ·
    subst hki; exact absurd hsame hgr
   ·
    rw [← q.knew k hk hgr]
    exact ⟨fun h=>h.resolve_left hki,.inr⟩
  ·
   cases hd : o.dst <;> exact q.nodef
 ·
  rw [guardOf_congr hlooks] at hg
  rw [guardOf_wanted q.env hg]
  refine .inl (Goes.wp ?_)
  obtain ⟨id, hid, hidH, hev', hidi⟩ : ∃ id, κ id = none ∧ (∀ blk, b = some blk → (s ops.size).2[id]? = some (some blk)) ∧ evP X E (s ops.size).2 id o = some (v, b) ∧ ((b = none ∧ id = (s ops.size).2.length) ∨ (b ≠ none ∧ id = (s i).2.length)) := by
   cases b with
   | none =>
    refine ⟨(s ops.size).2.length,?_,by simp,evP_mono (T.sub (by omega) (Nat.le_refl _)) (opd_looks hlooks) (evP_any hev),.inl ⟨rfl,rfl⟩⟩
    cases hk : κ (s ops.size).2.length with
    | none=>rfl
    | some l =>
     obtain ⟨blk,hb,_⟩:=q.wr.own _ _ hk
     simp at hb
   | some b =>
    have hgr : (s (i + 1)).2.length ≠ (s i).2.length:=by rw [h2]; simp [extH]
    refine ⟨(s i).2.length,?_,fun blk hb=>?_,evP_mono (T.sub (by omega) (Nat.le_refl _)) (opd_looks hlooks) hev,.inr ⟨by simp,rfl⟩⟩
    ·
     cases hk : κ (s i).2.length with
     | none=>rfl
     | some l=>exact absurd ((q.knew i hi hgr).2 (by simp [hk])) hun
    ·
     cases hb
     exact T.sub (i:=i + 1) (j:=ops.size) (by omega) (Nat.le_refl _) _ _ (by rw [h2]; simp [extH])
  refine (evP_sound hT hc q.wr q.env hid hidH hev').mono fun x w' ⟨I', κ', g, hw', hr, k1, k2, k3⟩ => ?_
  have hid0 : (s 0).2.length ≤ id:=by
   rcases hidi with ⟨_,h⟩ | ⟨_,h⟩
   ·
    rw [h]; exact T.lens (by omega) (by omega)
   ·
    rw [h]; exact T.lens (by omega) (by omega)
  refine hK (a.put o.dst x) w' I' κ' (putE E o.dst v) ⟨hw', ?_, q.mv.trans g.move (fun _ h => h.elim), by rw [putE_len, q.elen], heout _, hein _ h1, fun j hj => ?_, fun k hk hgr => ?_, fun j b' base cap sz nn hj => ?_, ?_⟩
  ·
   cases hd : o.dst with
   | none=>exact q.env.mono g.im g.loc
   | some t=>simpa [putE,Act.put] using (q.env.mono g.im g.loc).set t hr
  ·
   rw [k1 j (by omega)]
   exact q.kold j hj
  ·
   rw [isL_set hsz]
   have hkn:=d.alt k hk
   by_cases hki : k = i
   ·
    subst hki
    have hb : b ≠ none:=by
     intro hb
     rw [h2,hb] at hgr
     exact hgr rfl
    rcases hidi with ⟨h,_⟩ | ⟨_,h⟩
    ·
     exact absurd h hb
    ·
     rw [← h]
     exact ⟨fun _=>k3 hb,fun _=>.inl rfl⟩
   ·
    have hne : (s k).2.length ≠ id:=by
     rcases hidi with ⟨hb,h⟩ | ⟨hb,h⟩
     ·
      have a1:=T.lens (i:=k) (j:=k + 1) (by omega) (by omega)
      have a2:=T.lens (i:=k + 1) (j:=ops.size) (by omega) (by omega)
      omega
     ·
      rw [h]
      intro e
      have hgr' : (s (i + 1)).2.length ≠ (s i).2.length:=by
       rw [h2]
       cases b with
       | none=>exact absurd rfl hb
       | some b=>simp [extH]
      exact hki (T.apart hkn hin hgr hgr' e)
    rw [k1 _ hne,← q.knew k hk hgr]
    exact ⟨fun h=>h.resolve_left hki,.inr⟩
  ·
   rcases g.lnew _ _ _ _ _ _ hj with h | h
   ·
    exact q.kown _ _ _ _ _ _ h
   ·
    have:=q.mv.size; exact .inr (by omega)
  ·
   cases hd : o.dst <;> exact q.nodef
def Off (ops:Array Oper) (al:List Nat) (listed:Array Bool) (E' E : Env) : Prop :=
 E'.length = E.length ∧ ∀ t,(∀ f ∈ al,¬ isL listed f → opDst ops f ≠ some t) → E'[t]? = E[t]?
theorem PartA.off (d:DrawQ ops ms p) (T:TraceA X ops p.a ops.size s) {a1:Act} (st:St DF A κ0 nl I0 w0 I1 κ1 (s 0).2 w1 (s 0).1 a1) (q:PartA DF X ops p.a s I1 κ1 w1 listed I κ w E a) (hall:∀ k ∈ p.a,¬ isL listed k → (s (k + 1)).2.length = (s k).2.length) :
  Off ops p.a listed E (s ops.size).1 ∧ St DF A κ0 nl I0 w0 I κ (s ops.size).2 w E a:=by
 refine ⟨⟨by rw [q.elen,T.len ops.size (Nat.le_refl _)],fun t ht=>?_⟩,?_⟩
 ·
  by_cases hw : ∃ j ∈ p.a,opDst ops j = some t
  ·
   obtain ⟨j,hj,hd⟩:=hw
   refine q.ein j hj (Classical.byContradiction fun hun=>ht j hj hun hd) t hd
  ·
   have hw' : ∀ j ∈ p.a,opDst ops j ≠ some t:=fun j hj hd=>hw ⟨j,hj,hd⟩
   rw [q.eout t (fun k hk _=>hw' k hk)]
   exact (T.same 0 ops.size (by omega) (Nat.le_refl _) (fun k ka _ h2=>hw' k ka)).symm
 have hlen:=T.lens (i:=0) (j:=ops.size) (by omega) (Nat.le_refl _)
 refine ⟨q.wr,q.env,st.mv.trans q.mv (fun _ h=>h.elim),fun i b base cap sz nn h=>?_,fun i blk hb=>?_,q.nodef,fun i hi l h=>?_,by have:=st.len; omega⟩
 ·
  rcases q.kown _ _ _ _ _ _ h with h | h
  ·
   exact st.own _ _ _ _ _ _ h
  ·
   have:=st.mv.size; exact .inr (by omega)
 ·
  rcases Nat.lt_or_ge i (s 0).2.length with hi | hi
  ·
   obtain ⟨more,hmore⟩:=T.pre 0 ops.size (by omega) (Nat.le_refl _)
   rw [hmore,List.getElem?_append_left hi] at hb
   rw [q.kold i hi]
   exact st.dom _ _ hb
  ·
   have hlt : i < (s ops.size).2.length:=by
    rcases Nat.lt_or_ge i (s ops.size).2.length with h | h
    ·
     exact h
    ·
     simp [List.getElem?_eq_none h] at hb
   obtain ⟨j,ja,hj,h1,h2⟩:=T.made i hi ops.size (Nat.le_refl _) hlt
   have hjl : isL listed j:=Classical.byContradiction fun hun=>h2 (hall j ja hun)
   have:=(q.knew j ja h2).1 hjl
   rw [h1] at this
   cases hk : κ i with
   | none=>exact absurd hk this
   | some l=>exact ⟨l,rfl⟩
 ·
  have:=st.len
  rw [q.kold i (by omega)] at h
  exact st.lent i hi l h
end
end Go.AM
/- The abstract machine,part 53: drawn regions: the others,one behind the other,what is plain in between. -/
namespace Go.AM
mutual
def eqD : D → D → Bool
 | .int k n,.int k' n'=>Nat.beq k.ctorIdx k'.ctorIdx && (n == n')
 | .bool b,.bool b'=>b == b'
 | .str s,.str s'=>s == s'
 | .nilp,.nilp=>true
 | .nili,.nili=>true
 | .nilf,.nilf=>true
 | .nilm,.nilm=>true
 | .sl t sz es,.sl t' sz' es'=>t == t' && Nat.beq sz sz' && eqDs es es'
 | .agg cs,.agg cs'=>eqDs cs cs'
 | .fn (.func f) [] [],.fn (.func f') [] []=>Nat.beq f f'
 | _,_=>false
def eqDs : List D → List D → Bool
 | [],[]=>true
 | x :: xs,y :: ys=>eqD x y && eqDs xs ys
 | _,_=>false
end
mutual
def eqV : AV → AV → Bool
 | .im d,.im d'=>eqD d d'
 | .ref i o l,.ref i' o' l'=>Nat.beq i i' && Nat.beq o o' && Nat.beq l l'
 | .ptr i o l,.ptr i' o' l'=>Nat.beq i i' && Nat.beq o o' && Nat.beq l l'
 | .pe d k,.pe d' k'=>eqD d d' && Nat.beq k k'
 | .agg cs,.agg cs'=>eqVs cs cs'
 | .tup cs,.tup cs'=>eqVs cs cs'
 | .mp i,.mp i'=>Nat.beq i i'
 | _,_=>false
def eqVs : List AV → List AV → Bool
 | [],[]=>true
 | x :: xs,y :: ys=>eqV x y && eqVs xs ys
 | _,_=>false
end
mutual
theorem eqD_ok : ∀ {x y:D},eqD x y = true → x = y
 | .int k n, .int k' n', h => by
  simp only [eqD,Bool.and_eq_true,beq_iff_eq] at h
  rw [kind_eq h.1,h.2]
 | .bool b, .bool b', h => by simpa [eqD] using h
 | .str s, .str s', h => by simpa [eqD] using h
 | .nilp,.nilp,_=>rfl
 | .nili,.nili,_=>rfl
 | .nilf,.nilf,_=>rfl
 | .nilm,.nilm,_=>rfl
 | .sl t sz es, .sl t' sz' es', h => by
  simp only [eqD,Bool.and_eq_true,beq_iff_eq,Nat.beq_eq] at h
  rw [h.1.1,h.1.2,eqDs_ok h.2]
 | .agg cs, .agg cs', h => by
  simp only [eqD] at h
  rw [eqDs_ok h]
 | .fn (.func f) [] [],.fn (.func f') [] [],h=>by
  simp only [eqD,Nat.beq_eq] at h
  rw [h]
 | .int ..,.bool _,h | .int ..,.str _,h | .int ..,.nilp,h | .int ..,.nili,h | .int ..,.nilf,h | .int ..,.nilm,h | .int ..,.sl ..,h | .int ..,.agg _,h | .int ..,.fn ..,h | .int ..,.ifc ..,h=>by simp [eqD] at h
 | .bool ..,.int _ _,h | .bool ..,.str _,h | .bool ..,.nilp,h | .bool ..,.nili,h | .bool ..,.nilf,h | .bool ..,.nilm,h | .bool ..,.sl ..,h | .bool ..,.agg _,h | .bool ..,.fn ..,h | .bool ..,.ifc ..,h=>by simp [eqD] at h
 | .str ..,.int _ _,h | .str ..,.bool _,h | .str ..,.nilp,h | .str ..,.nili,h | .str ..,.nilf,h | .str ..,.nilm,h | .str ..,.sl ..,h | .str ..,.agg _,h | .str ..,.fn ..,h | .str ..,.ifc ..,h=>by simp [eqD] at h
 | .nilp,.int _ _,h | .nilp,.bool _,h | .nilp,.str _,h | .nilp,.nili,h | .nilp,.nilf,h | .nilp,.nilm,h | .nilp,.sl ..,h | .nilp,.agg _,h | .nilp,.fn ..,h | .nilp,.ifc ..,h=>by simp [eqD] at h
 | .nili,.int _ _,h | .nili,.bool _,h | .nili,.str _,h | .nili,.nilp,h | .nili,.nilf,h | .nili,.nilm,h | .nili,.sl ..,h | .nili,.agg _,h | .nili,.fn ..,h | .nili,.ifc ..,h=>by simp [eqD] at h
 | .nilf,.int _ _,h | .nilf,.bool _,h | .nilf,.str _,h | .nilf,.nilp,h | .nilf,.nili,h | .nilf,.nilm,h | .nilf,.sl ..,h | .nilf,.agg _,h | .nilf,.fn ..,h | .nilf,.ifc ..,h=>by simp [eqD] at h
 | .nilm,.int _ _,h | .nilm,.bool _,h | .nilm,.str _,h | .nilm,.nilp,h | .nilm,.nili,h | .nilm,.nilf,h | .nilm,.sl ..,h | .nilm,.agg _,h | .nilm,.fn ..,h | .nilm,.ifc ..,h=>by simp [eqD] at h
 | .sl ..,.int _ _,h | .sl ..,.bool _,h | .sl ..,.str _,h | .sl ..,.nilp,h | .sl ..,.nili,h | .sl ..,.nilf,h | .sl ..,.nilm,h | .sl ..,.agg _,h | .sl ..,.fn ..,h | .sl ..,.ifc ..,h=>by simp [eqD] at h
 | .agg ..,.int _ _,h | .agg ..,.bool _,h | .agg ..,.str _,h | .agg ..,.nilp,h | .agg ..,.nili,h | .agg ..,.nilf,h | .agg ..,.nilm,h | .agg ..,.sl ..,h | .agg ..,.fn ..,h | .agg ..,.ifc ..,h=>by simp [eqD] at h
 | .fn f a c,y,h=>by
  unfold eqD at h
  split at h <;> first | (cases h; done) | skip
  all_goals first
   | (rename_i e2; simp only [Nat.beq_eq] at h; rw [e2,h])
   | (simp at *)
 | .ifc ..,y,h=>by simp [eqD] at h
theorem eqDs_ok : ∀ {xs ys:List D},eqDs xs ys = true → xs = ys
 | [],[],_=>rfl
 | x :: xs,y :: ys,h=>by
  simp only [eqDs,Bool.and_eq_true] at h
  rw [eqD_ok h.1,eqDs_ok h.2]
 | [],_ :: _,h=>by simp [eqDs] at h
 | _ :: _,[],h=>by simp [eqDs] at h
end
mutual
theorem eqV_ok : ∀ {x y:AV},eqV x y = true → x = y
 | .im d,y,h=>by
  cases y with
  | im d'=>simp only [eqV] at h; rw [eqD_ok h]
  | _=>simp [eqV] at h
 | .ref i o l,y,h=>by
  cases y with
  | ref i' o' l'=>simp only [eqV,Bool.and_eq_true,Nat.beq_eq] at h; rw [h.1.1,h.1.2,h.2]
  | _=>simp [eqV] at h
 | .ptr i o l,y,h=>by
  cases y with
  | ptr i' o' l'=>simp only [eqV,Bool.and_eq_true,Nat.beq_eq] at h; rw [h.1.1,h.1.2,h.2]
  | _=>simp [eqV] at h
 | .pe d k,y,h=>by
  cases y with
  | pe d' k'=>simp only [eqV,Bool.and_eq_true,Nat.beq_eq] at h; rw [eqD_ok h.1,h.2]
  | _=>simp [eqV] at h
 | .agg cs,y,h=>by
  cases y with
  | agg cs'=>simp only [eqV] at h; rw [eqVs_ok h]
  | _=>simp [eqV] at h
 | .tup cs,y,h=>by
  cases y with
  | tup cs'=>simp only [eqV] at h; rw [eqVs_ok h]
  | _=>simp [eqV] at h
 | .mp i,y,h=>by
  cases y with
  | mp i'=>simp only [eqV,Nat.beq_eq] at h; rw [h]
  | _=>simp [eqV] at h
 | .fn ..,y,h=>by simp [eqV] at h
 | .ifc ..,y,h=>by simp [eqV] at h
 | .bad,y,h=>by simp [eqV] at h
theorem eqVs_ok : ∀ {xs ys:List AV},eqVs xs ys = true → xs = ys
 | [],[],_=>rfl
 | x :: xs,y :: ys,h=>by
  simp only [eqVs,Bool.and_eq_true] at h
  rw [eqV_ok h.1,eqVs_ok h.2]
 | [],_ :: _,h=>by simp [eqVs] at h
 | _ :: _,[],h=>by simp [eqVs] at h
end
end Go.AM
/- The abstract machine,part 54: drawn regions with stores,appends and calls. -/
namespace Go.AM
def maskT (ts:List Nat) (E:Env) : Env:=match ts with
 | []=>E
 | t :: ts=>maskT ts (E.set t .bad)
def restT (E0:Env) (ts:List Nat) (E1:Env) : Env:=match ts with
 | []=>E1
 | t :: ts=>match E0[t]? with
  | some v=>restT E0 ts (E1.set t v)
  | none=>restT E0 ts E1
def settled (X:Cx) (ops:Array Oper) (E:Env) (H:Heap) (f:Nat) : Bool:=match ops[f]? with
 | some o=>match o.dst with
  | some t=>match E[t]? with
   | some v=>match guardOf ops E o with
    | some false=>eqV (.tup []) v
    | some true=>match evP X E H H.length o with
     | some (v', none) => eqV v' v
     | _=>false
    | none=>false
   | none=>false
  | none=>false
 | none=>false
noncomputable def stepQ (X:Px) (sz:FuncId → Sz) (pan:Oracle) (ops:Array Oper) (b:Nat) (F:List Nat) (E:Env) (H:Heap) (k:Env → Heap → Rz) : Rz :=
 match getL ops.toList b with
 | none=>none
 | some o=>match F with
  | []=>stepR X sz pan ops o E H k
  | _ :: _=>match stepZ { X with nl:=H.length } pan ops (maskT (F.filterMap (opDst ops)) E) H o with
   | some (none,E1,H1)=>match hasAll H1 (AV.idss ((F.filterMap (opDst ops)).filterMap (E[·]?))) with
    | true=>allF (restT E (F.filterMap (opDst ops)) E1) fun E2=>allF H1 fun H2=>match F.all (settled X.toCx ops E2 H2) with
     | true=>k E2 H2
     | false=>none
    | false=>none
   | some (some x,E1,H1)=>some (.pan x,E1,H1)
   | none=>none
noncomputable def runQ (X:Px) (sz:FuncId → Sz) (pan:Oracle) (ops:Array Oper) (bs:List (Nat × List Nat)) : Env → Heap → Rz :=
 List.rec (fun E H=>some (.normal,E,H)) (fun x _ ih E H=>stepQ X sz pan ops x.1 x.2 E H ih) bs
section
variable {P:Program} {I I' : Nat → Option (Array Value)} {κ κ' : Nat → Option Loc} {w w' : World} {H H' : Heap} {DF:List Deferred} {A:Nat → Prop} {κ0:Nat → Option Loc} {I0:Nat → Option (Array Value)} {w0:World} {E E' : Env} {a:Act} {ops:Array Oper} {Q:Exit → Act → World → Prop} {X:Px} {pan:Oracle} {sz:FuncId → Sz} {r:Ez × Env × Heap} {p:Plan} {ms:List Nat} {listed:Array Bool}
theorem maskT_len : ∀ (ts:List Nat) (E:Env),(maskT ts E).length = E.length
 | [],_=>rfl
 | t :: ts,E=>by rw [maskT,maskT_len ts]; simp
theorem maskT_at : ∀ (ts:List Nat) (E:Env) (t:Nat),(maskT ts E)[t]? = some .bad ∨ (t ∉ ts ∧ (maskT ts E)[t]? = E[t]?) ∨ E[t]? = none
 | [],E,t=>.inr (.inl ⟨by simp,rfl⟩)
 | u :: ts,E,t=>by
  rw [maskT]
  rcases maskT_at ts (E.set u .bad) t with h | ⟨hn,h⟩ | h
  ·
   exact .inl h
  ·
   by_cases hu : u = t
   ·
    subst hu
    rcases Nat.lt_or_ge u E.length with hl | hl
    ·
     left; rw [h,List.getElem?_set_self hl]
    ·
     right; right; exact List.getElem?_eq_none hl
   ·
    right; left
    refine ⟨by simp [Ne.symm hu,hn],?_⟩
    rw [h,List.getElem?_set_ne hu]
  ·
   right; right
   rw [List.getElem?_eq_none_iff] at h ⊢
   simpa using h
theorem restT_len (E0:Env) : ∀ (ts:List Nat) (E1:Env),(restT E0 ts E1).length = E1.length
 | [],_=>rfl
 | t :: ts,E1=>by
  unfold restT
  split
  ·
   rw [restT_len E0 ts]; simp
  ·
   exact restT_len E0 ts E1
theorem restT_out (E0:Env) : ∀ (ts:List Nat) (E1:Env) (t:Nat),t ∉ ts → (restT E0 ts E1)[t]? = E1[t]?
 | [],_,_,_=>rfl
 | u :: ts,E1,t,h=>by
  simp only [List.mem_cons,not_or] at h
  unfold restT
  split
  ·
   rw [restT_out E0 ts _ t h.2,List.getElem?_set_ne (Ne.symm h.1)]
  ·
   exact restT_out E0 ts E1 t h.2
theorem restT_in (E0:Env) : ∀ (ts:List Nat) (E1:Env) (t:Nat),t ∈ ts → E1.length = E0.length → (restT E0 ts E1)[t]? = E0[t]?
 | [],_,_,h,_=>by simp at h
 | u :: ts,E1,t,h,hl=>by
  unfold restT
  by_cases hin : t ∈ ts
  ·
   split
   ·
    exact restT_in E0 ts _ t hin (by simpa using hl)
   ·
    exact restT_in E0 ts E1 t hin hl
  ·
   have hu : t = u:=by simpa [hin] using h
   subst hu
   split
   ·
    rename_i v hv
    rw [restT_out E0 ts _ t hin,hv]
    have : t < E1.length:=by
     rw [hl]
     exact (List.getElem?_eq_some_iff.1 hv).1
    rw [List.getElem?_set_self this]
   ·
    rename_i hv
    rw [restT_out E0 ts _ t hin,hv]
    rw [List.getElem?_eq_none_iff] at hv ⊢
    omega
theorem RVs.weak : ∀ {E E' : Env} {vs:List Value},RVs I κ E vs → E'.length = E.length → (∀ t : Nat,E'[t]? = some AV.bad ∨ E'[t]? = E[t]?) → RVs I κ E' vs
 | [], E', vs, h, hl, ht => by
  have : E' = []:=List.eq_nil_of_length_eq_zero (by simpa using hl)
  subst this
  exact h
 | x :: E,[],vs,h,hl,ht=>by simp at hl
 | x :: E, y :: E', vs, h, hl, ht => by
  cases h with
  | cons _ _ v vs h hs =>
   refine .cons _ _ _ _ ?_ (RVs.weak hs (by simpa using hl) fun t=>by simpa using ht (t + 1))
   have:=ht 0
   simp at this
   rcases this with h0 | h0
   ·
    subst h0; exact .bad _
   ·
    subst h0; exact h
theorem RVs.rest {E0:Env} {vs:List Value} : ∀ (ts:List Nat) {E1:Env},RVs I κ E1 vs → (∀ t ∈ ts,∀ v,E0[t]? = some v → ∃ x,vs[t]? = some x ∧ RV I κ v x) → RVs I κ (restT E0 ts E1) vs
 | [],E1,h,_=>h
 | t :: ts,E1,h,ht=>by
  unfold restT
  split
  ·
   rename_i v hv
   obtain ⟨x,hx,hr⟩:=ht t (by simp) v hv
   have h2:=h.set t hr
   rw [setl_same hx] at h2
   exact RVs.rest ts h2 fun u hu=>ht u (by simp [hu])
  ·
   exact RVs.rest ts h fun u hu=>ht u (by simp [hu])
theorem mem_idss {xs:List AV} {x:AV} (h:x ∈ xs) : ∀ i ∈ AV.ids x,i ∈ AV.idss xs:=by
 induction xs with
 | nil=>simp at h
 | cons y ys ih =>
  intro i hi
  simp only [AV.idss,List.mem_append]
  rcases List.mem_cons.1 h with h | h
  ·
   subst h; exact .inl hi
  ·
   exact .inr (ih h i hi)
theorem late_wp (hT:X.T.ok P) (hc:CallOK P X.call) (s:St DF A κ0 X.nl I0 w0 I κ H w E' a) (hoff:Off ops p.a listed E' E) (d:DrawQ ops ms p) (dn:Down ops listed) {i:Nat} (hi:i ∈ p.a) (hun:¬ isL listed i) (hon:∀ e ∈ opOns ops i,isL listed e)
  (hself:∀ t,opDst ops i = some t → t ∉ opLooks ops i) (hset:settled X.toCx ops E H i = true) {K:Act → World → Prop}
  (hK:∀ a' w' I' κ' E2,St DF A κ0 X.nl I0 w0 I' κ' H w' E2 a' → Off ops p.a (listed.setIfInBounds i true) E2 E → K a' w') : wpOp P ops Q i K a w:=by
 have hin:=d.alt i hi
 have hsz : i < listed.size:=by rw [dn.size]; exact hin
 have hlooks : ∀ t ∈ opLooks ops i,E[t]? = E'[t]?:=by
  intro t ht
  refine (hoff.2 t fun f hf hfu hd=>?_).symm
  by_cases hfi : f = i
  ·
   subst hfi; exact hself t hd ht
  ·
   have hm:=(d.looks i hi f hf (Ne.symm hfi) t hd).1 ht
   exact hfu (dn.anc' d hin hon (d.alt f hf) hm)
 have hoff2 : ∀ v t,opDst ops i = some t → E[t]? = some v → Off ops p.a (listed.setIfInBounds i true) (E'.set t v) E:=by
  intro v t hd hv
  refine ⟨by simpa using hoff.1,fun u hu=>?_⟩
  by_cases htu : t = u
  ·
   subst htu
   have : t < E'.length:=by rw [hoff.1]; exact (List.getElem?_eq_some_iff.1 hv).1
   rw [List.getElem?_set_self this,hv]
  ·
   rw [List.getElem?_set_ne htu]
   refine hoff.2 u fun f hf hfu hd'=>?_
   refine hu f hf (fun hl=>?_) hd'
   rw [isL_set hsz] at hl
   rcases hl with rfl | hl
   ·
    rw [hd] at hd'
    cases hd'
    exact htu rfl
   ·
    exact hfu hl
 unfold settled at hset
 split at hset
 ·
  rename_i o ho
  have hlk : ∀ t ∈ o.looksAt ops,E[t]? = E'[t]?:=by simpa only [opLooks,ho] using hlooks
  split at hset
  ·
   rename_i t hd
   have hdst : opDst ops i = some t:=by simp only [opDst,ho,hd]
   split at hset
   ·
    rename_i v hv
    unfold wpOp
    rw [ho]
    simp only
    split at hset
    ·
     rename_i hg
     have hveq:=eqV_ok hset
     rw [guardOf_congr hlk] at hg
     rw [guardOf_wanted s.env hg]
     simp only [Bool.false_eq_true,if_false]
     refine hK _ _ I κ _ ?_ (hoff2 v t hdst hv)
     have:=s.put (undef_rv (I:=I) (κ:=κ)) o.dst
     simp only [hd] at this
     rw [hd,← hveq]
     exact this
    ·
     rename_i hg
     rw [guardOf_congr hlk] at hg
     rw [guardOf_wanted s.env hg]
     simp only [if_true]
     split at hset
     ·
      rename_i v' hev
      have hveq:=eqV_ok hset
      have hev' : evP X.toCx E' H H.length o = some (v', none) := evP_mono (fun _ _ h => h) (opd_looks hlk) hev
      refine .inl (Goes.wp ?_)
      refine (evP_sound hT hc s.wr s.env (s.none_at (Nat.le_refl _)) (fun blk h=>by cases h) hev').mono fun x w' hadd=>?_
      obtain ⟨I', κ', s'⟩ := s.adds (b := none) (v := v') (x := x) o.dst hadd
      rw [hd] at s' ⊢
      refine hK _ _ I' κ' _ s' ?_
      rw [hveq]
      exact hoff2 v t hdst hv
     ·
      cases hset
    ·
     cases hset
   ·
    cases hset
  ·
   cases hset
 ·
  cases hset
end
end Go.AM
/- The abstract machine,part 55: drawn regions,in whichever order. -/
namespace Go.AM
section
variable {P:Program} {I I' : Nat → Option (Array Value)} {κ κ' : Nat → Option Loc} {w w' : World} {H H' : Heap} {DF:List Deferred} {A:Nat → Prop} {κ0:Nat → Option Loc} {I0:Nat → Option (Array Value)} {w0:World} {E E' : Env} {a:Act} {ops:Array Oper} {Q:Exit → Act → World → Prop} {X:Px} {pan:Oracle} {sz:FuncId → Sz} {r:Ez × Env × Heap} {p:Plan} {ms:List Nat} {listed:Array Bool}
structure OnX (P:Program) (X:Px) (sz:FuncId → Sz) (pan:Oracle) : Prop where
 plain : PlainX X
 tab : X.T.ok P
 ok : ∀ f,OkZ P f (sz f)
 call : X.call = retsOf sz
 pan : pan = pansOf sz
 mixed : P.follows .mixedOrders = true
theorem off_none (h:Off ops p.a listed E' E) (hall:∀ f ∈ p.a,isL listed f) : E' = E:=by
 apply List.ext_getElem?
 intro t
 exact h.2 t fun f hf hun=>absurd (hall f hf) hun
theorem other_wp (hX:OnX P X sz pan) (d:DrawQ ops ms p) (dn:Down ops listed) (s:St DF A κ0 X.nl I0 w0 I κ H w E' a) (hoff:Off ops p.a listed E' E) {x:Nat × List Nat} (hx:x ∈ p.b) (hpend:∀ f ∈ p.a,¬ isL listed f → f ∈ x.2)
  {k:Env → Heap → Rz} (h:stepQ X sz pan ops x.1 x.2 E H k = some r) {K:Act → World → Prop}
  (hK : ∀ E2 H2 a' w' I' κ' E2', k E2 H2 = some r → St DF A κ0 X.nl I0 w0 I' κ' H2 w' E2' a' → Off ops p.a (listed.setIfInBounds x.1 true) E2' E2 → (∀ f ∈ x.2, settled X.toCx ops E2 H2 f = true) → K a' w')
  (hQ : ∀ y env' H', r = (.pan y, env', H') → ∀ I κ a' w' v, St DF A κ0 X.nl I0 w0 I κ H' w' env' a' → RV I κ y v → Q (pan1 v) a' w') : wpOp P ops Q x.1 K a w := by
 have hc : CallOK P X.call:=hX.call ▸ rets_ok hX.ok
 have hp : PanOK P pan:=hX.pan ▸ pansOf_ok hX.ok
 have hxm : x.1 ∈ p.b.map (·.1):=List.mem_map_of_mem hx
 have hxn:=d.blt _ hxm
 have hsz : x.1 < listed.size:=by rw [dn.size]; exact hxn
 have hnl : ∀ f ∈ p.a,(isL (listed.setIfInBounds x.1 true) f ↔ isL listed f):=fun f hf=>by
  rw [isL_set hsz]
  exact ⟨fun h=>h.resolve_left fun e=>d.disj f hf (e ▸ hxm),.inr⟩
 unfold stepQ at h
 simp only [getL_eq,Array.getElem?_toList,allF_eq] at h
 split at h
 ·
  cases h
 ·
  rename_i o ho
  have hdst : opDst ops x.1 = o.dst:=by simp only [opDst,ho]
  split at h
  ·
   rename_i hF
   have hall : ∀ f ∈ p.a,isL listed f:=fun f hf=>Classical.byContradiction fun hun=>by
    have:=hpend f hf hun
    rw [hF] at this
    cases this
   have hE:=off_none hoff hall
   subst hE
   exact stepR_wp hX.plain hX.tab hX.ok hX.call hX.pan ⟨I, κ, s⟩ ho h (fun env' H' a' w' hk ⟨I', κ', s'⟩ => hK _ _ _ _ _ _ _ hk s' ⟨rfl, fun _ _ => rfl⟩ (by rw [hF]; simp)) hQ
  ·
   rename_i f0 fs hF
   generalize hts : x.2.filterMap (opDst ops) = ts at h
   have hm : RVs I κ (maskT ts E) a.tmps.toList:=by
    refine RVs.weak s.env (by rw [maskT_len,hoff.1]) fun t=>?_
    rcases maskT_at ts E t with h1 | ⟨h1,h2⟩ | h1
    ·
     exact .inl h1
    ·
     right
     rw [h2]
     refine (hoff.2 t fun f hf hun hd=>h1 ?_).symm
     rw [← hts]
     exact List.mem_filterMap.2 ⟨f,hpend f hf hun,hd⟩
    ·
     right
     have l1:=List.getElem?_eq_none_iff.1 h1
     rw [List.getElem?_eq_none (by rw [maskT_len]; exact l1),List.getElem?_eq_none (by rw [hoff.1]; exact l1)]
   have sm : St DF A κ0 X.nl I0 w0 I κ H w (maskT ts E) a:=⟨s.wr,hm,s.mv,s.own,s.dom,s.nodef,s.lent,s.len⟩
   have sb:=sm.begin
   split at h
   ·
    rename_i E1 H1 hz
    split at h
    ·
     rename_i hal
     split at h
     ·
      rename_i hset
      have hset' : ∀ f ∈ x.2,settled X.toCx ops (restT E ts E1) H1 f = true:=by simpa using hset
      refine wpOp_mono (K:=fun a' w'=>Stx DF (lentOf κ) κ H.length I w H1 E1 a' w' ∧ ∃ v,a'.tmps = (a.put o.dst v).tmps) (fun a' w' ⟨⟨I2,κ2,s2⟩,v,hv⟩=>?_)
       (wpOp_frame ho (stepZ_wp (X:={ X with nl:=H.length }) (DF:=DF) (A:=lentOf κ) (κ0:=κ) (I0:=I) (w0:=w) hX.tab hc hp ⟨I,κ,sb⟩ ho hz (fun _ a' w' s'=>s') (fun y hy=>by cases hy)))
      have s3:=sm.back s2
      have hE1 : E1.length = E.length:=by
       have l1:=s3.env.length
       have l2:=sm.env.length
       rw [hv] at l1
       rw [maskT_len] at l2
       have : (a.put o.dst v).tmps.toList.length = a.tmps.toList.length:=by cases o.dst <;> simp [Act.put]
       omega
      -- those that were done
      let tl:=(x.2.filter (fun f=>decide (isL listed f))).filterMap (opDst ops)
      have htl : ∀ t ∈ tl,t ∈ ts ∧ ∃ f ∈ x.2,isL listed f ∧ opDst ops f = some t:=by
       intro t ht
       obtain ⟨f,hf,hd⟩:=List.mem_filterMap.1 ht
       rw [List.mem_filter] at hf
       refine ⟨?_,f,hf.1,by simpa using hf.2,hd⟩
       rw [← hts]
       exact List.mem_filterMap.2 ⟨f,hf.1,hd⟩
      have henv : RVs I2 κ2 (restT E tl E1) a'.tmps.toList:=by
       refine RVs.rest tl s3.env fun t ht v0 hv0=>?_
       obtain ⟨hts', f, hf, hfl, hd⟩ := htl t ht
       have hfa:=d.fa x hx f hf
       have he : E'[t]? = some v0:=by
        rw [hoff.2 t fun g hg hgu hgd=>?_,hv0]
        by_cases hgf : g = f
        ·
         subst hgf; exact hgu hfl
        ·
         exact (d.looks g hg f hfa hgf t hd).2 hgd
       obtain ⟨y,hy,hyr⟩:=s.env.get he
       have hne : o.dst ≠ some t:=by
        rw [← hdst]
        exact (d.blooks x.1 hxm f hfa t hd).2
       refine ⟨y,?_,?_⟩
       ·
        rw [hv]
        cases hod : o.dst with
        | none=>exact hy
        | some u =>
         have hut : u ≠ t:=fun e=>hne (by rw [hod,e])
         simp only [Act.put,Array.toList_setIfInBounds]
         rw [List.getElem?_set_ne hut]
         exact hy
       ·
        have hids:=hasAll_ok sb s2 hal
        refine RV.on s2.mv.im hyr fun i hi l hl=>hids i ?_ l hl
        refine mem_idss (x:=v0) ?_ i hi
        exact List.mem_filterMap.2 ⟨t, hts', hv0⟩
      refine hK _ _ _ _ _ _ _ h ⟨s3.wr,henv,s3.mv,s3.own,s3.dom,s3.nodef,s3.lent,s3.len⟩ ⟨by rw [restT_len,restT_len],fun t ht=>?_⟩ hset'
      by_cases hin : t ∈ ts
      ·
       rw [restT_in E ts E1 t hin hE1]
       refine restT_in E tl E1 t ?_ hE1
       rw [← hts] at hin
       obtain ⟨f,hf,hd⟩:=List.mem_filterMap.1 hin
       have hfa:=d.fa x hx f hf
       have hfl : isL listed f:=Classical.byContradiction fun hun=>ht f hfa (fun hl=>hun ((hnl f hfa).1 hl)) hd
       exact List.mem_filterMap.2 ⟨f,List.mem_filter.2 ⟨hf,by simpa using hfl⟩,hd⟩
      ·
       rw [restT_out E ts E1 t hin]
       exact restT_out E tl E1 t fun h=>hin (htl t h).1
     ·
      cases h
    ·
     cases h
   ·
    rename_i y E1 H1 hz
    cases h
    refine stepZ_wp (X:={ X with nl:=H.length }) (DF:=DF) (A:=lentOf κ) (κ0:=κ) (I0:=I) (w0:=w) hX.tab hc hp ⟨I,κ,sb⟩ ho hz (fun hy=>by cases hy) (fun y' hy I2 κ2 a' w' v s2 hv=>?_)
    cases hy
    exact hQ _ _ _ rfl _ _ _ _ _ (sm.back s2) hv
   ·
    cases h
end
end Go.AM
/- The abstract machine,part 56: a drawn region comes to what it comes to in one order. -/
namespace Go.AM
section
variable {P:Program} {I I' : Nat → Option (Array Value)} {κ κ' : Nat → Option Loc} {w w' : World} {H H' : Heap} {DF:List Deferred} {A:Nat → Prop} {κ0:Nat → Option Loc} {I0:Nat → Option (Array Value)} {w0:World} {E E' : Env} {a:Act} {ops:Array Oper} {Q:Exit → Act → World → Prop} {X:Px} {pan:Oracle} {sz:FuncId → Sz} {r:Ez × Env × Heap} {p:Plan} {ms:List Nat} {listed:Array Bool}
theorem ready_least (dn:Down ops listed) (d:DrawQ ops ms p) (hnil:Region.ready .any ops listed = []) : ∀ i,i < ops.size → isL listed i:=by
 intro i
 induction i using Nat.strongRecOn with
 | _ i ih =>
  intro hi
  refine Classical.byContradiction fun hun=>?_
  have : i ∈ Region.ready .any ops listed:=(ready_iff dn.size i).2 ⟨hi,hun,fun e he=>by
   have:=d.ons i hi e he
   exact ih e this (by omega)⟩
  rw [hnil] at this
  cases this
theorem wpAny_others (hX:OnX P X sz pan) (d:DrawQ ops ms p) (hself:∀ x ∈ p.b,∀ f ∈ x.2,∀ t,opDst ops f = some t → t ∉ opLooks ops f) (hM:Meets DF A κ0 X.nl I0 w0 r.1 r.2.1 r.2.2 Q) :
  ∀ (fuel:Nat) (done bs:List (Nat × List Nat)) (Fp:List Nat) (U:List Nat) (listed:Array Bool) (a:Act) (w:World) (I:Nat → Option (Array Value)) (κ:Nat → Option Loc) (E E' : Env) (H:Heap),
   p.b = done ++ bs → (∀ x ∈ done,isL listed x.1) → (∀ x ∈ bs,¬ isL listed x.1) → Down ops listed → (∀ f ∈ p.a,¬ isL listed f → f ∈ Fp ∧ f ∈ U) → (∀ f ∈ Fp,settled X.toCx ops E H f = true ∧ ∀ t,opDst ops f = some t → t ∉ opLooks ops f) → U.length + bs.length ≤ fuel →
   Off ops p.a listed E' E → St DF A κ0 X.nl I0 w0 I κ H w E' a → runQ X sz pan ops bs E H = some r → wpAny P .any ops Q fuel listed a w:=by
 have hc : CallOK P X.call:=hX.call ▸ rets_ok hX.ok
 intro fuel
 induction fuel with
 | zero =>
  intro done bs Fp U listed a w I κ E E' H hb hdone hbs dn hpend hset hU hoff s h
  have hUn : U = []:=List.eq_nil_of_length_eq_zero (by omega)
  have hbn : bs = []:=List.eq_nil_of_length_eq_zero (by omega)
  subst hUn hbn
  have hall : ∀ f ∈ p.a,isL listed f:=fun f hf=>Classical.byContradiction fun hun=>by
   have:=(hpend f hf hun).2
   cases this
  have hE:=off_none hoff hall
  subst hE
  cases h
  refine wpAny_done ?_ (hM.1 rfl _ _ ⟨I,κ,s⟩) 0
  cases hr : Region.ready .any ops listed with
  | nil=>rfl
  | cons i is =>
   have hi : i ∈ Region.ready .any ops listed:=by rw [hr]; simp
   obtain ⟨h1,h2,_⟩:=(ready_iff dn.size i).1 hi
   rcases d.cover i h1 with h3 | h3
   ·
    exact absurd (hall i h3) h2
   ·
    rw [hb,List.append_nil] at h3
    obtain ⟨x,hx,rfl⟩:=List.mem_map.1 h3
    exact absurd (hdone x hx) h2
 | succ fuel ih =>
  intro done bs Fp U listed a w I κ E E' H hb hdone hbs dn hpend hset hU hoff s h
  refine ⟨fun hnil=>?_,fun i hi=>?_⟩
  ·
   have hall:=ready_least dn d hnil
   have hbn : bs = []:=by
    cases bs with
    | nil=>rfl
    | cons x bs=>exact absurd (hall x.1 (d.blt x.1 (by rw [hb]; simp))) (hbs x (by simp))
   subst hbn
   have hE:=off_none hoff fun f hf=>hall f (d.alt f hf)
   subst hE
   cases h
   exact hM.1 rfl _ _ ⟨I,κ,s⟩
  ·
   obtain ⟨hin,hun,hon⟩:=(ready_iff dn.size i).1 hi
   have hsz : i < listed.size:=by rw [dn.size]; exact hin
   rcases d.cover i hin with hia | hib
   ·
    have hiF:=(hpend i hia hun).1
    have hiU:=(hpend i hia hun).2
    refine late_wp hX.tab hc s hoff d dn hia hun hon (hset i hiF).2 (hset i hiF).1 fun a' w' I' κ' E2 s2 off2=>?_
    have hpos:=List.length_pos_of_mem hiU
    refine ih done bs Fp (U.erase i) _ a' w' I' κ' E E2 H hb (fun x hx=>?_) (fun x hx=>?_) (dn.set hin hon) (fun f hf hfu=>?_) hset (by rw [List.length_erase_of_mem hiU]; omega) off2 s2 h
    ·
     rw [isL_set hsz]; exact .inr (hdone x hx)
    ·
     rw [isL_set hsz]
     rintro (e | e)
     ·
      refine d.disj i hia ?_
      rw [← e,hb]
      simp only [List.map_append,List.mem_append]
      exact .inr (List.mem_map_of_mem hx)
     ·
      exact hbs x hx e
    ·
     rw [isL_set hsz] at hfu
     have hne : f ≠ i:=fun e=>hfu (.inl e)
     have:=hpend f hf fun e=>hfu (.inr e)
     exact ⟨this.1,(List.mem_erase_of_ne hne).2 this.2⟩
   ·
    cases bs with
    | nil =>
     rw [hb,List.append_nil] at hib
     obtain ⟨x,hx,rfl⟩:=List.mem_map.1 hib
     exact absurd (hdone x hx) hun
    | cons x bs =>
     have hxb : x ∈ p.b:=by rw [hb]; simp
     have hix : i = x.1:=by
      rw [hb] at hib
      simp only [List.map_append,List.map_cons,List.mem_append,List.mem_cons] at hib
      rcases hib with h1 | h1 | h1
      ·
       obtain ⟨y,hy,rfl⟩:=List.mem_map.1 h1
       exact absurd (hdone y hy) hun
      ·
       exact h1
      ·
       exfalso
       have hch:=d.chain
       rw [hb] at hch
       simp only [List.map_append,List.map_cons] at hch
       have h2:=(List.pairwise_append.1 hch).2.1
       rw [List.pairwise_cons] at h2
       have:=dn.anc' d hin hon (d.blt x.1 (List.mem_map_of_mem hxb)) (h2.1 i h1)
       exact hbs x (by simp) this
     subst hix
     have hpx : ∀ f ∈ p.a,¬ isL listed f → f ∈ x.2:=fun f hf hfu=>by
      rcases d.fl x hxb f hf with h1 | h1
      ·
       exact absurd (dn.anc' d hin hon (d.alt f hf) h1) hfu
      ·
       exact h1
     have h : stepQ X sz pan ops x.1 x.2 E H (runQ X sz pan ops bs) = some r:=h
     refine other_wp hX d dn s hoff hxb hpx h (fun E2 H2 a' w' I' κ' E2' hk s2 off2 hset2=>?_) (fun y env' H' hr I κ a' w' v s' hv=>by subst hr; exact hM.2 y rfl I κ a' w' v s' hv)
     refine ih (done ++ [x]) bs x.2 U _ a' w' I' κ' E2 E2' H2 (by rw [hb]; simp) (fun y hy=>?_) (fun y hy=>?_) (dn.set hin hon) (fun f hf hfu=>?_) (fun f hf=>⟨hset2 f hf,hself x hxb f hf⟩) (by simp only [List.length_cons] at hU; omega) off2 s2 hk
     ·
      rw [isL_set hsz]
      rcases List.mem_append.1 hy with hy | hy
      ·
       exact .inr (hdone y hy)
      ·
       left; rw [List.mem_singleton.1 hy]
     ·
      rw [isL_set hsz]
      rintro (e | e)
      ·
       have hch:=d.chain
       rw [hb] at hch
       simp only [List.map_append,List.map_cons] at hch
       have h2:=(List.pairwise_append.1 hch).2.1
       rw [List.pairwise_cons] at h2
       have h3:=h2.1 y.1 (List.mem_map_of_mem hy)
       rw [e] at h3
       have:=d.lt x.1 hin x.1 hin h3
       omega
      ·
       exact hbs y (by simp [hy]) e
     ·
      rw [isL_set hsz] at hfu
      have hfu' : ¬ isL listed f:=fun e=>hfu (.inr e)
      exact ⟨hpx f hf hfu', (hpend f hf hfu').2⟩
variable {I1:Nat → Option (Array Value)} {κ1:Nat → Option Loc} {w1:World} {s:Nat → Env × Heap}
theorem settled_still (d:DrawQ ops ms p) (T:TraceA X.toCx ops p.a ops.size s) {f:Nat} (hf:f ∈ p.a) (hself:∀ t,opDst ops f = some t → t ∉ opLooks ops f) (hset:settled X.toCx ops (s ops.size).1 (s ops.size).2 f = true) : (s (f + 1)).2.length = (s f).2.length:=by
 have hfn:=d.alt f hf
 obtain ⟨o,ho,hst⟩:=T.step f hfn hf
 have hlk : ∀ t ∈ o.looksAt ops,(s f).1[t]? = (s ops.size).1[t]?:=by
  intro t ht
  have ht' : t ∈ opLooks ops f:=by simpa only [opLooks,ho] using ht
  refine (T.same f ops.size (by omega) (Nat.le_refl _) fun k ka h1 h2 hd=>?_).symm
  by_cases hkf : k = f
  ·
   subst hkf; exact hself t hd ht'
  ·
   have hm:=(d.looks f hf k ka (Ne.symm hkf) t hd).1 ht'
   have:=d.lt f hfn k (d.alt k ka) hm
   omega
 rcases stepP_cases hst with ⟨_,_,h2⟩ | ⟨hg,v,b,hev,_,h2⟩
 ·
  rw [h2]
 ·
  have hg' : guardOf ops (s ops.size).1 o = some true:=by rw [← guardOf_congr hlk]; exact hg
  have hev' : evP X.toCx (s ops.size).1 (s ops.size).2 (s f).2.length o = some (v,b):=evP_mono (T.sub (by omega) (Nat.le_refl _)) (opd_looks hlk) hev
  unfold settled at hset
  rw [ho] at hset
  simp only at hset
  split at hset
  ·
   split at hset
   ·
    simp only [hg'] at hset
    split at hset
    ·
     rename_i v' hv'
     have:=evP_any (id':=(s f).2.length) hv'
     rw [hev'] at this
     cases this
     rw [h2]
     rfl
    ·
     cases hset
   ·
    cases hset
  ·
   cases hset
theorem wpAny_plain (hX:OnX P X sz pan) (d:DrawQ ops ms p) (hself:∀ x ∈ p.b,∀ f ∈ x.2,∀ t,opDst ops f = some t → t ∉ opLooks ops f) (hM:Meets DF A κ0 X.nl I0 w0 r.1 r.2.1 r.2.2 Q) (T:TraceA X.toCx ops p.a ops.size s) {a1:Act} (st:St DF A κ0 X.nl I0 w0 I1 κ1 (s 0).2 w1 (s 0).1 a1)
  (hfirst:∀ x bs,p.b = x :: bs → ∀ f ∈ x.2,settled X.toCx ops (s ops.size).1 (s ops.size).2 f = true) (h:runQ X sz pan ops p.b (s ops.size).1 (s ops.size).2 = some r) :
  ∀ (fuel:Nat) (U:List Nat) (listed:Array Bool) (a:Act) (w:World) (I:Nat → Option (Array Value)) (κ:Nat → Option Loc) (E:Env),(∀ x ∈ p.b,¬ isL listed x.1) → Down ops listed → (∀ f ∈ p.a,¬ isL listed f → f ∈ U) → U.length + p.b.length ≤ fuel →
   PartA DF X.toCx ops p.a s I1 κ1 w1 listed I κ w E a → wpAny P .any ops Q fuel listed a w:=by
 have hc : CallOK P X.call:=hX.call ▸ rets_ok hX.ok
 intro fuel
 induction fuel with
 | zero =>
  intro U listed a w I κ E hb dn hUl hU q
  have hUn : U = []:=List.eq_nil_of_length_eq_zero (by omega)
  have hbn : p.b = []:=List.eq_nil_of_length_eq_zero (by omega)
  subst hUn
  have hall : ∀ f ∈ p.a,isL listed f:=fun f hf=>Classical.byContradiction fun hun=>by cases hUl f hf hun
  obtain ⟨off,s2⟩:=q.off d T st fun f hf hun=>absurd (hall f hf) hun
  rw [hbn] at h
  exact wpAny_others hX d hself hM 0 [] [] [] [] listed a w I κ _ E _ (by rw [hbn]; rfl) (by simp) (by simp) dn (fun f hf hun=>absurd (hall f hf) hun) (by simp) (by simp) off s2 h
 | succ fuel ih =>
  intro U listed a w I κ E hb dn hUl hU q
  by_cases hex : (∀ f ∈ p.a,isL listed f) ∨ ∃ x bs,p.b = x :: bs ∧ ∀ e ∈ opOns ops x.1,isL listed e
  ·
   -- the first of the others may come
   have hF : ∃ Fp : List Nat,(∀ f ∈ p.a,¬ isL listed f → f ∈ Fp) ∧ ∀ f ∈ Fp,(settled X.toCx ops (s ops.size).1 (s ops.size).2 f = true ∧ ∀ t,opDst ops f = some t → t ∉ opLooks ops f) ∧ f ∈ p.a:=by
    rcases hex with hall | ⟨x,bs,hxb,hon⟩
    ·
     exact ⟨[],fun f hf hun=>absurd (hall f hf) hun,by simp⟩
    ·
     have hx : x ∈ p.b:=by rw [hxb]; simp
     refine ⟨x.2,fun f hf hun=>?_,fun f hf=>⟨⟨hfirst x bs hxb f hf,hself x hx f hf⟩,d.fa x hx f hf⟩⟩
     rcases d.fl x hx f hf with h1 | h1
     ·
      exact absurd (dn.anc' d (d.blt x.1 (List.mem_map_of_mem hx)) hon (d.alt f hf) h1) hun
     ·
      exact h1
   obtain ⟨Fp,hF1,hF2⟩:=hF
   obtain ⟨off,s2⟩:=q.off d T st fun f hf hun=>settled_still d T hf (hF2 f (hF1 f hf hun)).1.2 (hF2 f (hF1 f hf hun)).1.1
   exact wpAny_others hX d hself hM (fuel + 1) [] p.b Fp U listed a w I κ _ E _ rfl (by simp) hb dn (fun f hf hun=>⟨hF1 f hf hun,hUl f hf hun⟩) (fun f hf=>(hF2 f hf).1) hU off s2 h
  ·
   have hn1 : ¬ ∀ f ∈ p.a,isL listed f:=fun h=>hex (.inl h)
   refine ⟨fun hnil=>absurd (fun f hf=>ready_least dn d hnil f (d.alt f hf)) hn1,fun i hi=>?_⟩
   obtain ⟨hin,hun,hon⟩:=(ready_iff dn.size i).1 hi
   have hsz : i < listed.size:=by rw [dn.size]; exact hin
   rcases d.cover i hin with hia | hib
   ·
    refine q.next hX.tab hc d T dn (fun id hid=>st.none_at hid) hia hun hon fun a' w' I' κ' E' q'=>?_
    have hiU:=hUl i hia hun
    have hpos:=List.length_pos_of_mem hiU
    refine ih (U.erase i) _ a' w' I' κ' E' (fun x hx=>?_) (dn.set hin hon) (fun f hf hfu=>?_) (by rw [List.length_erase_of_mem hiU]; omega) q'
    ·
     rw [isL_set hsz]
     rintro (e | e)
     ·
      exact d.disj i hia (e ▸ List.mem_map_of_mem hx)
     ·
      exact hb x hx e
    ·
     rw [isL_set hsz] at hfu
     exact (List.mem_erase_of_ne fun e=>hfu (.inl e)).2 (hUl f hf fun e=>hfu (.inr e))
   ·
    exfalso
    cases hpb : p.b with
    | nil=>rw [hpb] at hib; cases hib
    | cons x bs =>
     refine hex (.inr ⟨x,bs,hpb,?_⟩)
     have hxb : x ∈ p.b:=by rw [hpb]; simp
     rw [hpb] at hib
     simp only [List.map_cons,List.mem_cons] at hib
     rcases hib with h1 | h1
     ·
      subst h1; exact hon
     ·
      exfalso
      have hch:=d.chain
      rw [hpb] at hch
      simp only [List.map_cons] at hch
      rw [List.pairwise_cons] at hch
      have:=dn.anc' d hin hon (d.blt x.1 (List.mem_map_of_mem hxb)) (hch.1 i h1)
      exact hb x hxb this
end
end Go.AM
/- The abstract machine,part 57: how a drawn region is taken apart; its run. -/
namespace Go.AM
def wrOp : Op → Bool
 | .move _=>false
 | .assign _=>false
 | .pick _ _ _=>false
 | .alloc _=>false
 | .box _ _=>false
 | .build _ _=>false
 | .buildSlice _ _ _=>false
 | .load _ _=>false
 | .nilCheck _=>false
 | .binOp _ _ _ _ _=>false
 | .unOp _ _ _=>false
 | .convert _ _ _=>false
 | .makeInterface _ _=>false
 | .makeFunc _ _ _=>false
 | .slice _ _ _ _ _=>false
 | .fieldAddr _ _ _=>false
 | .field _ _ _=>false
 | .indexAddr _ _ _=>false
 | .index _ _ _=>false
 | .extract _ _=>false
 | .makeSlice _ _ _=>false
 | .call { callee:=.builtin .len,.. }=>false
 | .call { callee:=.builtin .min,.. }=>false
 | .call { callee:=.builtin .max,.. }=>false
 | _=>true
def goP (ms:List Nat) : List Oper → Nat → List Nat → List Nat → List Nat × List Nat
 | [],_,as,bs=>(as,bs)
 | o :: os,i,as,bs=>if wrOp o.op || bs.any (fun b=>maskAt ms i b) then goP ms os (i + 1) as (bs ++ [i]) else goP ms os (i + 1) (as ++ [i]) bs
def planOf (ops:Array Oper) : Plan :=
 ⟨(goP (masks ops.toList []) ops.toList 0 [] []).1,(goP (masks ops.toList []) ops.toList 0 [] []).2.map fun b=>(b,(goP (masks ops.toList []) ops.toList 0 [] []).1.filter fun f=>!maskAt (masks ops.toList []) b f)⟩
def pw (r:Nat → Nat → Bool) : List Nat → Bool
 | []=>true
 | x :: l=>l.all (r x) && pw r l
theorem pw_ok {r:Nat → Nat → Bool} : ∀ {l:List Nat},pw r l = true → l.Pairwise fun x y=>r x y = true
 | [],_=>.nil
 | x :: l,h=>by
  simp only [pw,Bool.and_eq_true,List.all_eq_true] at h
  exact .cons h.1 (pw_ok h.2)
def sepB (ops:Array Oper) (ms:List Nat) (i j:Nat) : Bool:=match opDst ops j with
 | some t=>(!(opLooks ops i).contains t || maskAt ms i j) && opDst ops i != some t
 | none=>true
theorem sepB_ok {ops:Array Oper} {ms:List Nat} {i j:Nat} (h:sepB ops ms i j = true) : ∀ t,opDst ops j = some t → (t ∈ opLooks ops i → maskAt ms i j = true) ∧ opDst ops i ≠ some t:=by
 intro t ht
 unfold sepB at h
 rw [ht] at h
 simp only [Bool.and_eq_true, Bool.or_eq_true, Bool.not_eq_true', List.contains_eq_mem, decide_eq_false_iff_not, bne_iff_ne, ne_eq] at h
 exact ⟨fun hm=>h.1.resolve_left fun hn=>hn hm,h.2⟩
def selfB (ops:Array Oper) (f:Nat) : Bool:=match opDst ops f with
 | some t=>!(opLooks ops f).contains t
 | none=>true
def planOK (ops:Array Oper) (ms:List Nat) (p:Plan) : Bool :=
 (List.range ops.size).all (fun i=>(opOns ops i).all fun e=>Nat.blt e i) &&
 (List.range ops.size).all (fun i=>(List.range ops.size).all fun k=>!maskAt ms i k || (opOns ops i).any fun e=>e == k || maskAt ms e k) &&
 (List.range ops.size).all (fun i=>p.a.contains i || (p.b.map (·.1)).contains i) &&
 p.a.all (fun i=>Nat.blt i ops.size) && (p.b.map (·.1)).all (fun i=>Nat.blt i ops.size) &&
 pw (fun x y=>Nat.blt x y) p.a && pw (fun x y=>maskAt ms y x) (p.b.map (·.1)) &&
 p.a.all (fun i=>!(p.b.map (·.1)).contains i) &&
 p.a.all (fun i=>(List.range ops.size).all fun k=>!maskAt ms i k || p.a.contains k) &&
 p.a.all (fun i=>p.a.all fun j=>i == j || sepB ops ms i j) &&
 (p.b.map (·.1)).all (fun b=>p.a.all fun f=>sepB ops ms b f) &&
 p.b.all (fun x=>p.a.all fun f=>maskAt ms x.1 f || x.2.contains f) &&
 p.b.all (fun x=>x.2.all fun f=>p.a.contains f && selfB ops f)
theorem planOK_ok {ops:Array Oper} {ms:List Nat} {p:Plan} (h:planOK ops ms p = true) : DrawQ ops ms p ∧ ∀ x ∈ p.b,∀ f ∈ x.2,∀ t,opDst ops f = some t → t ∉ opLooks ops f:=by
 unfold planOK at h
 simp only [Bool.and_eq_true, List.all_eq_true, List.mem_range, Nat.blt_eq, Bool.or_eq_true, Bool.not_eq_true', List.contains_eq_mem, decide_eq_true_eq, decide_eq_false_iff_not, List.any_eq_true, beq_iff_eq] at h
 obtain ⟨⟨⟨⟨⟨⟨⟨⟨⟨⟨⟨⟨h1,h2⟩,h3⟩,h4⟩,h5⟩,h6⟩,h7⟩,h8⟩,h9⟩,h10⟩,h11⟩,h12⟩,h13⟩:=h
 refine ⟨⟨h1,fun i hi k hk hm=>?_,h3,h4,h5,?_,pw_ok h7,h8,fun i hi k hk hm=>?_,fun i hi j hj hij=>?_,fun b hb f hf=>sepB_ok (h11 b hb f hf),h12,fun x hx f hf=>(h13 x hx f hf).1⟩,fun x hx f hf t ht hm=>?_⟩
 ·
  rcases h2 i hi k hk with h | h
  ·
   rw [hm] at h; cases h
  ·
   exact h
 ·
  exact (pw_ok h6).imp fun h=>by simpa [Nat.blt_eq] using h
 ·
  rcases h9 i hi k hk with h | h
  ·
   rw [hm] at h; cases h
  ·
   exact h
 ·
  rcases h10 i hi j hj with h | h
  ·
   exact absurd h hij
  ·
   exact sepB_ok h
 ·
  have:=(h13 x hx f hf).2
  unfold selfB at this
  rw [ht] at this
  simp [hm] at this
noncomputable def slowP (X:Px) (ops:Array Oper) (o:Oper) (env:Env) (H:Heap) (k:Env → Heap → Rz) : Rz:=match stepP X.toCx ops env H o with
 | some (e,h)=>allF e fun e=>allF h fun h=>k e h
 | none=>none
noncomputable def stepPF (X:Px) (ops:Array Oper) (o:Oper) (env:Env) (H:Heap) (k:Env → Heap → Rz) : Rz:=match guardF ops env o.guard with
 | some true=>match o.dst with
  | some d=>match valF X env H o d with
   | some v=>setF env d v fun env'=>k env' H
   | none=>slowP X ops o env H k
  | none=>slowP X ops o env H k
 | some false=>putF env o.dst (.tup []) fun env'=>k env' H
 | none=>none
noncomputable def runPF (X:Px) (ops:Array Oper) (l:List Oper) (k:Env → Heap → Rz) : Env → Heap → Rz :=
 List.rec k (fun o _ ih env H=>stepPF X ops o env H ih) l
noncomputable def drawR (X:Px) (sz:FuncId → Sz) (pan:Oracle) (ops:Array Oper) (env:Env) (H:Heap) : Rz :=
 match planOK ops (masks ops.toList []) (planOf ops) with
 | false=>none
 | true=>match mapO (fun i=>ops[i]?) (planOf ops).a with
  | none=>none
  | some os=>runPF X ops os (fun E H1=>match (planOf ops).b with
   | []=>some (.normal,E,H1)
   | x :: bs=>match x.2.all (settled X.toCx ops E H1) with
    | true=>runQ X sz pan ops (x :: bs) E H1
    | false=>none) env H
section
variable {P:Program} {I I' : Nat → Option (Array Value)} {κ κ' : Nat → Option Loc} {w w' : World} {H H' : Heap} {DF:List Deferred} {A:Nat → Prop} {κ0:Nat → Option Loc} {I0:Nat → Option (Array Value)} {w0:World} {env:Env} {a:Act} {ops:Array Oper} {Q:Exit → Act → World → Prop} {X:Px} {pan:Oracle} {sz:FuncId → Sz} {r:Ez × Env × Heap} {k:Env → Heap → Rz}
theorem slowP_ok {o:Oper} (h:slowP X ops o env H k = some r) : ∃ e h2,stepP X.toCx ops env H o = some (e,h2) ∧ k e h2 = some r:=by
 unfold slowP at h
 simp only [allF_eq] at h
 split at h
 ·
  rename_i e h2 hs
  exact ⟨e,h2,hs,h⟩
 ·
  cases h
theorem stepPF_ok (hX:PlainX X) {o:Oper} (h:stepPF X ops o env H k = some r) : ∃ e h2,stepP X.toCx ops env H o = some (e,h2) ∧ k e h2 = some r:=by
 unfold stepPF at h
 simp only [guardF_eq,setF_eq,putF_eq] at h
 split at h
 ·
  rename_i hg
  split at h
  ·
   rename_i d hd
   split at h
   ·
    rename_i v hv
    refine ⟨_,_,?_,h⟩
    unfold stepP
    have he : evP X.toCx env H H.length o = some (v,none):=by
     unfold evP evQ
     simp only [flat_ev1 (valF_flat hv) hd,valF_ok hv,hX.cast,castV]
    simp only [hg,he,hd,putE]
   ·
    exact slowP_ok h
  ·
   exact slowP_ok h
 ·
  rename_i hg
  refine ⟨_,_,?_,h⟩
  unfold stepP
  simp only [hg]
 ·
  cases h
theorem runPF_ok (hX:PlainX X) : ∀ (os:List Oper) {env:Env} {H:Heap},runPF X ops os k env H = some r → ∃ E H1,runP X.toCx ops os env H = some (E,H1) ∧ k E H1 = some r
 | [],env,H,h=>⟨env,H,rfl,h⟩
 | o :: os,env,H,h=>by
  have h : stepPF X ops o env H (runPF X ops os k) = some r:=h
  obtain ⟨e,h2,hs,hk⟩:=stepPF_ok hX h
  obtain ⟨E,H1,hr,hk2⟩:=runPF_ok hX os hk
  exact ⟨E,H1,by unfold runP; simp only [hs]; exact hr,hk2⟩
theorem mapO_map {α β:Type} {f:α → Option β} : ∀ {l:List α} {m:List β},mapO f l = some m → l.map f = m.map some
 | [],m,h=>by simp [mapO] at h; subst h; rfl
 | x :: l,m,h=>by
  unfold mapO at h
  split at h
  ·
   rename_i y ys hy hys
   simp at h
   subst h
   simp [hy,mapO_map hys]
  ·
   simp at h
theorem nodup_lt : ∀ (n:Nat) (l:List Nat),l.Nodup → (∀ x ∈ l,x < n) → l.length ≤ n
 | 0,l,_,h=>by
  cases l with
  | nil=>simp
  | cons x l=>have:=h x (by simp); omega
 | n + 1,l,hn,h=>by
  by_cases hm : n ∈ l
  ·
   have h1:=nodup_lt n (l.erase n) (hn.erase n) (fun x hx=>by
    rw [hn.mem_erase_iff] at hx
    have:=h x hx.2
    have:=hx.1
    omega)
   rw [List.length_erase_of_mem hm] at h1
   omega
  ·
   have h1:=nodup_lt n l hn (fun x hx=>by
    have:=h x hx
    have : x ≠ n:=fun e=>hm (e ▸ hx)
    omega)
   omega
theorem drawR_wp (hX:OnX P X sz pan) (hM:Meets DF A κ0 X.nl I0 w0 r.1 r.2.1 r.2.2 Q) (s:Stx DF A κ0 X.nl I0 w0 H env a w) (h:drawR X sz pan ops env H = some r) {id:Nat} : (Code.region id ops true).wp P Q a w:=by
 refine wp_region_any hX.mixed ?_
 unfold drawR at h
 split at h
 ·
  cases h
 ·
  rename_i hok
  obtain ⟨d,hself⟩:=planOK_ok hok
  split at h
  ·
   cases h
  ·
   rename_i os hos
   obtain ⟨E,H1,hr,hk⟩:=runPF_ok hX.plain os h
   obtain ⟨st,T,h0,hn⟩:=runP_traceA d.asort (mapO_map hos) d.alt hr
   obtain ⟨I1,κ1,s1⟩:=s
   have s1 : St DF A κ0 X.nl I0 w0 I1 κ1 (st 0).2 { w with drawn:=w.drawn + 1 } (st 0).1 a:=by
    rw [h0]
    exact s1.later ⟨rfl,rfl,rfl,Nat.le_refl _,fun _ _=>rfl⟩
   have hno : ∀ i,¬ isL (Array.replicate ops.size false) i:=fun i h=>by
    unfold isL at h
    by_cases hlt : i < ops.size <;> simp [hlt] at h
   have key : (∀ x bs,(planOf ops).b = x :: bs → ∀ f ∈ x.2,settled X.toCx ops (st ops.size).1 (st ops.size).2 f = true) ∧ runQ X sz pan ops (planOf ops).b (st ops.size).1 (st ops.size).2 = some r:=by
    rw [hn]
    split at hk
    ·
     rename_i hb
     rw [hb]
     exact ⟨fun x bs he=>(by cases he),hk⟩
    ·
     rename_i x bs hb
     split at hk
     ·
      rename_i hset
      refine ⟨fun y ys he f hf=>?_,by rw [hb]; exact hk⟩
      rw [hb] at he
      cases he
      rw [List.all_eq_true] at hset
      exact hset f hf
     ·
      cases hk
   have hlen : (planOf ops).a.length + (planOf ops).b.length ≤ ops.size:=by
    have h1 : ((planOf ops).a ++ (planOf ops).b.map (·.1)).Nodup:=by
     rw [List.nodup_append]
     refine ⟨d.asort.imp fun h=>by omega,?_,fun x hx y hy e=>d.disj x hx (e ▸ hy)⟩
     exact d.chain.imp_of_mem fun {x y} hx hy h e=>by
      subst e
      have:=d.lt x (d.blt x hx) x (d.blt x hx) h
      omega
    have h2 : ∀ x ∈ (planOf ops).a ++ (planOf ops).b.map (·.1),x < ops.size:=by
     intro x hx
     rcases List.mem_append.1 hx with hx | hx
     ·
      exact d.alt x hx
     ·
      exact d.blt x hx
    have h3:=nodup_lt _ _ h1 h2
    simpa using h3
   refine wpAny_plain hX d hself hM T s1 key.1 key.2 ops.size (planOf ops).a (Array.replicate ops.size false) a _ I1 κ1 (st 0).1 (fun x _=>hno _) ⟨fun i hl=>absurd hl (hno i),by simp⟩ (fun f hf _=>hf) hlen ?_
   refine ⟨⟨s1.wr.im,fun i l hl=>?_,s1.wr.inj,s1.wr.apart⟩,s1.env,.refl _,rfl,fun _ _=>rfl,fun i _ hl=>absurd hl (hno i),fun _ _=>rfl,fun i hi hg=>⟨fun hl=>absurd hl (hno i),fun hk=>?_⟩,fun _ _ _ _ _ _ h=>.inl h,s1.nodef⟩
   ·
    obtain ⟨blk,hb,hlies⟩:=s1.wr.own _ _ hl
    exact ⟨blk,T.sub (by omega) (Nat.le_refl _) _ _ hb,hlies⟩
   ·
    exact absurd (s1.none_at (T.lens (i:=0) (j:=i) (by omega) (by have:=d.alt i hi; omega))) hk
end
end Go.AM
/- The abstract machine,part 60: drawn regions once more: what hangs on no memory is taken first; of the others each order is gone through. -/
namespace Go.AM
mutual
def detD : D → Bool
 | .int _ _=>true
 | .bool _=>true
 | .str _=>true
 | .fn _ a c=>detDs a && detDs c
 | _=>false
def detDs : List D → Bool
 | []=>true
 | d :: ds=>detD d && detDs ds
end
def det : AV → Bool
 | .im d=>detD d
 | .ptr _ _ _=>true
 | _=>false
section
variable {I:Nat → Option (Array Value)} {κ:Nat → Option Loc}
mutual
theorem detD_eq : ∀ {d:D},detD d = true → ∀ {x y:Value},RD I d x → RD I d y → x = y
 | .int _ _,_,_,_,h1,h2=>by cases h1; cases h2; rfl
 | .bool _,_,_,_,h1,h2=>by cases h1; cases h2; rfl
 | .str _,_,_,_,h1,h2=>by cases h1; cases h2; rfl
 | .fn f a c,h,_,_,h1,h2=>by
  simp only [detD,Bool.and_eq_true] at h
  cases h1 with
  | fn _ _ _ va vc ha hc =>
   cases h2 with
   | fn _ _ _ va' vc' ha' hc' => rw [detDs_eq h.1 ha ha', detDs_eq h.2 hc hc']
 | .nilp,h,_,_,_,_=>by simp [detD] at h
 | .nili,h,_,_,_,_=>by simp [detD] at h
 | .nilf,h,_,_,_,_=>by simp [detD] at h
 | .nilm,h,_,_,_,_=>by simp [detD] at h
 | .sl _ _ _,h,_,_,_,_=>by simp [detD] at h
 | .agg _,h,_,_,_,_=>by simp [detD] at h
 | .ifc _ _,h,_,_,_,_=>by simp [detD] at h
theorem detDs_eq : ∀ {ds:List D},detDs ds = true → ∀ {xs ys:List Value},RDs I ds xs → RDs I ds ys → xs = ys
 | [],_,_,_,h1,h2=>by cases h1; cases h2; rfl
 | d :: ds,h,_,_,h1,h2=>by
  simp only [detDs,Bool.and_eq_true] at h
  cases h1 with
  | cons _ _ _ _ a as =>
   cases h2 with
   | cons _ _ _ _ b bs=>rw [detD_eq h.1 a b,detDs_eq h.2 as bs]
end
theorem det_eq {v:AV} (h:det v = true) {x y:Value} (h1:RV I κ v x) (h2:RV I κ v y) : x = y:=by
 cases v with
 | im d=>cases h1 with | im _ _ a=>cases h2 with | im _ _ b=>exact detD_eq h a b
 | ptr id j k =>
  cases h1 with
  | ptr _ _ _ b base cap sz nn hk =>
   cases h2 with
   | ptr _ _ _ b' base' cap' sz' nn' hk' =>
    rw [hk] at hk'
    cases hk'
    rfl
 | _=>simp [det] at h
end
def floatV (T:Tab) (env:Env) (o:Oper) : Option AV:=match o.op with
 | .move x=>opd env x
 | .assign x=>opd env x
 | .slice t x lo hi none=>match T.ty t with
  | some ⟨.string,_,_,_⟩=>ev0 T env [] o
  | _=>none
 | .pick _ _ _=>match ev0 T env [] o with
  | some v=>if det v then some v else none
  | none=>none
 | .nilCheck _=>match ev0 T env [] o with
  | some v=>if det v then some v else none
  | none=>none
 | .unOp _ _ _=>match ev0 T env [] o with
  | some v=>if det v then some v else none
  | none=>none
 | .makeFunc _ _ _=>match ev0 T env [] o with
  | some v=>if det v then some v else none
  | none=>none
 | .extract _ _=>match ev0 T env [] o with
  | some v=>if det v then some v else none
  | none=>none
 | .fieldAddr _ _ _=>match ev0 T env [] o with
  | some v=>if det v then some v else none
  | none=>none
 | .index _ _ _=>match ev0 T env [] o with
  | some v=>if det v then some v else none
  | none=>none
 | .binOp _ _ _ _ _=>match ev0 T env [] o with
  | some v=>if det v then some v else none
  | none=>none
 | .call { callee:=.builtin .len,.. }=>match ev0 T env [] o with
  | some v=>if det v then some v else none
  | none=>none
 | _=>none
section
variable {P:Program} {I:Nat → Option (Array Value)} {κ:Nat → Option Loc} {T:Tab} {env:Env} {a:Act} {o:Oper} {v:AV}
theorem ev0_str (hT:T.ok P) (he:RVs I κ env a.tmps.toList) {t:TypeId} {x:Operand} {lo hi:Option Operand} (ho:o.op = .slice t x lo hi none) {i1 i2:Nat} {i3:Value} (ht:T.ty t = some ⟨.string,i1,i2,i3⟩) (h:ev0 T env [] o = some v) :
  (∀ w : World,Val P I κ w a o v) ∧ det v = true:=by
 unfold ev0 at h
 rw [ho] at h
 simp only [ht] at h
 have h1:=(hT.ty _ _ ht).desc
 simp only at h1
 split at h
 ·
  rename_i s hx
  have hr:=opd_rv he hx
  split at h
  ·
   rename_i hh heh
   split at h
   ·
    rename_i ll hel
    simp at h
    subst h
    refine ⟨fun w=>?_,rfl⟩
    unfold Val execOp
    rw [ho]
    simp only
    obtain ⟨hb,hlh,hhl⟩:=sliceBounds_run (P:=P) (w:=w) he false s.length s.length (Nat.le_refl _) heh hel
    generalize hxe : a.eval x = xe at hr ⊢
    cases hr with
    | im _ _ hr =>
    cases hr
    refine ⟨.string ⟨((s.take hh).drop ll).toArray⟩,?_,.im _ _ (.str _)⟩
    have hsz : (⟨s.toArray⟩ : ByteArray).size = s.length:=rfl
    rw [← extract_bytes s ll hh hlh hhl]
    simp only [Instr.sliceAt,Instr.slice,Sem.run_bind,run_underlying h1,Result.andThen_ok,Option.map_none,Option.isSome_none,Bool.false_eq_true,if_false,hsz,hb,Sem.run_pure]
   ·
    simp at h
  ·
   simp at h
 ·
  simp at h
theorem float_all (w0:World) (hd:det v = true) (h:∀ w : World,Val P I κ w a o v) : ∃ x,(∀ w,(execOp a.eval o).run P w = .ok (.value x) w) ∧ RV I κ v x:=by
 obtain ⟨x,_,hr⟩:=h w0
 refine ⟨x,fun w=>?_,hr⟩
 obtain ⟨y,hy,hr'⟩:=h w
 rw [hy,det_eq hd hr hr']
theorem floatV_ok (w0:World) (hT:T.ok P) (he:RVs I κ env a.tmps.toList) (h:floatV T env o = some v) : ∃ x,(∀ w,(execOp a.eval o).run P w = .ok (.value x) w) ∧ RV I κ v x:=by
 have fin : ∀ {e:Option AV},(match e with
   | some v=>if det v then some v else none
   | none=>none) = some v → e = some v ∧ det v = true:=by
  intro e h
  split at h
  ·
   split at h
   ·
    rename_i hd; cases h; exact ⟨rfl,hd⟩
   ·
    cases h
  ·
   cases h
 unfold floatV at h
 split at h
 ·
  rename_i x ho
  have hr:=opd_rv he h
  exact ⟨_,fun w=>by unfold execOp; rw [ho]; rfl,hr⟩
 ·
  rename_i x ho
  have hr:=opd_rv he h
  exact ⟨_,fun w=>by unfold execOp; rw [ho]; rfl,hr⟩
 ·
  rename_i t x lo hi ho
  split at h
  ·
   rename_i ht
   obtain ⟨h1,h2⟩:=ev0_str hT he ho ht h
   exact float_all w0 h2 h1
  ·
   cases h
 ·
  rename_i c x y ho
  obtain ⟨h,hd⟩:=fin h
  exact float_all w0 hd fun w=>ev0_pick he ho h
 ·
  rename_i x ho
  obtain ⟨h,hd⟩:=fin h
  exact float_all w0 hd fun w=>ev0_nilCheck he ho h
 ·
  rename_i op t x ho
  obtain ⟨h,hd⟩:=fin h
  exact float_all w0 hd fun w=>ev0_unOp he ho h
 ·
  rename_i f x y ho
  obtain ⟨h,hd⟩:=fin h
  exact float_all w0 hd fun w=>ev0_makeFunc he ho h
 ·
  rename_i x i ho
  obtain ⟨h,hd⟩:=fin h
  exact float_all w0 hd fun w=>ev0_extract he ho h
 ·
  rename_i s x f ho
  obtain ⟨h,hd⟩:=fin h
  exact float_all w0 hd fun w=>ev0_fieldAddr hT he ho h
 ·
  rename_i t x i ho
  obtain ⟨h,hd⟩:=fin h
  exact float_all w0 hd fun w=>ev0_index hT he ho h
 ·
  rename_i op t x y u ho
  obtain ⟨h,hd⟩:=fin h
  exact float_all w0 hd fun w=>ev0_binOp hT he ho h
 ·
  rename_i ho
  obtain ⟨h,hd⟩:=fin h
  exact float_all w0 hd fun w=>ev0_call hT he ho h
 ·
  cases h
end
def readyD (ops:Array Oper) (done:List Nat) : List Nat:=(List.range ops.size).filter fun i=>!done.contains i && (opOns ops i).all fun e=>done.contains e
def apartB (ops:Array Oper) (done:List Nat) (i:Nat) (oi:Oper) : Bool:=(List.range ops.size).all fun j=>Nat.beq j i || done.contains j || (opOns ops j).contains i || match ops[j]? with
 | some oj=>oi.apart ops oj
 | none=>true
def tryF (T:Tab) (ops:Array Oper) (done:List Nat) (env:Env) : List Nat → Option (Nat × Option Tmp × AV)
 | []=>none
 | i :: is=>match ops[i]? with
  | none=>none
  | some o=>match guardOf ops env o with
   | some true=>match floatV T env o with
    | some v=>if apartB ops done i o then some (i,o.dst,v) else tryF T ops done env is
    | none=>tryF T ops done env is
   | some false=>if apartB ops done i o then some (i,o.dst,.tup []) else tryF T ops done env is
   | none=>tryF T ops done env is
mutual
def eqX : D → D → Bool
 | .int k n,.int k' n'=>Nat.beq k.ctorIdx k'.ctorIdx && (n == n')
 | .bool b,.bool b'=>b == b'
 | .str s,.str s'=>s == s'
 | .nilp,.nilp=>true
 | .nili,.nili=>true
 | .nilf,.nilf=>true
 | .nilm,.nilm=>true
 | .sl t sz es,.sl t' sz' es'=>t == t' && Nat.beq sz sz' && eqXs es es'
 | .agg cs,.agg cs'=>eqXs cs cs'
 | .fn (.func f) a c,.fn (.func f') a' c'=>Nat.beq f f' && eqXs a a' && eqXs c c'
 | .ifc t x,.ifc t' x'=>Nat.beq t t' && eqX x x'
 | _,_=>false
def eqXs : List D → List D → Bool
 | [],[]=>true
 | x :: xs,y :: ys=>eqX x y && eqXs xs ys
 | _,_=>false
end
mutual
def eqW : AV → AV → Bool
 | .bad,.bad=>true
 | .im d,.im d'=>eqX d d'
 | .ref i o l,.ref i' o' l'=>Nat.beq i i' && Nat.beq o o' && Nat.beq l l'
 | .ptr i o l,.ptr i' o' l'=>Nat.beq i i' && Nat.beq o o' && Nat.beq l l'
 | .pe d k,.pe d' k'=>eqX d d' && Nat.beq k k'
 | .agg cs,.agg cs'=>eqE cs cs'
 | .tup cs,.tup cs'=>eqE cs cs'
 | .mp i,.mp i'=>Nat.beq i i'
 | .fn (.func f) a c,.fn (.func f') a' c'=>Nat.beq f f' && eqE a a' && eqE c c'
 | .ifc t x,.ifc t' x'=>Nat.beq t t' && eqW x x'
 | _,_=>false
def eqE : List AV → List AV → Bool
 | [],[]=>true
 | x :: xs,y :: ys=>eqW x y && eqE xs ys
 | _,_=>false
end
mutual
theorem eqX_ok : ∀ {x y:D},eqX x y = true → x = y:=by
 intro x y h
 match x,y,h with
 | .int k n,y,h =>
  cases y <;> simp [eqX] at h
  rename_i k' n'
  have hk : k = k':=kind_eq (by rw [Nat.beq_eq]; exact h.1)
  rw [hk,h.2]
 | .bool b,y,h=>cases y <;> simp [eqX] at h; rw [h]
 | .str b,y,h=>cases y <;> simp [eqX] at h; rw [h]
 | .nilp,y,h=>cases y <;> simp [eqX] at h; rfl
 | .nili,y,h=>cases y <;> simp [eqX] at h; rfl
 | .nilf,y,h=>cases y <;> simp [eqX] at h; rfl
 | .nilm,y,h=>cases y <;> simp [eqX] at h; rfl
 | .sl t sz es,y,h =>
  cases y <;> simp [eqX] at h
  rw [h.1.1,h.1.2,eqXs_ok h.2]
 | .agg cs,y,h =>
  cases y <;> simp [eqX] at h
  rw [eqXs_ok h]
 | .fn f a c,y,h =>
  cases y with
  | fn f' a' c' =>
   cases f <;> cases f' <;> simp [eqX] at h
   rw [h.1.1,eqXs_ok h.1.2,eqXs_ok h.2]
  | _=>cases f <;> simp [eqX] at h
 | .ifc t x,y,h =>
  cases y <;> simp [eqX] at h
  rw [h.1,eqX_ok h.2]
theorem eqXs_ok : ∀ {xs ys:List D},eqXs xs ys = true → xs = ys
 | [],[],_=>rfl
 | [],_ :: _,h=>by simp [eqXs] at h
 | _ :: _,[],h=>by simp [eqXs] at h
 | x :: xs,y :: ys,h=>by
  simp only [eqXs,Bool.and_eq_true] at h
  rw [eqX_ok h.1,eqXs_ok h.2]
end
mutual
theorem eqW_ok : ∀ {x y:AV},eqW x y = true → x = y:=by
 intro x y h
 match x,y,h with
 | .bad,y,h=>cases y <;> simp [eqW] at h; rfl
 | .im d,y,h=>cases y <;> simp [eqW] at h; rw [eqX_ok h]
 | .ref a b c,y,h=>cases y <;> simp [eqW] at h; rw [h.1.1,h.1.2,h.2]
 | .ptr a b c,y,h=>cases y <;> simp [eqW] at h; rw [h.1.1,h.1.2,h.2]
 | .pe d k,y,h=>cases y <;> simp [eqW] at h; rw [eqX_ok h.1,h.2]
 | .agg cs,y,h=>cases y <;> simp [eqW] at h; rw [eqE_ok h]
 | .tup cs,y,h=>cases y <;> simp [eqW] at h; rw [eqE_ok h]
 | .mp i,y,h=>cases y <;> simp [eqW] at h; rw [h]
 | .fn f a c,y,h =>
  cases y with
  | fn f' a' c' =>
   cases f <;> cases f' <;> simp [eqW] at h
   rw [h.1.1,eqE_ok h.1.2,eqE_ok h.2]
  | _=>cases f <;> simp [eqW] at h
 | .ifc t x,y,h =>
  cases y <;> simp [eqW] at h
  rw [h.1,eqW_ok h.2]
theorem eqE_ok : ∀ {xs ys:List AV},eqE xs ys = true → xs = ys
 | [],[],_=>rfl
 | [],_ :: _,h=>by simp [eqE] at h
 | _ :: _,[],h=>by simp [eqE] at h
 | x :: xs,y :: ys,h=>by
  simp only [eqE,Bool.and_eq_true] at h
  rw [eqW_ok h.1,eqE_ok h.2]
end
def eqK : Option Blk → Option Blk → Bool
 | none,none=>true
 | some (.c z ds),some (.c z' ds')=>Nat.beq z z' && eqXs ds ds'
 | some (.m z ds),some (.m z' ds')=>Nat.beq z z' && eqE ds ds'
 | some (.o ds),some (.o ds')=>eqXs ds ds'
 | _,_=>false
def eqH : Heap → Heap → Bool
 | [],[]=>true
 | x :: xs,y :: ys=>eqK x y && eqH xs ys
 | _,_=>false
theorem eqK_ok {x y:Option Blk} (h:eqK x y = true) : x = y:=by
 unfold eqK at h
 split at h
 ·
  rfl
 ·
  simp only [Bool.and_eq_true,Nat.beq_eq] at h; rw [h.1,eqXs_ok h.2]
 ·
  simp only [Bool.and_eq_true,Nat.beq_eq] at h; rw [h.1,eqE_ok h.2]
 ·
  rw [eqXs_ok h]
 ·
  cases h
theorem eqH_ok : ∀ {x y:Heap},eqH x y = true → x = y
 | [],[],_=>rfl
 | [],_ :: _,h=>by simp [eqH] at h
 | _ :: _,[],h=>by simp [eqH] at h
 | a :: x,b :: y,h=>by
  simp only [eqH,Bool.and_eq_true] at h
  rw [eqK_ok h.1,eqH_ok h.2]
def stepN (X:Px) (pan:Oracle) (ops:Array Oper) (i:Nat) (env:Env) (H:Heap) : Option (Env × Heap):=match ops[i]? with
 | some o=>match stepZ X pan ops env H o with
  | some (none, env', H') => some (env', H')
  | _=>none
 | none=>none
def runA (X:Px) (pan:Oracle) (ops:Array Oper) : Nat → List Nat → Env → Heap → Option (Env × Heap)
 | 0,_,_,_=>none
 | n + 1,done,env,H=>match readyD ops done with
  | []=>some (env,H)
  | i :: is=>match tryF X.T ops done env (i :: is) with
   | some (j,d,v)=>runA X pan ops n (j :: done) (putE env d v) H
   | none=>match stepN X pan ops i env H with
    | some (e,h)=>match runA X pan ops n (i :: done) e h with
     | some r=>if is.all (fun j=>match stepN X pan ops j env H with
      | some (e', h') => match runA X pan ops n (j :: done) e' h' with
       | some r'=>eqE r.1 r'.1 && eqH r.2 r'.2
       | none=>false
      | none=>false) then some r else none
     | none=>none
    | none=>none
def noSel (ops:Array Oper) : Bool:=ops.toList.all fun o=>match o.op with
 | .select _ _=>false
 | _=>true
section
variable {P:Program} {I:Nat → Option (Array Value)} {κ:Nat → Option Loc} {w:World} {H H' : Heap} {DF:List Deferred} {A:Nat → Prop} {κ0:Nat → Option Loc} {I0:Nat → Option (Array Value)} {w0:World} {env env' : Env} {a:Act} {ops:Array Oper} {X:Px} {pan:Oracle}
theorem tryF_some {T:Tab} {done:List Nat} : ∀ {l:List Nat} {j:Nat} {d:Option Tmp} {v:AV},tryF T ops done env l = some (j,d,v) → j ∈ l ∧ ∃ o,ops[j]? = some o ∧ d = o.dst ∧ apartB ops done j o = true ∧ ((guardOf ops env o = some true ∧ floatV T env o = some v) ∨ (guardOf ops env o = some false ∧ v = .tup []))
 | [],_,_,_,h=>by simp [tryF] at h
 | i :: is,j,d,v,h=>by
  have next : tryF T ops done env is = some (j,d,v) → j ∈ i :: is ∧ ∃ o,ops[j]? = some o ∧ d = o.dst ∧ apartB ops done j o = true ∧ ((guardOf ops env o = some true ∧ floatV T env o = some v) ∨ (guardOf ops env o = some false ∧ v = .tup [])):=fun h=>by
   obtain ⟨h1,h2⟩:=tryF_some h
   exact ⟨List.mem_cons_of_mem _ h1,h2⟩
  unfold tryF at h
  split at h
  ·
   cases h
  ·
   rename_i o ho
   split at h
   ·
    rename_i hg
    split at h
    ·
     rename_i x hx
     split at h
     ·
      rename_i hap
      cases h
      exact ⟨by simp,o,ho,rfl,hap,.inl ⟨hg,hx⟩⟩
     ·
      exact next h
    ·
     exact next h
   ·
    rename_i hg
    split at h
    ·
     rename_i hap
     cases h
     exact ⟨by simp,o,ho,rfl,hap,.inr ⟨hg,rfl⟩⟩
    ·
     exact next h
   ·
    exact next h
def onN (R:Act → World → Prop) : Exit → Act → World → Prop:=fun e a w=>e = .normal ∧ R a w
theorem runA_wp (hT : X.T.ok P) (hc : CallOK P X.call) (hp : PanOK P pan) (hns : noSel ops = true) {R : Act → World → Prop} (hR : ∀ a' w', Stx DF A κ0 X.nl I0 w0 H' env' a' w' → R a' w') :
  ∀ (n : Nat) (done : List Nat) (listed : Array Bool) (env : Env) (H : Heap) (a : Act) (w : World), runA X pan ops (n + 1) done env H = some (env', H') → listed.size = ops.size → (∀ i, i < ops.size → (isL listed i ↔ i ∈ done)) → (∀ i ∈ done, i < ops.size) →
   Stx DF A κ0 X.nl I0 w0 H env a w → wpAny P .any ops (onN R) n listed a w:=by
 have hsel : ∀ (j:Nat) (o:Oper) cs b,ops[j]? = some o → o.op ≠ .select cs b:=by
  intro j o cs b ho e
  have hm:=List.all_eq_true.1 hns o (by
   have:=Array.mem_of_getElem? ho
   simpa using this)
  rw [e] at hm
  cases hm
 intro n
 induction n with
 | zero =>
  intro done listed env H a w h hs hl hd s
  unfold runA at h
  split at h
  ·
   rename_i hr
   cases h
   refine wpAny_done ?_ ⟨rfl,hR _ _ s⟩ 0
   refine List.eq_nil_iff_forall_not_mem.2 fun i hi=>?_
   obtain ⟨h1,h2,h3⟩:=(ready_iff hs i).1 hi
   have : i ∈ readyD ops done:=by
    unfold readyD
    rw [List.mem_filter]
    refine ⟨List.mem_range.2 h1,?_⟩
    simp only [Bool.and_eq_true, Bool.not_eq_true', List.contains_eq_mem, decide_eq_false_iff_not, List.all_eq_true, decide_eq_true_eq]
    refine ⟨fun hh=>h2 ((hl i h1).2 hh),fun e he=>?_⟩
    have hle:=h3 e he
    have helt : e < ops.size:=by
     rw [← hs]
     unfold isL at hle
     by_cases hlt : e < listed.size
     ·
      exact hlt
     ·
      simp [hlt] at hle
    exact (hl e helt).1 hle
   rw [hr] at this
   cases this
  ·
   split at h
   ·
    simp [runA] at h
   ·
    split at h
    ·
     simp [runA] at h
    ·
     cases h
 | succ n ih =>
  intro done listed env H a w h hs hl hd s
  have hready : ∀ i,i ∈ Region.ready .any ops listed ↔ i ∈ readyD ops done:=by
   intro i
   rw [ready_iff hs]
   unfold readyD
   rw [List.mem_filter]
   simp only [List.mem_range, Bool.and_eq_true, Bool.not_eq_true', List.contains_eq_mem, decide_eq_false_iff_not, List.all_eq_true, decide_eq_true_eq]
   constructor
   ·
    rintro ⟨h1,h2,h3⟩
    refine ⟨h1,fun hh=>h2 ((hl i h1).2 hh),fun e he=>?_⟩
    have hle:=h3 e he
    have helt : e < ops.size:=by
     rw [← hs]
     unfold isL at hle
     by_cases hlt : e < listed.size
     ·
      exact hlt
     ·
      simp [hlt] at hle
    exact (hl e helt).1 hle
   ·
    rintro ⟨h1,h2,h3⟩
    exact ⟨h1,fun hh=>h2 ((hl i h1).1 hh),fun e he=>(hl e (hd e (h3 e he))).2 (h3 e he)⟩
  have grow : ∀ i,i < ops.size → (listed.setIfInBounds i true).size = ops.size ∧ (∀ k,k < ops.size → (isL (listed.setIfInBounds i true) k ↔ k ∈ i :: done)) ∧ ∀ k ∈ i :: done,k < ops.size:=by
   intro i hi
   refine ⟨by simpa using hs,fun k hk=>?_,fun k hk=>?_⟩
   ·
    rw [isL_set (by rw [hs]; exact hi),List.mem_cons,hl k hk]
   ·
    rcases List.mem_cons.1 hk with rfl | hk
    ·
     exact hi
    ·
     exact hd k hk
  unfold runA at h
  split at h
  ·
   rename_i hr
   cases h
   refine wpAny_done ?_ ⟨rfl,hR _ _ s⟩ (n + 1)
   refine List.eq_nil_iff_forall_not_mem.2 fun i hi=>?_
   have:=(hready i).1 hi
   rw [hr] at this
   cases this
  ·
   rename_i i is hr
   split at h
   ·
    rename_i j d v hf
    obtain ⟨hj,o,ho,rfl,hap,hfl⟩:=tryF_some hf
    rw [← hr] at hj
    have hjr:=(hready j).2 hj
    have hjlt : j < ops.size:=((ready_iff hs j).1 hjr).1
    obtain ⟨I,κ,st⟩:=s
    obtain ⟨x,hy,hx⟩ : ∃ x,Yields P ops o x a ∧ RV I κ v x:=by
     rcases hfl with ⟨hg,hv⟩ | ⟨hg,rfl⟩
     ·
      obtain ⟨x,h1,h2⟩:=floatV_ok w hT st.env hv
      exact ⟨x,.inl ⟨guardOf_wanted st.env hg,h1⟩,h2⟩
     ·
      exact ⟨undef,.inr ⟨guardOf_wanted st.env hg,rfl⟩,undef_rv⟩
    refine wpAny_first ho hsel (fun c a w hq=>by cases hq.1) n listed a w (fun k ok hk hne hun hon=>?_) hjr hy ?_
    ·
     have hklt : k < ops.size:=(Array.getElem?_eq_some_iff.1 hk).1
     have:=List.all_eq_true.1 hap k (List.mem_range.2 hklt)
     rw [hk] at this
     simp only [Bool.or_eq_true,Nat.beq_eq,List.contains_eq_mem,decide_eq_true_eq] at this
     rcases this with ((h1 | h1) | h1) | h1
     ·
      exact absurd h1 hne
     ·
      have:=(hl k hklt).2 h1
      unfold isL at this
      have hk2 : k < listed.size:=by rw [hs]; exact hklt
      simp [hk2] at this hun
      rw [this] at hun
      cases hun
     ·
      exfalso
      simp only [opOns,hk,onsOf,List.mem_filterMap] at h1
      obtain ⟨e,he,h1⟩:=h1
      split at h1
      ·
       rename_i hb
       cases h1
       exact hon e (by simpa using he) hb rfl
      ·
       cases h1
     ·
      exact h1
    ·
     obtain ⟨g1,g2,g3⟩:=grow j hjlt
     exact ih _ _ _ _ _ _ h g1 g2 g3 ⟨I,κ,st.set hx o.dst⟩
   ·
    have one : ∀ j, j ∈ readyD ops done → ∀ e h2, stepN X pan ops j env H = some (e, h2) → runA X pan ops (n + 1) (j :: done) e h2 = some (env', H') → wpOp P ops (onN R) j (wpAny P .any ops (onN R) n (listed.setIfInBounds j true)) a w := by
     intro j hj e h2 hst hrun
     have hjlt : j < ops.size:=((ready_iff hs j).1 ((hready j).2 hj)).1
     unfold stepN at hst
     split at hst
     ·
      rename_i o ho
      split at hst
      ·
       rename_i e2 H2 hz
       cases hst
       obtain ⟨g1,g2,g3⟩:=grow j hjlt
       exact stepZ_wp hT hc hp s ho hz (fun _ a' w' s'=>ih _ _ _ _ _ _ hrun g1 g2 g3 s') (fun x hx=>by cases hx)
      ·
       cases hst
     ·
      cases hst
    split at h
    ·
     rename_i e h2 hst
     split at h
     ·
      rename_i r hrun
      split at h
      ·
       rename_i hall
       cases h
       refine ⟨fun hnil=>?_,fun j hj=>?_⟩
       ·
        exfalso
        have : i ∈ Region.ready .any ops listed:=(hready i).2 (by rw [hr]; simp)
        rw [hnil] at this
        cases this
       ·
        have hj':=(hready j).1 hj
        have hj2:=hj'
        rw [hr] at hj2
        rcases List.mem_cons.1 hj2 with rfl | hj2
        ·
         exact one _ hj' _ _ hst hrun
        ·
         have:=List.all_eq_true.1 hall j hj2
         split at this
         ·
          rename_i e' h' hst'
          split at this
          ·
           rename_i r' hrun'
           simp only [Bool.and_eq_true] at this
           have e1:=eqE_ok this.1
           have e2:=eqH_ok this.2
           refine one _ hj' _ _ hst' ?_
           rw [hrun']
           obtain ⟨r1,r2⟩:=r'
           simp only at e1 e2
           rw [← e1,← e2]
          ·
           cases this
         ·
          cases this
      ·
       cases h
     ·
      cases h
    ·
     cases h
theorem runA_region (hT : X.T.ok P) (hc : CallOK P X.call) (hp : PanOK P pan) (hm : P.follows .mixedOrders = true) (hns : noSel ops = true) (s : Stx DF A κ0 X.nl I0 w0 H env a w) (h : runA X pan ops (ops.size + 1) [] env H = some (env', H')) {Q : Exit → Act → World → Prop}
  (hQ : ∀ a' w', Stx DF A κ0 X.nl I0 w0 H' env' a' w' → Q .normal a' w') {id : Nat} : (Code.region id ops true).wp P Q a w := by
 have base : (Code.region id ops true).wp P (onN (Q .normal)) a w:=by
  refine wp_region_any hm ?_
  refine runA_wp hT hc hp hns hQ ops.size [] _ env H a _ h (by simp) (fun i hi=>?_) (fun i hi=>by cases hi) ?_
  ·
   constructor
   ·
    intro h
    unfold isL at h
    simp [hi] at h
   ·
    intro h; cases h
  ·
   obtain ⟨I,κ,st⟩:=s
   exact ⟨I,κ,st.later ⟨rfl,rfl,rfl,Nat.le_refl _,fun _ _=>rfl⟩⟩
 exact Code.wp_mono (fun e a w h=>by obtain ⟨rfl,h⟩:=h; exact h) base
end
end Go.AM
/- The abstract machine,part 50: code,and functions,as the kernel reckons them fast. -/
namespace Go.AM
noncomputable def runR (X:Px) (sz:FuncId → Sz) (pan:Oracle) (ops:Array Oper) (l:List Oper) : Env → Heap → Rz :=
 List.rec (fun env H=>some (.normal,env,H)) (fun o _ ih env H=>stepR X sz pan ops o env H ih) l
noncomputable def iterR (body:Env → Heap → Rz) (n:Nat) : Env → Heap → Rz :=
 Nat.rec (fun _ _=>none) (fun _ ih env H=>match body env H with
  | some (.normal, env', H') => ih env' H'
  | r=>r) n
noncomputable def execR (X:Px) (sz:FuncId → Sz) (pan:Oracle) (lf:Nat) (c:Code) : Env → Heap → Rz :=
 Code.rec (motive:=fun _=>Env → Heap → Rz)
  (skip:=fun env H=>some (.normal,env,H))
  (region:=fun _ ops draw env H=>match draw with
   | true=>match drawR X sz pan ops env H with
    | some r=>some r
    | none=>match endZ (runY X pan ops env H) with
     | some r=>some r
     | none=>match noSel ops with
      | true=>match runA X pan ops (ops.size + 1) [] env H with
       | some (e,h)=>some (.normal,e,h)
       | none=>none
      | false=>none
   | false=>runR X sz pan ops ops.toList env H)
  (seq:=fun _ _ ia ib env H=>match ia env H with
   | some (.normal, env', H') => ib env' H'
   | r=>r)
  (cond:=fun c _ _ it ie env H=>match opdF env c with
   | some (.im (.bool true))=>it env H
   | some (.im (.bool false))=>ie env H
   | _=>none)
  (block:=fun id _ ic env H=>match ic env H with
   | some (.exit i, env', H') => match Nat.beq i id with
    | true => some (.normal, env', H')
    | false => some (.exit i, env', H')
   | r=>r)
  (loop:=fun _ ic=>iterR ic lf)
  (rangeFunc:=fun _ _ _ _ _ _ _ _=>none)
  (exit:=fun id env H=>some (.exit id,env,H))
  (scope:=fun _ _ _ _=>none)
  (label:=fun _ _ _=>none)
  (goto:=fun _ _ _=>none)
  (ret:=fun env H=>some (.ret,env,H))
  (refuse:=fun _ _ _=>none) c
section
variable {P:Program} {I I' : Nat → Option (Array Value)} {κ κ' : Nat → Option Loc} {w w' : World} {H H' : Heap} {DF:List Deferred} {A:Nat → Prop} {κ0:Nat → Option Loc} {I0:Nat → Option (Array Value)} {w0:World} {env env' : Env} {a:Act} {ops:Array Oper} {Q:Exit → Act → World → Prop} {X:Px} {pan:Oracle} {nl:Nat} {sz:FuncId → Sz} {k:Env → Heap → Rz} {r:Ez × Env × Heap}
theorem runR_wp (hX:OnX P X sz pan) (hM:Meets DF A κ0 X.nl I0 w0 r.1 r.2.1 r.2.2 Q) : ∀ (os:List Oper) (l:List Nat) {H w env a},l.map (ops[·]?) = os.map some →
  Stx DF A κ0 X.nl I0 w0 H env a w → runR X sz pan ops os env H = some r → wpOps P ops Q l a w
 | [],l,H,w,env,a,hl,s,h=>by
  have : l = []:=by simpa using hl
  subst this
  cases h
  exact hM.1 rfl _ _ s
 | o :: os,l,H,w,env,a,hl,s,h=>by
  cases l with
  | nil=>simp at hl
  | cons i l =>
   simp only [List.map_cons,List.cons.injEq] at hl
   obtain ⟨hi,hl⟩:=hl
   have h : stepR X sz pan ops o env H (runR X sz pan ops os) = some r:=h
   rw [wpOps_cons]
   exact stepR_wp hX.plain hX.tab hX.ok hX.call hX.pan s hi h (fun env' H' a' w' hk s'=>runR_wp hX hM os l hl s' hk) (fun x env' H' hr I κ a' w' v s' hv=>by subst hr; exact hM.2 x rfl I κ a' w' v s' hv)
theorem iterR_wp {c:Code} {body:Env → Heap → Rz}
  (hbody:∀ {env H a w} {r:Ez × Env × Heap} {Q:Exit → Act → World → Prop},Stx DF A κ0 X.nl I0 w0 H env a w → body env H = some r → Meets DF A κ0 X.nl I0 w0 r.1 r.2.1 r.2.2 Q → c.wp P Q a w)
  (hM:Meets DF A κ0 X.nl I0 w0 r.1 r.2.1 r.2.2 Q) (n:Nat) (h:iterR body n env H = some r) (s:Stx DF A κ0 X.nl I0 w0 H env a w) : (Code.loop c).wp P Q a w:=by
 let Left : Act → World → Nat → Prop:=fun a w n=>∃ env H,Stx DF A κ0 X.nl I0 w0 H env a w ∧ iterR body n env H = some r
 have hex : ∃ n,Left a w n:=⟨n,env,H,s,h⟩
 refine wp_loop (fun a w=>∃ n,Left a w n) (fun a w=>leastOf (Left a w)) hex fun a w hI=>?_
 obtain ⟨⟨env1,H1,s1,h1⟩,hle⟩:=leastOf_spec hI
 generalize hN : leastOf (Left a w) = N at h1 hle
 cases N with
 | zero=>cases h1
 | succ N =>
  have h1 : (match body env1 H1 with
   | some (.normal, env', H') => iterR body N env' H'
   | r=>r) = some r:=h1
  split at h1
  ·
   rename_i e2 H2 hb
   refine hbody s1 hb ⟨fun _ a' w' s'=>?_,fun x hx=>by cases hx⟩
   have hx : ∃ n, Left a' w' n := ⟨N, e2, H2, s', h1⟩
   refine ⟨hx,?_⟩
   have := (leastOf_spec hx).2 N ⟨e2, H2, s', h1⟩
   omega
  ·
   rename_i hne
   refine hbody s1 h1 ⟨fun hp a' w' s'=>?_,fun x hx I κ a' w' v s' hr=>hM.2 x hx I κ a' w' v s' hr⟩
   have:=hM.1 hp a' w' s'
   obtain ⟨e,env2,H2⟩:=r
   cases e with
   | normal=>exact absurd h1 (hne _ _)
   | exit id=>exact this
   | ret=>exact this
   | pan y=>cases hp
theorem execR_wp (hX:OnX P X sz pan) {lf:Nat} : ∀ (c:Code) {env H a w} {r:Ez × Env × Heap} {Q:Exit → Act → World → Prop},codeOK c = true → Stx DF A κ0 X.nl I0 w0 H env a w →
  execR X sz pan lf c env H = some r → Meets DF A κ0 X.nl I0 w0 r.1 r.2.1 r.2.2 Q → c.wp P Q a w
 | .skip,env,H,a,w,r,Q,hk,s,h,hM=>by
  cases h
  exact wp_skip (hM.1 rfl _ _ s)
 | .exit id,env,H,a,w,r,Q,hk,s,h,hM=>by
  cases h
  exact wp_exit (hM.1 rfl _ _ s)
 | .ret,env,H,a,w,r,Q,hk,s,h,hM=>by
  cases h
  exact wp_ret (hM.1 rfl _ _ s)
 | .region id ops draw,env,H,a,w,r,Q,hk,s,h,hM=>by
  have hc : CallOK P X.call:=hX.call ▸ rets_ok hX.ok
  have hp : PanOK P pan:=hX.pan ▸ pansOf_ok hX.ok
  cases draw with
  | true =>
   have h : (match drawR X sz pan ops env H with
    | some r=>some r
    | none=>match endZ (runY X pan ops env H) with
     | some r=>some r
     | none=>match noSel ops with
      | true=>match runA X pan ops (ops.size + 1) [] env H with
       | some (e,h)=>some (.normal,e,h)
       | none=>none
      | false=>none) = some r:=h
   split at h
   ·
    rename_i r' hd
    cases h
    exact drawR_wp hX hM s hd
   ·
    split at h
    ·
     rename_i r' hy
     cases h
     obtain ⟨e, env', H'⟩ := r
     exact runY_wp hX.tab hc hp hX.mixed hM (by simpa [codeOK] using hk) s hy
    ·
     split at h
     ·
      rename_i hns
      split at h
      ·
       rename_i e h2 hr
       cases h
       exact runA_region hX.tab hc hp hX.mixed hns s hr fun a' w' s'=>hM.1 rfl _ _ s'
      ·
       cases h
     ·
      cases h
  | false=>exact wp_region (runR_wp hX hM ops.toList _ (range_map ops) s h)
 | .seq x y,env,H,a,w,r,Q,hk,s,h,hM=>by
  simp only [codeOK,Bool.and_eq_true] at hk
  have h : (match execR X sz pan lf x env H with
   | some (.normal, env', H') => execR X sz pan lf y env' H'
   | r=>r) = some r:=h
  split at h
  ·
   rename_i e2 H2 hx
   exact wp_seq (execR_wp hX x hk.1 s hx ⟨fun _ a' w' s'=>execR_wp hX y hk.2 s' h hM,fun x hx=>by cases hx⟩)
  ·
   rename_i hne
   refine wp_seq (execR_wp hX x hk.1 s h ⟨fun hq a' w' s'=>?_,fun x hx I κ a' w' v s' hr=>hM.2 x hx I κ a' w' v s' hr⟩)
   have:=hM.1 hq a' w' s'
   obtain ⟨e,env2,H2⟩:=r
   cases e with
   | normal=>exact absurd h (hne _ _)
   | exit id=>exact this
   | ret=>exact this
   | pan y=>cases hq
 | .cond c x y,env,H,a,w,r,Q,hk,s,h,hM=>by
  simp only [codeOK,Bool.and_eq_true] at hk
  have h : (match opdF env c with
   | some (.im (.bool true))=>execR X sz pan lf x env H
   | some (.im (.bool false))=>execR X sz pan lf y env H
   | _=>none) = some r:=h
  rw [opdF_eq] at h
  obtain ⟨I,κ,st⟩:=s
  split at h
  ·
   rename_i hc'
   have hr:=opd_rv st.env hc'
   generalize hv : a.eval c = v at hr
   cases hr with
   | im _ _ hr =>
   cases hr
   exact wp_cond_true hv (execR_wp hX x hk.1 ⟨_,_,st⟩ h hM)
  ·
   rename_i hc'
   have hr:=opd_rv st.env hc'
   generalize hv : a.eval c = v at hr
   cases hr with
   | im _ _ hr =>
   cases hr
   exact wp_cond_false hv (execR_wp hX y hk.2 ⟨_,_,st⟩ h hM)
  ·
   cases h
 | .block id c,env,H,a,w,r,Q,hk,s,h,hM=>by
  have hk' : codeOK c = true:=by simpa [codeOK] using hk
  have h : (match execR X sz pan lf c env H with
   | some (.exit i, env', H') => match Nat.beq i id with
    | true => some (.normal, env', H')
    | false => some (.exit i, env', H')
   | r=>r) = some r:=h
  split at h
  ·
   rename_i i e2 H2 hx
   split at h
   ·
    rename_i hi
    rw [Nat.beq_eq] at hi
    cases h
    exact wp_block (execR_wp hX c hk' s hx ⟨fun _ a' w' s'=>by
     show (if i = id then Q .normal a' w' else Q (.exit i) a' w')
     rw [if_pos hi]
     exact hM.1 rfl _ _ s', fun x hx => by cases hx⟩)
   ·
    rename_i hi
    have hi : ¬ i = id:=fun e=>by rw [← Nat.beq_eq] at e; rw [e] at hi; cases hi
    cases h
    exact wp_block (execR_wp hX c hk' s hx ⟨fun _ a' w' s'=>by
     show (if i = id then Q .normal a' w' else Q (.exit i) a' w')
     rw [if_neg hi]
     exact hM.1 rfl _ _ s', fun x hx => by cases hx⟩)
  ·
   rename_i hne
   refine wp_block (execR_wp hX c hk' s h ⟨fun hq a' w' s'=>?_,fun x hx I κ a' w' v s' hr=>hM.2 x hx I κ a' w' v s' hr⟩)
   have:=hM.1 hq a' w' s'
   obtain ⟨e,env2,H2⟩:=r
   cases e with
   | normal=>exact this
   | exit i=>exact absurd h (hne _ _ _)
   | ret=>exact this
   | pan y=>cases hq
 | .loop c,env,H,a,w,r,Q,hk,s,h,hM=>by
  have h : iterR (execR X sz pan lf c) lf env H = some r:=h
  exact iterR_wp (fun s' h' hM'=>execR_wp hX c (by simpa [codeOK] using hk) s' h' hM') hM lf h s
 | .rangeFunc ..,env,H,a,w,r,Q,hk,s,h,hM=>by cases h
 | .scope _,env,H,a,w,r,Q,hk,s,h,hM=>by cases h
 | .label _,env,H,a,w,r,Q,hk,s,h,hM=>by cases h
 | .goto _,env,H,a,w,r,Q,hk,s,h,hM=>by cases h
 | .refuse _,env,H,a,w,r,Q,hk,s,h,hM=>by cases h
end
noncomputable def finR (T:Tab) (nl:Nat) (rs:List ResultVar) (env:Env) (H:Heap) : Option (AV × Heap):=match resOf T env H rs with
 | some vs=>match Nat.beq nl 0 && imsF vs with
  | true=>some (oneOf vs,[])
  | false=>allF (pickH H (keepL nl H vs)) fun H'=>some (AV.ren (posn (keepL nl H vs)) (oneOf vs),H')
 | none=>none
theorem oneOf_ren {vs:List AV} {f:Nat → Option Nat} (h:AV.rens f vs = vs) : AV.ren f (oneOf vs) = oneOf vs:=by
 match vs,h with
 | [],_=>rfl
 | [x],h=>simpa [AV.rens,oneOf] using h
 | x :: y :: l,h =>
  show AV.ren f (.tup (x :: y :: l)) = _
  simp only [AV.ren,h]
  rfl
theorem finR_eq (T:Tab) (nl:Nat) (rs:List ResultVar) (env:Env) (H:Heap) : finR T nl rs env H = fin T nl rs env H:=by
 unfold finR fin
 cases resOf T env H rs with
 | none=>rfl
 | some vs =>
  simp only [allF_eq]
  split
  ·
   rename_i h
   simp only [Bool.and_eq_true,Nat.beq_eq] at h
   obtain ⟨h0,h1⟩:=h
   subst h0
   obtain ⟨hids,hren⟩:=imsF_ids h1
   have hk : keepL 0 H vs = []:=by
    unfold keepL
    rw [hids]
    cases H <;> rfl
   rw [hk,oneOf_ren (hren _)]
   rfl
  ·
   rfl
noncomputable def endR (T:Tab) (nl:Nat) (rs:List ResultVar) (r:Rz) : Option (Bool × AV × Heap):=match r with
 | some (.normal,env,H')=>match finR T nl rs env H' with
  | some (v,H2)=>some (false,v,H2)
  | none=>none
 | some (.ret,env,H')=>match finR T nl rs env H' with
  | some (v,H2)=>some (false,v,H2)
  | none=>none
 | some (.pan x,env,H')=>allF (pickH H' (keepL nl H' [x])) fun H2=>some (true,AV.ren (posn (keepL nl H' [x])) x,H2)
 | _=>none
noncomputable def callBodyR (T:Tab) (sz:FuncId → Sz) (i:Fi) (lf:Nat) (as:List AV) (H:Heap) : Option (Bool × AV × Heap) :=
 allF (entry i.fn.ntmps as) fun env=>endR T H.length i.fn.results.toList (execR (i.px T (retsOf sz) H.length) sz (pansOf sz) lf i.code env H)
section
variable {P:Program} {T:Tab}
theorem callBodyR_ok (hT:T.ok P) {sz:FuncId → Sz} (hs:∀ f,OkZ P f (sz f)) (hm:P.follows .mixedOrders = true) {f:FuncId} {i:Fi} (hi:i.ok P f) (hpl:∀ call nl,PlainX (i.px T call nl)) {lf:Nat} : OkZ P f (callBodyR T sz i lf):=by
 have hrun : ∀ (w:World) (vals:List Value),(callFunc f vals.toArray).run P w = .ok (.enter f vals.toArray) w:=fun w vals=>enter_run hi w vals
 have hX : ∀ nl,OnX P (i.px T (retsOf sz) nl) sz (pansOf sz):=fun nl=>⟨hpl _ _,hT,hs,rfl,rfl,hm⟩
 constructor
 ·
  intro as H res H' hsp I κ w vals hw hdom hr
  rw [hrun]
  show Calls P f vals.toArray w _
  refine calls_of_wp hi.get hi.body ?_
  have s0 : Stx [] (lentOf κ) κ (i.px T (retsOf sz) H.length).nl I w H (entry i.fn.ntmps as) { tmps:=vals.toArray ++ Array.replicate (i.fn.ntmps - vals.toArray.size) undef,defers:=[] } w:=⟨I,κ,enter_st (T:=T) (call:=retsOf sz) hw hdom hr⟩
  have close : ∀ env2 H2, fin T H.length i.fn.results.toList env2 H2 = some (res, H') → ∀ a' w', Stx [] (lentOf κ) κ (i.px T (retsOf sz) H.length).nl I w H2 env2 a' w' → a'.defers = [] ∧ ∃ v, (results i.fn a'.tmps).run P w' = .ok v w' ∧
    ∃ I' κ', St [] (lentOf κ) κ H.length I w I' κ' H' w' [res] ⟨#[v], []⟩ := by
   intro env2 H2 hf a' w' ⟨I2,κ2,s2⟩
   obtain ⟨v, hv, v', hve, I3, κ3, s3⟩ := endF_ok hT s2 (r := (false, res, H')) (by unfold endF; rw [show (i.px T (retsOf sz) H.length).nl = H.length from rfl, hf])
   cases hve
   exact ⟨s2.nodef,v,hv,I3,κ3,s3⟩
  dsimp only at hsp
  split at hsp
  ·
   rename_i r H2 hb
   simp at hsp
   obtain ⟨rfl,rfl⟩:=hsp
   unfold callBodyR endR at hb
   simp only [allF_eq,finR_eq] at hb
   split at hb
   ·
    rename_i env2 H3 hx
    split at hb
    ·
     rename_i r H4 hf
     simp at hb
     obtain ⟨rfl,rfl⟩:=hb
     exact execR_wp (hX _) i.code hi.draws s0 hx ⟨fun _ a' w' s' => close _ _ hf a' w' s', fun x hx => by cases hx⟩
    ·
     simp at hb
   ·
    rename_i env2 H3 hx
    split at hb
    ·
     rename_i r H4 hf
     simp at hb
     obtain ⟨rfl,rfl⟩:=hb
     exact execR_wp (hX _) i.code hi.draws s0 hx ⟨fun _ a' w' s' => close _ _ hf a' w' s', fun x hx => by cases hx⟩
    ·
     simp at hb
   ·
    simp at hb
   ·
    simp at hb
  ·
   simp at hsp
 ·
  intro as H x H' hb I κ w vals hw hdom hr
  refine ⟨hrun w vals,?_⟩
  refine calls_of_wp hi.get hi.body ?_
  have s0 : Stx [] (lentOf κ) κ (i.px T (retsOf sz) H.length).nl I w H (entry i.fn.ntmps as) { tmps:=vals.toArray ++ Array.replicate (i.fn.ntmps - vals.toArray.size) undef,defers:=[] } w:=⟨I,κ,enter_st (T:=T) (call:=retsOf sz) hw hdom hr⟩
  unfold callBodyR endR at hb
  simp only [allF_eq,finR_eq] at hb
  split at hb
  ·
   split at hb <;> simp at hb
  ·
   split at hb <;> simp at hb
  ·
   rename_i y env2 H3 hx
   simp at hb
   obtain ⟨rfl,rfl⟩:=hb
   refine execR_wp (hX _) i.code hi.draws s0 hx ⟨fun hq=>(by cases hq),fun x hx I2 κ2 a' w' v s2 hvr=>?_⟩
   cases hx
   refine ⟨s2.nodef,v,rfl,I2,pickK κ2 (keepL H.length H3 [y]),?_⟩
   have s3 : St [] (lentOf κ) κ H.length I w I2 κ2 H3 w' [y] ⟨#[v],[]⟩:=⟨s2.wr,.cons _ _ _ _ hvr .nil,s2.mv,s2.own,s2.dom,rfl,s2.lent,s2.len⟩
   have:=s3.pick (keepL_nodup H.length H3 [y]) (keepL_pre H.length H3 [y])
   simpa [AV.rens] using this
  ·
   simp at hb
end
end Go.AM
/- The abstract machine,part 59: functions that defer,fast. -/
namespace Go.AM
noncomputable def goR (T:Tab) (X:Px) (sz:FuncId → Sz) (pan:Oracle) (dfr:Dfr) (rs:List ResultVar) (lf:Nat) : Code → Env → Heap → Option (Bool × AV × Heap)
 | .seq a b,env,H=>match defOf a with
  | some (ops,t)=>match runZ X pan ops (ops.toList.take (ops.size - 1)) env H with
   | some (none,env1,H1)=>match opd env1 (.tmp t) with
    | some fv=>match fnOf fv with
     | some (g,x,c)=>match execR { X with nl:=H1.length } sz pan lf b env1 H1 with
      | some (.normal,env2,H2)=>if hasAll H2 (AV.idss (x ++ c)) then match dfr g none (x ++ c) H2 with
        | some H3=>endF T X.nl rs (AV.rens (liveF H3) env2) H3
        | none=>none
       else none
      | some (.ret,env2,H2)=>if hasAll H2 (AV.idss (x ++ c)) then match dfr g none (x ++ c) H2 with
        | some H3=>endF T X.nl rs (AV.rens (liveF H3) env2) H3
        | none=>none
       else none
      | some (.pan (.im d),env2,H2)=>if hasAll H2 (AV.idss (x ++ c)) then match dfr g (some d) (x ++ c) H2 with
        | some H3=>endF T X.nl rs (AV.rens (liveF H3) env2) H3
        | none=>none
       else none
      | _=>none
     | none=>none
    | none=>none
   | _=>none
  | none=>match execR X sz pan lf a env H with
   | some (.normal, env', H') => goR T X sz pan dfr rs lf b env' H'
   | some (.ret, env', H') => endF T X.nl rs env' H'
   | some (.pan x, env', H') => endP X.nl x H'
   | _=>none
 | _,_,_=>none
noncomputable def recR (T:Tab) (sz:FuncId → Sz) (i:Fi) (lf:Nat) (m:Option D) (as:List AV) (H:Heap) : Option Heap :=
 match i.code with
 | .seq (.region _ ops false) b=>match ops.toList with
  | [⟨some d,.call { callee:=.builtin .recover,args:=_,argTypes:=_ },_,_,_,none⟩,⟨some d2,.assign (.tmp t),_,_,_,none⟩] =>
   if t == d && Nat.blt d i.fn.ntmps && codeOK b then
    match execR (i.px T (retsOf sz) H.length) sz (pansOf sz) lf b (((entry i.fn.ntmps as).set d (.im (m.getD .nili))).set d2 (.im (m.getD .nili))) H with
    | some (.normal,env,H')=>match fin T H.length i.fn.results.toList env H' with
     | some (_,H2)=>some H2
     | none=>none
    | some (.ret,env,H')=>match fin T H.length i.fn.results.toList env H' with
     | some (_,H2)=>some H2
     | none=>none
    | _=>none
   else none
  | _=>none
 | _=>none
noncomputable def bodyR (T:Tab) (sz:FuncId → Sz) (dfr:Dfr) (i:Fi) (lf:Nat) (as:List AV) (H:Heap) : Option (Bool × AV × Heap) :=
 goR T (i.px T (retsOf sz) H.length) sz (pansOf sz) dfr i.fn.results.toList lf i.code (entry i.fn.ntmps as) H
section
variable {P:Program} {I I' : Nat → Option (Array Value)} {κ κ' : Nat → Option Loc} {w w' : World} {H H' : Heap} {DF:List Deferred} {A:Nat → Prop} {κ0:Nat → Option Loc} {I0:Nat → Option (Array Value)} {w0:World} {env env' : Env} {a:Act} {ops:Array Oper} {Q:Exit → Act → World → Prop} {X:Px} {pan:Oracle} {nl:Nat} {T:Tab} {sz:FuncId → Sz}
theorem goR_wp (hT:T.ok P) (hX:X.T = T) (hO:OnX P X sz pan) {dfr:Dfr} (hd:DfrOK P dfr) {fn:Func} {lf:Nat} : ∀ (c:Code) {env H a w} {r:Bool × AV × Heap},codeOK c = true → Stx [] A κ0 X.nl I0 w0 H env a w →
  goR T X sz pan dfr fn.results.toList lf c env H = some r → c.wp P (bodyPostD P fn (EndsAs A κ0 X.nl I0 w0 r)) a w
 | .seq x y,env,H,a,w,r,hk,s,h=>by
  simp only [codeOK,Bool.and_eq_true] at hk
  have hXT : X.T.ok P:=hX ▸ hT
  have hc : CallOK P X.call:=hO.call ▸ rets_ok hO.ok
  have hp : PanOK P pan:=hO.pan ▸ pansOf_ok hO.ok
  have hOn : ∀ n,OnX P { X with nl:=n } sz pan:=fun n=>⟨⟨hO.plain.frz,hO.plain.clm,hO.plain.cast⟩,hO.tab,hO.ok,hO.call,hO.pan,hO.mixed⟩
  unfold goR at h
  split at h
  ·
   rename_i ops t hdef
   split at h
   ·
    rename_i env1 H1 hr
    split at h
    ·
     rename_i fv hfv
     split at h
     ·
      rename_i g xa c hg
      have key : ∀ {e:Ez} {env2:Env} {H2:Heap} {m:Option D},execR { X with nl:=H1.length } sz pan lf y env1 H1 = some (e,env2,H2) →
        ((m = none ∧ (e = .normal ∨ e = .ret)) ∨ ∃ d,m = some d ∧ e = .pan (.im d)) → (if hasAll H2 (AV.idss (xa ++ c)) then match dfr g m (xa ++ c) H2 with
        | some H3=>endF T X.nl fn.results.toList (AV.rens (liveF H3) env2) H3
        | none=>none
       else none) = some r → (Code.seq x y).wp P (bodyPostD P fn (EndsAs A κ0 X.nl I0 w0 r)) a w:=by
       intro e env2 H2 m hx hem h
       split at h
       ·
        rename_i hall
        split at h
        ·
         rename_i H3 hdf
         -- the region that defers
         obtain ⟨id,hxr,hop⟩ : ∃ id,x = .region id ops false ∧ ∃ ts ty ps af,ops[ops.size - 1]? = some ⟨none,.defer { callee:=.value (.tmp t),args:=⟨[]⟩,argTypes:=ts },ty,ps,af,none⟩:=by
          unfold defOf at hdef
          split at hdef
          ·
           split at hdef
           ·
            rename_i ho
            simp at hdef
            obtain ⟨rfl,rfl⟩:=hdef
            exact ⟨_,rfl,_,_,_,_,ho⟩
           ·
            simp at hdef
          ·
           simp at hdef
         obtain ⟨ts,ty,ps,af,ho⟩:=hop
         subst hxr
         have hsz : ops.size - 1 < ops.size:=(Array.getElem?_eq_some_iff.1 ho).1
         have hrange : List.range ops.size = List.range (ops.size - 1) ++ [ops.size - 1]:=by
          have : ops.size = (ops.size - 1) + 1:=by omega
          conv=>lhs; rw [this]
          rw [List.range_succ]
         refine wp_seq (wp_region ?_)
         rw [hrange]
         refine runK_wp hXT hc hp (fun a1 w1 s1=>?_) (ops.toList.take (ops.size - 1)) (List.range (ops.size - 1)) ?_ s hr
         ·
          obtain ⟨I1,κ1,s1⟩:=s1
          rw [wpOps_cons]
          unfold wpOp
          rw [ho]
          simp only
          have hw : Region.wanted ⟨none,.defer { callee:=.value (.tmp t),args:=⟨[]⟩,argTypes:=ts },ty,ps,af,none⟩ (yielded ops a1.tmps) = true:=by simp [Region.wanted]
          rw [hw]
          refine .inl ?_
          -- the closure
          have hfr:=opd_rv s1.env hfv
          obtain ⟨va,vc,hev,hra,hrc⟩ : ∃ va vc,a1.eval (.tmp t) = .func (.func g) (List.toArray va) (List.toArray vc) ∧ RVs I1 κ1 xa va ∧ RVs I1 κ1 c vc:=by
           unfold fnOf at hg
           split at hg
           ·
            rename_i g' a' c'
            simp at hg
            obtain ⟨rfl,rfl,rfl⟩:=hg
            generalize a1.eval (.tmp t) = v at hfr
            cases hfr with
            | im _ _ hfr =>
            cases hfr with
            | fn _ _ _ va vc h1 h2=>exact ⟨va,vc,rfl,h1.toRVs,h2.toRVs⟩
           ·
            rename_i g' a' c'
            simp at hg
            obtain ⟨rfl,rfl,rfl⟩:=hg
            generalize a1.eval (.tmp t) = v at hfr
            cases hfr with
            | fn _ _ _ va vc h1 h2=>exact ⟨va,vc,rfl,h1,h2⟩
           ·
            simp at hg
          let dd : Deferred:={ target:=.fn (.func g) (List.toArray vc),args:=List.toArray va ++ #[] }
          have hrun : (execOp a1.eval ⟨none,.defer { callee:=.value (.tmp t),args:=⟨[]⟩,argTypes:=ts },ty,ps,af,none⟩).run P w1 = .ok (.defer dd) w1:=by
           have e0 : Array.map a1.eval ({ toList:=[] } : Array Operand) = #[]:=by simp
           simp only [execOp,resolve,hev,Deferred.ofValue,e0]
           rfl
          unfold Oper.wp
          rw [hrun,Oper.upon_defer]
          show y.wp P _ { a1 with defers:=dd :: a1.defers } w1
          -- the rest,as one who begins
          have s1b : St [dd] (lentOf κ1) κ1 H1.length I1 w1 I1 κ1 H1 w1 env1 { a1 with defers:=dd :: a1.defers }:=by
           have:=s1.begin
           exact ⟨this.wr,this.env,this.mv,this.own,this.dom,by rw [s1.nodef],this.lent,this.len⟩
          -- behind it the closure is called
          have after : ∀ (I2:Nat → Option (Array Value)) (κ2:Nat → Option Loc) (a2:Act) (w2:World) (mv:Option Value),St [dd] (lentOf κ1) κ1 H1.length I1 w1 I2 κ2 H2 w2 env2 a2 → RM I2 m mv →
            Leaves P fn a2.tmps (EndsAs A κ0 X.nl I0 w0 r) a2.defers (modeOf mv) w2:=by
           intro I2 κ2 a2 w2 mv s2 hmv
           rw [s2.nodef]
           have hcl : RVs I2 κ2 (xa ++ c) (va ++ vc):=RVs.on s2.mv.im (hra.append hrc) (hasAll_ok s1b s2 hall)
           obtain ⟨hent,hcall⟩:=hd g m (xa ++ c) H2 H3 hdf I2 κ2 w2 (va ++ vc) mv s2.wr s2.dom hcl hmv
           refine leaves_cons (f:=g) (args:=(va ++ vc).toArray) (by cases mv <;> simp [modeOf]) ?_ ?_
           ·
            have e1 : List.toArray va ++ #[] ++ List.toArray vc = (va ++ vc).toArray:=by simp
            show (callFunc g (List.toArray va ++ #[] ++ List.toArray vc)).run P w2 = _
            rw [e1]
            exact hent
           ·
            refine hcall.mono fun e u' w3 ⟨⟨v0,he⟩,hu,I3,κ3,s3⟩=>?_
            subst he hu
            have s2':=s1.back (s2:St [dd] (lentOf κ1) κ1 H1.length I1 w1 I2 κ2 H2 w2 env2 a2)
            have hse : settle (modeTo mv) = .returning:=by cases mv <;> simp [modeTo,settle]
            show Leaves P fn a2.tmps _ [] (settle (modeTo mv)) w3
            rw [hse]
            have s3e : St [] (lentOf κ2) κ2 H2.length I2 w2 I3 κ3 H3 w3 (AV.rens (liveF H3) env2) { a2 with defers:=[] } :=
             ⟨s3.wr,RVs.ren s3.mv.im (liveF_ok s2 s3) s2.env,s3.mv,s3.own,s3.dom,rfl,s3.lent,s3.len⟩
            have s4:=s2'.back s3e
            obtain ⟨v,hv,hE⟩:=endF_ok hT s4 h
            exact ⟨v,hv,hE⟩
          refine execR_wp (X:={ X with nl:=H1.length }) (hOn _) y hk.2 ⟨I1,κ1,s1b⟩ hx ⟨fun hpn a2 w2 ⟨I2,κ2,s2⟩=>?_,fun x' hx' I2 κ2 a2 w2 v s2 hvr=>?_⟩
          ·
           rcases hem with ⟨rfl,h1 | h1⟩ | ⟨d,_,h1⟩
           ·
            subst h1; exact after I2 κ2 a2 w2 none s2 trivial
           ·
            subst h1; exact after I2 κ2 a2 w2 none s2 trivial
           ·
            subst h1; cases hpn
          ·
           rcases hem with ⟨_,h1 | h1⟩ | ⟨d,rfl,h1⟩
           ·
            subst h1; cases hx'
           ·
            subst h1; cases hx'
           ·
            subst h1
            cases hx'
            cases hvr with
            | im _ _ hvr=>exact after I2 κ2 a2 w2 (some v) s2 hvr
         ·
          apply List.ext_getElem?
          intro k
          simp only [List.getElem?_map,List.getElem?_take,Array.getElem?_toList]
          by_cases hk : k < ops.size - 1
          ·
           simp [hk,show k < ops.size by omega]
          ·
           simp [hk]
        ·
         simp at h
       ·
        simp at h
      split at h
      ·
       rename_i env2 H2 hx; exact key hx (.inl ⟨rfl,.inl rfl⟩) h
      ·
       rename_i env2 H2 hx; exact key hx (.inl ⟨rfl,.inr rfl⟩) h
      ·
       rename_i d env2 H2 hx; exact key hx (.inr ⟨d,rfl,rfl⟩) h
      ·
       simp at h
     ·
      simp at h
    ·
     simp at h
   ·
    simp at h
  ·
   split at h
   ·
    rename_i e2 H2 hx
    exact wp_seq (execR_wp hO x hk.1 s hx ⟨fun _ a' w' s'=>goR_wp hT hX hO hd y hk.2 s' h,fun x hx=>by cases hx⟩)
   ·
    rename_i e2 H2 hx
    refine wp_seq (execR_wp hO x hk.1 s hx ⟨fun _ a' w' ⟨I2,κ2,s'⟩=>?_,fun x hx=>by cases hx⟩)
    show Leaves P fn a'.tmps _ a'.defers .returning w'
    rw [s'.nodef]
    obtain ⟨v,hv,hE⟩:=endF_ok hT s' h
    exact ⟨v,hv,hE⟩
   ·
    rename_i x' e2 H2 hx
    refine wp_seq (execR_wp hO x hk.1 s hx ⟨fun hq=>(by cases hq),fun x'' hx' I2 κ2 a' w' v s' hvr=>?_⟩)
    cases hx'
    show Leaves P fn a'.tmps _ a'.defers (.panicking [{ v:=v,recovered:=false }]) w'
    rw [s'.nodef]
    unfold endP at h
    simp at h
    subst h
    refine ⟨v,rfl,I2,pickK κ2 (keepL X.nl H2 [x']),?_⟩
    have s3 : St [] A κ0 X.nl I0 w0 I2 κ2 H2 w' [x'] ⟨#[v],[]⟩:=⟨s'.wr,.cons _ _ _ _ hvr .nil,s'.mv,s'.own,s'.dom,rfl,s'.lent,s'.len⟩
    have:=s3.pick (keepL_nodup X.nl H2 [x']) (keepL_pre X.nl H2 [x'])
    simpa [AV.rens] using this
   ·
    simp at h
 | .skip,env,H,a,w,r,hk,s,h=>by simp [goR] at h
 | .exit _,env,H,a,w,r,hk,s,h=>by simp [goR] at h
 | .ret,env,H,a,w,r,hk,s,h=>by simp [goR] at h
 | .region ..,env,H,a,w,r,hk,s,h=>by simp [goR] at h
 | .cond ..,env,H,a,w,r,hk,s,h=>by simp [goR] at h
 | .block ..,env,H,a,w,r,hk,s,h=>by simp [goR] at h
 | .loop _,env,H,a,w,r,hk,s,h=>by simp [goR] at h
 | .rangeFunc ..,env,H,a,w,r,hk,s,h=>by simp [goR] at h
 | .scope _,env,H,a,w,r,hk,s,h=>by simp [goR] at h
 | .label _,env,H,a,w,r,hk,s,h=>by simp [goR] at h
 | .goto _,env,H,a,w,r,hk,s,h=>by simp [goR] at h
 | .refuse _,env,H,a,w,r,hk,s,h=>by simp [goR] at h
end
section
variable {P:Program} {T:Tab}
theorem bodyR_ok (hT:T.ok P) {sz:FuncId → Sz} {dfr:Dfr} (hs:∀ f,OkZ P f (sz f)) (hd:DfrOK P dfr) (hm:P.follows .mixedOrders = true) {f:FuncId} {i:Fi} (hi:i.ok P f) (hpl:∀ call nl,PlainX (i.px T call nl)) {lf:Nat} : OkZ P f (bodyR T sz dfr i lf):=by
 have key : ∀ (as:List AV) (H:Heap) (r:Bool × AV × Heap),bodyR T sz dfr i lf as H = some r →
   ∀ (I:Nat → Option (Array Value)) (κ:Nat → Option Loc) (w:World) (vals:List Value),WR I κ H w → (∀ i blk,H[i]? = some (some blk) → ∃ l,κ i = some l) → RVs I κ as vals →
    Calls P f vals.toArray w (EndsAs (lentOf κ) κ H.length I w r):=by
  intro as H r h I κ w vals hw hdom hr
  exact calls_of_wp_defers hi.get hi.body (goR_wp (X:=i.px T (retsOf sz) H.length) hT rfl ⟨hpl _ _,hT,hs,rfl,rfl,hm⟩ hd i.code hi.draws ⟨I,κ,enter_st hw hdom hr⟩ h)
 constructor
 ·
  intro as H res H' hsp I κ w vals hw hdom hr
  dsimp only at hsp
  split at hsp
  ·
   rename_i r H2 hb
   simp at hsp
   obtain ⟨rfl,rfl⟩:=hsp
   rw [enter_run hi]
   show Calls P f vals.toArray w _
   refine (key as H _ hb I κ w vals hw hdom hr).mono fun e w' ⟨v,he,hs⟩=>?_
   simp at he
   subst he
   exact hs
  ·
   simp at hsp
 ·
  intro as H x H' hb I κ w vals hw hdom hr
  refine ⟨enter_run hi w vals,(key as H _ hb I κ w vals hw hdom hr).mono fun e w' ⟨v,he,hs⟩=>⟨v,?_,hs⟩⟩
  simpa using he
theorem recR_ok (hT:T.ok P) {sz:FuncId → Sz} (hs:∀ f,OkZ P f (sz f)) (hm:P.follows .mixedOrders = true) {lf:Nat} {fi:FuncId → Option Fi} (hfi:∀ f i,fi f = some i → i.ok P f) (hpl:∀ f i,fi f = some i → ∀ call nl,PlainX (i.px T call nl)) :
  DfrOK P fun g m as H=>match fi g with
   | some i=>recR T sz i lf m as H
   | none=>none:=by
 intro g m as H H' h I κ w vals mv hw hdom hr hmv
 dsimp only at h
 cases hi0 : fi g with
 | none=>rw [hi0] at h; cases h
 | some i =>
  rw [hi0] at h
  have hi:=hfi g i hi0
  refine ⟨enter_run hi w vals,?_⟩
  dsimp only at h
  unfold recR at h
  split at h
  ·
   rename_i id ops b hcode
   split at h
   ·
    rename_i d args ts ty ps af d2 t ty2 ps2 af2 hops
    split at h
    ·
     rename_i hcond
     simp only [Bool.and_eq_true,beq_iff_eq,Nat.blt_eq] at hcond
     obtain ⟨⟨htd,hdlt⟩,hkb⟩:=hcond
     subst htd
     have hbody : i.fn.body = some (.seq (.region id ops false) b):=by rw [hi.body,hcode]
     refine callsD_of_wpS hi.get hbody fun c₀ cs hu=>?_
     refine wpS_seq (wpS_region ?_)
     have hsz : ops.size = 2:=by rw [← Array.length_toList,hops]; rfl
     have g0 : ops[0]? = some ⟨some t,.call { callee:=.builtin .recover,args:=args,argTypes:=ts },ty,ps,af,none⟩:=by rw [← Array.getElem?_toList,hops]; rfl
     have g1 : ops[1]? = some ⟨some d2,.assign (.tmp t),ty2,ps2,af2,none⟩:=by rw [← Array.getElem?_toList,hops]; rfl
     have s0:=enter_st (T:=T) (call:=retsOf sz) (i:=i) hw hdom hr
     -- what it recovers
     obtain ⟨x,hx⟩ : ∃ x : Value,x = match mv with
      | some v=>v
      | none=>.nilIface:=⟨_,rfl⟩
     have hxr : RD I (m.getD .nili) x:=by
      cases m with
      | none=>cases mv with
       | none=>subst hx; exact .nili
       | some v=>exact hmv.elim
      | some d=>cases mv with
       | none=>exact hmv.elim
       | some v=>subst hx; exact hmv
     obtain ⟨cs', hcsd⟩ : ∃ cs' : List Frame, cs' = match (generalizing := false) mv with
      | some v=>{ c₀ with mode:=.panicking [{ v:=v,recovered:=true }] } :: cs
      | none=>c₀ :: cs:=⟨_,rfl⟩
     have hcs : cs' = { c₀ with mode:=modeTo mv } :: cs:=by
      rw [hcsd]
      cases mv with
      | some v=>rfl
      | none =>
       show c₀ :: cs = _
       have : c₀.mode = .returning:=hu
       rw [show modeTo none = c₀.mode from this.symm]
     let a0 : Act:={ tmps:=vals.toArray ++ Array.replicate (i.fn.ntmps - vals.toArray.size) undef,defers:=[] }
     have hrange : List.range ops.size = [0,1]:=by rw [hsz]; rfl
     rw [hrange]
     have w0' : ∀ (tmps:Array Value),Region.wanted ⟨some t,.call { callee:=.builtin .recover,args:=args,argTypes:=ts },ty,ps,af,none⟩ (yielded ops tmps) = true:=fun _=>by simp [Region.wanted]
     have w1' : ∀ (tmps:Array Value),Region.wanted ⟨some d2,.assign (.tmp t),ty2,ps2,af2,none⟩ (yielded ops tmps) = true:=fun _=>by simp [Region.wanted]
     -- behind both
     have s1:=(s0.set (.im _ _ hxr) (some t)).set (.im _ _ hxr) (some d2)
     have hev : (a0.put (some t) x).eval (.tmp t) = x:=by
      have hlt : t < a0.tmps.size:=by
       show t < (vals.toArray ++ Array.replicate (i.fn.ntmps - vals.toArray.size) undef).size
       rw [Array.size_append,Array.size_replicate]
       exact Nat.lt_of_lt_of_le hdlt (by omega)
      simp [Act.eval,Act.put,hlt]
     have close : ∀ {e:Ez} {env2:Env} {H2:Heap},execR (i.px T (retsOf sz) H.length) sz (pansOf sz) lf b (((entry i.fn.ntmps as).set t (.im (m.getD .nili))).set d2 (.im (m.getD .nili))) H = some (e,env2,H2) → (e = .normal ∨ e = .ret) →
       (match fin T H.length i.fn.results.toList env2 H2 with
       | some (_,H3)=>some H3
       | none=>none) = some H' →
       b.wp P (fun e a' w' => bodyPostS P i.fn c₀ cs (fun e u' w' => (∃ v, e = .returned v) ∧ u' = modeTo mv ∧ ∃ I' κ', St [] (lentOf κ) κ H.length I w I' κ' H' w' [] ⟨#[], []⟩) e a' cs' w') ((a0.put (some t) x).put (some d2) x) w := by
      intro e env2 H2 hex he hf
      refine execR_wp (X:=i.px T (retsOf sz) H.length) ⟨hpl g i hi0 _ _,hT,hs,rfl,rfl,hm⟩ b hkb ⟨I,κ,s1⟩ hex ⟨fun hpn a2 w2 ⟨I2,κ2,s2⟩=>?_,fun x' hx'=>by rcases he with h | h <;> (subst h; cases hx')⟩
      have hE : a2.defers = [] ∧ ∃ u', cs' = { c₀ with mode := u' } :: cs ∧ ∃ v, (results i.fn a2.tmps).run P w2 = .ok v w2 ∧ ((∃ v', Ending.returned v = .returned v') ∧ u' = modeTo mv ∧ ∃ I' κ', St [] (lentOf κ) κ H.length I w I' κ' H' w2 [] ⟨#[], []⟩) := by
       refine ⟨s2.nodef,modeTo mv,hcs,?_⟩
       split at hf
       ·
        rename_i res H3 hfin
        simp at hf
        subst hf
        obtain ⟨v, hv, v', hve, I3, κ3, s3⟩ := endF_ok hT s2 (r := (false, res, H3)) (by unfold endF; rw [show (i.px T (retsOf sz) H.length).nl = H.length from rfl, hfin])
        exact ⟨v,hv,⟨v,rfl⟩,rfl,I3,κ3,s3.wr,.nil,s3.mv,s3.own,s3.dom,rfl,s3.lent,s3.len⟩
       ·
        simp at hf
      rcases he with h | h
      ·
       subst h; exact hE
      ·
       subst h; exact hE
     have goal : b.wpS P (bodyPostS P i.fn c₀ cs (fun e u' w' => (∃ v, e = .returned v) ∧ u' = modeTo mv ∧ ∃ I' κ', St [] (lentOf κ) κ H.length I w I' κ' H' w' [] ⟨#[], []⟩)) ((a0.put (some t) x).put (some d2) x) cs' w := by
      split at h
      ·
       rename_i env2 H2 hex
       exact wpS_of_wp (close hex (.inl rfl) h)
      ·
       rename_i env2 H2 hex
       exact wpS_of_wp (close hex (.inr rfl) h)
      ·
       simp at h
     -- the two operations
     have hrec : (execOp a0.eval ⟨some t,.call { callee:=.builtin .recover,args:=args,argTypes:=ts },ty,ps,af,none⟩).run P w = .ok .recover w:=recover_run rfl w
     have second : wpOpsS P ops (Exit.thenS (b.wpS P (bodyPostS P i.fn c₀ cs (fun e u' w' => (∃ v, e = .returned v) ∧ u' = modeTo mv ∧ ∃ I' κ', St [] (lentOf κ) κ H.length I w I' κ' H' w' [] ⟨#[], []⟩))) (bodyPostS P i.fn c₀ cs (fun e u' w' => (∃ v, e = .returned v) ∧ u' = modeTo mv ∧ ∃ I' κ', St [] (lentOf κ) κ H.length I w I' κ' H' w' [] ⟨#[], []⟩))) [1] (a0.put (some t) x) cs' w := by
      unfold wpOpsS
      rw [g1]
      simp only [w1', if_true]
      have hrun : (execOp (a0.put (some t) x).eval ⟨some d2,.assign (.tmp t),ty2,ps2,af2,none⟩).run P w = .ok (.value x) w:=by
       show Result.ok (Next.value ((a0.put (some t) x).eval (.tmp t))) w = _
       rw [hev]
      rw [hrun]
      exact goal
     unfold wpOpsS
     rw [g0]
     simp only [w0', if_true]
     rw [hrec]
     cases mv with
     | none =>
      have : recoverD (c₀ :: cs) = none:=by
       have hu' : c₀.mode = .returning:=hu
       simp [recoverD,hu']
      rw [this]
      subst hcsd hx
      exact second
     | some v =>
      have : recoverD (c₀ :: cs) = some (v,{ c₀ with mode:=.panicking [{ v:=v,recovered:=true }] } :: cs):=by
       have hu' : c₀.mode = .panicking [{ v:=v,recovered:=false }]:=hu
       simp [recoverD,hu']
      rw [this]
      subst hcsd hx
      exact second
    ·
     simp at h
   ·
    simp at h
  ·
   simp at h
end
end Go.AM
/- The abstract machine,part 51: a program's run,calls deep,as the kernel reckons it fast. -/
namespace Go.AM
structure BookR (P:Program) (T:Tab) where
 fi : FuncId → Option Fi
 known : FuncId → Option Sz
structure BookR.ok {P:Program} {T:Tab} (B:BookR P T) : Prop where
 fi : ∀ f i,B.fi f = some i → i.ok P f
 plain : ∀ f i,B.fi f = some i → ∀ call nl,PlainX (i.px T call nl)
 known : ∀ f sp,B.known f = some sp → OkZ P f sp
noncomputable def runG {P:Program} {T:Tab} (B:BookR P T) (lf:Nat) (n:Nat) : FuncId → Sz :=
 Nat.rec (fun _ _ _=>none) (fun _ ih f as H=>match B.known f with
  | some sp=>sp as H
  | none=>match B.fi f with
   | some i=>match hasDef i.code with
    | true=>bodyR T ih (fun g m as H=>match B.fi g with
     | some i=>recR T ih i lf m as H
     | none=>none) i lf as H
    | false=>callBodyR T ih i lf as H
   | none=>none) n
theorem runG_ok {P:Program} {T:Tab} (hT:T.ok P) (hm:P.follows .mixedOrders = true) {B:BookR P T} (hB:B.ok) {lf:Nat} : ∀ (n:Nat) (f:FuncId),OkZ P f (runG B lf n f)
 | 0,f=>⟨fun as H res H' h=>by simp [runG] at h,fun as H x H' h=>by simp [runG] at h⟩
 | n + 1,f=>by
  have ih:=runG_ok hT hm hB (lf:=lf) n
  have hc : CallOK P (retsOf (runG B lf n)):=fun f=>(ih f).ret
  have hp : PanOK P (pansOf (runG B lf n)):=pansOf_ok ih
  have e0 : runG B lf (n + 1) f = fun as H=>match B.known f with
   | some sp=>sp as H
   | none=>match B.fi f with
    | some i=>match hasDef i.code with
     | true=>bodyR T (runG B lf n) (fun g m as H=>match B.fi g with
      | some i=>recR T (runG B lf n) i lf m as H
      | none=>none) i lf as H
     | false=>callBodyR T (runG B lf n) i lf as H
    | none=>none:=rfl
  cases hk : B.known f with
  | some sp =>
   have e : runG B lf (n + 1) f = sp:=by
    rw [e0]; funext as H; simp only [hk]
   rw [e]
   exact hB.known f sp hk
  | none =>
   cases hi : B.fi f with
   | none =>
    have e : runG B lf (n + 1) f = fun _ _=>none:=by
     rw [e0]; funext as H; simp only [hk,hi]
    rw [e]
    exact ⟨fun as H res H' h=>by simp at h,fun as H x H' h=>by simp at h⟩
   | some i =>
    cases hdf : hasDef i.code with
    | true =>
     have e : runG B lf (n + 1) f = bodyR T (runG B lf n) (fun g m as H=>match B.fi g with
      | some i=>recR T (runG B lf n) i lf m as H
      | none=>none) i lf:=by
      rw [e0]; funext as H; simp only [hk,hi,hdf]
     rw [e]
     exact bodyR_ok hT ih (recR_ok hT ih hm hB.fi hB.plain) hm (hB.fi f i hi) (hB.plain f i hi)
    | false =>
     have e : runG B lf (n + 1) f = callBodyR T (runG B lf n) i lf:=by
      rw [e0]; funext as H; simp only [hk,hi,hdf]
     rw [e]
     exact callBodyR_ok hT ih hm (hB.fi f i hi) (hB.plain f i hi)
def polR (own:FuncId → Bool) (f:FuncId) : Pol:={ lend:=fun _=>true,raw:=fun _=>true,own:=fun _=>own f }
def bookR (P:Program) (T:Tab) (own:FuncId → Bool) (l:List (Nat × Sz)) : BookR P T:=⟨fiP P T (polR own),lookL l⟩
theorem bookR_ok {P : Program} {T : Tab} {own : FuncId → Bool} (hn : ∀ (f : FuncId) (fn : Func), P.funcs[f]? = some fn → (fn.name == "runtime.NumGoroutine") = false) {l : List (Nat × Sz)} (hl : ∀ p ∈ l, OkZ P p.1 p.2) : (bookR P T own l).ok := by
 refine ⟨fun _ _ h=>fiP_ok hn h,fun f i h call nl=>?_,fun f sp h=>hl _ (lookL_mem h)⟩
 have h : fiP P T (polR own) f = some i:=h
 unfold fiP at h
 split at h
 ·
  split at h
  ·
   split at h
   ·
    simp at h
    subst h
    exact ⟨fun _=>rfl,fun _=>rfl,fun _=>rfl⟩
   ·
    simp at h
  ·
   simp at h
 ·
  simp at h
end Go.AM
/- The abstract machine,part 61: runs with tables: what was run already is looked up. -/
namespace Go.AM
theorem OkZ.orElse {P:Program} {f:FuncId} {a b:Sz} (ha:OkZ P f a) (hb:OkZ P f b) : OkZ P f fun as H=>match a as H with
  | some r=>some r
  | none=>b as H:=by
 constructor
 ·
  intro as H res H' h
  dsimp only at h
  cases hq : a as H with
  | some r =>
   rw [hq] at h
   exact ha.ret as H res H' (by dsimp only; rw [hq]; exact h)
  | none =>
   rw [hq] at h
   exact hb.ret as H res H' h
 ·
  intro as H x H' h
  have h : (match a as H with
   | some r=>some r
   | none=>b as H) = some (true,x,H'):=h
  cases hq : a as H with
  | some r =>
   rw [hq] at h
   cases h
   exact ha.pan as H x H' hq
  | none =>
   rw [hq] at h
   exact hb.pan as H x H' h
abbrev Tabl:=List (List AV × Heap × (Bool × AV × Heap))
noncomputable def eqKey (x y:AV) : Bool:=match x with
 | .im (.str a)=>match y with
  | .im (.str b)=>strF a b
  | _=>false
 | _=>eqW x y
theorem eqKey_ok {x y:AV} (h:eqKey x y = true) : x = y:=by
 unfold eqKey at h
 split at h
 ·
  split at h
  ·
   rw [strF_eq,beq_iff_eq] at h
   rw [h]
  ·
   cases h
 ·
  exact eqW_ok h
noncomputable def eqKeys (xs:List AV) : List AV → Bool:=List.rec (fun ys=>match ys with
 | []=>true
 | _ :: _=>false) (fun x _ ih ys=>match ys with
 | []=>false
 | y :: ys=>match eqKey x y with
  | true=>ih ys
  | false=>false) xs
theorem eqKeys_ok : ∀ {xs ys:List AV},eqKeys xs ys = true → xs = ys
 | [],[],_=>rfl
 | [],_ :: _,h=>by cases h
 | _ :: _,[],h=>by cases h
 | x :: xs,y :: ys,h=>by
  have h : (match eqKey x y with
   | true=>eqKeys xs ys
   | false=>false) = true:=h
  split at h
  ·
   rename_i hk
   rw [eqKey_ok hk,eqKeys_ok h]
  ·
   cases h
noncomputable def tabSz (l:Tabl) : Sz:=List.rec (fun _ _=>none) (fun e _ ih as H=>match eqKeys e.1 as with
 | true=>match eqH e.2.1 H with
  | true=>some e.2.2
  | false=>ih as H
 | false=>ih as H) l
theorem tabSz_some {sp:Sz} : ∀ {l:Tabl},(∀ e ∈ l,sp e.1 e.2.1 = some e.2.2) → ∀ {as:List AV} {H:Heap} {r:Bool × AV × Heap},tabSz l as H = some r → sp as H = some r
 | [],_,_,_,_,h=>by cases h
 | e :: l,hl,as,H,r,h=>by
  have h : (match eqKeys e.1 as with
   | true=>match eqH e.2.1 H with
    | true=>some e.2.2
    | false=>tabSz l as H
   | false=>tabSz l as H) = some r:=h
  have next : tabSz l as H = some r → sp as H = some r:=tabSz_some fun e he=>hl e (List.mem_cons_of_mem _ he)
  split at h
  ·
   rename_i hk
   split at h
   ·
    rename_i hh
    rw [← eqKeys_ok hk,← eqH_ok hh,hl e (by simp)]
    exact h
   ·
    exact next h
  ·
   exact next h
theorem tab_ok {P:Program} {f:FuncId} {sp:Sz} (h:OkZ P f sp) {l:Tabl} (hl:∀ e ∈ l,sp e.1 e.2.1 = some e.2.2) : OkZ P f (tabSz l) :=
 h.of fun _ _ _ hs=>tabSz_some hl hs
noncomputable def runK {P:Program} {T:Tab} (B:BookR P T) (lf:Nat) (n:Nat) : FuncId → Sz :=
 Nat.rec (fun _ _ _=>none) (fun _ ih f as H=>match (match B.known f with
   | some sp=>sp as H
   | none=>none) with
  | some r=>some r
  | none=>match B.fi f with
   | some i=>match hasDef i.code with
    | true=>bodyR T ih (fun g m as H=>match B.fi g with
     | some i=>recR T ih i lf m as H
     | none=>none) i lf as H
    | false=>callBodyR T ih i lf as H
   | none=>none) n
theorem none_ok {P:Program} {f:FuncId} : OkZ P f fun _ _=>none:=⟨fun as H res H' h=>by simp at h,fun as H x H' h=>by simp at h⟩
theorem runK_ok {P:Program} {T:Tab} (hT:T.ok P) (hm:P.follows .mixedOrders = true) {B:BookR P T} (hB:B.ok) {lf:Nat} : ∀ (n:Nat) (f:FuncId),OkZ P f (runK B lf n f)
 | 0,f=>none_ok
 | n + 1,f=>by
  have ih:=runK_ok hT hm hB (lf:=lf) n
  have a : OkZ P f fun as H=>match B.known f with
    | some sp=>sp as H
    | none=>none:=by
   cases hk : B.known f with
   | some sp=>exact hB.known f sp hk
   | none=>exact none_ok
  have b : OkZ P f fun as H=>match B.fi f with
    | some i=>match hasDef i.code with
     | true=>bodyR T (runK B lf n) (fun g m as H=>match B.fi g with
      | some i=>recR T (runK B lf n) i lf m as H
      | none=>none) i lf as H
     | false=>callBodyR T (runK B lf n) i lf as H
    | none=>none:=by
   cases hi : B.fi f with
   | none=>exact none_ok
   | some i =>
    cases hdf : hasDef i.code with
    | true =>
     simp only [hdf]
     exact bodyR_ok hT ih (recR_ok hT ih hm hB.fi hB.plain) hm (hB.fi f i hi) (hB.plain f i hi)
    | false =>
     simp only [hdf]
     exact callBodyR_ok hT ih hm (hB.fi f i hi) (hB.plain f i hi)
  exact a.orElse b
end Go.AM
/- The abstract machine,part 58: contracts of functions with no text. -/
namespace Go.AM
noncomputable def idxF (c:Nat) (s:List UInt8) : Nat → Int:=List.rec (fun _=>.negSucc 0) (fun x _ ih k=>match Nat.beq x.toNat c with
 | true=>.ofNat k
 | false=>ih (Nat.succ k)) s
theorem find_range (q:Nat → Bool) : ∀ n k,(List.range' k (n + 1)).find? q = if q k then some k else (List.range' (k + 1) n).find? q:=by
 intro n k
 rw [List.range'_succ,List.find?_cons]
 cases q k <;> rfl
theorem idxF_eq (c:Nat) (hc:c < 256) (s:List UInt8) : ∀ (t:List UInt8) (k:Nat),s.drop k = t → idxF c t k = match (List.range' k t.length).find? fun i=>(ByteArray.mk s.toArray)[i]! == c.toUInt8 with
  | some i=>(i:Int)
  | none=>-1
 | [],k,h=>rfl
 | x :: t,k,h=>by
  have hk : k < s.length:=by
   rcases Nat.lt_or_ge k s.length with h' | h'
   ·
    exact h'
   ·
    rw [List.drop_of_length_le h'] at h; cases h
  have hx : (ByteArray.mk s.toArray)[k]! = x:=by
   have e1 : (ByteArray.mk s.toArray)[k]! = s[k]:=getElem!_pos (ByteArray.mk s.toArray) k hk
   rw [e1]
   have:=List.drop_eq_getElem_cons hk
   rw [h] at this
   exact (List.cons.inj this).1.symm
  have ht : s.drop (k + 1) = t:=by
   have:=List.drop_eq_getElem_cons hk
   rw [h] at this
   exact (List.cons.inj this).2.symm
  have ih:=idxF_eq c hc s t (k + 1) ht
  rw [List.length_cons,find_range,hx]
  show (match Nat.beq x.toNat c with
   | true=>Int.ofNat k
   | false=>idxF c t (k + 1)) = _
  cases hb : Nat.beq x.toNat c with
  | true =>
   rw [Nat.beq_eq] at hb
   have : x = c.toUInt8:=by
    apply UInt8.toNat_inj.1
    rw [hb]
    simp [Nat.toUInt8]
    omega
   simp [this]
  | false =>
   have : ¬ x = c.toUInt8:=fun e=>by
    have : x.toNat = c:=by rw [e]; simp [Nat.toUInt8]; omega
    rw [this,show Nat.beq c c = true by rw [Nat.beq_eq]] at hb
    cases hb
   simp only [beq_iff_eq,this,if_false]
   exact ih
noncomputable def idxSp : Sp:=fun as H=>match as with
 | [.im (.str s),.im (.int .u8 (.ofNat c))]=>match H with
  | []=>match Nat.blt c 256 with
   | true=>some (.im (.int .i64 (idxF c s 0)),[])
   | false=>none
  | _=>none
 | _=>none
theorem St.same {I:Nat → Option (Array Value)} {κ:Nat → Option Loc} {w:World} {H:Heap} (hw:WR I κ H w) (hdom:∀ i blk,H[i]? = some (some blk) → ∃ l,κ i = some l) {x:AV} {v:Value} (hr:RV I κ x v) : St [] (lentOf κ) κ H.length I w I κ H w [x] ⟨#[v],[]⟩ :=
 ⟨hw,.cons _ _ _ _ hr .nil,.refl _,fun i b base cap sz nn h=>.inl ⟨i,base,cap,sz,nn,h⟩,hdom,rfl,fun _ _ _ h=>h,Nat.le_refl _⟩
theorem idx_ok {P : Program} {f : FuncId} {fn : Func} (hf : P.funcs[f]? = some fn) (hname : (fn.name == "runtime.NumGoroutine") = false) (hb : fn.body.isNone = true) (hn : Extern.findNext fn = none) (he : Extern.find fn = some Extern.BytealgIndexByte.indexByte) : Ok1 P f idxSp := by
 intro as H res H' hsp I κ w vals hw hdom hr
 unfold idxSp at hsp
 split at hsp
 ·
  rename_i s c
  split at hsp
  ·
   split at hsp
   ·
    rename_i hc
    rw [Nat.blt_eq] at hc
    simp at hsp
    obtain ⟨rfl,rfl⟩:=hsp
    cases hr with
    | cons _ _ v0 _ h1 h2 =>
    cases h2 with
    | cons _ _ v1 _ h2 h3 =>
    cases h3
    cases h1 with | im _ _ h1 =>
    cases h1
    cases h2 with | im _ _ h2 =>
    cases h2
    rw [run_callFunc_extern hf hname hb hn he]
    have e : (Extern.BytealgIndexByte.indexByte (List.toArray [.string ⟨s.toArray⟩,.int .u8 (.ofNat c)])).run P w = .ok (.int .i64 (firstIdx ⟨s.toArray⟩ (Int.ofNat c).toNat.toUInt8)) w:=run_indexByte_string _ _ w
    rw [e]
    have e2 : firstIdx ⟨s.toArray⟩ (Int.ofNat c).toNat.toUInt8 = idxF c s 0:=by
     rw [idxF_eq c hc s s 0 rfl]
     unfold firstIdx
     rw [show (ByteArray.mk s.toArray).size = s.length from rfl,List.range_eq_range']
     rfl
    rw [e2]
    exact ⟨I,κ,St.same hw hdom (.im _ _ (.int _ _))⟩
   ·
    cases hsp
  ·
   cases hsp
 ·
  cases hsp
end Go.AM
/- The abstract machine,part 62: a closed run,as the program's call. -/
namespace Go.AM
end Go.AM