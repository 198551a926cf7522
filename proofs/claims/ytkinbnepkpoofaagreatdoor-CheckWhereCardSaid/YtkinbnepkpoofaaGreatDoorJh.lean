/- Texts joined into one: S7 S8 S3 S4 S9. -/
import Derived.Test.YtkinbnepkpoofaaGreatDoorJf
import Derived.Test.YtkinbnepkpoofaaGreatDoorJc
/- The abstract machine,part S7: steps that may panic,with what comes next handed in. -/
set_option linter.unusedVariables false
set_option linter.unusedSimpArgs false
namespace Go.AM.S
open Go.AM
def Apart (call pan:Oracle) : Prop:=∀ g as H r,call g as H = some r → pan g as H = none
def imAll : List AV → Bool
 | []=>true
 | .im _ :: l=>imAll l
 | _ :: _=>false
def mapPut (kd:IntKind) (n:Int) (d:D) : List D → Option (List D)
 | .int .i64 (.ofNat c) :: ds=>match findD kd n ds with
  | some (some (j,_))=>match ds[j]? with
   | some (.agg [_,_,b])=>some (.int .i64 (.ofNat c) :: ds.set j (.agg [.int kd n,d,b]))
   | _=>none
  | some none=>some (.int .i64 (.ofNat (c + 1)) :: (ds ++ [.agg [.int kd n,d,.int .i64 (.ofNat c)]]))
  | none=>none
 | _=>none
section
variable {β:Type} {r:β}
def evUZ (T:Tab) (env:Env) (H:Heap) (t:TypeId) (m k x:Operand) (K:Heap → Option β) : Option β:=match T.ty t with
 | some ⟨.map kt et,_,_,_⟩=>match T.ty kt,opd env m,opd env k,opd env x with
  | some ⟨.int kd,_,_,_⟩,some (.mp i),some (.im (.int kd' n)),some (.im d)=>match decide (kd = kd') with
   | true=>grdZ (d.plain = true) (match H[i]? with
    | some (some (.o l))=>optZ (mapPut kd n d l) fun l'=>K (H.set i (some (.o l')))
    | _=>none)
   | false=>none
  | _,_,_,_=>none
 | _=>none
theorem evUZ_spec {T : Tab} {env : Env} {H : Heap} {o : Oper} {t : TypeId} {m k x : Operand} (ho : o.op = .mapUpdate t m k x) {K : Heap → Option β} (h : evUZ T env H t m k x K = some r) : ∃ H', evU T env H o = some H' ∧ K H' = some r := by
 unfold evUZ at h
 unfold evU
 rw [ho]
 simp only
 split at h
 ·
  rename_i kt et a1 a2 a3 hty
  simp only [hty]
  split at h
  ·
   rename_i kd b1 b2 b3 i kd' n d hk hm hkk hx
   simp only [hk,hm,hkk,hx]
   split at h
   ·
    rename_i hkd
    have hkd : kd = kd':=by simpa using hkd
    obtain ⟨hp,h⟩:=grdZ_spec h
    rw [if_pos ⟨hkd,hp⟩]
    split at h
    ·
     rename_i l hl
     obtain ⟨l', hl', h⟩ := optZ_spec h
     unfold mapPut at hl'
     split at hl'
     ·
      rename_i c ds
      simp only [hl]
      split at hl'
      ·
       rename_i j q hf
       simp only [hf]
       split at hl'
       ·
        rename_i y1 y2 b hb
        cases hl'
        simp only [hb]
        exact ⟨_,rfl,h⟩
       ·
        cases hl'
      ·
       rename_i hf
       cases hl'
       simp only [hf]
       exact ⟨_,rfl,h⟩
      ·
       cases hl'
     ·
      cases hl'
    ·
     cases h
   ·
    cases h
  ·
   cases h
 ·
  cases h
def mapGet (kd:IntKind) (n:Int) (z:D) : List D → Option (D × Bool)
 | _ :: ds=>match findD kd n ds with
  | some (some (_,v))=>some (v,true)
  | some none=>some (z,false)
  | none=>none
 | []=>none
def evLkZ (T:Tab) (env:Env) (H:Heap) (t:TypeId) (m k:Operand) (ok:Bool) (K:AV → Option β) : Option β:=match T.ty t with
 | some ⟨.map kt et,_,_,_⟩=>match T.ty kt,T.ty et,opd env m,opd env k with
  | some ⟨.int kd,_,_,_⟩,some ie,some (.mp i),some (.im (.int kd' n))=>match decide (kd = kd') with
   | true=>match H[i]? with
    | some (some (.o l))=>match constD ie.zero with
     | some z=>optZ (mapGet kd n z l) fun p=>K (match ok with
      | true=>.tup [.im p.1,.im (.bool p.2)]
      | false=>.im p.1)
     | none=>none
    | _=>none
   | false=>none
  | _,_,_,_=>none
 | _=>none
theorem evLkZ_spec {T:Tab} {env:Env} {H:Heap} {id:Nat} {o:Oper} {t:TypeId} {m k:Operand} {ok:Bool} (ho:o.op = .lookup t m k ok) {K:AV → Option β} (h:evLkZ T env H t m k ok K = some r) : ∃ v,evX T env H id o = some (v,none) ∧ K v = some r:=by
 unfold evLkZ at h
 unfold evX
 rw [ho]
 simp only
 split at h
 ·
  rename_i kt et a1 a2 a3 hty
  simp only [hty]
  split at h
  ·
   rename_i kd b1 b2 b3 ie i kd' n hk he hm hkk
   simp only [hk,he,hm,hkk]
   split at h
   ·
    rename_i hkd
    have hkd : kd = kd':=by simpa using hkd
    rw [if_pos hkd]
    split at h
    ·
     rename_i l hl
     split at h
     ·
      rename_i z hz
      obtain ⟨p,hp,h⟩:=optZ_spec h
      unfold mapGet at hp
      split at hp
      ·
       rename_i c ds
       simp only [hl,hz]
       split at hp
       ·
        rename_i j v hf
        cases hp
        simp only [hf]
        cases ok with
        | true=>exact ⟨_,rfl,h⟩
        | false=>exact ⟨_,rfl,h⟩
       ·
        rename_i hf
        cases hp
        simp only [hf]
        cases ok with
        | true=>exact ⟨_,rfl,h⟩
        | false=>exact ⟨_,rfl,h⟩
       ·
        cases hp
      ·
       cases hp
     ·
      cases h
    ·
     cases h
   ·
    cases h
  ·
   cases h
 ·
  cases h
def plainDst (X:Px) (o:Oper) : Bool:=match o.dst with
 | some d=>match X.frz d with
  | true=>false
  | false=>(X.clm d).isEmpty
 | none=>true
noncomputable def stepQZ (X:Px) (sg:Sgs β) (ops:Array Oper) (env:Env) (H:Heap) (o:Oper) (K:Option AV → Env → Heap → Option β) : Option β:=match o.op with
 | .panic x=>guardZ ops env o (fun env=>match opd env x with
   | some (.im (.ifc t d))=>K (some (.im (.ifc t d))) env H
   | some (.ifc t y)=>K (some (.ifc t y)) env H
   | _=>none) (fun _=>none)
 | .mapUpdate t m k x=>match o.dst with
  | none=>guardZ ops env o (fun env=>evUZ X.T env H t m k x fun H'=>allF H' fun h=>K none env h) (fun _=>none)
  | some _=>none
 | .lookup t m k ok=>match plainDst X o with
  | true=>guardZ ops env o (fun env=>evLkZ X.T env H t m k ok fun v=>castVZ (X.cast o) v fun v=>putZ env o.dst v fun e=>K none e H) (fun _=>none)
  | false=>none
 | .buildSlice _ _ _=>match opds env o.op.operands.toList with
  | some vs=>match imAll vs with
   | true=>stepGZ X sg ops env H o fun e h=>K none e h
   | false=>match stepQ X (fun _ _ _=>none) ops env H o with
    | some (x,e,h)=>allF e fun e=>allF h fun h=>K x e h
    | none=>none
  | none=>none
 | .call { callee:=.value _,.. }=>match frzOf X o with
  | true=>none
  | false=>stepGZ X sg ops env H o fun e h=>K none e h
 | _=>stepGZ X sg ops env H o fun e h=>K none e h
theorem callOf_no {env:Env} {o:Oper} (h:isCall o = false) : callOf env o = none:=by
 unfold callOf
 split
 ·
  rename_i f args ats ho; exact absurd ho (notCall_op h _ _ _)
 ·
  rfl
theorem panL_no {X:Cx} {pan:Oracle} {ops:Array Oper} {env:Env} {H:Heap} {o:Oper} (h:isCall o = false) : panL X pan ops env H o = none:=by
 unfold panL
 simp only [callOf_no h]
 split <;> rfl
theorem panF_no {X:Px} {pan:Oracle} {ops:Array Oper} {env:Env} {H:Heap} {o:Oper} (h:isCall o = false) : panF X pan ops env H o = none:=by
 unfold panF
 split
 ·
  rfl
 ·
  exact panL_no h
theorem stepQ_of {X : Px} {pan : Oracle} {ops : Array Oper} {env env' : Env} {H H' : Heap} {o : Oper} (h1 : isPan o = false) (h2 : panF X pan ops env H o = none) (h : stepG X ops env H o = some (env', H')) : stepQ X pan ops env H o = some (none, env', H') := by
 unfold stepQ
 simp only [h1,h2,h]
theorem stepG_panL {X : Px} {pan : Oracle} (hD : Apart X.call pan) {ops : Array Oper} {env env' : Env} {H H' : Heap} {o : Oper} (h : stepG X ops env H o = some (env', H')) : panF X pan ops env H o = none := by
 unfold panF
 split
 ·
  rfl
 rename_i hf
 cases hcl : isCall o with
 | false=>exact panL_no hcl
 | true =>
  have h : stepM X.toCx X.nl ops env H o = none → False:=by
   intro hn
   unfold stepG at h
   unfold frzOf at hf
   split at h
   ·
    rename_i d hd
    rw [hd] at hf
    have hf : X.frz d = false:=hf
    have hp : pre X env H o d = (env,H):=by unfold pre; rw [hf]; rfl
    rw [hp] at h
    simp only [hn] at h
    cases h
   ·
    rw [hn] at h; cases h
  unfold panL
  split
  ·
   rename_i hg
   split
   ·
    rename_i g as hco
    split
    ·
     rename_i hl
     cases hq : callL pan env H g as with
     | none=>rfl
     | some q =>
      exfalso
      apply h
      unfold stepM
      simp only [hg,hcl,hco,hl]
      have : callL X.call env H g as = none:=by
       unfold callL at hq ⊢
       cases hc : X.call g (AV.rens (posn (reach H 400 (AV.idss as) [])) as) (pickH H (reach H 400 (AV.idss as) [])) with
       | none=>rfl
       | some q2 =>
        have:=hD _ _ _ _ hc
        simp only [this] at hq
        cases hq
      simp only [this]
    ·
     rfl
   ·
    rfl
  ·
   rfl
theorem stepQ_pan {X:Px} {pan pan' : Oracle} {ops:Array Oper} {env:Env} {H:Heap} {o:Oper} (h1:isPan o = false) (h2:isCall o = false) : stepQ X pan ops env H o = stepQ X pan' ops env H o:=by
 unfold stepQ
 simp only [h1,panF_no h2]
theorem stepG_map {X:Px} {ops:Array Oper} {env:Env} {H:Heap} {o:Oper} {t:TypeId} {m k x:Operand} (ho:o.op = .mapUpdate t m k x) (hd:o.dst = none) (hg:guardOf ops env o = some true) : stepG X ops env H o = none:=by
 have hcl : isCall o = false:=by unfold isCall; rw [ho]
 have ep : evP { X.toCx with call:=fun _ _ _=>none } env H H.length o = none:=by
  unfold evP evQ
  have e1 : ev1 X.T X.own env o = none:=by unfold ev1; rw [ho]
  have e0 : ev0 X.T env H o = none:=by unfold ev0; rw [ho]
  have ex : evX X.T env H H.length o = none:=by unfold evX; rw [ho]
  simp only [e1,e0,evC_no hcl,ex]
 have es : evS X.T env H o = none:=by unfold evS; rw [ho]
 have ea : evA X.T X.nl env H o = none:=by unfold evA; rw [ho]
 unfold stepG
 rw [hd]
 simp only
 unfold stepM
 simp only [hg,hcl]
 unfold stepO
 simp only [hg,evL_no hcl,ep,es,ea]
theorem stepG_lookup {X:Px} {ops:Array Oper} {env:Env} {H:Heap} {o:Oper} {t:TypeId} {m k:Operand} {ok:Bool} {v v' : AV} (ho:o.op = .lookup t m k ok) (hd:plainDst X o = true) (hg:guardOf ops env o = some true)
  (hx : evX X.T env H H.length o = some (v, none)) (hc : castV (X.cast o) v = some v') : stepG X ops env H o = some (putE env o.dst v', H) := by
 have hcl : isCall o = false:=by unfold isCall; rw [ho]
 have ep : evP { X.toCx with call := fun _ _ _ => none } env H H.length o = some (v', none) := by
  unfold evP evQ
  have e1 : ev1 X.T X.own env o = none:=by unfold ev1; rw [ho]
  have e0 : ev0 X.T env H o = none:=by unfold ev0; rw [ho]
  simp only [e1,e0,evC_no hcl,hx,hc]
 have hM : stepM X.toCx X.nl ops env H o = some (putE env o.dst v', H) := by
  unfold stepM
  simp only [hg,hcl]
  unfold stepO
  simp only [hg,evL_no hcl,ep]
 unfold stepG
 unfold plainDst at hd
 split
 ·
  rename_i d hdd
  rw [hdd] at hd hM
  simp only at hd
  split at hd
  ·
   cases hd
  ·
   rename_i hf
   have hp : pre X env H o d = (env,H):=by unfold pre; rw [hf]; rfl
   rw [hp]
   simp only [hM]
   have : X.clm d = []:=by simpa using hd
   rw [this,hdd]
   simp [claims]
 ·
  rename_i hdd
  rw [hM]
theorem stepQZ_spec {X:Px} {sg:Sgs β} (hI:sg.Ok X.call r) {pan:Oracle} (hD:Apart X.call pan) {ops:Array Oper} {env:Env} {H:Heap} {o:Oper} {K:Option AV → Env → Heap → Option β} (h:stepQZ X sg ops env H o K = some r) :
  ∃ x env' H', stepQ X pan ops env H o = some (x, env', H') ∧ K x env' H' = some r := by
 unfold stepQZ at h
 split at h
 ·
  rename_i x ho
  have h1 : isPan o = true:=by unfold isPan; rw [ho]
  rcases guardZ_spec h with ⟨hg,h⟩ | ⟨hg,h⟩
  ·
   unfold stepQ
   simp only [h1]
   unfold panO
   simp only [hg,ho]
   split at h
   ·
    rename_i t d hx
    simp only [hx]
    exact ⟨_,_,_,rfl,h⟩
   ·
    rename_i t y hx
    simp only [hx]
    exact ⟨_,_,_,rfl,h⟩
   ·
    cases h
  ·
   cases h
 ·
  rename_i t m k x ho
  split at h
  ·
   rename_i hd
   rcases guardZ_spec h with ⟨hg,h⟩ | ⟨hg,h⟩
   ·
    obtain ⟨H', hu, h⟩ := evUZ_spec ho h
    rw [allF_eq] at h
    have h1 : isPan o = false:=by unfold isPan; rw [ho]
    have hcl : isCall o = false:=by unfold isCall; rw [ho]
    unfold stepQ
    simp only [h1,panF_no hcl,stepG_map ho hd hg]
    unfold evB
    simp only [ho,hg,hu,hd]
    exact ⟨_,_,_,rfl,h⟩
   ·
    cases h
  ·
   cases h
 ·
  rename_i t m k ok ho
  have h1 : isPan o = false:=by unfold isPan; rw [ho]
  have hcl : isCall o = false:=by unfold isCall; rw [ho]
  split at h
  ·
   rename_i hd
   rcases guardZ_spec h with ⟨hg,h⟩ | ⟨hg,h⟩
   ·
    obtain ⟨v,hx,h⟩:=evLkZ_spec (id:=H.length) ho h
    obtain ⟨v', hc, h⟩ := castVZ_spec h
    exact ⟨_,_,_,stepQ_of h1 (panF_no hcl) (stepG_lookup ho hd hg hx hc),putZ_spec (k:=fun e=>K none e H) h⟩
   ·
    cases h
  ·
   cases h
 ·
  rename_i t n kv ho
  have h1 : isPan o = false:=by unfold isPan; rw [ho]
  have hcl : isCall o = false:=by unfold isCall; rw [ho]
  split at h
  ·
   split at h
   ·
    obtain ⟨e1,H1,hs,h⟩:=stepGZ_spec hI h
    exact ⟨_,_,_,stepQ_of h1 (panF_no hcl) hs,h⟩
   ·
    split at h
    ·
     rename_i x e1 H1 hs
     simp only [allF_eq] at h
     rw [stepQ_pan (pan':=fun _ _ _=>none) h1 hcl]
     exact ⟨_,_,_,hs,h⟩
    ·
     cases h
  ·
   cases h
 ·
  rename_i f args ats ho
  have h1 : isPan o = false:=by unfold isPan; rw [ho]
  split at h
  ·
   cases h
  ·
   rename_i hf
   obtain ⟨e1,H1,hs,h⟩:=stepGZ_spec hI h
   exact ⟨_,_,_,stepQ_of h1 (stepG_panL hD hs) hs,h⟩
 ·
  rename_i n1 n2 n2b n3 n4
  have h1 : isPan o = false:=by
   unfold isPan
   split
   ·
    rename_i x hx; exact absurd hx (n1 _)
   ·
    rfl
  have hcl : isCall o = false:=by
   unfold isCall
   split
   ·
    rename_i f args ats hx; exact absurd hx (n4 _ _ _)
   ·
    rfl
  obtain ⟨e1,H1,hs,h⟩:=stepGZ_spec hI h
  exact ⟨_,_,_,stepQ_of h1 (panF_no hcl) hs,h⟩
noncomputable def eqA (v' v : AV) : Bool:=@decide (v' = v) (Classical.propDecidable _)
theorem eqA_ok {v' v : AV} (h:eqA v' v = true) : v' = v:=@of_decide_eq_true (v' = v) (Classical.propDecidable _) h
@[simp] theorem eqA_refl (v:AV) : eqA v v = true:=@decide_eq_true (v = v) (Classical.propDecidable _) rfl
noncomputable def eqVZ (v' v : AV) (K:Option β) : Option β:=match v' with
 | .ptr a b c=>match v with
  | .ptr a' b' c'=>match Nat.beq a a' && Nat.beq b b' && Nat.beq c c' with
   | true=>K
   | false=>none
  | _=>none
 | .tup []=>match v with
  | .tup []=>K
  | _=>none
 | .ref a b c=>match v with
  | .ref a' b' c'=>match Nat.beq a a' with
   | true=>grdZ (b = b') (grdZ (c = c') K)
   | false=>none
  | _=>none
 | .im (.int k n)=>match v with
  | .im (.int k' n')=>match decide (k = k') with
   | true=>grdZ (n = n') K
   | false=>none
  | _=>none
 | .im (.bool b)=>match v with
  | .im (.bool b')=>cond (b == b') K none
  | _=>none
 | .im (.str s)=>match v with
  | .im (.str s')=>cond (s == s') K none
  | _=>none
 | _=>cond (eqA v' v) K none
theorem beqZ {α:Type} [BEq α] [LawfulBEq α] {a b:α} {K:Option β} (h:cond (a == b) K none = some r) : a = b ∧ K = some r:=by
 cases hs : (a == b) with
 | true=>rw [hs] at h; exact ⟨eq_of_beq hs,h⟩
 | false=>rw [hs] at h; cases h
theorem eqVZ_spec {v' v : AV} {K:Option β} (h:eqVZ v' v K = some r) : v' = v ∧ K = some r:=by
 unfold eqVZ at h
 split at h
 ·
  split at h
  ·
   split at h
   ·
    rename_i hb
    simp only [Bool.and_eq_true,Nat.beq_eq] at hb
    rw [hb.1.1,hb.1.2,hb.2]
    exact ⟨rfl,h⟩
   ·
    cases h
  ·
   cases h
 ·
  split at h
  ·
   exact ⟨rfl,h⟩
  ·
   cases h
 ·
  split at h
  ·
   split at h
   ·
    rename_i hb
    rw [Nat.beq_eq] at hb
    obtain ⟨h1,h⟩:=grdZ_spec h
    obtain ⟨h2,h⟩:=grdZ_spec h
    rw [hb,h1,h2]
    exact ⟨rfl,h⟩
   ·
    cases h
  ·
   cases h
 ·
  split at h
  ·
   split at h
   ·
    rename_i hk
    obtain ⟨h1,h⟩:=grdZ_spec h
    have hk : _ = _:=of_decide_eq_true hk
    rw [hk,h1]
    exact ⟨rfl,h⟩
   ·
    cases h
  ·
   cases h
 ·
  split at h
  ·
   obtain ⟨hs,h⟩:=beqZ h
   rw [hs]
   exact ⟨rfl,h⟩
  ·
   cases h
 ·
  split at h
  ·
   obtain ⟨hs,h⟩:=beqZ h
   rw [hs]
   exact ⟨rfl,h⟩
  ·
   cases h
 ·
  cases hs : eqA v' v with
  | true =>
   rw [hs] at h
   exact ⟨eqA_ok hs,h⟩
  | false=>rw [hs] at h; cases h
noncomputable def settledZ (X:Cx) (ops:Array Oper) (E:Env) (H:Heap) (f:Nat) (K:Option β) : Option β:=match getL ops.toList f with
 | none=>none
 | some o=>match o.dst with
  | none=>none
  | some t=>match getL E t with
   | none=>none
   | some v=>match guardOf ops E o with
    | some false=>eqVZ (.tup []) v K
    | some true=>evPZ { X with call:=fun _ _ _=>none } E H H.length o fun v' b=>match b with
     | none=>eqVZ v' v K
     | some _=>none
    | none=>none
theorem settledZ_spec {X:Cx} {ops:Array Oper} {E:Env} {H:Heap} {f:Nat} {K:Option β} (h:settledZ X ops E H f K = some r) : settledB X ops E H f ∧ K = some r:=by
 unfold settledZ at h
 simp only [getL_eq,Array.getElem?_toList] at h
 split at h
 ·
  cases h
 ·
  rename_i o ho
  split at h
  ·
   cases h
  ·
   rename_i t ht
   split at h
   ·
    cases h
   ·
    rename_i v hv
    split at h
    ·
     rename_i hg
     obtain ⟨he,hk⟩:=eqVZ_spec h
     exact ⟨⟨o,t,v,ho,ht,hv,.inl ⟨hg,he⟩⟩,hk⟩
    ·
     rename_i hg
     obtain ⟨v', b, hev, h⟩ := evPZ_spec h
     split at h
     ·
      obtain ⟨he,hk⟩:=eqVZ_spec h
      subst he
      exact ⟨⟨o, t, v', ho, ht, hv, .inr ⟨hg, hev⟩⟩, hk⟩
     ·
      cases h
    ·
     cases h
noncomputable def settledsZ (X:Cx) (ops:Array Oper) (E:Env) (H:Heap) (F:List Nat) (K:Option β) : Option β:=List.rec K (fun f _ ih=>settledZ X ops E H f ih) F
theorem settledsZ_spec {X:Cx} {ops:Array Oper} {E:Env} {H:Heap} {K:Option β} : ∀ {F:List Nat},settledsZ X ops E H F K = some r → (∀ f ∈ F,settledB X ops E H f) ∧ K = some r
 | [],h=>⟨by simp,h⟩
 | f :: F,h=>by
  have h : settledZ X ops E H f (settledsZ X ops E H F K) = some r:=h
  obtain ⟨h1,h⟩:=settledZ_spec h
  obtain ⟨h2,h⟩:=settledsZ_spec h
  exact ⟨List.forall_mem_cons.2 ⟨h1,h2⟩,h⟩
noncomputable def stepBZ (X:Px) (sg:Sgs β) (ops:Array Oper) (b:Nat) (F C:List Nat) (E:Env) (H:Heap) (K:Option AV → Env → Heap → Option β) : Option β:=match getL ops.toList b with
 | none=>none
 | some o=>match F ++ C with
  | []=>stepQZ X sg ops E H o K
  | _ :: _=>allF (maskT (slotsOf ops F) E) fun e=>stepQZ { X with nl:=H.length } sg ops e H o fun x E1 H1=>match x with
   | none=>match hasAll H1 (AV.idss ((slotsOf ops F).filterMap (E[·]?))) with
    | true=>match mapO (fun i=>ops[i]?) C with
     | none=>none
     | some os=>allF (restT E (slotsOf ops F) E1) fun E2=>runPGZ X.toCx sg ops (fun E3 H3=>match Nat.beq H3.length H1.length with
      | true=>settledsZ X.toCx ops E3 H1 (F ++ C) (K none E3 H1)
      | false=>none) os E2 H1
    | false=>none
   | some y=>K (some y) E1 H1
theorem stepBZ_spec {X:Px} {sg:Sgs β} (hI:sg.Ok X.call r) {pan:Oracle} (hD:Apart X.call pan) {ops:Array Oper} {b:Nat} {F C:List Nat} {E:Env} {H:Heap} {K:Option AV → Env → Heap → Option β} (h:stepBZ X sg ops b F C E H K = some r) :
  ∃ x env' H', stepB X pan ops b F C E H = some (x, env', H') ∧ K x env' H' = some r := by
 unfold stepBZ at h
 unfold stepB
 simp only [getL_eq,Array.getElem?_toList,allF_eq] at h
 split at h
 ·
  cases h
 ·
  rename_i o ho
  simp only [ho]
  split at h
  ·
   rename_i hFC
   simp only [hFC]
   exact stepQZ_spec hI hD h
  ·
   rename_i f0 fs hFC
   obtain ⟨x,e1,H1,h1,h⟩:=stepQZ_spec (X:={ X with nl:=H.length }) hI hD h
   simp only [hFC,h1]
   cases x with
   | none =>
    simp only at h ⊢
    split at h
    ·
     rename_i hal
     simp only [hal]
     split at h
     ·
      cases h
     ·
      rename_i os hos
      simp only [hos]
      obtain ⟨e2,H2,h2,h⟩:=runPGZ_spec _ h
      simp only [h2]
      split at h
      ·
       rename_i hl
       rw [Nat.beq_eq] at hl
       obtain ⟨hs,h⟩:=settledsZ_spec h
       exact ⟨_,_,_,if_pos ⟨hl,hs⟩,h⟩
      ·
       cases h
    ·
     cases h
   | some y=>exact ⟨_,_,_,rfl,h⟩
noncomputable def runBZ (X:Px) (sg:Sgs β) (ops:Array Oper) (K:Option AV → Env → Heap → Option β) (l:List (Nat × List Nat × List Nat)) : Env → Heap → Option β :=
 List.rec (fun env H=>K none env H) (fun x _ ih env H=>stepBZ X sg ops x.1 x.2.1 x.2.2 env H fun y e h=>match y with
  | none=>ih e h
  | some y=>K (some y) e h) l
theorem runBZ_spec {X : Px} {sg : Sgs β} (hI : sg.Ok X.call r) {pan : Oracle} (hD : Apart X.call pan) {ops : Array Oper} {K : Option AV → Env → Heap → Option β} : ∀ (l : List (Nat × List Nat × List Nat)) {env : Env} {H : Heap}, runBZ X sg ops K l env H = some r → ∃ x env' H', runB X pan ops l env H = some (x, env', H') ∧ K x env' H' = some r
 | [],env,H,h=>⟨none,env,H,rfl,h⟩
 | o :: os,env,H,h=>by
  have h : stepBZ X sg ops o.1 o.2.1 o.2.2 env H (fun y e h=>match y with
   | none=>runBZ X sg ops K os e h
   | some y=>K (some y) e h) = some r:=h
  obtain ⟨x,e1,H1,h1,h⟩:=stepBZ_spec hI hD h
  cases x with
  | none =>
   obtain ⟨x,e2,H2,h2,h⟩:=runBZ_spec hI hD os h
   exact ⟨x,e2,H2,by unfold runB; simp only [h1,h2],h⟩
  | some x=>exact ⟨some x,e1,H1,by unfold runB; simp only [h1],h⟩
noncomputable def drawBZ (X:Px) (sg:Sgs β) (ops:Array Oper) (env:Env) (H:Heap) (K:Option AV → Env → Heap → Option β) : Option β :=
 match planCOK ops (masks ops.toList []) (planC ops) with
 | false=>none
 | true=>match mapO (fun i=>ops[i]?) (planC ops).a with
  | none=>none
  | some os=>runPGZ X.toCx sg ops (fun E H1=>match (planC ops).b with
   | []=>K none E H1
   | x :: bs=>settledsZ X.toCx ops E H1 x.2.1 (runBZ X sg ops K (x :: bs) E H1)) os env H
theorem drawBZ_spec {X:Px} {sg:Sgs β} (hI:sg.Ok X.call r) {pan:Oracle} (hD:Apart X.call pan) {ops:Array Oper} {env:Env} {H:Heap} {K:Option AV → Env → Heap → Option β} (h:drawBZ X sg ops env H K = some r) :
  ∃ x env' H', drawB X pan ops env H = some (x, env', H') ∧ K x env' H' = some r := by
 unfold drawBZ at h
 unfold drawB
 split at h
 ·
  cases h
 ·
  rename_i hok
  simp only [hok]
  split at h
  ·
   cases h
  ·
   rename_i os hos
   simp only [hos]
   obtain ⟨e1,H1,h1,h⟩:=runPGZ_spec _ h
   simp only [h1]
   split at h
   ·
    rename_i hb
    simp only [hb]
    exact ⟨_,_,_,rfl,h⟩
   ·
    rename_i x bs hb
    simp only [hb]
    obtain ⟨hs,h⟩:=settledsZ_spec h
    obtain ⟨y,e2,H2,h2,h⟩:=runBZ_spec hI hD _ h
    exact ⟨y,e2,H2,by rw [if_pos hs]; exact h2,h⟩
end
end Go.AM.S
/- The abstract machine,part S8: code that may panic: more answers of calls,more answers; with what comes next handed in. -/
namespace Go.AM.S
open Go.AM
section
variable {X:Px} {c c' p p' : Oracle} {ops:Array Oper}
theorem stepG_nocall {env:Env} {H:Heap} {o:Oper} (hcl:isCall o = false) : stepG { X with call:=c } ops env H o = stepG { X with call:=c' } ops env H o:=by
 have e : ∀ env H,stepM { X.toCx with call:=c } X.nl ops env H o = stepM { X.toCx with call:=c' } X.nl ops env H o:=by
  intro env H
  unfold stepM
  simp only [hcl]
 unfold stepG
 split
 ·
  rename_i d hd
  show (match stepM { X.toCx with call:=c } X.nl ops (pre X env H o d).1 (pre X env H o d).2 o with
   | some (env', H') => some (claims d (X.clm d) env' H')
   | none=>none) = _
  rw [e]
  rfl
 ·
  exact e env H
theorem stepF_nocall {env:Env} {H:Heap} {o:Oper} (hcl:isCall o = false) : stepF { X with call:=c } ops env H o = stepF { X with call:=c' } ops env H o:=by
 have e : ∀ env H,stepO { X.toCx with call:=c } X.nl ops env H o = stepO { X.toCx with call:=c' } X.nl ops env H o:=by
  intro env H
  unfold stepO
  simp only [evL_no hcl]
  have : evP { X.toCx with call:=c } env H H.length o = evP { X.toCx with call:=c' } env H H.length o:=by
   unfold evP evQ
   simp only [evC_no hcl]
  simp only [this]
 unfold stepF
 split
 ·
  rename_i d hd
  show (match stepO { X.toCx with call:=c } X.nl ops (pre X env H o d).1 (pre X env H o d).2 o with
   | some (env', H') => some (claims d (X.clm d) env' H')
   | none=>none) = _
  rw [e]
  rfl
 ·
  exact e env H
theorem evB_nocall {env:Env} {H:Heap} {o:Oper} : evB { X with call:=c } ops env H o = evB { X with call:=c' } ops env H o:=by
 unfold evB
 split
 ·
  rename_i t n kv ho
  have hcl : isCall o = false:=by unfold isCall; rw [ho]
  split
  ·
   split
   ·
    exact stepF_nocall hcl
   ·
    exact stepF_nocall (X:={ X with own:=fun _=>true }) hcl
  ·
   rfl
 ·
  rfl
 ·
  rfl
theorem panL_le (hp:LeC p p') {env:Env} {H:Heap} {o:Oper} {s:AV × Env × Heap} (h:panL X.toCx p ops env H o = some s) : panL X.toCx p' ops env H o = some s:=by
 unfold panL at h ⊢
 split at h
 ·
  rename_i hg
  try simp only [hg]
  split at h
  ·
   rename_i g as hco
   try simp only [hco]
   split at h
   ·
    rename_i hl
    try simp only [hl]
    exact callL_le hp h
   ·
    cases h
  ·
   cases h
 ·
  cases h
theorem stepQ_le (hc:LeC c c') (hp:LeC p p') (hD:Apart c' p') {env:Env} {H:Heap} {o:Oper} {s:Option AV × Env × Heap} (h:stepQ { X with call:=c } p ops env H o = some s) : stepQ { X with call:=c' } p' ops env H o = some s:=by
 unfold stepQ at h
 split at h
 ·
  rename_i h1
  unfold stepQ
  simp only [h1]
  have e : panO p ops env H o = panO p' ops env H o:=by
   unfold isPan at h1
   split at h1
   ·
    rename_i x ho
    unfold panO
    rw [ho]
   ·
    cases h1
  rw [← e]
  exact h
 ·
  rename_i h1
  split at h
  ·
   rename_i x e1 H1 hx
   have : panF { X with call:=c' } p' ops env H o = some (x,e1,H1):=by
    unfold panF at hx ⊢
    have e : frzOf { X with call:=c' } o = frzOf { X with call:=c } o:=rfl
    rw [e]
    split at hx
    ·
     cases hx
    ·
     rename_i hf
     simp only [hf]
     exact panL_le (X:=X) hp hx
   unfold stepQ
   simp only [h1,this]
   exact h
  ·
   split at h
   ·
    rename_i e1 H1 hs
    have hs':=stepG_le (X:=X) hc hs
    cases h
    exact stepQ_of h1 (stepG_panL (X:={ X with call:=c' }) hD hs') hs'
   ·
    rename_i hs
    split at h
    ·
     rename_i e1 H1 hb
     cases h
     have hcl : isCall o = false:=by
      unfold isCall
      split
      ·
       rename_i f args ats ho
       unfold evB at hb
       rw [ho] at hb
       cases hb
      ·
       rfl
     unfold stepQ
     rw [evB_nocall (c:=c) (c':=c')] at hb
     rw [stepG_nocall (c:=c) (c':=c') hcl] at hs
     simp only [h1,panF_no hcl,hs,hb]
    ·
     cases h
theorem runQ_le (hc:LeC c c') (hp:LeC p p') (hD:Apart c' p') : ∀ (os:List Oper) {env:Env} {H:Heap} {s:Option AV × Env × Heap},runQ { X with call:=c } p ops os env H = some s → runQ { X with call:=c' } p' ops os env H = some s
 | [],env,H,s,h=>h
 | o :: os,env,H,s,h=>by
  unfold runQ at h ⊢
  split at h
  ·
   rename_i e2 H2 h2
   rw [stepQ_le hc hp hD h2]
   exact runQ_le hc hp hD os h
  ·
   rename_i x e2 H2 h2
   rw [stepQ_le hc hp hD h2]
   exact h
  ·
   cases h
theorem runQY_le (hc:LeC c c') (hp:LeC p p') (hD:Apart c' p') {env:Env} {H:Heap} {s:Option AV × Env × Heap} (h:runQY { X with call:=c } p ops env H = some s) : runQY { X with call:=c' } p' ops env H = some s:=by
 unfold runQY at h ⊢
 split at h
 ·
  rename_i e2 H2 h2
  have:=runPG_le (X:=X) hc _ h2
  simp only
  rw [this]
  exact runQ_le hc hp hD _ h
 ·
  cases h
theorem stepB_le (hc:LeC c c') (hp:LeC p p') (hD:Apart c' p') {b:Nat} {F C:List Nat} {env:Env} {H:Heap} {s:Option AV × Env × Heap} (h:stepB { X with call:=c } p ops b F C env H = some s) : stepB { X with call:=c' } p' ops b F C env H = some s:=by
 unfold stepB at h ⊢
 split at h
 ·
  cases h
 ·
  rename_i o ho
  split at h
  ·
   exact stepQ_le hc hp hD h
  ·
   split at h
   ·
    rename_i e1 H1 h1
    have:=stepQ_le (X:={ X with nl:=H.length }) hc hp hD h1
    simp only [this]
    split at h
    ·
     rename_i hal
     split at h
     ·
      cases h
     ·
      rename_i os hos
      split at h
      ·
       cases h
      ·
       rename_i e2 H2 h2
       have:=runPG_le (X:=X) hc _ h2
       simp only [this]
       split at h
       ·
        rename_i hs
        have hs' : H2.length = H1.length ∧ ∀ f ∈ F ++ C,settledB { X.toCx with call:=c' } ops e2 H1 f:=hs
        rw [if_pos hs']
        exact h
       ·
        cases h
    ·
     cases h
   ·
    rename_i x e1 H1 h1
    have:=stepQ_le (X:={ X with nl:=H.length }) hc hp hD h1
    simp only [this]
    exact h
   ·
    cases h
theorem runB_le (hc:LeC c c') (hp:LeC p p') (hD:Apart c' p') : ∀ (l:List (Nat × List Nat × List Nat)) {env:Env} {H:Heap} {s:Option AV × Env × Heap},runB { X with call:=c } p ops l env H = some s → runB { X with call:=c' } p' ops l env H = some s
 | [],env,H,s,h=>h
 | o :: os,env,H,s,h=>by
  unfold runB at h ⊢
  split at h
  ·
   rename_i e2 H2 h2
   rw [stepB_le hc hp hD h2]
   exact runB_le hc hp hD os h
  ·
   rename_i x e2 H2 h2
   rw [stepB_le hc hp hD h2]
   exact h
  ·
   cases h
theorem drawB_le (hc:LeC c c') (hp:LeC p p') (hD:Apart c' p') {env:Env} {H:Heap} {s:Option AV × Env × Heap} (h:drawB { X with call:=c } p ops env H = some s) : drawB { X with call:=c' } p' ops env H = some s:=by
 unfold drawB at h ⊢
 split at h
 ·
  cases h
 ·
  rename_i hok
  split at h
  ·
   cases h
  ·
   rename_i os hos
   split at h
   ·
    cases h
   ·
    rename_i e1 H1 h1
    have:=runPG_le (X:=X) hc _ h1
    simp only [this]
    split at h
    ·
     exact h
    ·
     rename_i x bs hb
     split at h
     ·
      rename_i hs
      have hs' : ∀ f ∈ x.2.1,settledB { X.toCx with call:=c' } ops e1 H1 f:=hs
      rw [if_pos hs']
      exact runB_le hc hp hD _ h
     ·
      cases h
theorem iterQ_mono {head:Env → Heap → Env × Heap} {body body' : Env → Heap → Option (Ez × Env × Heap)} (hb:∀ env H r,body env H = some r → body' env H = some r) : ∀ {n m:Nat},n ≤ m → ∀ {env:Env} {H:Heap} {r:Ez × Env × Heap},iterQ head body n env H = some r → iterQ head body' m env H = some r
 | 0,m,hl,env,H,r,h=>by cases h
 | n + 1,0,hl,env,H,r,h=>by omega
 | n + 1,m + 1,hl,env,H,r,h=>by
  unfold iterQ at h ⊢
  split at h
  ·
   rename_i e2 H2 h2
   rw [hb _ _ _ h2]
   exact iterQ_mono hb (by omega) h
  ·
   rename_i hne
   rw [hb _ _ _ h]
   split
   ·
    rename_i heq; cases heq; exact absurd h (hne _ _)
   ·
    rfl
theorem execQ_le (hc:LeC c c') (hp:LeC p p') (hD:Apart c' p') {lf lf' : Nat} (hl:lf ≤ lf') : ∀ (cd:Code) {env:Env} {H:Heap} {r:Ez × Env × Heap},execQ { X with call:=c } p lf cd env H = some r → execQ { X with call:=c' } p' lf' cd env H = some r:=by
 intro cd
 induction cd with
 | region id ops draw =>
  intro env H r h
  unfold execQ at h ⊢
  have key : ∀ s,(if draw then (if X.keep (100000 + id) then drawB { X with call:=c } p ops env H else runQY { X with call:=c } p ops env H) else runQ { X with call:=c } p ops ops.toList env H) = some s → (if draw then (if X.keep (100000 + id) then drawB { X with call:=c' } p' ops env H else runQY { X with call:=c' } p' ops env H) else runQ { X with call:=c' } p' ops ops.toList env H) = some s:=by
   intro s hs
   split at hs
   ·
    rename_i hd
    rw [if_pos hd]
    split at hs
    ·
     rename_i hk; rw [if_pos hk]; exact drawB_le hc hp hD hs
    ·
     rename_i hk; rw [if_neg hk]; exact runQY_le hc hp hD hs
   ·
    rename_i hd; rw [if_neg hd]; exact runQ_le hc hp hD _ hs
  cases hq : (if draw then (if X.keep (100000 + id) then drawB { X with call:=c } p ops env H else runQY { X with call:=c } p ops env H) else runQ { X with call:=c } p ops ops.toList env H) with
  | none=>rw [hq] at h; cases h
  | some s=>rw [hq] at h; rw [key s hq]; exact h
 | seq a b iha ihb =>
  intro env H r h
  unfold execQ at h ⊢
  split at h
  ·
   rename_i e2 H2 h2
   rw [iha h2]
   exact ihb h
  ·
   rename_i hne
   rw [iha h]
   split
   ·
    rename_i heq; cases heq; exact absurd h (hne _ _)
   ·
    rfl
 | cond c t e iht ihe =>
  intro env H r h
  unfold execQ at h ⊢
  split at h
  ·
   exact iht h
  ·
   exact ihe h
  ·
   cases h
 | block id c ih =>
  intro env H r h
  unfold execQ at h ⊢
  split at h
  ·
   rename_i h2; rw [ih h2]; exact h
  ·
   rename_i h2; rw [ih h2]; exact h
  ·
   rename_i h2; rw [ih h2]; exact h
  ·
   rename_i h2; rw [ih h2]; exact h
  ·
   cases h
 | loop c ih =>
  intro env H r h
  unfold execQ at h ⊢
  exact iterQ_mono (fun _ _ _=>ih) hl h
 | _=>intro env H r h; exact h
end
section
variable {β:Type} {r:β}
noncomputable def runQZ (X:Px) (sg:Sgs β) (ops:Array Oper) (K:Option AV → Env → Heap → Option β) (l:List Oper) : Env → Heap → Option β :=
 List.rec (fun env H=>K none env H) (fun o _ ih env H=>stepQZ X sg ops env H o fun x e h=>match x with
  | none=>ih e h
  | some x=>K (some x) e h) l
theorem runQZ_spec {X : Px} {sg : Sgs β} (hI : sg.Ok X.call r) {pan : Oracle} (hD : Apart X.call pan) {ops : Array Oper} {K : Option AV → Env → Heap → Option β} : ∀ (os : List Oper) {env : Env} {H : Heap}, runQZ X sg ops K os env H = some r → ∃ x env' H', runQ X pan ops os env H = some (x, env', H') ∧ K x env' H' = some r
 | [],env,H,h=>⟨none,env,H,rfl,h⟩
 | o :: os,env,H,h=>by
  have h : stepQZ X sg ops env H o (fun x e h=>match x with
   | none=>runQZ X sg ops K os e h
   | some x=>K (some x) e h) = some r:=h
  obtain ⟨x,e1,H1,h1,h⟩:=stepQZ_spec hI hD h
  cases x with
  | none =>
   obtain ⟨x,e2,H2,h2,h⟩:=runQZ_spec hI hD os h
   exact ⟨x,e2,H2,by unfold runQ; simp only [h1,h2],h⟩
  | some x=>exact ⟨some x,e1,H1,by unfold runQ; simp only [h1],h⟩
noncomputable def runQYZ (X:Px) (sg:Sgs β) (ops:Array Oper) (env:Env) (H:Heap) (K:Option AV → Env → Heap → Option β) : Option β :=
 runPGZ X.toCx sg ops (fun env' H'=>runQZ X sg ops K (ops.toList.drop (cutOf ops)) env' H') (ops.toList.take (cutOf ops)) env H
theorem runQYZ_spec {X : Px} {sg : Sgs β} (hI : sg.Ok X.call r) {pan : Oracle} (hD : Apart X.call pan) {ops : Array Oper} {env : Env} {H : Heap} {K : Option AV → Env → Heap → Option β} (h : runQYZ X sg ops env H K = some r) : ∃ x env' H', runQY X pan ops env H = some (x, env', H') ∧ K x env' H' = some r := by
 unfold runQYZ at h
 unfold runQY
 obtain ⟨e1,H1,h1,h⟩:=runPGZ_spec _ h
 obtain ⟨x,e2,H2,h2,h⟩:=runQZ_spec hI hD _ h
 exact ⟨x,e2,H2,by simp only [h1,h2],h⟩
abbrev Kq (β:Type):=Ez → Env → Heap → Option β
def regQ (K:Kq β) : Option AV → Env → Heap → Option β:=fun x env H=>match x with
 | none=>K .normal env H
 | some x=>K (.pan x) env H
def loopQ (head:Env → Heap → Env × Heap) (R:Env → Heap → Option β) (K:Kq β) : Kq β:=fun x env' H'=>match x with
 | .normal=>R (head env' H').1 (head env' H').2
 | x=>K x env' H'
noncomputable def iterQZ (head:Env → Heap → Env × Heap) (body:Env → Heap → Kq β → Option β) (K:Kq β) (n:Nat) : Env → Heap → Option β :=
 Nat.rec (motive:=fun _=>Env → Heap → Option β) (fun _ _=>none) (fun _ ih env H=>body env H (loopQ head ih K)) n
def seqQ (k1:Env → Heap → Option β) (K:Kq β) : Kq β:=fun x env H=>match x with
 | .normal=>k1 env H
 | x=>K x env H
def blockQ (X:Px) (id:Nat) (K:Kq β) : Kq β:=fun x env' H'=>match x with
 | .exit i=>match Nat.beq i id with
  | true=>K .normal (forget X.nl (X.after id) env' H').1 (forget X.nl (X.after id) env' H').2
  | false=>K (.exit i) env' H'
 | .normal=>K .normal (forget X.nl (X.after id) env' H').1 (forget X.nl (X.after id) env' H').2
 | .ret=>K .ret env' H'
 | .pan x=>K (.pan x) env' H'
noncomputable def execZQ (X:Px) (sg:Sgs β) (lf:Nat) : Code → Env → Heap → Kq β → Option β
 | .skip,env,H,K=>K .normal env H
 | .region id ops draw,env,H,K=>match draw with
  | true=>match X.keep (100000 + id) with
   | true=>drawBZ X sg ops env H (regQ K)
   | false=>runQYZ X sg ops env H (regQ K)
  | false=>runQZ X sg ops (regQ K) ops.toList env H
 | .seq a b,env,H,K=>execZQ X sg lf a env H (seqQ (fun env' H'=>execZQ X sg lf b env' H' K) K)
 | .cond c t e,env,H,K=>match opd env c with
  | some (.im (.bool b))=>cond b (execZQ X sg lf t env H K) (execZQ X sg lf e env H K)
  | _=>none
 | .block id c,env,H,K=>execZQ X sg lf c env H (blockQ X id K)
 | .loop c,env,H,K=>iterQZ (headOf X c) (execZQ X sg lf c) K lf (headOf X c env H).1 (headOf X c env H).2
 | .exit id,env,H,K=>K (.exit id) env H
 | .ret,env,H,K=>K .ret (forget X.nl X.out env H).1 (forget X.nl X.out env H).2
 | _,_,_,_=>none
theorem iterQZ_spec {X : Px} {pan : Oracle} {sg : Sgs β} {lf : Nat} {c : Code} {K : Kq β} (ih : ∀ {env : Env} {H : Heap} {K : Kq β}, execZQ X sg lf c env H K = some r → ∃ x env' H', execQ X pan lf c env H = some (x, env', H') ∧ K x env' H' = some r) :
  ∀ (n : Nat) {env : Env} {H : Heap}, iterQZ (headOf X c) (execZQ X sg lf c) K n (headOf X c env H).1 (headOf X c env H).2 = some r → ∃ x env' H', iterQ (headOf X c) (execQ X pan lf c) n env H = some (x, env', H') ∧ K x env' H' = some r
 | 0,env,H,h=>by cases h
 | n + 1,env,H,h=>by
  have h : execZQ X sg lf c (headOf X c env H).1 (headOf X c env H).2 (loopQ (headOf X c) (iterQZ (headOf X c) (execZQ X sg lf c) K n) K) = some r:=h
  obtain ⟨x,e1,H1,h1,h⟩:=ih h
  unfold iterQ
  rw [h1]
  cases x with
  | normal=>exact iterQZ_spec ih n h
  | exit i=>exact ⟨_,_,_,rfl,h⟩
  | ret=>exact ⟨_,_,_,rfl,h⟩
  | pan y=>exact ⟨_,_,_,rfl,h⟩
theorem execZQ_spec {X : Px} {sg : Sgs β} (hI : sg.Ok X.call r) {pan : Oracle} (hD : Apart X.call pan) {lf : Nat} : ∀ (c : Code) {env : Env} {H : Heap} {K : Kq β}, execZQ X sg lf c env H K = some r → ∃ x env' H', execQ X pan lf c env H = some (x, env', H') ∧ K x env' H' = some r := by
 have reg : ∀ {o : Option (Option AV × Env × Heap)} {x : Option AV} {e : Env} {h : Heap} {K : Kq β}, o = some (x, e, h) → regQ K x e h = some r → ∃ y e' h', endQ o = some (y, e', h') ∧ K y e' h' = some r := by
  intro o x e h K ho hk
  subst ho
  cases x with
  | none=>exact ⟨_,_,_,rfl,hk⟩
  | some x=>exact ⟨_,_,_,rfl,hk⟩
 intro c
 induction c with
 | skip=>intro env H K h; exact ⟨_,_,_,rfl,h⟩
 | exit id=>intro env H K h; exact ⟨_,_,_,rfl,h⟩
 | ret=>intro env H K h; exact ⟨_,_,_,rfl,h⟩
 | region id ops draw =>
  intro env H K h
  unfold execZQ at h
  unfold execQ
  split at h
  ·
   split at h
   ·
    rename_i hk
    obtain ⟨x,e1,H1,h1,h⟩:=drawBZ_spec hI hD h
    exact reg (by rw [if_pos rfl,if_pos hk,h1]) h
   ·
    rename_i hk
    obtain ⟨x,e1,H1,h1,h⟩:=runQYZ_spec hI hD h
    exact reg (by rw [if_pos rfl,if_neg (by rw [hk]; decide),h1]) h
  ·
   obtain ⟨x,e1,H1,h1,h⟩:=runQZ_spec hI hD _ h
   exact reg (by rw [if_neg (by decide),h1]) h
 | seq a b iha ihb =>
  intro env H K h
  unfold execZQ at h
  unfold execQ
  obtain ⟨x,e1,H1,h1,h⟩:=iha h
  rw [h1]
  cases x with
  | normal=>exact ihb h
  | exit i=>exact ⟨_,_,_,rfl,h⟩
  | ret=>exact ⟨_,_,_,rfl,h⟩
  | pan y=>exact ⟨_,_,_,rfl,h⟩
 | cond c t e iht ihe =>
  intro env H K h
  unfold execZQ at h
  unfold execQ
  split at h
  ·
   rename_i b hb
   rw [hb]
   cases b with
   | true=>exact iht h
   | false=>exact ihe h
  ·
   cases h
 | block id c ih =>
  intro env H K h
  unfold execZQ at h
  unfold execQ
  obtain ⟨x,e1,H1,h1,h⟩:=ih h
  rw [h1]
  cases x with
  | normal=>exact ⟨_,_,_,rfl,h⟩
  | exit i =>
   simp only [blockQ] at h
   split at h
   ·
    rename_i hi
    rw [Nat.beq_eq] at hi
    exact ⟨_,_,_,by simp only [hi,beq_self_eq_true,if_true],h⟩
   ·
    rename_i hi
    have hi : (i == id) = false:=by
     rw [beq_eq_false_iff_ne]
     intro e
     rw [e,show Nat.beq id id = true by rw [Nat.beq_eq]] at hi
     cases hi
    exact ⟨_,_,_,by simp only [hi,Bool.false_eq_true,if_false],h⟩
  | ret=>exact ⟨_,_,_,rfl,h⟩
  | pan y=>exact ⟨_,_,_,rfl,h⟩
 | loop c ih =>
  intro env H K h
  unfold execZQ at h
  unfold execQ
  exact iterQZ_spec ih lf h
 | _=>intro env H K h; simp [execZQ] at h
end
end Go.AM.S
/- The abstract machine,part S3: what a program's functions come to,calls,loops,panics and all: functions of data. -/
namespace Go.AM.S
open Go.AM
theorem bodyQ_le {T:Tab} {c c' p p' : Oracle} (hc:LeC c c') (hp:LeC p p') (hD:Apart c' p') {lf lf' : Nat} (hl:lf ≤ lf') {i:Fi} {as:List AV} {H:Heap} {r:Bool × AV × Heap} (h:bodyQ T c p i lf as H = some r) : bodyQ T c' p' i lf' as H = some r:=by
 unfold bodyQ at h ⊢
 have e : ∀ x,execQ (i.px T c H.length) p lf i.code (entry i.fn.ntmps as) H = some x → execQ (i.px T c' H.length) p' lf' i.code (entry i.fn.ntmps as) H = some x:=fun x hx =>
  execQ_le (X:=i.px T c H.length) hc hp hD hl _ hx
 split at h
 ·
  rename_i hx; rw [e _ hx]; exact h
 ·
  rename_i hx; rw [e _ hx]; exact h
 ·
  rename_i hx; rw [e _ hx]; exact h
 ·
  cases h
structure BookM where
 T : Tab
 fi : FuncId → Option Fi
 known : FuncId → Option Sz
 /-- Arguments in the one form. -/
 norm : FuncId → List AV → List AV
inductive Sem (B:BookM) : FuncId → List AV → Heap → Bool × AV × Heap → Prop
 | known (f:FuncId) (sp:Sz) (as:List AV) (H:Heap) (r:Bool × AV × Heap) (hk:B.known f = some sp) (h:sp (B.norm f as) H = some r) : Sem B f as H r
 | body (f:FuncId) (i:Fi) (call pan:Oracle) (lf:Nat) (as:List AV) (H:Heap) (r:Bool × AV × Heap) (hk:B.known f = none) (hi:B.fi f = some i) (hD:Apart call pan)
   (hc:∀ g as H r,call g as H = some r → Sem B g as H (false,r)) (hp:∀ g as H r,pan g as H = some r → Sem B g as H (true,r)) (h:bodyQ B.T call pan i lf (B.norm f as) H = some r) : Sem B f as H r
def orC (a b:Oracle) : Oracle:=fun g as H=>match a g as H with
 | some r=>some r
 | none=>b g as H
theorem Sem.det {B:BookM} {f:FuncId} {as:List AV} {H:Heap} {r:Bool × AV × Heap} (h:Sem B f as H r) : ∀ {r' : Bool × AV × Heap},Sem B f as H r' → r = r':=by
 induction h with
 | known f sp as H r hk h =>
  intro r' h'
  cases h' with
  | known _ sp' _ _ _ hk' h' =>
   rw [hk] at hk'
   cases hk'
   rw [h] at h'
   exact Option.some.inj h'
  | body _ i call pan lf _ _ _ hk' hi hD hc hp h'=>rw [hk] at hk'; cases hk'
 | body f i call pan lf as H r hk hi hD hc hp h ihc ihp =>
  intro r' h'
  cases h' with
  | known _ sp' _ _ _ hk' h'=>rw [hk] at hk'; cases hk'
  | body _ i' call' pan' lf' _ _ _ hk' hi' hD' hc' hp' h' =>
   rw [hi] at hi'
   cases hi'
   have h1 : LeC call (orC call call'):=fun g as H r hr=>by simp only [orC,hr]
   have h2 : LeC call' (orC call call'):=fun g as H r hr=>by
    simp only [orC]
    cases hq : call g as H with
    | none=>exact hr
    | some q =>
     have:=ihc g as H q hq (hc' g as H r hr)
     cases this
     rfl
   have p1 : LeC pan (orC pan pan'):=fun g as H r hr=>by simp only [orC,hr]
   have p2 : LeC pan' (orC pan pan'):=fun g as H r hr=>by
    simp only [orC]
    cases hq : pan g as H with
    | none=>exact hr
    | some q =>
     have:=ihp g as H q hq (hp' g as H r hr)
     cases this
     rfl
   have hDD : Apart (orC call call') (orC pan pan'):=by
    intro g as H r hr
    simp only [orC] at hr ⊢
    cases hq : pan g as H with
    | some q =>
     exfalso
     cases hcq : call g as H with
     | some x =>
      have:=ihp g as H q hq (hc g as H x hcq)
      cases this
     | none =>
      rw [hcq] at hr
      have:=ihp g as H q hq (hc' g as H r hr)
      cases this
    | none =>
     simp only
     cases hcq : call g as H with
     | some x =>
      cases hpq : pan' g as H with
      | none=>rfl
      | some y =>
       have:=ihc g as H x hcq (hp' g as H y hpq)
       cases this
     | none =>
      rw [hcq] at hr
      exact hD' g as H r hr
   have a:=bodyQ_le h1 p1 hDD (Nat.le_max_left lf lf') h
   have b:=bodyQ_le h2 p2 hDD (Nat.le_max_right lf lf') h'
   rw [a] at b
   exact Option.some.inj b
open Classical in
noncomputable def sem (B:BookM) : Oracle:=fun f as H=>if h : ∃ r,Sem B f as H (false,r) then some h.choose else none
open Classical in
noncomputable def semP (B:BookM) : Oracle:=fun f as H=>if h : ∃ r,Sem B f as H (true,r) then some h.choose else none
theorem sem_of {B:BookM} {f:FuncId} {as:List AV} {H:Heap} {r:AV × Heap} (h:Sem B f as H (false,r)) : sem B f as H = some r:=by
 have hx : ∃ r,Sem B f as H (false,r):=⟨r,h⟩
 unfold sem
 rw [dif_pos hx]
 have:=Sem.det hx.choose_spec h
 simp only [Prod.mk.injEq,true_and] at this
 exact congrArg some this
theorem of_sem {B:BookM} {f:FuncId} {as:List AV} {H:Heap} {r:AV × Heap} (h:sem B f as H = some r) : Sem B f as H (false,r):=by
 unfold sem at h
 split at h
 ·
  rename_i hx
  cases h
  exact hx.choose_spec
 ·
  cases h
theorem of_semP {B:BookM} {f:FuncId} {as:List AV} {H:Heap} {r:AV × Heap} (h:semP B f as H = some r) : Sem B f as H (true,r):=by
 unfold semP at h
 split at h
 ·
  rename_i hx
  cases h
  exact hx.choose_spec
 ·
  cases h
theorem sem_apart (B:BookM) : Apart (sem B) (semP B):=by
 intro g as H r hr
 cases hq : semP B g as H with
 | none=>rfl
 | some q=>cases Sem.det (of_sem hr) (of_semP hq)
theorem Sem.run {B:BookM} {f:FuncId} {i:Fi} (hi:B.fi f = some i) (hk:B.known f = none) {lf:Nat} {as:List AV} {H:Heap} {r:Bool × AV × Heap} (h:bodyQ B.T (sem B) (semP B) i lf (B.norm f as) H = some r) : Sem B f as H r :=
 .body f i (sem B) (semP B) lf as H r hk hi (sem_apart B) (fun _ _ _ _ h=>of_sem h) (fun _ _ _ _ h=>of_semP h) h
theorem sem_body {B:BookM} {f:FuncId} {i:Fi} (hi:B.fi f = some i) (hk:B.known f = none) {lf:Nat} {as:List AV} {H:Heap} {r:AV × Heap} (h:bodyQ B.T (sem B) (semP B) i lf (B.norm f as) H = some (false,r)) : sem B f as H = some r :=
 sem_of (Sem.run hi hk h)
theorem sem_known {B:BookM} {f:FuncId} {sp:Sz} (hk:B.known f = some sp) {as:List AV} {H:Heap} {r:AV × Heap} (h:sp (B.norm f as) H = some (false,r)) : sem B f as H = some r :=
 sem_of (.known f sp as H (false,r) hk h)
structure BookM.ok (B:BookM) (P:Program) : Prop where
 tab : B.T.ok P
 mixed : P.follows .mixedOrders = true
 fi : ∀ f i,B.fi f = some i → i.ok P f
 known : ∀ f sp,B.known f = some sp → OkZ P f sp
 norm : ∀ (I:Nat → Option (Array Value)) (κ:Nat → Option Loc) (f:FuncId) (as:List AV) (vs:List Value),RVs I κ as vs → RVs I κ (B.norm f as) vs
theorem OkZ.norm {P:Program} {f:FuncId} {as as' : List AV} {H:Heap} {r:Bool × AV × Heap} (hn:∀ (I:Nat → Option (Array Value)) (κ:Nat → Option Loc) (vs:List Value),RVs I κ as vs → RVs I κ as' vs)
  {sp sp' : Sz} (hsp:sp as' H = some r) (h:OkZ P f sp) (hs:∀ xs G q,sp' xs G = some q → xs = as ∧ G = H ∧ q = r) : OkZ P f sp':=by
 constructor
 ·
  intro xs G res G' hq I κ w vals hw hdom hr
  have hq : sp' xs G = some (false,res,G'):=by
   dsimp only at hq
   split at hq
   ·
    rename_i r0 H0 h0; cases hq; exact h0
   ·
    cases hq
  obtain ⟨rfl,rfl,rfl⟩:=hs _ _ _ hq
  exact h.ret as' _ res G' (by dsimp only; rw [hsp]) I κ w vals hw hdom (hn I κ vals hr)
 ·
  intro xs G x G' hq I κ w vals hw hdom hr
  obtain ⟨rfl,rfl,rfl⟩:=hs _ _ _ hq
  exact h.pan as' _ x G' hsp I κ w vals hw hdom (hn I κ vals hr)
open Classical in
theorem Sem.ok {P:Program} {B:BookM} (hB:B.ok P) {f:FuncId} {as:List AV} {H:Heap} {r:Bool × AV × Heap} (h:Sem B f as H r) : OkZ P f fun as' H'=>if as' = as ∧ H' = H then some r else none:=by
 have sing : ∀ {as:List AV} {H:Heap} {r:Bool × AV × Heap},∀ (xs:List AV) (G:Heap) (q:Bool × AV × Heap),(if xs = as ∧ G = H then some r else none) = some q → xs = as ∧ G = H ∧ q = r:=by
  intro as H r xs G q h
  split at h
  ·
   rename_i he; cases h; exact ⟨he.1,he.2,rfl⟩
  ·
   cases h
 induction h with
 | known f sp as H r hk h =>
  exact OkZ.norm (fun I κ vs hv=>hB.norm I κ f as vs hv) h (hB.known f sp hk) sing
 | body f i call pan lf as H r hk hi hD hc hp h ihc ihp =>
  have hcall : CallOK P call:=by
   intro g as' H' res H2 hq
   exact (ihc g as' H' _ hq).ret as' H' res H2 (by simp)
  have hpan : PanOK P pan:=by
   intro g as' H' x H2 hq
   exact (ihp g as' H' _ hq).pan as' H' x H2 (by simp)
  refine OkZ.norm (fun I κ vs hv=>hB.norm I κ f as vs hv) (sp:=bodyQ B.T call pan i lf) h (bodyQ_ok hB.tab hcall hpan hB.mixed (hB.fi f i hi)) sing
open Classical in
theorem sem_okZ {P:Program} {B:BookM} (hB:B.ok P) (f:FuncId) : OkZ P f fun as H=>match sem B f as H with
  | some r=>some (false,r)
  | none=>match semP B f as H with
   | some r=>some (true,r)
   | none=>none:=by
 constructor
 ·
  intro as H res H' h
  dsimp only at h
  cases hs : sem B f as H with
  | some r =>
   rw [hs] at h
   cases h
   exact ((of_sem hs).ok hB).ret as H _ _ (by simp)
  | none =>
   rw [hs] at h
   cases hp : semP B f as H with
   | some r=>rw [hp] at h; cases h
   | none=>rw [hp] at h; cases h
 ·
  intro as H x H' h
  have h : (match sem B f as H with
   | some r=>some (false,r)
   | none=>match semP B f as H with
    | some r=>some (true,r)
    | none=>none) = some (true,x,H'):=h
  cases hs : sem B f as H with
  | some r=>rw [hs] at h; cases h
  | none =>
   rw [hs] at h
   cases hp : semP B f as H with
   | some r =>
    rw [hp] at h
    cases h
    exact ((of_semP hp).ok hB).pan as H _ _ (by simp)
   | none=>rw [hp] at h; cases h
theorem sem_ok {P:Program} {B:BookM} (hB:B.ok P) (f:FuncId) : Ok1 P f (sem B f):=by
 intro as H res H' h
 exact (sem_okZ hB f).ret as H res H' (by dsimp only; rw [h])
noncomputable def subZ {β:Type} (X:Px) (sg:Sgs β) (lf:Nat) : Code → List Nat → List (Env → Heap → Option β) → Kq β → Code × Kq β
 | .seq a b,0 :: p,Rs,K=>subZ X sg lf a p Rs (seqQ (fun env' H'=>execZQ X sg lf b env' H' K) K)
 | .seq _ b,_ :: p,Rs,K=>subZ X sg lf b p Rs K
 | .cond _ t _,0 :: p,Rs,K=>subZ X sg lf t p Rs K
 | .cond _ _ e,_ :: p,Rs,K=>subZ X sg lf e p Rs K
 | .block id c,_ :: p,Rs,K=>subZ X sg lf c p Rs (blockQ X id K)
 | .loop c,_ :: p,R :: Rs,K=>subZ X sg lf c p Rs (loopQ (headOf X c) R K)
 | c,_,_,K=>(c,K)
noncomputable def roundsZ {β:Type} (X:Px) (sg:Sgs β) (lf:Nat) (p:Code × Kq β) (n:Nat) (env:Env) (H:Heap) : Option β:=match p.1 with
 | .loop c=>iterQZ (headOf X c) (execZQ X sg lf c) p.2 n env H
 | _=>none
section
variable {β:Type} {r:β}
def finZ (T:Tab) (i:Fi) (nl:Nat) (K:AV → Heap → Option β) : Kq β:=fun x env' H'=>match x with
 | .exit _=>none
 | .pan _=>none
 | _=>match fin T nl i.fn.results.toList env' H' with
  | some (v,H2)=>K v H2
  | none=>none
noncomputable def bodyS (T:Tab) (sg:Sgs β) (cs:Oracle) (i:Fi) (lf:Nat) (as:List AV) (H:Heap) (K:AV → Heap → Option β) : Option β :=
 execZQ (i.px T cs H.length) sg lf i.code (entry i.fn.ntmps as) H (finZ T i H.length K)
theorem bodyS_spec {T:Tab} {sg:Sgs β} {cs:Oracle} (hI:sg.Ok cs r) {pan:Oracle} (hD:Apart cs pan) {i:Fi} {lf:Nat} {as:List AV} {H:Heap} {K:AV → Heap → Option β} (h:bodyS T sg cs i lf as H K = some r) :
  ∃ v H2,bodyQ T cs pan i lf as H = some (false,v,H2) ∧ K v H2 = some r:=by
 unfold bodyS at h
 obtain ⟨x,e1,H1,h1,h⟩:=execZQ_spec (X:=i.px T cs H.length) hI hD _ h
 unfold finZ at h
 unfold bodyQ
 rw [h1]
 cases x with
 | exit i=>cases h
 | pan y=>cases h
 | normal =>
  simp only at h
  split at h
  ·
   rename_i v H2 hf
   exact ⟨_,_,by simp only [hf],h⟩
  ·
   cases h
 | ret =>
  simp only at h
  split at h
  ·
   rename_i v H2 hf
   exact ⟨_,_,by simp only [hf],h⟩
  ·
   cases h
noncomputable def inlS (T:Tab) (ty:TypeId → List Hm) (fn:FuncId → Option Sg) (cs:Oracle) (inl:FuncId → Option Fi) (lf:Nat) : Nat → Sgs β
 | 0=>⟨ty,fn,fun _=>none⟩
 | n + 1=>⟨ty,fn,fun g=>match inl g with
  | some i=>some fun as H K=>bodyS T (inlS T ty fn cs inl lf n) cs i lf as H K
  | none=>none⟩
theorem inlS_ok {T:Tab} {ty:TypeId → List Hm} {fn:FuncId → Option Sg} {cs:Oracle} {inl:FuncId → Option Fi} {lf:Nat} {pan:Oracle} (hD:Apart cs pan) (hc:∀ g i,inl g = some i → ∀ as H r,bodyQ T cs pan i lf as H = some (false,r) → cs g as H = some r) :
  ∀ (n:Nat) (r:β),(inlS (β:=β) T ty fn cs inl lf n).Ok cs r
 | 0,r=>Sgs.ok_none rfl _ _
 | n + 1,r=>by
  intro g run hg as H K h
  have hg : (match inl g with
   | some i=>some fun as H K=>bodyS T (inlS (β:=β) T ty fn cs inl lf n) cs i lf as H K
   | none=>none) = some run:=hg
  split at hg
  ·
   rename_i i hi
   cases hg
   obtain ⟨v,H2,hb,h⟩:=bodyS_spec (inlS_ok hD hc n r) hD h
   exact ⟨v,H2,hc g i hi _ _ _ hb,h⟩
  ·
   cases hg
end
def endP (l:List Hm) (v:AV) (H:Heap) : Option (Hms.T l):=match snap H 12 v with
 | some v=>decR l v
 | none=>none
def endS (s:Sg) (v:AV) (H:Heap) : Option (Hms.T s.rs × Hbs.T s.hs):=match decR s.rs v,Hbs.dec s.hs H with
 | some x,some y=>some (x,y)
 | _,_=>none
theorem pure_rule {B:BookM} {f:FuncId} {i:Fi} (hi:B.fi f = some i) (hk:B.known f = none) {l:List Hm} {sg:Sgs (Hms.T l)} {lf:Nat} {as as' : List AV} (hn:B.norm f as = as') {x:Hms.T l} (h:bodyS B.T sg (sem B) i lf as' [] (endP l) = some x) (hI:sg.Ok (sem B) x:=by exact Sgs.ok_none rfl _ _) : pureS (sem B) l f as = some x:=by
 subst hn
 obtain ⟨v,H2,hb,h⟩:=bodyS_spec hI (sem_apart B) h
 unfold pureS
 rw [sem_body hi hk hb]
 exact h
theorem lent_rule {B:BookM} {f:FuncId} {i:Fi} (hi:B.fi f = some i) (hk:B.known f = none) {s:Sg} {sg:Sgs (Hms.T s.rs × Hbs.T s.hs)} {lf:Nat} {as as' : List AV} (hn:B.norm f as = as') {H:Heap} {x:Hms.T s.rs × Hbs.T s.hs} (h:bodyS B.T sg (sem B) i lf as' H (endS s) = some x) (hI:sg.Ok (sem B) x:=by exact Sgs.ok_none rfl _ _) : lentS (sem B) s f as H = some x:=by
 subst hn
 obtain ⟨v,H2,hb,h⟩:=bodyS_spec hI (sem_apart B) h
 unfold lentS
 rw [sem_body hi hk hb]
 exact h
theorem inl_sem {B:BookM} {inl:FuncId → Option Fi} (h:∀ g i,inl g = some i → B.fi g = some i ∧ B.known g = none ∧ ∀ as,B.norm g as = as) {lf:Nat} : ∀ g i,inl g = some i → ∀ as H r,bodyQ B.T (sem B) (semP B) i lf as H = some (false,r) → sem B g as H = some r:=by
 intro g i hi as H r hb
 obtain ⟨h1,h2,h3⟩:=h g i hi
 exact sem_body h1 h2 (by rw [h3]; exact hb)
end Go.AM.S
/- The abstract machine,part S4: from what a function comes to to what a claim asks. -/
namespace Go.AM.S
open Go.AM
theorem mkAgg_ne {ys:List AV} {b:Bool} : mkAgg ys ≠ .im (.bool b):=by
 unfold mkAgg
 split <;> (intro h; cases h)
theorem mkFn_ne {f:Fn} {a c:List AV} {b:Bool} : mkFn f a c ≠ .im (.bool b):=by
 unfold mkFn
 split <;> (intro h; cases h)
theorem mkIfc_ne {t:TypeId} {x:AV} {b:Bool} : mkIfc t x ≠ .im (.bool b):=by
 unfold mkIfc
 split <;> (intro h; cases h)
theorem snap_bool {H:Heap} {n:Nat} {x:AV} {b:Bool} (h:snap H n x = some (.im (.bool b))) : x = .im (.bool b):=by
 cases x with
 | im d=>cases n <;> (simp [snap] at h; rw [h])
 | pe d k=>cases n <;> simp [snap] at h
 | ref id o l =>
  cases n with
  | zero=>simp [snap] at h
  | succ n =>
   simp only [snap] at h
   split at h
   ·
    cases h
   ·
    split at h
    ·
     split at h <;> cases h
    ·
     cases h
   ·
    cases h
 | ptr id j k =>
  cases n with
  | zero=>simp [snap] at h
  | succ n =>
   simp only [snap] at h
   split at h
   ·
    split at h
    ·
     split at h <;> cases h
    ·
     cases h
   ·
    cases h
 | agg cs =>
  cases n with
  | zero=>simp [snap] at h
  | succ n =>
   simp only [snap] at h
   split at h
   ·
    exact absurd (Option.some.inj h) mkAgg_ne
   ·
    cases h
 | fn f a c =>
  cases n with
  | zero=>simp [snap] at h
  | succ n =>
   simp only [snap] at h
   split at h
   ·
    exact absurd (Option.some.inj h) mkFn_ne
   ·
    cases h
 | ifc t x =>
  cases n with
  | zero=>simp [snap] at h
  | succ n =>
   simp only [snap] at h
   split at h
   ·
    exact absurd (Option.some.inj h) mkIfc_ne
   ·
    cases h
 | tup vs =>
  cases n with
  | zero=>simp [snap] at h
  | succ n =>
   simp only [snap] at h
   try (split at h <;> simp at h)
 | mp i=>cases n <;> simp [snap] at h
 | bad=>cases n <;> simp [snap] at h
theorem topS {P : Program} {B : BookM} (hB : B.ok P) {f : FuncId} {fn : Func} {code : Code} (hget : P.funcs[f]? = some fn) (hname : (fn.name == "runtime.NumGoroutine") = false) (hbody : fn.body = some code)
  {as:List AV} {vals:List Value} {w:World} {b:Bool} (hv:RVs (imm w) (fun _=>none) as vals) (hw:pureS (sem B) [.bool] f as = some (b,())) :
  Calls P f vals.toArray w fun x w'=>x = .returned (.bool b) ∧ RowKit.Below w.heap.size w w':=by
 unfold pureS at hw
 split at hw
 ·
  rename_i res H' hs
  split at hw
  ·
   rename_i v hsn
   have:=decR_eq hw
   subst this
   have hres : res = .im (.bool b):=snap_bool hsn
   subst hres
   have:=sem_ok hB f as [] _ H' hs (imm w) (fun _=>none) w vals (imm_wr w) (fun _ _ h=>by simp at h) hv
   have hrun : (callFunc f vals.toArray).run P w = .ok (.enter f vals.toArray) w:=by
    have h1 : ¬ fn.name = "runtime.NumGoroutine" := by simpa using hname
    simp [callFunc,hget,h1,hbody]
   rw [hrun] at this
   have this : Calls P f vals.toArray w _:=this
   refine this.mono fun x w' h=>?_
   cases x with
   | returned v =>
    obtain ⟨I', κ', s⟩ := h
    refine ⟨?_,s.mv.os,s.mv.tape,s.mv.output,s.mv.size,fun b hb=>s.mv.block b hb (by rintro ⟨_,_,_,_,_,h2⟩; simp at h2)⟩
    cases s.env with
    | cons _ _ _ _ h1 _ =>
     cases h1 with
     | im _ _ h1=>cases h1; rfl
   | _=>exact h.elim
  ·
   cases hw
 ·
  cases hw
end Go.AM.S
/- The abstract machine,part S9: rules for calls whose arguments hold pointers that do not stay; what is known. -/
namespace Go.AM.S
open Go.AM
theorem plain_bool {cs:Oracle} {g:FuncId} {as:List AV} {b:Bool} (h:pureS cs [.bool] g as = some (b,())) : plainS cs [.bool] g as = some (b,()):=by
 unfold pureS at h
 unfold plainS
 split at h
 ·
  rename_i res H' hc
  split at h
  ·
   rename_i v hs
   have:=decR_eq h
   subst this
   have : res = .im (.bool b):=snap_bool hs
   subst this
   simp [plainR,AV.plain,D.plain,decR,Hm.dec]
  ·
   cases h
 ·
  cases h
def getC : Code → List Nat → Code
 | c,[]=>c
 | .seq a b,k :: p=>match k with
  | 0=>getC a p
  | _ + 1=>getC b p
 | c,_ :: _=>c
def putC : Code → List Nat → Code → Code
 | _,[],x=>x
 | .seq a b,k :: p,x=>match k with
  | 0=>.seq (putC a p x) b
  | _ + 1=>.seq a (putC b p x)
 | c,_ :: _,_=>c
theorem put_get : ∀ (p:List Nat) (c:Code),putC c p (getC c p) = c
 | [],c=>by cases c <;> rfl
 | k :: p,c=>by
  cases c with
  | seq a b=>cases k with
   | zero =>
    show Code.seq (putC a p (getC a p)) b = _
    rw [put_get p a]
   | succ k =>
    show Code.seq a (putC b p (getC b p)) = _
    rw [put_get p b]
  | _=>rfl
theorem pure_known {B:BookM} {f:FuncId} {sp:Sz} (hk:B.known f = some sp) {l:List Hm} {as:List AV} {res:AV} {H' : Heap} {v:AV} {x:Hms.T l} (h:sp (B.norm f as) [] = some (false,res,H')) (hs:snap H' 12 res = some v) (hd:decR l v = some x) : pureS (sem B) l f as = some x:=by
 unfold pureS
 rw [sem_known hk h]
 dsimp only
 rw [hs]
 exact hd
theorem cpos {α:Type} {c:Bool} {a b r:α} (h:c = true) (h2:a = r) : cond c a b = r:=by rw [h]; exact h2
theorem cneg {α:Type} {c:Bool} {a b r:α} (h:c = false) (h2:b = r) : cond c a b = r:=by rw [h]; exact h2
theorem optP {α β:Type} {o:Option α} {p:α → Option β} {r:Option β} {a:α} (h:o = some a) (h2:p a = r) : optZ o p = r:=by rw [h]; exact h2
end Go.AM.S