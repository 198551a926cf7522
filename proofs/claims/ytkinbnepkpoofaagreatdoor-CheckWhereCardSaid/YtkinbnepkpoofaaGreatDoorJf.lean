/- Texts joined into one: S0 S1 S5 S2 S6 SD SX. -/
import Derived.Test.YtkinbnepkpoofaaGreatDoorJd
import Derived.Test.YtkinbnepkpoofaaGreatDoorJc
import Derived.Test.YtkinbnepkpoofaaGreatDoorJe
/- The abstract machine,part S0: the operations once more,what comes next handed in,with an answer. -/
set_option linter.unusedVariables false
set_option linter.unusedSimpArgs false
namespace Go.AM.S
open Go.AM
def optZ {α β:Type} (o:Option α) (p:α → Option β) : Option β:=match o with
 | some a=>p a
 | none=>none
def grdZ {β:Type} (c:Prop) [Decidable c] (k:Option β) : Option β:=cond (decide c) k none
@[simp] theorem optZ_some {α β:Type} (a:α) (p:α → Option β) : optZ (some a) p = p a:=rfl
@[simp] theorem optZ_none {α β:Type} (p:α → Option β) : optZ (none:Option α) p = none:=rfl
theorem optZ_spec {α β:Type} {o:Option α} {p:α → Option β} {r:β} (h:optZ o p = some r) : ∃ a,o = some a ∧ p a = some r:=by
 cases o with
 | none=>cases h
 | some a=>exact ⟨a,rfl,h⟩
theorem grdZ_spec {β:Type} {c:Prop} [Decidable c] {k:Option β} {r:β} (h:grdZ c k = some r) : c ∧ k = some r:=by
 unfold grdZ at h
 by_cases hc : c
 ·
  exact ⟨hc,by simpa [hc] using h⟩
 ·
  simp [hc] at h
theorem grdZ_mk {β:Type} {c:Prop} [Decidable c] {k:Option β} {r:β} (hc:c) (h:k = some r) : grdZ c k = some r:=by
 unfold grdZ
 simpa [hc] using h
@[simp] theorem grdZ_pos {β:Type} {c:Prop} [Decidable c] {k:Option β} (hc:c) : grdZ c k = k:=by
 unfold grdZ
 simp [hc]
section
variable {β:Type} {r:β}
def castCZ : Sc → D → (D → Option β) → Option β
 | .any,d,k=>k d
 | .int kd,d,k=>optZ (d.asInt kd) fun n=>k (.int kd n)
 | .bool,d,k=>optZ d.asBool fun n=>k (.bool n)
 | .str,d,k=>optZ d.asStr fun n=>k (.str n)
 | .sl z,d,k=>optZ (d.asSl z) fun n=>k (.sl false z n)
 | .fn g,d,k=>optZ (d.asFn g) fun _=>k (.fn (.func g) [] [])
def scDec : (s:Sc) → D → Option s.T
 | .any,d=>some d
 | .int k,d=>d.asInt k
 | .bool,d=>d.asBool
 | .str,d=>d.asStr
 | .sl z,d=>d.asSl z
 | .fn g,d=>d.asFn g
def scsDec : (l:List Sc) → List D → Option (Scs.T l)
 | [],cs=>match cs with
  | []=>some ()
  | _ :: _=>none
 | [s],cs=>match cs with
  | [d]=>scDec s d
  | _=>none
 | s :: t :: ss,cs=>match cs with
  | []=>none
  | d :: cs=>match scDec s d with
   | some x=>match scsDec (t :: ss) cs with
    | some y=>some (x,y)
    | none=>none
   | none=>none
def stDec (l:List Sc) (d:D) : Option (Scs.T l):=match d with
 | .agg cs=>scsDec l cs
 | _=>none
theorem scDec_eq {s:Sc} {d:D} {x:s.T} (h:scDec s d = some x) : castC s d = some (s.enc x):=by
 cases s <;> simp only [scDec] at h
 ·
  cases h; rfl
 all_goals (simp only [castC,h]; rfl)
theorem scsDec_eq : ∀ {l:List Sc} {cs:List D} {x:Scs.T l},scsDec l cs = some x → castCs l cs = some (Scs.enc l x)
 | [],cs,x,h=>by
  simp only [scsDec] at h
  split at h
  ·
   rfl
  ·
   cases h
 | [s],cs,x,h=>by
  simp only [scsDec] at h
  split at h
  ·
   simp only [castCs,scDec_eq h]; rfl
  ·
   cases h
 | s :: t :: ss,cs,x,h=>by
  simp only [scsDec] at h
  split at h
  ·
   cases h
  ·
   split at h
   ·
    rename_i hx
    split at h
    ·
     rename_i hy
     cases h
     rw [castCs,scDec_eq hx,scsDec_eq hy]; rfl
    ·
     cases h
   ·
    cases h
theorem stDec_eq {l:List Sc} {d:D} {x:Scs.T l} (h:stDec l d = some x) : castD (.st l) d = some (.agg (Scs.enc l x)):=by
 unfold stDec at h
 split at h
 ·
  simp only [castD,D.asAgg,scsDec_eq h]
 ·
  cases h
def castDZ : Sh → D → (D → Option β) → Option β
 | .any,d,k=>k d
 | .c s,d,k=>castCZ s d k
 | .st l,d,k=>optZ (stDec l d) fun x=>k (.agg (Scs.enc l x))
def castVZ (c:Cs) (v:AV) (k:AV → Option β) : Option β:=match c with
 | .any=>k v
 | .p s=>match v with
  | .pe d n=>castDZ s d fun d'=>k (.pe d' n)
  | v=>k v
 | .v s=>match v with
  | .im d=>castDZ s d fun d'=>k (.im d')
  | v=>k v
theorem castCZ_spec {s:Sc} {d:D} {k:D → Option β} (h:castCZ s d k = some r) : ∃ x,castC s d = some x ∧ k x = some r:=by
 cases s with
 | any=>exact ⟨d,rfl,h⟩
 | _ =>
  obtain ⟨n,hd,h⟩:=optZ_spec h
  exact ⟨_,by simp only [castC,hd],h⟩
theorem castDZ_spec {s:Sh} {d:D} {k:D → Option β} (h:castDZ s d k = some r) : ∃ x,castD s d = some x ∧ k x = some r:=by
 unfold castDZ at h
 split at h
 ·
  exact ⟨d,rfl,h⟩
 ·
  exact castCZ_spec h
 ·
  obtain ⟨x,hx,h⟩:=optZ_spec h
  exact ⟨_,stDec_eq hx,h⟩
theorem castVZ_spec {s:Cs} {v:AV} {k:AV → Option β} (h:castVZ s v k = some r) : ∃ x,castV s v = some x ∧ k x = some r:=by
 cases s with
 | any=>exact ⟨v,by cases v <;> rfl,h⟩
 | p s =>
  cases v with
  | pe d n =>
   obtain ⟨x,hx,h⟩:=castDZ_spec h
   exact ⟨_,by simp only [castV,hx],h⟩
  | _=>exact ⟨_,rfl,h⟩
 | v s =>
  cases v with
  | im d =>
   obtain ⟨x,hx,h⟩:=castDZ_spec h
   exact ⟨_,by simp only [castV,hx],h⟩
  | _=>exact ⟨_,rfl,h⟩
def bndZ (x:AV) (y:Nat) (k:Nat → Option β) : Option β:=match x with
 | .im (.int _ i)=>grdZ (0 ≤ i) (grdZ (i ≤ (y:Int)) (k i.toNat))
 | _=>none
def bndOZ (env:Env) (x:Option Operand) (y d:Nat) (k:Nat → Option β) : Option β:=match x with
 | some x=>match opd env x with
  | some v=>bndZ v y k
  | none=>none
 | none=>k d
theorem bndOZ_spec {env:Env} {x:Option Operand} {y d:Nat} {k:Nat → Option β} (h:bndOZ env x y d k = some r) : ∃ n,bndO env x y d = some n ∧ k n = some r:=by
 unfold bndOZ at h
 split at h
 ·
  split at h
  ·
   rename_i hv
   unfold bndZ at h
   split at h
   ·
    obtain ⟨h1,h⟩:=grdZ_spec h
    obtain ⟨h2,h⟩:=grdZ_spec h
    exact ⟨_,by simp only [bndO,hv,bnd,h1,h2,if_true],h⟩
   ·
    cases h
  ·
   cases h
 ·
  exact ⟨d,rfl,h⟩
def indexAddrZ (T:Tab) (env:Env) (H:Heap) (t:TypeId) (x i:Operand) (k:AV → Option β) : Option β:=match T.ty t with
 | some ⟨.slice e,_,_,_⟩=>match T.ty e with
  | some ie=>match opd env i with
   | some (.im (.int _ n))=>match opd env x with
    | some (.im (.sl _ sz es))=>if sz == ie.size then grdZ (0 ≤ n) (optZ es[n.toNat]? fun d=>k (.pe d 0)) else none
    | some (.ref id off len)=>match H[id]? with
     | some (some b)=>if b.sz == ie.size then grdZ (0 ≤ n) (grdZ (n.toNat < len) (k (.ptr id (off + n.toNat) 0))) else none
     | _=>none
    | _=>none
   | _=>none
  | none=>none
 | _=>none
theorem indexAddrZ_spec {T:Tab} {env:Env} {H:Heap} {o:Oper} {t:TypeId} {x i:Operand} (ho:o.op = .indexAddr t x i) {k:AV → Option β} (h:indexAddrZ T env H t x i k = some r) : ∃ v,ev0 T env H o = some v ∧ k v = some r:=by
 unfold indexAddrZ at h
 unfold ev0
 rw [ho]
 simp only
 split at h
 ·
  split at h
  ·
   split at h
   ·
    split at h
    ·
     split at h
     ·
      obtain ⟨h0,h⟩:=grdZ_spec h
      obtain ⟨d,hd,h⟩:=optZ_spec h
      exact ⟨_,by simp only [*,if_true],h⟩
     ·
      cases h
    ·
     split at h
     ·
      split at h
      ·
       obtain ⟨h0,h⟩:=grdZ_spec h
       obtain ⟨h1,h⟩:=grdZ_spec h
       exact ⟨_,by simp only [*,if_true],h⟩
      ·
       cases h
     ·
      cases h
    ·
     cases h
   ·
    cases h
  ·
   cases h
 ·
  cases h
def indexZ (T:Tab) (env:Env) (H:Heap) (o:Oper) (t:TypeId) (x i:Operand) (k:AV → Option β) : Option β:=match T.ty t with
 | some ⟨.string,_,_,_⟩=>match opd env i with
  | some (.im (.int _ n))=>match opd env x with
   | some (.im (.str s))=>grdZ (0 ≤ n) (optZ s[n.toNat]? fun c=>k (.im (.int .u8 c.toNat)))
   | _=>none
  | _=>none
 | _=>match ev0 T env H o with
  | some v=>k v
  | none=>none
theorem indexZ_spec {T:Tab} {env:Env} {H:Heap} {o:Oper} {t:TypeId} {x i:Operand} (ho:o.op = .index t x i) {k:AV → Option β} (h:indexZ T env H o t x i k = some r) : ∃ v,ev0 T env H o = some v ∧ k v = some r:=by
 unfold indexZ at h
 split at h
 ·
  unfold ev0
  rw [ho]
  simp only
  split at h
  ·
   split at h
   ·
    obtain ⟨h0,h⟩:=grdZ_spec h
    obtain ⟨d,hd,h⟩:=optZ_spec h
    exact ⟨_,by simp only [*,if_true],h⟩
   ·
    cases h
  ·
   cases h
 ·
  split at h
  ·
   rename_i hv; exact ⟨_,hv,h⟩
  ·
   cases h
def sliceZ (T:Tab) (env:Env) (H:Heap) (t:TypeId) (x:Operand) (lo hi:Option Operand) (k:AV → Option β) : Option β:=match T.ty t with
 | some ⟨.string,_,_,_⟩=>match opd env x with
  | some (.im (.str s))=>bndOZ env hi s.length s.length fun h=>bndOZ env lo h 0 fun l=>k (.im (.str ((s.take h).drop l)))
  | _=>none
 | some ⟨.slice e,_,_,_⟩=>match T.ty e with
  | some i=>match opd env x with
   | some (.im (.sl _ sz es))=>if sz == i.size then bndOZ env hi es.length es.length fun h=>bndOZ env lo h 0 fun l=>k (.im (.sl false sz ((es.take h).drop l))) else none
   | some (.ref id off len)=>match H[id]? with
    | some (some b)=>if b.sz == i.size then bndOZ env hi len len fun h=>bndOZ env lo h 0 fun l=>k (.ref id (off + l) (h - l)) else none
    | _=>none
   | _=>none
  | none=>none
 | _=>none
theorem sliceZ_spec {T:Tab} {env:Env} {H:Heap} {o:Oper} {t:TypeId} {x:Operand} {lo hi:Option Operand} (ho:o.op = .slice t x lo hi none) {k:AV → Option β} (h:sliceZ T env H t x lo hi k = some r) : ∃ v,ev0 T env H o = some v ∧ k v = some r:=by
 unfold sliceZ at h
 unfold ev0
 rw [ho]
 simp only
 split at h
 ·
  split at h
  ·
   obtain ⟨n,hn,h⟩:=bndOZ_spec h
   obtain ⟨m,hm,h⟩:=bndOZ_spec h
   exact ⟨_,by simp only [*,if_true],h⟩
  ·
   cases h
 ·
  split at h
  ·
   split at h
   ·
    split at h
    ·
     skip
     obtain ⟨n,hn,h⟩:=bndOZ_spec h
     obtain ⟨m,hm,h⟩:=bndOZ_spec h
     exact ⟨_,by simp only [*,if_true],h⟩
    ·
     cases h
   ·
    split at h
    ·
     split at h
     ·
      skip
      obtain ⟨n,hn,h⟩:=bndOZ_spec h
      obtain ⟨m,hm,h⟩:=bndOZ_spec h
      exact ⟨_,by simp only [*,if_true],h⟩
     ·
      cases h
    ·
     cases h
   ·
    cases h
  ·
   cases h
 ·
  cases h
def binIntZ (op:BinOp) (kd:IntKind) (a:Int) (kd' : IntKind) (b:Int) (k:D → Option β) : Option β:=match op with
 | .shl=>grdZ (0 ≤ b) (k (.int kd (kd.wrap (a * 2 ^ (min b.toNat kd.bits)))))
 | .shr=>grdZ (0 ≤ b) (k (.int kd (a.fdiv (2 ^ (min b.toNat kd.bits)))))
 | .quo=>if kd = kd' then grdZ (b ≠ 0) (k (.int kd (kd.wrap (a.tdiv b)))) else none
 | .rem=>if kd = kd' then grdZ (b ≠ 0) (k (.int kd (a.tmod b))) else none
 | _=>match binInt op kd a kd' b with
  | some d=>k d
  | none=>none
theorem binIntZ_spec {op:BinOp} {kd kd' : IntKind} {a b:Int} {k:D → Option β} (h:binIntZ op kd a kd' b k = some r) : ∃ d,binInt op kd a kd' b = some d ∧ k d = some r:=by
 unfold binIntZ at h
 split at h
 ·
  obtain ⟨hb,h⟩:=grdZ_spec h
  have hb : ¬ b < 0:=by omega
  exact ⟨_,by simp only [binInt,hb,if_false],h⟩
 ·
  obtain ⟨hb,h⟩:=grdZ_spec h
  have hb : ¬ b < 0:=by omega
  exact ⟨_,by simp only [binInt,hb,if_false],h⟩
 ·
  split at h
  ·
   rename_i hk
   obtain ⟨hb,h⟩:=grdZ_spec h
   exact ⟨_,by simp only [binInt,hk,hb,if_false,if_true],h⟩
  ·
   cases h
 ·
  split at h
  ·
   rename_i hk
   obtain ⟨hb,h⟩:=grdZ_spec h
   exact ⟨_,by simp only [binInt,hk,hb,if_false,if_true],h⟩
  ·
   cases h
 ·
  split at h
  ·
   rename_i hd; exact ⟨_,hd,h⟩
  ·
   cases h
def binOpZ (T:Tab) (env:Env) (H:Heap) (o:Oper) (op:BinOp) (t:TypeId) (x y:Operand) (k:AV → Option β) : Option β:=match opd env x,opd env y with
 | some (.im (.int kd a)),some (.im (.int kd' b))=>binIntZ op kd a kd' b fun d=>k (.im d)
 | some (.im (.str a)),some (.im (.str b))=>match op with
  | .add=>grdZ (a.length + b.length ≤ 9223372036854775807) (k (.im (.str (a ++ b))))
  | _=>match binStr op a b with
   | some d=>k (.im d)
   | none=>none
 | some (.im (.agg a)),some (.im (.agg b))=>if eqOn T t a b then match eqAnd a b with
  | some r=>match eqOp op r with
   | some d=>k (.im d)
   | none=>none
  | none=>none
  else none
 | _,_=>match ev0 T env H o with
  | some v=>k v
  | none=>none
theorem binOpZ_spec {T:Tab} {env:Env} {H:Heap} {o:Oper} {op:BinOp} {t u:TypeId} {x y:Operand} (ho:o.op = .binOp op t x y u) {k:AV → Option β} (h:binOpZ T env H o op t x y k = some r) : ∃ v,ev0 T env H o = some v ∧ k v = some r:=by
 unfold binOpZ at h
 split at h
 ·
  rename_i hx hy
  obtain ⟨d,hd,h⟩:=binIntZ_spec h
  refine ⟨.im d,?_,h⟩
  unfold ev0
  rw [ho]
  simp only [hx,hy,hd,Option.map_some]
 ·
  rename_i a b hx hy
  have e0 : ev0 T env H o = (binStr op a b).map .im:=by
   unfold ev0
   rw [ho]
   simp only [hx,hy]
  rw [e0]
  split at h
  ·
   obtain ⟨hl,h⟩:=grdZ_spec h
   exact ⟨_,by simp only [binStr,hl,if_true,Option.map_some],h⟩
  ·
   split at h
   ·
    rename_i hd
    exact ⟨_,by simp only [hd,Option.map_some],h⟩
   ·
    cases h
 ·
  rename_i a b hx hy
  split at h
  ·
   rename_i ht
   split at h
   ·
    rename_i hr
    split at h
    ·
     rename_i he
     refine ⟨_,?_,h⟩
     unfold ev0
     rw [ho]
     simp only [hx,hy,ht,if_true,eqAnd_spec hr,he,Option.map_some]
    ·
     cases h
   ·
    cases h
  ·
   cases h
 ·
  split at h
  ·
   rename_i hv; exact ⟨_,hv,h⟩
  ·
   cases h
def selZ (env:Env) (c a b:Operand) (k:AV → Option β) : Option β:=match opd env c with
 | some (.im (.bool t))=>cond t (match opd env a with
  | some v=>k v
  | none=>none) (match opd env b with
  | some v=>k v
  | none=>none)
 | _=>none
theorem selZ_spec {T:Tab} {env:Env} {H:Heap} {o:Oper} {c a b:Operand} (ho:o.op = .pick c a b) {k:AV → Option β} (h:selZ env c a b k = some r) : ∃ v,ev0 T env H o = some v ∧ k v = some r:=by
 unfold selZ at h
 unfold ev0
 rw [ho]
 simp only
 split at h
 ·
  rename_i t hc
  simp only [hc]
  cases t with
  | true =>
   simp only [cond_true] at h
   split at h
   ·
    rename_i v hv; exact ⟨v,by simp [hv],h⟩
   ·
    cases h
  | false =>
   simp only [cond_false] at h
   split at h
   ·
    rename_i v hv; exact ⟨v,by simp [hv],h⟩
   ·
    cases h
 ·
  cases h
def un1 (d:D) : D:=match d with
 | .agg [x]=>x
 | d=>d
theorem un1_cells {d:D} {s:Sc} {x:D} (h:castC s (un1 d) = some x) (hs:s ≠ .any) : d.cells = [un1 d]:=by
 unfold un1 at h ⊢
 split at h
 ·
  rfl
 ·
  exact noAgg_cells (castC_noAgg h hs)
def loadS (l:List Sc) (d:D) (K:AV → Option β) : Option β:=match l with
 | [s]=>match s with
  | .any=>castDZ (.st [.any]) d fun d'=>K (.im d')
  | s=>castCZ s (un1 d) fun x=>K (.im (.agg [x]))
 | l=>castDZ (.st l) d fun d'=>K (.im d')
theorem castDZ_load {l : List Sc} {d : D} {K : AV → Option β} (h : castDZ (.st l) d (fun d' => K (.im d')) = some r) : ∃ v v', part' true l.length (d.cells.map .im) 0 = some v ∧ castV (.v (.st l)) v = some v' ∧ K v' = some r := by
 obtain ⟨x,hx,h⟩:=castDZ_spec h
 refine ⟨.im d,.im x,?_,by simp only [castV,hx],h⟩
 unfold castD at hx
 simp only at hx
 split at hx
 ·
  rename_i cs hd
  split at hx
  ·
   rename_i l' hl'
   have:=castCs_len hl'
   cases d <;> simp [D.asAgg] at hd
   subst hd
   rename_i cs
   have e : part' true l.length (cs.map AV.im) 0 = some (mkAgg (cs.map AV.im)):=by
    have h1 : l.length ≤ cs.length:=by omega
    have h2 : (cs.map AV.im).take l.length = cs.map AV.im:=List.take_of_length_le (by simp; omega)
    simp [part', h1, h2]
   rw [mkAgg_mapim] at e
   exact e
  ·
   simp at hx
 ·
  simp at hx
theorem loadS_spec {l : List Sc} {d : D} {K : AV → Option β} (h : loadS l d K = some r) : ∃ v v', part' true l.length (d.cells.map .im) 0 = some v ∧ castV (.v (.st l)) v = some v' ∧ K v' = some r := by
 unfold loadS at h
 split at h
 ·
  split at h
  ·
   exact castDZ_load h
  ·
   rename_i s hs
   obtain ⟨x,hx,h⟩:=castCZ_spec h
   refine ⟨.im (.agg [un1 d]),.im (.agg [x]),?_,?_,h⟩
   ·
    rw [un1_cells hx (fun e=>hs e)]
    rfl
   ·
    simp only [castV,castD,D.asAgg,castCs,hx]
 ·
  exact castDZ_load h
def loadDZ (agg:Bool) (sz bsz:Nat) (d:D) (k:Nat) (c:Cs) (K:AV → Option β) : Option β :=
 if k == 0 && sz == bsz then match c with
  | .v (.c .any)=>if !agg && sz == 1 then grdZ (d.noAgg = true) (K (.im d)) else none
  | .v (.c s)=>if !agg && sz == 1 then castCZ s (un1 d) fun d'=>K (.im d') else none
  | .v (.st l)=>if agg && l.length == sz then loadS l d K else none
  | c=>match part' agg sz (d.cells.map .im) k with
   | some v=>castVZ c v K
   | none=>none
 else if agg then match part' agg sz (d.cells.map .im) k with
   | some v=>castVZ c v K
   | none=>none
  else optZ d.asAgg fun cs=>optZ cs[k]? fun x=>castVZ c (.im x) K
theorem loadDZ_spec {agg : Bool} {sz bsz : Nat} {d : D} {k : Nat} {c : Cs} {K : AV → Option β} (h : loadDZ agg sz bsz d k c K = some r) : ∃ v v', part' agg sz (d.cells.map .im) k = some v ∧ castV c v = some v' ∧ K v' = some r := by
 unfold loadDZ at h
 split at h
 ·
  rename_i hk
  simp only [Bool.and_eq_true,beq_iff_eq] at hk
  obtain ⟨rfl,hsz⟩:=hk
  split at h
  ·
   split at h
   ·
    rename_i hc
    simp only [Bool.and_eq_true,beq_iff_eq,Bool.not_eq_true'] at hc
    obtain ⟨ha,hs⟩:=hc
    obtain ⟨hn,h⟩:=grdZ_spec h
    refine ⟨.im d,.im d,?_,rfl,h⟩
    rw [noAgg_cells hn,ha]
    rfl
   ·
    cases h
  ·
   rename_i s hs
   split at h
   ·
    rename_i hc
    simp only [Bool.and_eq_true,beq_iff_eq,Bool.not_eq_true'] at hc
    obtain ⟨ha,hsz1⟩:=hc
    obtain ⟨x,hx,h⟩:=castCZ_spec h
    refine ⟨.im (un1 d),.im x,?_,?_,h⟩
    ·
     rw [un1_cells hx (fun e=>hs e),ha]
     rfl
    ·
     simp only [castV,castD,hx]
   ·
    cases h
  ·
   rename_i l
   split at h
   ·
    rename_i hc
    simp only [Bool.and_eq_true,beq_iff_eq] at hc
    obtain ⟨ha,hl⟩:=hc
    obtain ⟨v, v', h1, h2, h3⟩ := loadS_spec h
    refine ⟨v, v', ?_, h2, h3⟩
    rw [ha,← hl]
    exact h1
   ·
    cases h
  ·
   split at h
   ·
    rename_i hv
    obtain ⟨x,hx,h⟩:=castVZ_spec h
    exact ⟨_,x,hv,hx,h⟩
   ·
    cases h
 ·
  split at h
  ·
   split at h
   ·
    rename_i hv
    obtain ⟨x,hx,h⟩:=castVZ_spec h
    exact ⟨_,x,hv,hx,h⟩
   ·
    cases h
  ·
   rename_i ha
   obtain ⟨cs,hd,h⟩:=optZ_spec h
   obtain ⟨x,hx,h⟩:=optZ_spec h
   obtain ⟨y,hy,h⟩:=castVZ_spec h
   refine ⟨.im x,y,?_,hy,h⟩
   cases d <;> simp [D.asAgg] at hd
   subst hd
   simp only [Bool.not_eq_true] at ha
   rw [ha]
   simp [part', D.cells, hx]
def partZ (agg:Bool) (sz:Nat) (cs:List AV) (k:Nat) (c:Cs) (K:AV → Option β) : Option β:=match part' agg sz cs k with
 | some v=>castVZ c v K
 | none=>none
theorem partZ_spec {agg : Bool} {sz : Nat} {cs : List AV} {k : Nat} {c : Cs} {K : AV → Option β} (h : partZ agg sz cs k c K = some r) : ∃ v v', part' agg sz cs k = some v ∧ castV c v = some v' ∧ K v' = some r := by
 unfold partZ at h
 split at h
 ·
  rename_i hv
  obtain ⟨x,hx,h⟩:=castVZ_spec h
  exact ⟨_,x,hv,hx,h⟩
 ·
  cases h
def loadZ (T:Tab) (c:Cs) (env:Env) (H:Heap) (t:TypeId) (a:Operand) (K:AV → Option β) : Option β:=match T.ty t with
 | some i=>match opd env a with
  | some (.ptr id j k)=>match H[id]? with
   | some (some b)=>match b with
    | .c sz ds=>optZ ds[j]? fun d=>loadDZ (isAggD i.desc) i.size sz d k c K
    | .m sz es=>optZ es[j]? fun e=>partZ (isAggD i.desc) i.size e.cells k c K
    | .o _=>none
   | _=>none
  | some (.pe d k)=>partZ (isAggD i.desc) i.size (d.cells.map .im) k c K
  | _=>none
 | none=>none
theorem loadZ_spec {T : Tab} {c : Cs} {env : Env} {H : Heap} {o : Oper} {t : TypeId} {a : Operand} (ho : o.op = .load t a) {K : AV → Option β} (h : loadZ T c env H t a K = some r) : ∃ v v', ev0 T env H o = some v ∧ castV c v = some v' ∧ K v' = some r := by
 unfold loadZ at h
 unfold ev0
 rw [ho]
 simp only
 split at h
 ·
  rename_i i hi
  split at h
  ·
   rename_i id j k ha
   split at h
   ·
    rename_i b hb
    split at h
    ·
     rename_i sz ds
     obtain ⟨d,hd,h⟩:=optZ_spec h
     obtain ⟨v, v', h1, h2, h3⟩ := loadDZ_spec h
     refine ⟨v, v', ?_, h2, h3⟩
     rw [← h1]
     simp [hi,ha,elem,hb,Blk.get,hd,im_cells]
    ·
     rename_i sz es
     obtain ⟨d,hd,h⟩:=optZ_spec h
     obtain ⟨v, v', h1, h2, h3⟩ := partZ_spec h
     refine ⟨v, v', ?_, h2, h3⟩
     rw [← h1]
     simp [hi,ha,elem,hb,Blk.get,hd]
    ·
     cases h
   ·
    cases h
  ·
   rename_i d k ha
   obtain ⟨v, v', h1, h2, h3⟩ := partZ_spec h
   refine ⟨v, v', ?_, h2, h3⟩
   rw [← h1]
   simp [hi,ha]
  ·
   cases h
 ·
  cases h
def makeSliceZ (T:Tab) (env:Env) (id:Nat) (t:TypeId) (l c:Operand) (K:AV → Option Blk → Option β) : Option β:=match T.ty t with
 | some ⟨.slice e,_,_,_⟩=>match T.ty e with
  | some ie=>match constD ie.zero,opd env l,opd env c with
   | some z,some (.im (.int _ n)),some (.im (.int _ m)) =>
    if z.cells.length == ie.size && ie.size != 0 then grdZ (n = m) (grdZ (0 ≤ n) (grdZ (n * ie.bytes ≤ 140737488355328) (grdZ (n ≤ 140737488355328) (K (.ref id 0 (rep n.toNat z).length) (some (.c ie.size (rep n.toNat z))))))) else none
   | _,_,_=>none
  | none=>none
 | _=>none
theorem makeSliceZ_spec {T:Tab} {own:Nat → Bool} {env:Env} {id:Nat} {o:Oper} {t:TypeId} {l c:Operand} (ho:o.op = .makeSlice t l c) {K:AV → Option Blk → Option β} (h:makeSliceZ T env id t l c K = some r) :
  ∃ ans,ev1 T own env o = some ans ∧ K (ans.av id) ans.blk = some r:=by
 unfold makeSliceZ at h
 unfold ev1
 rw [ho]
 simp only
 split at h
 ·
  split at h
  ·
   split at h
   ·
    split at h
    ·
     rename_i hc
     obtain ⟨h1,h⟩:=grdZ_spec h
     obtain ⟨h2,h⟩:=grdZ_spec h
     obtain ⟨h3,h⟩:=grdZ_spec h
     obtain ⟨h4,h⟩:=grdZ_spec h
     simp only [Bool.and_eq_true] at hc
     rename_i ie _ _ _ _ z _ n _ m hz hl hm _ _ _ _
     refine ⟨.row (.c ie.size (rep n.toNat z)),?_,h⟩
     simp only [*]
     rw [if_pos]
     simp only [Bool.and_eq_true,hc,h1,decide_eq_true_eq,beq_self_eq_true]
     subst h1
     exact ⟨⟨⟨⟨⟨trivial,trivial⟩,trivial⟩,h2⟩,h3⟩,h4⟩
    ·
     cases h
   ·
    cases h
  ·
   cases h
 ·
  cases h
def storePZ (H:Heap) (id j:Nat) (b:Blk) (k sz:Nat) (v:AV) (K:Heap → Option β) : Option β:=match b.get j with
 | some e=>grdZ (k + sz ≤ e.cells.length) (K (H.set id (some (b.put j (mkEl (spl e.cells k v.cells))))))
 | none=>none
def evSZ (T:Tab) (env:Env) (H:Heap) (o:Oper) (K:Heap → Option β) : Option β:=match o.op with
 | .store t x y=>match T.ty t,opd env x,opd env y with
  | some i,some (.ptr id j k),some v=>match H[id]? with
   | some (some b)=>if v.cells.length == i.size && i.size != 0 && v.cells.all okCell then
     (if k == 0 && i.size == b.sz then grdZ (j < b.len) (K (H.set id (some (b.put j (mkEl v.cells)))))
     else match b with
      | .c sz ds=>match clo v with
       | some d=>if i.size == 1 && d.noAgg then optZ ds[j]? fun e=>optZ e.asAgg fun cs=>grdZ (cs.length ≠ 1) (grdZ (k < cs.length) (K (H.set id (some (.c sz (ds.set j (.agg (cs.set k d))))))))
        else storePZ H id j (.c sz ds) k i.size v K
       | none=>storePZ H id j (.c sz ds) k i.size v K
      | .m sz es=>storePZ H id j (.m sz es) k i.size v K
      | .o _=>none)
    else none
   | _=>none
  | _,_,_=>none
 | _=>none
theorem evSZ_spec {T : Tab} {env : Env} {H : Heap} {o : Oper} {K : Heap → Option β} (h : evSZ T env H o K = some r) : ∃ H', evS T env H o = some H' ∧ K H' = some r := by
 unfold evSZ at h
 split at h
 ·
  rename_i t x y ho
  split at h
  ·
   rename_i i id j k v hi hx hy
   split at h
   ·
    rename_i b hb
    split at h
    ·
     rename_i hc
     split at h
     ·
      rename_i hk
      obtain ⟨hj,h⟩:=grdZ_spec h
      refine ⟨_,?_,h⟩
      unfold evS
      rw [ho]
      simp only [hi,hx,hy,hb]
      rw [if_pos hc,if_pos hk,if_pos hj]
     ·
      rename_i hk
      have gen : ∀ {b : Blk}, H[id]? = some (some b) → ¬ (k == 0 && i.size == b.sz) = true → storePZ H id j b k i.size v K = some r → ∃ H', evS T env H o = some H' ∧ K H' = some r := by
       intro b hb hk h
       unfold storePZ at h
       split at h
       ·
        rename_i e he
        obtain ⟨h1,h⟩:=grdZ_spec h
        refine ⟨_,?_,h⟩
        unfold evS
        rw [ho]
        simp only [hi,hx,hy,hb]
        rw [if_pos hc,if_neg hk]
        simp only [he]
        rw [if_pos h1]
       ·
        cases h
      split at h
      ·
       rename_i sz ds
       split at h
       ·
        rename_i d hd
        split at h
        ·
         rename_i hs1
         obtain ⟨e,he,h⟩:=optZ_spec h
         obtain ⟨cs,hcs,h⟩:=optZ_spec h
         obtain ⟨hl1,h⟩:=grdZ_spec h
         obtain ⟨hkl,hfin⟩:=grdZ_spec h
         refine gen hb hk ?_
         have hv:=clo_eq hd
         subst hv
         simp only [Bool.and_eq_true,beq_iff_eq] at hs1
         have hee:=asAgg_eq hcs
         subst hee
         have hd1 : (AV.im d).cells = [.im d]:=by rw [im_cells,noAgg_cells hs1.2]; rfl
         have hg : (Blk.c sz ds).get j = some (.im (.agg cs)):=by simp [Blk.get,he]
         unfold storePZ
         simp only [hg]
         refine grdZ_mk (by simp [AV.cells]; omega) ?_
         have : mkEl (spl (AV.im (.agg cs)).cells k (AV.im d).cells) = .im (.agg (cs.set k d)):=by
          rw [hd1]
          simp only [AV.cells,spl,set_mapim]
          exact mkEl_mapim (by simpa using hl1)
         rw [this]
         exact hfin
        ·
         exact gen hb hk h
       ·
        exact gen hb hk h
      ·
       exact gen hb hk h
      ·
       cases h
    ·
     cases h
   ·
    cases h
  ·
   cases h
 ·
  cases h
def evAZ (T:Tab) (nl:Nat) (env:Env) (H:Heap) (o:Oper) (K:AV → Env → Heap → Option β) : Option β:=match o.op with
 | .call { callee:=.builtin .append,args,argTypes }=>match argTypes.toList,opds env args.toList with
  | [t,t'],some [s,x]=>if t == t' then match T.ty t with
   | some ⟨.slice e,_,_,_⟩=>match T.ty e with
    | some ie=>match constD ie.zero,srcB ie.size H s,srcB ie.size H x with
     | some z,some bs,some bx=>if ie.size != 0 && z.cells.length == ie.size then
       cond (bx.es.all (fun e=>e.cells.all okCell)) (grdZ ((bs.app ie.size bx).len * ie.bytes ≤ 140737488355328) (grdZ ((bs.app ie.size bx).len ≤ 140737488355328) (match s with
        | .ref id _ _ =>
         if Nat.ble nl id then K (.ref id 0 ((bs.app ie.size bx).sub id (fun _ _=>.bad)).len) (AV.subs id (fun _ _=>.bad) env) (((Heap.sub id (fun _ _=>.bad) H).set id none).set id (some ((bs.app ie.size bx).sub id (fun _ _=>.bad))))
         else K (.ref H.length 0 ((bs.app ie.size bx).sub id (fun _ _=>.bad)).len) (AV.subs id (fun _ _=>.bad) env) (((Heap.sub id (fun _ _=>.bad) H).set id none) ++ [some ((bs.app ie.size bx).sub id (fun _ _=>.bad))])
        | .im (.sl _ 0 [])=>K (.ref H.length 0 (bs.app ie.size bx).len) env (H ++ [some (bs.app ie.size bx)])
        | .im (.sl true _ _)=>grdZ (bx.len ≠ 0) (K (.ref H.length 0 (bs.app ie.size bx).len) env (H ++ [some (bs.app ie.size bx)]))
        | _=>none))) none
      else none
     | _,_,_=>none
    | none=>none
   | _=>none
   else none
  | _,_=>none
 | _=>none
theorem evAZ_spec {T : Tab} {nl : Nat} {env : Env} {H : Heap} {o : Oper} {K : AV → Env → Heap → Option β} (h : evAZ T nl env H o K = some r) : ∃ v env' H', evA T nl env H o = some (v, env', H') ∧ K v env' H' = some r := by
 unfold evAZ at h
 split at h
 ·
  rename_i args argTypes ho
  split at h
  ·
   rename_i t t' s x hats hargs
   split at h
   ·
    rename_i htt
    split at h
    ·
     rename_i e i1 i2 i3 hty
     split at h
     ·
      rename_i ie hie
      split at h
      ·
       rename_i z bs bx hz hbs hbx
       split at h
       ·
        rename_i hc
        cases hb : bx.es.all (fun e=>e.cells.all okCell) with
        | false=>rw [hb] at h; cases h
        | true =>
         rw [hb] at h
         obtain ⟨h1,h⟩:=grdZ_spec h
         obtain ⟨h2,h⟩:=grdZ_spec h
         have c1 : (ie.size != 0 && z.cells.length == ie.size && bx.es.all (fun e=>e.cells.all okCell)) = true:=by rw [hb,hc]; rfl
         have c2 : (decide ((bs.app ie.size bx).len * ie.bytes ≤ 140737488355328) && decide ((bs.app ie.size bx).len ≤ 140737488355328)) = true:=by
          simp only [Bool.and_eq_true,decide_eq_true_eq]
          exact ⟨h1,h2⟩
         split at h
         ·
          split at h
          ·
           rename_i hn
           refine ⟨_,_,_,?_,h⟩
           unfold evA
           rw [ho]
           simp only [hats,hargs,htt,if_true,hty,hie,hz,hbs,hbx]
           rw [if_pos c1,if_pos c2,if_pos hn]
          ·
           rename_i hn
           refine ⟨_,_,_,?_,h⟩
           unfold evA
           rw [ho]
           simp only [hats,hargs,htt,if_true,hty,hie,hz,hbs,hbx]
           rw [if_pos c1,if_pos c2,if_neg hn]
         ·
          refine ⟨_,_,_,?_,h⟩
          unfold evA
          rw [ho]
          simp only [hats,hargs,htt,if_true,hty,hie,hz,hbs,hbx]
          rw [if_pos c1,if_pos c2]
         ·
          rename_i hno
          obtain ⟨h3,h⟩:=grdZ_spec h
          have h3 : (bx.len != 0) = true:=by simpa using h3
          refine ⟨_,_,_,?_,h⟩
          unfold evA
          rw [ho]
          simp only [hats,hargs,htt,if_true,hty,hie,hz,hbs,hbx]
          rw [if_pos c1,if_pos c2]
          rw [if_pos h3]
         ·
          cases h
       ·
        cases h
      ·
       cases h
     ·
      cases h
    ·
     cases h
   ·
    cases h
  ·
   cases h
 ·
  cases h
end
end Go.AM.S
/- The abstract machine,part S1: single operations of a region,and calls,with an answer. -/
namespace Go.AM.S
open Go.AM
inductive Hm where
 | any
 | int (k:IntKind)
 | bool
 | str
 | ref (id:Nat)
 | ptr (id j k:Nat)
 | mp (id:Nat)
 | sl (z:Nat)
abbrev Hm.T : Hm → Type
 | .any=>D
 | .int _=>Int
 | .bool=>Bool
 | .str=>List UInt8
 | .ref _=>Nat
 | .ptr _ _ _=>Unit
 | .mp _=>Unit
 | .sl _=>List D
def Hm.enc : (s:Hm) → s.T → AV
 | .any,d=>.im d
 | .int k,n=>.im (.int k n)
 | .bool,b=>.im (.bool b)
 | .str,s=>.im (.str s)
 | .ref id,n=>.ref id 0 n
 | .ptr id j k,_=>.ptr id j k
 | .mp id,_=>.mp id
 | .sl z,l=>.im (.sl false z l)
def Hm.dec : (s:Hm) → AV → Option s.T
 | .any,v=>match v with
  | .im d=>some d
  | _=>none
 | .int k,v=>match v with
  | .im (.int k' n)=>if Nat.beq k'.ctorIdx k.ctorIdx then some n else none
  | _=>none
 | .bool,v=>match v with
  | .im (.bool b)=>some b
  | _=>none
 | .str,v=>match v with
  | .im (.str s)=>some s
  | _=>none
 | .ref id,v=>match v with
  | .ref i o n=>if Nat.beq i id && Nat.beq o 0 then some n else none
  | _=>none
 | .ptr id j k,v=>match v with
  | .ptr a b c=>if Nat.beq a id && Nat.beq b j && Nat.beq c k then some () else none
  | _=>none
 | .mp id,v=>match v with
  | .mp a=>if Nat.beq a id then some () else none
  | _=>none
 | .sl z,v=>match v with
  | .im (.sl false y l)=>if Nat.beq y z then some l else none
  | _=>none
theorem Hm.dec_eq {s:Hm} {v:AV} {x:s.T} (h:s.dec v = some x) : v = s.enc x:=by
 cases s <;> simp only [Hm.dec] at h <;> (try split at h) <;> (try cases h) <;> (try rfl)
 ·
  split at h
  ·
   rename_i hk; cases h; rw [kind_eq hk]; rfl
  ·
   cases h
 ·
  split at h
  ·
   rename_i hk
   simp only [Bool.and_eq_true,Nat.beq_eq] at hk
   cases h; rw [hk.1,hk.2]; rfl
  ·
   cases h
 ·
  split at h
  ·
   rename_i hk
   simp only [Bool.and_eq_true,Nat.beq_eq] at hk
   rw [hk.1.1,hk.1.2,hk.2]; rfl
  ·
   cases h
 ·
  split at h
  ·
   rename_i hk
   rw [Nat.beq_eq] at hk
   rw [hk]; rfl
  ·
   cases h
 ·
  split at h
  ·
   rename_i hk
   rw [Nat.beq_eq] at hk
   cases h
   rw [hk]; rfl
  ·
   cases h
abbrev Hms.T : List Hm → Type
 | []=>Unit
 | s :: ss=>s.T × Hms.T ss
def Hms.enc : (l:List Hm) → Hms.T l → List AV
 | [],_=>[]
 | s :: ss,p=>s.enc p.1 :: Hms.enc ss p.2
def Hms.dec : (l:List Hm) → List AV → Option (Hms.T l)
 | [],vs=>match vs with
  | []=>some ()
  | _ :: _=>none
 | s :: ss,vs=>match vs with
  | []=>none
  | v :: vs=>match s.dec v,Hms.dec ss vs with
   | some x,some y=>some (x,y)
   | _,_=>none
theorem Hms.dec_eq : ∀ {l:List Hm} {vs:List AV} {x:Hms.T l},Hms.dec l vs = some x → vs = Hms.enc l x
 | [],vs,x,h=>by
  unfold Hms.dec at h
  split at h
  ·
   rfl
  ·
   cases h
 | s :: ss,vs,x,h=>by
  unfold Hms.dec at h
  split at h
  ·
   cases h
  ·
   split at h
   ·
    rename_i hx hy
    cases h
    rw [Hm.dec_eq hx,Hms.dec_eq hy]
    rfl
   ·
    cases h
def encR (l:List Hm) (x:Hms.T l) : AV:=oneOf (Hms.enc l x)
def decR : (l:List Hm) → AV → Option (Hms.T l)
 | [],v=>match v with
  | .tup vs=>Hms.dec [] vs
  | _=>none
 | [s],v=>match s.dec v with
  | some x=>some (x,())
  | none=>none
 | s :: t :: ss,v=>match v with
  | .tup vs=>Hms.dec (s :: t :: ss) vs
  | _=>none
theorem decR_eq : ∀ {l:List Hm} {v:AV} {x:Hms.T l},decR l v = some x → v = encR l x
 | [],v,x,h=>by
  simp only [decR] at h
  split at h
  ·
   rw [Hms.dec_eq h]; rfl
  ·
   cases h
 | [s],v,x,h=>by
  simp only [decR] at h
  split at h
  ·
   rename_i hx
   cases h
   exact Hm.dec_eq hx
  ·
   cases h
 | s :: t :: ss,v,x,h=>by
  simp only [decR] at h
  split at h
  ·
   rw [Hms.dec_eq h]; rfl
  ·
   cases h
def encD (v:AV) : D:=match v with
 | .im d=>d
 | _=>.nilp
inductive Hb where
 | row (sz:Nat)
 | c (l:List Hm)
 | m (l:List Hm)
 | o
 | gone
abbrev Hb.T : Hb → Type
 | .row _=>List D
 | .c l=>Hms.T l
 | .m l=>Hms.T l
 | .o=>List D
 | .gone=>Unit
def elD : List AV → D
 | [v]=>encD v
 | vs=>.agg (vs.map encD)
def elV : List AV → AV
 | [v]=>v
 | vs=>.agg vs
def Hb.enc : (b:Hb) → b.T → Option Blk
 | .row sz,ds=>some (.c sz ds)
 | .c l,x=>some (.c l.length [elD (Hms.enc l x)])
 | .m l,x=>some (.m l.length [elV (Hms.enc l x)])
 | .o,ds=>some (.o ds)
 | .gone,_=>none
def unD : List Hm → D → Option (List AV)
 | [],_=>none
 | [_],d=>some [.im d]
 | _ :: _ :: _,d=>match d with
  | .agg cs=>some (cs.map .im)
  | _=>none
def unV : List Hm → AV → Option (List AV)
 | [],_=>none
 | [_],v=>some [v]
 | _ :: _ :: _,v=>match v with
  | .agg cs=>some cs
  | _=>none
def Hb.dec : (b:Hb) → Option Blk → Option b.T
 | .row sz,b=>match b with
  | some (.c z ds)=>if Nat.beq z sz then some ds else none
  | _=>none
 | .c l,b=>match b with
  | some (.c z [d])=>match Nat.beq z l.length with
   | true=>match unD l d with
    | some vs=>Hms.dec l vs
    | none=>none
   | false=>none
  | _=>none
 | .m l,b=>match b with
  | some (.m z [v])=>match Nat.beq z l.length with
   | true=>match unV l v with
    | some vs=>Hms.dec l vs
    | none=>none
   | false=>none
  | _=>none
 | .o,b=>match b with
  | some (.o ds)=>some ds
  | _=>none
 | .gone,b=>match b with
  | none=>some ()
  | some _=>none
theorem unD_eq : ∀ {l:List Hm} {d:D} {vs:List AV},unD l d = some vs → ∀ {x:Hms.T l},vs = Hms.enc l x → d = elD (Hms.enc l x)
 | [],d,vs,h,x,hx=>by cases h
 | [s],d,vs,h,x,hx=>by
  cases h
  rw [← hx]; rfl
 | s :: t :: ss,d,vs,h,x,hx=>by
  rw [← hx]
  simp only [unD] at h
  split at h
  ·
   rename_i cs
   cases h
   match cs,hx with
   | [],hx=>cases hx
   | [c],hx =>
    have:=congrArg List.length hx
    simp [Hms.enc] at this
   | a :: b :: cs,_ =>
    show D.agg (a :: b :: cs) = .agg (((a :: b :: cs).map AV.im).map encD)
    rw [List.map_map]
    have : (encD ∘ AV.im) = id:=rfl
    rw [this,List.map_id]
  ·
   cases h
theorem unV_eq : ∀ {l:List Hm} {v:AV} {vs:List AV},unV l v = some vs → ∀ {x:Hms.T l},vs = Hms.enc l x → v = elV (Hms.enc l x)
 | [],v,vs,h,x,hx=>by cases h
 | [s],v,vs,h,x,hx=>by
  cases h
  rw [← hx]; rfl
 | s :: t :: ss,v,vs,h,x,hx=>by
  simp only [unV] at h
  split at h
  ·
   rename_i cs
   cases h
   rw [hx]; rfl
  ·
   cases h
theorem Hb.dec_eq {b:Hb} {x:Option Blk} {y:b.T} (h:b.dec x = some y) : x = b.enc y:=by
 cases b <;> simp only [Hb.dec] at h
 ·
  split at h
  ·
   split at h
   ·
    rename_i hz
    rw [Nat.beq_eq] at hz
    cases h; rw [hz]; rfl
   ·
    cases h
  ·
   cases h
 ·
  split at h
  ·
   split at h
   ·
    rename_i hz
    rw [Nat.beq_eq] at hz
    split at h
    ·
     rename_i vs hv
     rw [unD_eq hv (Hms.dec_eq h),hz]; rfl
    ·
     cases h
   ·
    cases h
  ·
   cases h
 ·
  split at h
  ·
   split at h
   ·
    rename_i hz
    rw [Nat.beq_eq] at hz
    split at h
    ·
     rename_i vs hv
     rw [unV_eq hv (Hms.dec_eq h),hz]; rfl
    ·
     cases h
   ·
    cases h
  ·
   cases h
 ·
  split at h
  ·
   cases h; rfl
  ·
   cases h
 ·
  split at h
  ·
   rfl
  ·
   cases h
abbrev Hbs.T : List Hb → Type
 | []=>Unit
 | s :: ss=>s.T × Hbs.T ss
def Hbs.enc : (l:List Hb) → Hbs.T l → Heap
 | [],_=>[]
 | s :: ss,p=>s.enc p.1 :: Hbs.enc ss p.2
def Hbs.dec : (l:List Hb) → Heap → Option (Hbs.T l)
 | [],vs=>match vs with
  | []=>some ()
  | _ :: _=>none
 | s :: ss,vs=>match vs with
  | []=>none
  | v :: vs=>match s.dec v,Hbs.dec ss vs with
   | some x,some y=>some (x,y)
   | _,_=>none
theorem Hbs.dec_eq : ∀ {l:List Hb} {vs:Heap} {x:Hbs.T l},Hbs.dec l vs = some x → vs = Hbs.enc l x
 | [],vs,x,h=>by
  unfold Hbs.dec at h
  split at h
  ·
   rfl
  ·
   cases h
 | s :: ss,vs,x,h=>by
  unfold Hbs.dec at h
  split at h
  ·
   cases h
  ·
   split at h
   ·
    rename_i hx hy
    cases h
    rw [Hb.dec_eq hx,Hbs.dec_eq hy]
    rfl
   ·
    cases h
structure Sg where
 rs : List Hm:=[]
 hs : List Hb:=[]
abbrev Run (β:Type):=List AV → Heap → (AV → Heap → Option β) → Option β
structure Sgs (β:Type) where
 ty : TypeId → List Hm
 fn : FuncId → Option Sg
 inl : FuncId → Option (Run β)
def Sgs.of {β:Type} (s:Sgs β) (g:FuncId) (t:TypeId) : Sg:=match s.fn g with
 | some x=>x
 | none=>⟨s.ty t,[]⟩
def pureS (cs:Oracle) (l:List Hm) (g:FuncId) (as:List AV) : Option (Hms.T l):=match cs g as [] with
 | some (res,H')=>match snap H' 12 res with
  | some v=>decR l v
  | none=>none
 | none=>none
def plainS (cs:Oracle) (l:List Hm) (g:FuncId) (as:List AV) : Option (Hms.T l):=match cs g as [] with
 | some (res,_)=>if plainR res then decR l res else none
 | none=>none
def lentS (cs:Oracle) (s:Sg) (g:FuncId) (as:List AV) (H:Heap) : Option (Hms.T s.rs × Hbs.T s.hs):=match cs g as H with
 | some (res,H')=>match decR s.rs res,Hbs.dec s.hs H' with
  | some x,some y=>some (x,y)
  | _,_=>none
 | none=>none
section
variable {β:Type} {r:β}
def callPZ (cs:Oracle) (l:List Hm) (H:Heap) (g:FuncId) (as:List AV) (K:AV → Option β) : Option β :=
 if (AV.idss as).isEmpty then optZ (pureS cs l g as) fun x=>K (encR l x)
 else match mapO (snap H 12) as with
  | some bs=>optZ (plainS cs l g bs) fun x=>K (encR l x)
  | none=>none
theorem callPZ_spec {cs:Oracle} {l:List Hm} {H:Heap} {g:FuncId} {as:List AV} {K:AV → Option β} (h:callPZ cs l H g as K = some r) : ∃ v,callP cs H g as = some v ∧ K v = some r:=by
 unfold callPZ at h
 unfold callP
 split at h
 ·
  rename_i hi
  rw [if_pos hi]
  obtain ⟨x,hx,h⟩:=optZ_spec h
  unfold pureS at hx
  split at hx
  ·
   rename_i res H' hc
   split at hx
   ·
    rename_i v hv
    have:=decR_eq hx
    subst this
    exact ⟨_,by rw [hc]; exact hv,h⟩
   ·
    cases hx
  ·
   cases hx
 ·
  rename_i hi
  rw [if_neg hi]
  split at h
  ·
   rename_i bs hbs
   obtain ⟨x,hx,h⟩:=optZ_spec h
   unfold plainS at hx
   split at hx
   ·
    rename_i res H' hc
    split at hx
    ·
     rename_i hp
     have:=decR_eq hx
     subst this
     exact ⟨_,by simp only [hbs,hc,hp,if_true],h⟩
    ·
     cases hx
   ·
    cases hx
  ·
   cases h
def Sgs.Ok (sg:Sgs β) (cs:Oracle) (r:β) : Prop:=∀ g run,sg.inl g = some run → ∀ as H K,run as H K = some r → ∃ v H2,cs g as H = some (v,H2) ∧ K v H2 = some r
theorem Sgs.ok_none {sg:Sgs β} (h:sg.inl = fun _=>none) (cs:Oracle) (r:β) : sg.Ok cs r:=fun g run hr=>by rw [h] at hr; cases hr
def callIZ (run:Run β) (env:Env) (H:Heap) (as:List AV) (K:AV → Env → Heap → Option β) : Option β :=
 run (AV.rens (posn (reach H 400 (AV.idss as) [])) as) (pickH H (reach H 400 (AV.idss as) [])) fun v H2 =>
  K (AV.ren (backF (reach H 400 (AV.idss as) []) H.length) v) (AV.rens (keepF (reach H 400 (AV.idss as) []) H2) env) (backH (reach H 400 (AV.idss as) []) H H2)
theorem callIZ_spec {cs:Oracle} {sg:Sgs β} {run:Run β} {env:Env} {H:Heap} {g:FuncId} {as:List AV} {K:AV → Env → Heap → Option β} (hI:sg.Ok cs r) (hg:sg.inl g = some run) (h:callIZ run env H as K = some r) :
  ∃ v env' H', callL cs env H g as = some (v, env', H') ∧ K v env' H' = some r := by
 unfold callIZ at h
 obtain ⟨v,H2,hc,h⟩:=hI g run hg _ _ _ h
 exact ⟨_,_,_,by unfold callL; rw [hc],h⟩
def callLZ (cs:Oracle) (s:Sg) (env:Env) (H:Heap) (g:FuncId) (as:List AV) (K:AV → Env → Heap → Option β) : Option β :=
 optZ (lentS cs s g (AV.rens (posn (reach H 400 (AV.idss as) [])) as) (pickH H (reach H 400 (AV.idss as) []))) fun x =>
  K (AV.ren (backF (reach H 400 (AV.idss as) []) H.length) (encR s.rs x.1)) (AV.rens (keepF (reach H 400 (AV.idss as) []) (Hbs.enc s.hs x.2)) env) (backH (reach H 400 (AV.idss as) []) H (Hbs.enc s.hs x.2))
theorem callLZ_spec {cs:Oracle} {s:Sg} {env:Env} {H:Heap} {g:FuncId} {as:List AV} {K:AV → Env → Heap → Option β} (h:callLZ cs s env H g as K = some r) :
  ∃ v env' H', callL cs env H g as = some (v, env', H') ∧ K v env' H' = some r := by
 unfold callLZ at h
 obtain ⟨x,hx,h⟩:=optZ_spec h
 unfold lentS at hx
 split at hx
 ·
  rename_i res H' hc
  split at hx
  ·
   rename_i a b ha hb
   cases hx
   have:=decR_eq ha
   subst this
   have:=Hbs.dec_eq hb
   subst this
   exact ⟨_,_,_,by unfold callL; rw [hc],h⟩
  ·
   cases hx
 ·
  cases hx
def restZ (X:Cx) (env:Env) (H:Heap) (id:Nat) (o:Oper) (K:AV → Option Blk → Option β) : Option β:=match ev1 X.T X.own env o with
 | some ans=>castVZ (X.cast o) (ans.av id) fun v=>K v ans.blk
 | none=>match ev0 X.T env H o with
  | some v=>castVZ (X.cast o) v fun v=>K v none
  | none=>match o.op with
   | .call { callee:=.value _,.. }=>none
   | _=>match evX X.T env H id o with
    | some (v,b)=>castVZ (X.cast o) v fun v=>K v b
    | none=>none
def evPZ (X:Cx) (env:Env) (H:Heap) (id:Nat) (o:Oper) (K:AV → Option Blk → Option β) : Option β:=match o.op with
 | .makeSlice t l c=>makeSliceZ X.T env id t l c fun v b=>castVZ (X.cast o) v fun v=>K v b
 | .load t a=>loadZ X.T (X.cast o) env H t a fun v=>K v none
 | .pick c a b=>selZ env c a b fun v=>castVZ (X.cast o) v fun v=>K v none
 | .binOp op t x y _=>binOpZ X.T env H o op t x y fun v=>castVZ (X.cast o) v fun v=>K v none
 | .indexAddr t x i=>indexAddrZ X.T env H t x i fun v=>castVZ (X.cast o) v fun v=>K v none
 | .index t x i=>indexZ X.T env H o t x i fun v=>castVZ (X.cast o) v fun v=>K v none
 | .slice t x lo hi none=>sliceZ X.T env H t x lo hi fun v=>castVZ (X.cast o) v fun v=>K v none
 | _=>restZ X env H id o K
theorem evPZ_spec {X:Cx} {env:Env} {H:Heap} {id:Nat} {o:Oper} {K:AV → Option Blk → Option β} (h:evPZ X env H id o K = some r) : ∃ v b,evP X env H id o = some (v,b) ∧ K v b = some r:=by
 unfold evPZ at h
 split at h
 ·
  rename_i t l c ho
  obtain ⟨ans,ha,h⟩:=makeSliceZ_spec (own:=X.own) ho h
  obtain ⟨v,hv,h⟩:=castVZ_spec h
  exact ⟨_,_,by unfold evP evQ; simp [*],h⟩
 ·
  rename_i t a ho
  obtain ⟨v, v', h0, hc, h⟩ := loadZ_spec ho h
  exact ⟨_,_,evP_of0 (by unfold ev1; rw [ho]) h0 hc,h⟩
 ·
  rename_i c a b ho
  obtain ⟨v,h0,h⟩:=selZ_spec (T:=X.T) (H:=H) ho h
  obtain ⟨v', hc, h⟩ := castVZ_spec h
  exact ⟨_,_,evP_of0 (by unfold ev1; rw [ho]) h0 hc,h⟩
 ·
  rename_i op t x y u ho
  obtain ⟨v,h0,h⟩:=binOpZ_spec ho h
  obtain ⟨v', hc, h⟩ := castVZ_spec h
  exact ⟨_,_,evP_of0 (by unfold ev1; rw [ho]) h0 hc,h⟩
 ·
  rename_i t x i ho
  obtain ⟨v,h0,h⟩:=indexAddrZ_spec ho h
  obtain ⟨v', hc, h⟩ := castVZ_spec h
  exact ⟨_,_,evP_of0 (by unfold ev1; rw [ho]) h0 hc,h⟩
 ·
  rename_i t x i ho
  obtain ⟨v,h0,h⟩:=indexZ_spec ho h
  obtain ⟨v', hc, h⟩ := castVZ_spec h
  exact ⟨_,_,evP_of0 (by unfold ev1; rw [ho]) h0 hc,h⟩
 ·
  rename_i t x lo hi ho
  obtain ⟨v,h0,h⟩:=sliceZ_spec ho h
  obtain ⟨v', hc, h⟩ := castVZ_spec h
  exact ⟨_,_,evP_of0 (by unfold ev1; rw [ho]) h0 hc,h⟩
 ·
  unfold restZ at h
  split at h
  ·
   rename_i ans ha
   obtain ⟨v,hv,h⟩:=castVZ_spec h
   exact ⟨_,_,by unfold evP evQ; simp [*],h⟩
  ·
   rename_i h1
   split at h
   ·
    rename_i v h0
    obtain ⟨v', hc, h⟩ := castVZ_spec h
    exact ⟨_,_,evP_of0 h1 h0 hc,h⟩
   ·
    rename_i h0
    split at h
    ·
     cases h
    ·
     rename_i hno
     have ec : evC X.call env H o = none:=by
      unfold evC
      split
      ·
       rename_i f args ats ho; exact absurd ho (hno _ _ _)
      ·
       rfl
     split at h
     ·
      rename_i v b hx
      obtain ⟨v', hc, h⟩ := castVZ_spec h
      exact ⟨_,_,by unfold evP evQ; simp only [h1,h0,ec,hx,hc],h⟩
     ·
      cases h
noncomputable def putZ (env:Env) (d:Option Tmp) (v:AV) (k:Env → Option β) : Option β:=match d with
 | some d=>setF env d v k
 | none=>k env
theorem putZ_spec {env:Env} {d:Option Tmp} {v:AV} {k:Env → Option β} (h:putZ env d v k = some r) : k (putE env d v) = some r:=by
 cases d with
 | none=>exact h
 | some d=>exact (setF_eq env d v k).symm.trans h
noncomputable def guardZ (ops:Array Oper) (env:Env) (o:Oper) (k1 k0:Env → Option β) : Option β:=match o.guard with
 | none=>k1 env
 | some (j,want)=>match getL ops.toList j with
  | some oj=>match oj.dst with
   | some t=>match getL env t with
    | some (.im (.bool b))=>cond b (setF env t (.im (.bool true)) fun e=>cond want (k1 e) (k0 e)) (setF env t (.im (.bool false)) fun e=>cond want (k0 e) (k1 e))
    | some (.tup _)=>k0 env
    | _=>none
   | none=>none
  | none=>none
theorem guardZ_spec {ops:Array Oper} {env:Env} {o:Oper} {k1 k0:Env → Option β} (h:guardZ ops env o k1 k0 = some r) : (guardOf ops env o = some true ∧ k1 env = some r) ∨ (guardOf ops env o = some false ∧ k0 env = some r):=by
 unfold guardZ at h
 simp only [getL_eq,Array.getElem?_toList] at h
 unfold guardOf
 split at h
 ·
  rename_i hg
  exact .inl ⟨by rw [hg],h⟩
 ·
  rename_i j want hg
  rw [hg]
  simp only
  split at h
  ·
   rename_i oj hj
   split at h
   ·
    rename_i t ht
    split at h
    ·
     rename_i b hb
     cases b with
     | true =>
      have h:=(setF_eq env t _ _).symm.trans h
      rw [set_same hb] at h
      cases want with
      | true=>exact .inl ⟨by simp [hj,ht,hb],h⟩
      | false=>exact .inr ⟨by simp [hj,ht,hb],h⟩
     | false =>
      have h:=(setF_eq env t _ _).symm.trans h
      rw [set_same hb] at h
      cases want with
      | true=>exact .inr ⟨by simp [hj,ht,hb],h⟩
      | false=>exact .inl ⟨by simp [hj,ht,hb],h⟩
    ·
     rename_i vs hb
     exact .inr ⟨by simp [hj,ht,hb],h⟩
    ·
     cases h
   ·
    cases h
  ·
   cases h
def isCall (o:Oper) : Bool:=match o.op with
 | .call { callee:=.value _,.. }=>true
 | _=>false
def callOf (env:Env) (o:Oper) : Option (FuncId × List AV):=match o.op with
 | .call { callee:=.value f,args,.. }=>match opd env f,opds env args.toList with
  | some fv,some as=>match fnOf fv with
   | some (g,a,c)=>some (g,a ++ as ++ c)
   | none=>none
  | _,_=>none
 | _=>none
def stepM (X:Cx) (nl:Nat) (ops:Array Oper) (env:Env) (H:Heap) (o:Oper) : Option (Env × Heap) :=
 match guardOf ops env o with
 | some true=>match isCall o with
  | true=>match callOf env o with
   | some (g,as)=>match X.lend g || X.keep (o.dst.getD 0) with
    | true=>match callL X.call env H g as with
     | some (v, env', H') => match castV (X.cast o) v with
      | some v' => some (putE env' o.dst v', H')
      | none=>none
     | none=>none
    | false=>match callP X.call H g as with
     | some v=>match castV (X.cast o) v with
      | some v' => some (putE env o.dst v', H)
      | none=>none
     | none=>none
   | none=>none
  | false=>stepO { X with call:=fun _ _ _=>none } nl ops env H o
 | some false=>some (putE env o.dst (.tup []),H)
 | none=>none
def stepPM (X:Cx) (ops:Array Oper) (env:Env) (H:Heap) (o:Oper) : Option (Env × Heap) :=
 match guardOf ops env o with
 | some true=>match isCall o with
  | true=>match callOf env o with
   | some (g,as)=>match callP X.call H g as with
     | some v=>match castV (X.cast o) v with
      | some v' => some (putE env o.dst v', H)
      | none=>none
     | none=>none
   | none=>none
  | false=>stepP { X with call:=fun _ _ _=>none } ops env H o
 | some false=>some (putE env o.dst (.tup []),H)
 | none=>none
theorem isCall_op {o:Oper} (h:isCall o = true) : ∃ f args ats,o.op = .call { callee:=.value f,args:=args,argTypes:=ats }:=by
 unfold isCall at h
 split at h
 ·
  rename_i f args ats ho; exact ⟨_,_,_,ho⟩
 ·
  cases h
theorem notCall_op {o:Oper} (h:isCall o = false) : ∀ f args ats,o.op ≠ .call { callee:=.value f,args:=args,argTypes:=ats }:=by
 intro f args ats ho
 unfold isCall at h
 rw [ho] at h
 cases h
theorem evC_no {call:Oracle} {env:Env} {H:Heap} {o:Oper} (h:isCall o = false) : evC call env H o = none:=by
 unfold evC
 split
 ·
  rename_i f args ats ho; exact absurd ho (notCall_op h _ _ _)
 ·
  rfl
theorem evL_no {X:Cx} {env:Env} {H:Heap} {o:Oper} (h:isCall o = false) : evL X env H o = none:=by
 unfold evL
 split
 ·
  rename_i f args ats ho; exact absurd ho (notCall_op h _ _ _)
 ·
  rfl
theorem evP_no {X:Cx} {c:Oracle} {env:Env} {H:Heap} {id:Nat} {o:Oper} (h:isCall o = false) : evP { X with call:=c } env H id o = evP X env H id o:=by
 unfold evP evQ
 simp only [evC_no h]
theorem callOf_evL {X:Cx} {env:Env} {H:Heap} {o:Oper} {g:FuncId} {as:List AV} (h:callOf env o = some (g,as)) :
  evL X env H o = if X.lend g || X.keep (o.dst.getD 0) then callL X.call env H g as else none:=by
 unfold callOf at h
 unfold evL
 split at h
 ·
  rename_i f args ats ho
  rw [ho]
  split at h
  ·
   rename_i fv as' hf has
   split at h
   ·
    rename_i g' a c hfn
    cases h
    simp only [hf,has,hfn]
   ·
    cases h
  ·
   cases h
 ·
  cases h
theorem callOf_evP {X:Cx} {env:Env} {H:Heap} {id:Nat} {o:Oper} {g:FuncId} {as:List AV} (h:callOf env o = some (g,as)) {v v' : AV} (hv:callP X.call H g as = some v) (hc:castV (X.cast o) v = some v') :
  evP X env H id o = some (v', none) := by
 unfold callOf at h
 split at h
 ·
  rename_i f args ats ho
  split at h
  ·
   rename_i fv as' hf has
   split at h
   ·
    rename_i g' a c hfn
    cases h
    have e1 : ev1 X.T X.own env o = none:=by unfold ev1; rw [ho]
    have e0 : ev0 X.T env H o = none:=by unfold ev0; rw [ho]
    have ec : evC X.call env H o = some v:=by unfold evC; rw [ho]; simp only [hf,has,hfn,hv]
    unfold evP evQ
    simp only [e1,e0,ec,hc]
   ·
    cases h
  ·
   cases h
 ·
  cases h
theorem stepM_stepO {X:Cx} {nl:Nat} {ops:Array Oper} {env:Env} {H:Heap} {o:Oper} {s:Env × Heap} (h:stepM X nl ops env H o = some s) : stepO X nl ops env H o = some s:=by
 unfold stepM at h
 split at h
 ·
  rename_i hg
  split at h
  ·
   rename_i hcl
   split at h
   ·
    rename_i g as hco
    unfold stepO
    simp only [hg,callOf_evL hco]
    split at h
    ·
     rename_i hl
     rw [if_pos hl]
     split at h
     ·
      rename_i v env' H' hv
      simp only [hv]
      exact h
     ·
      cases h
    ·
     rename_i hl
     rw [if_neg (by rw [hl]; decide)]
     split at h
     ·
      rename_i v hv
      split at h
      ·
       rename_i v' hc
       cases h
       simp only [callOf_evP hco hv hc]
      ·
       cases h
     ·
      cases h
   ·
    cases h
  ·
   rename_i hcl
   unfold stepO at h ⊢
   simp only [hg,evL_no hcl,evP_no hcl] at h ⊢
   exact h
 ·
  rename_i hg
  unfold stepO
  simp only [hg]
  exact h
 ·
  cases h
theorem stepPM_stepP {X:Cx} {ops:Array Oper} {env:Env} {H:Heap} {o:Oper} {s:Env × Heap} (h:stepPM X ops env H o = some s) : stepP X ops env H o = some s:=by
 unfold stepPM at h
 split at h
 ·
  rename_i hg
  split at h
  ·
   rename_i hcl
   split at h
   ·
    rename_i g as hco
    unfold stepP
    simp only [hg]
    split at h
    ·
     rename_i v hv
     split at h
     ·
      rename_i v' hc
      cases h
      simp only [callOf_evP hco hv hc]
     ·
      cases h
    ·
     cases h
   ·
    cases h
  ·
   rename_i hcl
   unfold stepP at h ⊢
   simp only [hg,evP_no hcl] at h ⊢
   exact h
 ·
  rename_i hg
  unfold stepP
  simp only [hg]
  exact h
 ·
  cases h
def LeC (c c' : Oracle) : Prop:=∀ g as H r,c g as H = some r → c' g as H = some r
theorem callL_le {c c' : Oracle} (h:LeC c c') {env:Env} {H:Heap} {g:FuncId} {as:List AV} {r:AV × Env × Heap} (hr:callL c env H g as = some r) : callL c' env H g as = some r:=by
 unfold callL at hr ⊢
 split at hr
 ·
  rename_i hc
  rw [h _ _ _ _ hc]
  exact hr
 ·
  cases hr
theorem callP_le {c c' : Oracle} (h:LeC c c') {H:Heap} {g:FuncId} {as:List AV} {r:AV} (hr:callP c H g as = some r) : callP c' H g as = some r:=by
 unfold callP at hr ⊢
 split at hr
 ·
  rename_i hi
  rw [if_pos hi]
  split at hr
  ·
   rename_i hc
   rw [h _ _ _ _ hc]
   exact hr
  ·
   cases hr
 ·
  rename_i hi
  rw [if_neg hi]
  split at hr
  ·
   rename_i bs hbs
   split at hr
   ·
    rename_i hc
    simp only [h _ _ _ _ hc]
    exact hr
   ·
    cases hr
  ·
   cases hr
theorem stepM_le {X:Cx} {c c' : Oracle} (h:LeC c c') {nl:Nat} {ops:Array Oper} {env:Env} {H:Heap} {o:Oper} {s:Env × Heap} (hs:stepM { X with call:=c } nl ops env H o = some s) : stepM { X with call:=c' } nl ops env H o = some s:=by
 unfold stepM at hs ⊢
 split at hs
 ·
  rename_i hg
  split at hs
  ·
   rename_i hcl
   split at hs
   ·
    rename_i g as hco
    split at hs
    ·
     rename_i hl
     split at hs
     ·
      rename_i hv
      simp only at hl
      simp only [hl,callL_le h hv]
      exact hs
     ·
      cases hs
    ·
     rename_i hl
     split at hs
     ·
      rename_i hv
      simp only at hl
      simp only [hl,callP_le h hv]
      exact hs
     ·
      cases hs
   ·
    cases hs
  ·
   exact hs
 ·
  exact hs
 ·
  cases hs
theorem stepPM_le {X:Cx} {c c' : Oracle} (h:LeC c c') {ops:Array Oper} {env:Env} {H:Heap} {o:Oper} {s:Env × Heap} (hs:stepPM { X with call:=c } ops env H o = some s) : stepPM { X with call:=c' } ops env H o = some s:=by
 unfold stepPM at hs ⊢
 split at hs
 ·
  rename_i hg
  split at hs
  ·
   rename_i hcl
   split at hs
   ·
    rename_i g as hco
    split at hs
    ·
     rename_i hv
     simp only [callP_le h hv]
     exact hs
    ·
     cases hs
   ·
    cases hs
  ·
   exact hs
 ·
  exact hs
 ·
  cases hs
noncomputable def stepPZ (X:Cx) (sg:Sgs β) (ops:Array Oper) (env:Env) (H:Heap) (o:Oper) (K:Env → Heap → Option β) : Option β :=
 guardZ ops env o (fun env=>match o.op with
  | .call { callee:=.value f,args,.. }=>match opd env f,opds env args.toList with
   | some fv,some as=>match fnOf fv with
    | some (g,a,c)=>callPZ X.call (sg.ty o.type) H g (a ++ as ++ c) fun v=>castVZ (X.cast o) v fun v=>putZ env o.dst v fun e=>K e H
    | none=>none
   | _,_=>none
  | _=>evPZ X env H H.length o fun v b=>putZ env o.dst v fun e=>allF (extH H b) fun h=>K e h) (fun env=>putZ env o.dst (.tup []) fun e=>K e H)
theorem stepPZ_spec {X : Cx} {sg : Sgs β} {ops : Array Oper} {env : Env} {H : Heap} {o : Oper} {K : Env → Heap → Option β} (h : stepPZ X sg ops env H o K = some r) : ∃ env' H', stepPM X ops env H o = some (env', H') ∧ K env' H' = some r := by
 unfold stepPZ at h
 unfold stepPM
 rcases guardZ_spec h with ⟨hg,h⟩ | ⟨hg,h⟩
 ·
  simp only [hg]
  split at h
  ·
   rename_i f args ats ho
   have hcl : isCall o = true:=by unfold isCall; rw [ho]
   split at h
   ·
    rename_i fv as hf has
    split at h
    ·
     rename_i g a c hfn
     have hco : callOf env o = some (g,a ++ as ++ c):=by unfold callOf; rw [ho]; simp only [hf,has,hfn]
     obtain ⟨v,hv,h⟩:=callPZ_spec h
     obtain ⟨v', hc, h⟩ := castVZ_spec h
     simp only [hcl,hco,hv,hc]
     exact ⟨_,_,rfl,putZ_spec (k:=fun e=>K e H) h⟩
    ·
     cases h
   ·
    cases h
  ·
   rename_i hno
   have hcl : isCall o = false:=by
    unfold isCall
    split
    ·
     rename_i f args ats ho; exact absurd ho (hno _ _ _)
    ·
     rfl
   simp only [hcl]
   obtain ⟨v,b,hv,h⟩:=evPZ_spec h
   have h:=putZ_spec (k:=fun e=>allF (extH H b) fun h=>K e h) h
   rw [allF_eq] at h
   unfold stepP
   simp only [hg,evP_no hcl,hv]
   cases b with
   | none=>exact ⟨_,_,rfl,h⟩
   | some b=>exact ⟨_,_,rfl,h⟩
 ·
  simp only [hg]
  exact ⟨_,_,rfl,putZ_spec (k:=fun e=>K e H) h⟩
noncomputable def stepMZ (X:Cx) (sg:Sgs β) (nl:Nat) (ops:Array Oper) (env:Env) (H:Heap) (o:Oper) (K:Env → Heap → Option β) : Option β :=
 guardZ ops env o (fun env=>match o.op with
  | .store _ _ _=>evSZ X.T env H o fun H'=>allF H' fun h=>putZ env o.dst (.tup []) fun e=>K e h
  | .call { callee:=.builtin .append,.. }=>evAZ X.T nl env H o fun v env' H'=>allF env' fun env'=>allF H' fun H'=>putZ env' o.dst v fun e=>K e H'
  | .call { callee:=.value f,args,.. }=>match opd env f,opds env args.toList with
   | some fv,some as=>match fnOf fv with
    | some (g,a,c)=>match X.lend g || X.keep (o.dst.getD 0) with
     | true=>match sg.inl g with
      | none=>callLZ X.call (sg.of g o.type) env H g (a ++ as ++ c) fun v env' H'=>castVZ (X.cast o) v fun v=>allF env' fun env'=>allF H' fun H'=>putZ env' o.dst v fun e=>K e H'
      | some run=>callIZ run env H (a ++ as ++ c) fun v env' H'=>castVZ (X.cast o) v fun v=>allF env' fun env'=>allF H' fun H'=>putZ env' o.dst v fun e=>K e H'
     | false=>callPZ X.call (sg.ty o.type) H g (a ++ as ++ c) fun v=>castVZ (X.cast o) v fun v=>putZ env o.dst v fun e=>K e H
    | none=>none
   | _,_=>none
  | _=>evPZ X env H H.length o fun v b=>putZ env o.dst v fun e=>allF (extH H b) fun h=>K e h) (fun env=>putZ env o.dst (.tup []) fun e=>K e H)
theorem stepMZ_spec {X : Cx} {sg : Sgs β} (hI : sg.Ok X.call r) {nl : Nat} {ops : Array Oper} {env : Env} {H : Heap} {o : Oper} {K : Env → Heap → Option β} (h : stepMZ X sg nl ops env H o K = some r) : ∃ env' H', stepM X nl ops env H o = some (env', H') ∧ K env' H' = some r := by
 unfold stepMZ at h
 unfold stepM
 rcases guardZ_spec h with ⟨hg,h⟩ | ⟨hg,h⟩
 ·
  simp only [hg]
  split at h
  ·
   rename_i t x y ho
   have hcl : isCall o = false:=by unfold isCall; rw [ho]
   simp only [hcl]
   obtain ⟨H', hs, h⟩ := evSZ_spec h
   rw [allF_eq] at h
   have ep : evP { X with call:=fun _ _ _=>none } env H H.length o = none:=by
    unfold evP evQ
    have e1 : ev1 X.T X.own env o = none:=by unfold ev1; rw [ho]
    have e0 : ev0 X.T env H o = none:=by unfold ev0; rw [ho]
    have ex : evX X.T env H H.length o = none:=by unfold evX; rw [ho]
    simp only [e1,e0,evC_no hcl,ex]
   unfold stepO
   simp only [hg,evL_no hcl,ep,hs]
   exact ⟨_,_,rfl,putZ_spec (k:=fun e=>K e H') h⟩
  ·
   rename_i args ats ho
   have hcl : isCall o = false:=by unfold isCall; rw [ho]
   simp only [hcl]
   obtain ⟨v, env', H', ha, h⟩ := evAZ_spec h
   simp only [allF_eq] at h
   have ep : evP { X with call:=fun _ _ _=>none } env H H.length o = none:=by
    unfold evP evQ
    have e1 : ev1 X.T X.own env o = none:=by unfold ev1; rw [ho]
    have e0 : ev0 X.T env H o = none:=by unfold ev0; rw [ho]
    have ex : evX X.T env H H.length o = none:=by unfold evX; rw [ho]
    simp only [e1,e0,evC_no hcl,ex]
   have es : evS X.T env H o = none:=by unfold evS; rw [ho]
   unfold stepO
   simp only [hg,evL_no hcl,ep,es,ha]
   exact ⟨_,_,rfl,putZ_spec (k:=fun e=>K e H') h⟩
  ·
   rename_i f args ats ho
   have hcl : isCall o = true:=by unfold isCall; rw [ho]
   split at h
   ·
    rename_i fv as hf has
    split at h
    ·
     rename_i g a c hfn
     have hco : callOf env o = some (g,a ++ as ++ c):=by unfold callOf; rw [ho]; simp only [hf,has,hfn]
     simp only [hcl,hco]
     split at h
     ·
      rename_i hl
      split at h
      ·
       obtain ⟨v, env', H', hv, h⟩ := callLZ_spec h
       obtain ⟨v', hc, h⟩ := castVZ_spec h
       simp only [allF_eq] at h
       simp only [hl,hv,hc]
       exact ⟨_,_,rfl,putZ_spec (k:=fun e=>K e H') h⟩
      ·
       rename_i run hrun
       obtain ⟨v, env', H', hv, h⟩ := callIZ_spec hI hrun h
       obtain ⟨v', hc, h⟩ := castVZ_spec h
       simp only [allF_eq] at h
       simp only [hl,hv,hc]
       exact ⟨_,_,rfl,putZ_spec (k:=fun e=>K e H') h⟩
     ·
      rename_i hl
      obtain ⟨v,hv,h⟩:=callPZ_spec h
      obtain ⟨v', hc, h⟩ := castVZ_spec h
      simp only [hl,hv,hc]
      exact ⟨_,_,rfl,putZ_spec (k:=fun e=>K e H) h⟩
    ·
     cases h
   ·
    cases h
  ·
   rename_i hno _ hno3
   have hcl : isCall o = false:=by
    unfold isCall
    split
    ·
     rename_i f args ats ho; exact absurd ho (hno3 _ _ _)
    ·
     rfl
   simp only [hcl]
   obtain ⟨v,b,hv,h⟩:=evPZ_spec h
   have h:=putZ_spec (k:=fun e=>allF (extH H b) fun h=>K e h) h
   rw [allF_eq] at h
   unfold stepO
   simp only [hg,evL_no hcl,evP_no hcl,hv]
   cases b with
   | none=>exact ⟨_,_,rfl,h⟩
   | some b=>exact ⟨_,_,rfl,h⟩
 ·
  simp only [hg]
  exact ⟨_,_,rfl,putZ_spec (k:=fun e=>K e H) h⟩
end
end Go.AM.S
/- The abstract machine,part S5: data in the one form: no spare room told,empty slices of their elements' size,all the way down,by their types. -/
namespace Go.AM.S
open Go.AM
def cellsT (T:Tab) : Nat → TypeId → List TypeId
 | 0,_=>[]
 | n + 1,t=>match T.ty t with
  | some i=>match i.desc with
   | .struct fs=>fs.toList.flatMap fun f=>cellsT T n f.type
   | .array k e=>repL k (cellsT T n e)
   | _=>[t]
  | none=>[]
def elemT (T:Tab) (t:TypeId) : Option (TypeId × Nat):=match T.ty t with
 | some ⟨.slice e,_,_,_⟩=>match T.ty e with
  | some ie=>some (e,ie.size)
  | none=>none
 | _=>none
mutual
def deepD (T:Tab) (t:TypeId) : D → D
 | .sl s z es=>match elemT T t with
  | some (e,n)=>match es with
   | []=>if n = 0 then .sl s z [] else .sl false n []
   | d :: ds=>if z = n then .sl false z (deepD T e d :: deepDs T e ds) else .sl s z (d :: ds)
  | none=>.sl s z es
 | .agg cs=>.agg (deepCs T (cellsT T 8 t) cs)
 | d=>d
def deepDs (T:Tab) (e:TypeId) : List D → List D
 | []=>[]
 | d :: ds=>deepD T e d :: deepDs T e ds
def deepCs (T:Tab) : List TypeId → List D → List D
 | _,[]=>[]
 | [],d :: ds=>d :: ds
 | t :: ts,d :: ds=>deepD T t d :: deepCs T ts ds
end
theorem deepCs_len (T:Tab) : ∀ (ts:List TypeId) (ds:List D),(deepCs T ts ds).length = ds.length
 | _,[]=>by simp [deepCs]
 | [],d :: ds=>by simp [deepCs]
 | t :: ts,d :: ds=>by simp [deepCs,deepCs_len T ts ds]
theorem deepDs_len (T:Tab) (e:TypeId) : ∀ (ds:List D),(deepDs T e ds).length = ds.length
 | []=>by simp [deepDs]
 | d :: ds=>by simp [deepDs,deepDs_len T e ds]
theorem deepD_cells (T:Tab) (t:TypeId) (d:D) : (deepD T t d).cells.length = d.cells.length:=by
 cases d with
 | sl s z es =>
  simp only [deepD]
  split
  ·
   split
   ·
    split <;> rfl
   ·
    split <;> rfl
  ·
   rfl
 | agg cs=>simp only [deepD,D.cells,deepCs_len]
 | _=>simp only [deepD]
section
variable {I:Nat → Option (Array Value)} {κ:Nat → Option Loc}
theorem rds_split {a b:List D} {vs:List Value} (h:RDs I (a ++ b) vs) : ∃ v1 v2,vs = v1 ++ v2 ∧ RDs I a v1 ∧ RDs I b v2:=by
 induction a generalizing vs with
 | nil=>exact ⟨[],vs,rfl,.nil,h⟩
 | cons x a ih =>
  cases h with
  | cons _ _ v vs h hs =>
   obtain ⟨v1,v2,rfl,h1,h2⟩:=ih hs
   exact ⟨v :: v1,v2,rfl,.cons _ _ _ _ h h1,h2⟩
mutual
theorem deepD_rd {T:Tab} : ∀ {t:TypeId} {d:D} {v:Value},RD I d v → RD I (deepD T t d) v
 | t,.sl s z es,v,h=>by
  simp only [deepD]
  split
  ·
   rename_i e n he
   match es,h with
   | [],h =>
    show RD I (if n = 0 then D.sl s z [] else D.sl false n []) v
    by_cases hn : n = 0
    ·
     rw [if_pos hn]; exact h
    ·
     rw [if_neg hn]
     cases h with
     | slnil _ _=>exact .slnil _ _
     | slz _ _ a hz=>exact .slz _ _ a (by omega)
     | sle _ A m hz=>exact .sle _ A m (by omega)
     | sl _ _ _ b off cap c vs h0 hI hv hc hsz ht hle=>exact .sle _ _ _ (by omega)
   | d :: ds,h =>
    show RD I (if z = n then D.sl false z (deepD T e d :: deepDs T e ds) else D.sl s z (d :: ds)) v
    by_cases hz : z = n
    ·
     rw [if_pos hz]
     cases h with
     | sl _ _ _ b off cap c vs h0 hI hv hc hsz ht hle =>
      have h2 : RDs I ((deepD T e d :: deepDs T e ds).flatMap D.cells) vs:=by
       simp only [List.flatMap_cons] at hv ⊢
       obtain ⟨v1,v2,rfl,a1,a2⟩:=rds_split hv
       exact RDs.append (deepCells_rd a1) (deepDs_rd a2)
      have hlen : (deepD T e d :: deepDs T e ds).length = (d :: ds).length:=by simp [deepDs_len]
      have:=RD.sl (I:=I) false z (deepD T e d :: deepDs T e ds) b off cap c vs h0 hI h2 hc (fun x hx=>by
       rcases List.mem_cons.1 hx with rfl | hx
       ·
        rw [deepD_cells]; exact hsz d (by simp)
       ·
        exact deepDs_sz (fun y hy=>hsz y (List.mem_cons_of_mem _ hy)) x hx) (fun hf=>by cases hf) (by rw [hlen]; exact hle)
      rw [hlen] at this
      exact this
    ·
     rw [if_neg hz]; exact h
  ·
   exact h
 | t,.agg cs,v,h=>by
  simp only [deepD]
  cases h with
  | agg _ vs h=>exact .agg _ _ (deepCs_rd h)
 | t,.int _ _,v,h=>h
 | t,.bool _,v,h=>h
 | t,.str _,v,h=>h
 | t,.nilp,v,h=>h
 | t,.nili,v,h=>h
 | t,.nilf,v,h=>h
 | t,.nilm,v,h=>h
 | t,.fn _ _ _,v,h=>h
 | t,.ifc _ _,v,h=>h
theorem deepCells_rd {T:Tab} : ∀ {t:TypeId} {d:D} {vs:List Value},RDs I d.cells vs → RDs I (deepD T t d).cells vs
 | t,.agg cs,vs,h=>by
  simp only [deepD,D.cells] at h ⊢
  exact deepCs_rd h
 | t,.sl s z es,vs,h=>by
  have hc : (deepD T t (.sl s z es)).cells = [deepD T t (.sl s z es)]:=by
   simp only [deepD]
   split
   ·
    split
    ·
     split <;> rfl
    ·
     split <;> rfl
   ·
    rfl
  rw [hc]
  cases h with
  | cons _ _ v _ h hs =>
   cases hs
   exact .cons _ _ _ _ (deepD_rd h) .nil
 | t,.int _ _,vs,h=>h
 | t,.bool _,vs,h=>h
 | t,.str _,vs,h=>h
 | t,.nilp,vs,h=>h
 | t,.nili,vs,h=>h
 | t,.nilf,vs,h=>h
 | t,.nilm,vs,h=>h
 | t,.fn _ _ _,vs,h=>h
 | t,.ifc _ _,vs,h=>h
theorem deepDs_rd {T:Tab} {e:TypeId} : ∀ {ds:List D} {vs:List Value},RDs I (ds.flatMap D.cells) vs → RDs I ((deepDs T e ds).flatMap D.cells) vs
 | [],vs,h=>by simpa [deepDs] using h
 | d :: ds,vs,h=>by
  simp only [deepDs,List.flatMap_cons] at h ⊢
  obtain ⟨v1,v2,rfl,a1,a2⟩:=rds_split h
  exact RDs.append (deepCells_rd a1) (deepDs_rd a2)
theorem deepCs_rd {T:Tab} : ∀ {ts:List TypeId} {ds:List D} {vs:List Value},RDs I ds vs → RDs I (deepCs T ts ds) vs
 | _,[],vs,h=>by simpa [deepCs] using h
 | [],d :: ds,vs,h=>by simpa [deepCs] using h
 | t :: ts,d :: ds,vs,h=>by
  simp only [deepCs]
  cases h with
  | cons _ _ v vs h hs=>exact .cons _ _ _ _ (deepD_rd h) (deepCs_rd hs)
theorem deepDs_sz {T:Tab} {e:TypeId} {n:Nat} : ∀ {ds:List D},(∀ d ∈ ds,d.cells.length = n) → ∀ d ∈ deepDs T e ds,d.cells.length = n
 | [],_,d,hd=>by simp [deepDs] at hd
 | x :: ds,h,d,hd=>by
  simp only [deepDs,List.mem_cons] at hd
  rcases hd with rfl | hd
  ·
   rw [deepD_cells]; exact h x (by simp)
  ·
   exact deepDs_sz (fun y hy=>h y (List.mem_cons_of_mem _ hy)) d hd
end
end
def normV (T:Tab) (t:TypeId) (v:AV) : AV:=match v with
 | .im d=>.im (deepD T t d)
 | v=>v
def normA (T:Tab) : List TypeId → List AV → List AV
 | _,[]=>[]
 | [],v :: vs=>v :: vs
 | t :: ts,v :: vs=>normV T t v :: normA T ts vs
theorem normA_rv {T:Tab} {I:Nat → Option (Array Value)} {κ:Nat → Option Loc} : ∀ {ts:List TypeId} {as:List AV} {vs:List Value},RVs I κ as vs → RVs I κ (normA T ts as) vs
 | _,[],vs,h=>by simpa [normA] using h
 | [],d :: ds,vs,h=>by simpa [normA] using h
 | t :: ts,d :: ds,vs,h=>by
  simp only [normA]
  cases h with
  | cons _ _ v vs h hs =>
   refine .cons _ _ _ _ ?_ (normA_rv hs)
   unfold normV
   split
   ·
    cases h with | im _ _ h=>exact .im _ _ (deepD_rd h)
   ·
    exact h
end Go.AM.S
/- The abstract machine,part S2: code,by steps that are told whom blocks are lent to; and with what comes next handed in. -/
namespace Go.AM.S
open Go.AM
def stepG (X:Px) (ops:Array Oper) (env:Env) (H:Heap) (o:Oper) : Option (Env × Heap) :=
 match o.dst with
 | some d=>match stepM X.toCx X.nl ops (pre X env H o d).1 (pre X env H o d).2 o with
  | some (env', H') => some (claims d (X.clm d) env' H')
  | none=>none
 | none=>stepM X.toCx X.nl ops env H o
def runPG (X:Cx) (ops:Array Oper) : List Oper → Env → Heap → Option (Env × Heap)
 | [],env,H=>some (env,H)
 | o :: os,env,H=>match stepPM X ops env H o with
  | some (env', H') => runPG X ops os env' H'
  | none=>none
theorem stepG_stepF {X:Px} {ops:Array Oper} {env:Env} {H:Heap} {o:Oper} {s:Env × Heap} (h:stepG X ops env H o = some s) : stepF X ops env H o = some s:=by
 unfold stepG at h
 unfold stepF
 split at h
 ·
  rename_i d hd
  split at h
  ·
   rename_i e2 H2 h2
   try simp only [hd]
   rw [stepM_stepO h2]
   exact h
  ·
   cases h
 ·
  rename_i hd
  try simp only [hd]
  exact stepM_stepO h
theorem runPG_runP {X:Cx} {ops:Array Oper} : ∀ (os:List Oper) {env:Env} {H:Heap} {s:Env × Heap},runPG X ops os env H = some s → runP X ops os env H = some s
 | [],env,H,s,h=>h
 | o :: os,env,H,s,h=>by
  unfold runPG at h
  unfold runP
  split at h
  ·
   rename_i e2 H2 h2
   rw [stepPM_stepP h2]
   exact runPG_runP os h
  ·
   cases h
section
variable {X:Px} {c c' : Oracle} {ops:Array Oper}
theorem stepG_le (hc:LeC c c') {env:Env} {H:Heap} {o:Oper} {s:Env × Heap} (h:stepG { X with call:=c } ops env H o = some s) : stepG { X with call:=c' } ops env H o = some s:=by
 unfold stepG at h ⊢
 split at h
 ·
  rename_i d hd
  split at h
  ·
   rename_i e2 H2 h2
   have:=stepM_le (X:=X.toCx) hc h2
   have hp : pre { X with call:=c' } env H o d = pre { X with call:=c } env H o d:=rfl
   simp only [hp]
   rw [this]
   exact h
  ·
   cases h
 ·
  rename_i hd
  exact stepM_le (X:=X.toCx) hc h
theorem runPG_le (hc:LeC c c') : ∀ (os:List Oper) {env:Env} {H:Heap} {s:Env × Heap},runPG { X.toCx with call:=c } ops os env H = some s → runPG { X.toCx with call:=c' } ops os env H = some s
 | [],env,H,s,h=>h
 | o :: os,env,H,s,h=>by
  unfold runPG at h ⊢
  split at h
  ·
   rename_i e2 H2 h2
   rw [stepPM_le (X:=X.toCx) hc h2]
   exact runPG_le hc os h
  ·
   cases h
end
section
variable {β:Type} {r:β}
noncomputable def stepGZ (X:Px) (sg:Sgs β) (ops:Array Oper) (env:Env) (H:Heap) (o:Oper) (K:Env → Heap → Option β) : Option β :=
 match o.dst with
 | some d=>match X.frz d with
  | true=>allF (pre X env H o d).1 fun e=>allF (pre X env H o d).2 fun h=>stepMZ X.toCx sg X.nl ops e h o fun env' H'=>allF (claims d (X.clm d) env' H').1 fun e=>allF (claims d (X.clm d) env' H').2 fun h=>K e h
  | false=>match (X.clm d).isEmpty with
   | true=>stepMZ X.toCx sg X.nl ops env H o K
   | false=>stepMZ X.toCx sg X.nl ops env H o fun env' H'=>allF (claims d (X.clm d) env' H').1 fun e=>allF (claims d (X.clm d) env' H').2 fun h=>K e h
 | none=>stepMZ X.toCx sg X.nl ops env H o K
theorem stepGZ_spec {X : Px} {sg : Sgs β} (hI : sg.Ok X.call r) {ops : Array Oper} {env : Env} {H : Heap} {o : Oper} {K : Env → Heap → Option β} (h : stepGZ X sg ops env H o K = some r) : ∃ env' H', stepG X ops env H o = some (env', H') ∧ K env' H' = some r := by
 unfold stepGZ at h
 unfold stepG
 split at h
 ·
  rename_i d hd
  split at h
  ·
   simp only [allF_eq] at h
   obtain ⟨e1,H1,h1,h⟩:=stepMZ_spec hI h
   exact ⟨_,_,by rw [h1],h⟩
  ·
   rename_i hf
   have hp : pre X env H o d = (env,H):=by unfold pre; rw [hf]; rfl
   split at h
   ·
    rename_i hc
    obtain ⟨e1,H1,h1,h⟩:=stepMZ_spec hI h
    refine ⟨e1,H1,?_,h⟩
    rw [hp,h1]
    have : X.clm d = []:=by simpa using hc
    simp [this,claims]
   ·
    simp only [allF_eq] at h
    obtain ⟨e1,H1,h1,h⟩:=stepMZ_spec hI h
    exact ⟨_,_,by rw [hp,h1],h⟩
 ·
  exact stepMZ_spec hI h
noncomputable def runPGZ (X:Cx) (sg:Sgs β) (ops:Array Oper) (K:Env → Heap → Option β) (l:List Oper) : Env → Heap → Option β :=
 List.rec (fun env H=>K env H) (fun o _ ih env H=>stepPZ X sg ops env H o ih) l
theorem runPGZ_spec {X : Cx} {sg : Sgs β} {ops : Array Oper} {K : Env → Heap → Option β} : ∀ (os : List Oper) {env : Env} {H : Heap}, runPGZ X sg ops K os env H = some r → ∃ env' H', runPG X ops os env H = some (env', H') ∧ K env' H' = some r
 | [],env,H,h=>⟨env,H,rfl,h⟩
 | o :: os,env,H,h=>by
  have h : stepPZ X sg ops env H o (runPGZ X sg ops K os) = some r:=h
  obtain ⟨e1,H1,h1,h⟩:=stepPZ_spec h
  obtain ⟨e2,H2,h2,h⟩:=runPGZ_spec os h
  exact ⟨e2,H2,by unfold runPG; simp only [h1,h2],h⟩
end
end Go.AM.S
/- The abstract machine,part S6: steps that may panic,by what is told of whom blocks are lent to. -/
namespace Go.AM.S
open Go.AM
def isPan (o:Oper) : Bool:=match o.op with
 | .panic _=>true
 | _=>false
def panL (X:Cx) (pan:Oracle) (ops:Array Oper) (env:Env) (H:Heap) (o:Oper) : Option (AV × Env × Heap):=match guardOf ops env o with
 | some true=>match callOf env o with
  | some (g,as)=>match X.lend g || X.keep (o.dst.getD 0) with
   | true=>callL pan env H g as
   | false=>none
  | none=>none
 | _=>none
theorem panL_panO {X:Cx} {pan:Oracle} {ops:Array Oper} {env:Env} {H:Heap} {o:Oper} {r:AV × Env × Heap} (h:panL X pan ops env H o = some r) : panO pan ops env H o = some r:=by
 unfold panL at h
 unfold panO
 split at h
 ·
  rename_i hg
  simp only [hg]
  split at h
  ·
   rename_i g as hco
   split at h
   ·
    unfold callOf at hco
    split at hco
    ·
     rename_i f args ats ho
     rw [ho]
     simp only
     split at hco
     ·
      rename_i fv as' hf has
      split at hco
      ·
       rename_i g' a c hfn
       cases hco
       simp only [hf,has,hfn]
       exact h
      ·
       cases hco
     ·
      cases hco
    ·
     cases hco
   ·
    cases h
  ·
   cases h
 ·
  cases h
def frzOf (X:Px) (o:Oper) : Bool:=match o.dst with
 | some d=>X.frz d
 | none=>false
def panF (X:Px) (pan:Oracle) (ops:Array Oper) (env:Env) (H:Heap) (o:Oper) : Option (AV × Env × Heap):=match frzOf X o with
 | true=>none
 | false=>panL X.toCx pan ops env H o
theorem panF_panO {X:Px} {pan:Oracle} {ops:Array Oper} {env:Env} {H:Heap} {o:Oper} {r:AV × Env × Heap} (h:panF X pan ops env H o = some r) : panO pan ops env H o = some r:=by
 unfold panF at h
 split at h
 ·
  cases h
 ·
  exact panL_panO h
def stepQ (X:Px) (pan:Oracle) (ops:Array Oper) (env:Env) (H:Heap) (o:Oper) : Option (Option AV × Env × Heap):=match isPan o with
 | true=>match panO pan ops env H o with
  | some (x, env', H') => some (some x, env', H')
  | none=>none
 | false=>match panF X pan ops env H o with
  | some (x, env', H') => some (some x, env', H')
  | none=>match stepG X ops env H o with
   | some (env', H') => some (none, env', H')
   | none=>match evB X ops env H o with
    | some (env', H') => some (none, env', H')
    | none=>none
def runQ (X:Px) (pan:Oracle) (ops:Array Oper) : List Oper → Env → Heap → Option (Option AV × Env × Heap)
 | [],env,H=>some (none,env,H)
 | o :: os,env,H=>match stepQ X pan ops env H o with
  | some (none, env', H') => runQ X pan ops os env' H'
  | some (some x, env', H') => some (some x, env', H')
  | none=>none
def runQY (X:Px) (pan:Oracle) (ops:Array Oper) (env:Env) (H:Heap) : Option (Option AV × Env × Heap) :=
 match runPG X.toCx ops (ops.toList.take (cutOf ops)) env H with
 | some (env', H') => runQ X pan ops (ops.toList.drop (cutOf ops)) env' H'
 | none=>none
def endQ : Option (Option AV × Env × Heap) → Option (Ez × Env × Heap)
 | some (none, env', H') => some (.normal, env', H')
 | some (some x, env', H') => some (.pan x, env', H')
 | none=>none
section
variable {P:Program} {I I' : Nat → Option (Array Value)} {κ κ' : Nat → Option Loc} {w w' : World} {H H' : Heap} {DF:List Deferred} {A:Nat → Prop} {κ0:Nat → Option Loc} {I0:Nat → Option (Array Value)} {w0:World} {env env' : Env} {a:Act} {ops:Array Oper} {Q:Exit → Act → World → Prop} {X:Px} {pan:Oracle} {nl:Nat}
theorem stepQ_wp (hT : X.T.ok P) (hc : CallOK P X.call) (hp : PanOK P pan) (s : Stx DF A κ0 X.nl I0 w0 H env a w) {i : Nat} {o : Oper} (ho : ops[i]? = some o) {r : Option AV} (h : stepQ X pan ops env H o = some (r, env', H')) {K : Act → World → Prop}
  (hK : r = none → ∀ a' w', Stx DF A κ0 X.nl I0 w0 H' env' a' w' → K a' w')
  (hQ:∀ x,r = some x → ∀ I κ a' w' v,St DF A κ0 X.nl I0 w0 I κ H' w' env' a' → RV I κ x v → Q (pan1 v) a' w') : wpOp P ops Q i K a w:=by
 unfold stepQ at h
 split at h
 ·
  split at h
  ·
   rename_i x e2 H2 h2
   simp at h
   obtain ⟨rfl,rfl,rfl⟩:=h
   exact panO_wp hp s ho h2 (hQ _ rfl)
  ·
   simp at h
 ·
  split at h
  ·
   rename_i x e2 H2 h2
   simp at h
   obtain ⟨rfl,rfl,rfl⟩:=h
   exact panO_wp hp s ho (panF_panO h2) (hQ _ rfl)
  ·
   split at h
   ·
    rename_i e2 H2 h2
    simp at h
    obtain ⟨rfl,rfl,rfl⟩:=h
    exact stepF_wp hT hc s ho (stepG_stepF h2) (hK rfl)
   ·
    split at h
    ·
     rename_i e2 H2 h2
     simp at h
     obtain ⟨rfl,rfl,rfl⟩:=h
     exact evB_wp hT hc s ho h2 (hK rfl)
    ·
     simp at h
theorem runQ_wp (hT:X.T.ok P) (hc:CallOK P X.call) (hp:PanOK P pan) {e:Ez} (hM:Meets DF A κ0 X.nl I0 w0 e env' H' Q) : ∀ (os:List Oper) (l:List Nat) {H w env a},l.map (ops[·]?) = os.map some →
  Stx DF A κ0 X.nl I0 w0 H env a w → endQ (runQ X pan ops os env H) = some (e, env', H') → wpOps P ops Q l a w
 | [],l,H,w,env,a,hl,s,h=>by
  have : l = []:=by simpa using hl
  subst this
  simp [runQ,endQ] at h
  obtain ⟨rfl,rfl,rfl⟩:=h
  exact hM.1 rfl _ _ s
 | o :: os,l,H,w,env,a,hl,s,h=>by
  cases l with
  | nil=>simp at hl
  | cons i l =>
   simp only [List.map_cons,List.cons.injEq] at hl
   obtain ⟨hi,hl⟩:=hl
   unfold runQ at h
   rw [wpOps_cons]
   split at h
   ·
    rename_i e2 H2 h2
    exact stepQ_wp hT hc hp s hi h2 (fun _ a' w' s'=>runQ_wp hT hc hp hM os l hl s' h) (fun x hx=>by cases hx)
   ·
    rename_i x e2 H2 h2
    simp [endQ] at h
    obtain ⟨rfl,rfl,rfl⟩:=h
    exact stepQ_wp hT hc hp s hi h2 (fun hx=>by cases hx) (fun x' hx=>by cases hx; exact hM.2 _ rfl)
   ·
    simp [endQ] at h
theorem runQY_wp (hT:X.T.ok P) (hc:CallOK P X.call) (hp:PanOK P pan) (hm:P.follows .mixedOrders = true) {e:Ez} (hM:Meets DF A κ0 X.nl I0 w0 e env' H' Q) (hd:drawOK ops = true) (s:Stx DF A κ0 X.nl I0 w0 H env a w)
  (h : endQ (runQY X pan ops env H) = some (e, env', H')) {id : Nat} : (Code.region id ops true).wp P Q a w := by
 have d:=drawIn_spec hd
 have hpos:=d.pos
 refine wp_region_any hm ?_
 unfold runQY at h
 split at h
 ·
  rename_i e1 H1 hr
  obtain ⟨st,h0,h1,hs⟩:=runP_trace _ _ _ _ (runPG_runP _ hr)
  have hlen : (ops.toList.take (cutOf ops)).length = cutOf ops:=by simp; omega
  rw [hlen] at h1
  have T : Trace X.toCx ops (cutOf ops) st:=⟨fun i hi=>by
   refine ⟨ops[i]'(by omega),by simp [show i < ops.size by omega],hs i _ ?_⟩
   rw [List.getElem?_take,if_pos hi]
   simp [show i < ops.size by omega]⟩
  obtain ⟨I1,κ1,s1⟩:=s
  have s1 : St DF A κ0 X.nl I0 w0 I1 κ1 (st 0).2 { w with drawn:=w.drawn + 1 } (st 0).1 a:=by
   rw [h0]
   exact s1.later ⟨rfl,rfl,rfl,Nat.le_refl _,fun _ _=>rfl⟩
  have hno : ∀ i,¬ isL (Array.replicate ops.size false) i:=fun i h=>by
   unfold isL at h
   by_cases hlt : i < ops.size <;> simp [hlt] at h
  refine wpAny_part hT hc d T s1 (fun a' w' I' κ' s'=>?_) ops.size (Array.replicate ops.size false) I1 κ1 _ (st 0).1 a (List.range (cutOf ops)) (by simp; omega) (fun i hi _=>by simpa using hi) (fun k _=>hno k) ?_
  ·
   rw [h1] at s'
   exact runQ_wp hT hc hp hM _ _ (range_drop ops _ (by omega)) ⟨_,_,s'⟩ h
  ·
   refine ⟨⟨s1.wr.im,fun i l hl=>?_,s1.wr.inj,s1.wr.apart⟩,s1.env,.refl _,rfl,fun _ _=>rfl,fun i _ hl=>absurd hl (hno i),fun _ _=>rfl,fun i hi hg=>⟨fun hl=>absurd hl (hno i),fun hk=>?_⟩,fun _ _ _ _ _ _ h=>.inl h,s1.nodef,fun i hl=>absurd hl (hno i),by simp⟩
   ·
    obtain ⟨blk,hb,hlies⟩:=s1.wr.own _ _ hl
    exact ⟨blk,T.sub (by omega) (Nat.le_refl _) _ _ hb,hlies⟩
   ·
    exact absurd (s1.none_at (T.lens (i:=0) (j:=i) (by omega) (by omega))) hk
 ·
  simp [endQ] at h
end
end Go.AM.S
/- The abstract machine,part SD: drawn regions gone through by a plan: what is plain,then the others one behind the other. -/
namespace Go.AM.S
open Go.AM
def settledP (X:Cx) (ops:Array Oper) (E:Env) (H:Heap) (f:Nat) : Prop:=∃ o t v,ops[f]? = some o ∧ o.dst = some t ∧ E[t]? = some v ∧
 ((guardOf ops E o = some false ∧ AV.tup [] = v) ∨ (guardOf ops E o = some true ∧ evP X E H H.length o = some (v,none)))
def settledB (X:Cx) (ops:Array Oper) (E:Env) (H:Heap) (f:Nat) : Prop:=settledP { X with call:=fun _ _ _=>none } ops E H f
def slotsOf (ops:Array Oper) (F:List Nat) : List Nat:=F.filterMap (opDst ops)
structure PlanC where
 a : List Nat
 b : List (Nat × List Nat × List Nat)
def plainTo (a:List Nat) (b:List (Nat × List Nat × List Nat)) : List Nat:=a ++ b.flatMap (·.2.2)
def PlanC.all (p:PlanC) : List Nat:=plainTo p.a p.b
structure DrawC (ops:Array Oper) (ms:List Nat) (p:PlanC) : Prop where
 ons : ∀ i,i < ops.size → ∀ e ∈ opOns ops i,e < i
 mask : ∀ i,i < ops.size → ∀ k,k < ops.size → maskAt ms i k = true → ∃ e ∈ opOns ops i,e = k ∨ maskAt ms e k = true
 cover : ∀ i,i < ops.size → i ∈ p.all ∨ i ∈ p.b.map (·.1)
 alt : ∀ i ∈ p.all,i < ops.size
 blt : ∀ i ∈ p.b.map (·.1),i < ops.size
 asort : p.a.Pairwise (· < ·)
 chain : (p.b.map (·.1)).Pairwise fun x y=>maskAt ms y x = true
 disj : ∀ i ∈ p.all,i ∉ p.b.map (·.1)
 apre : ∀ i ∈ p.a,∀ k,k < ops.size → maskAt ms i k = true → k ∈ p.a
 looks : ∀ i ∈ p.all,∀ j ∈ p.all,i ≠ j → ∀ t,opDst ops j = some t → (t ∈ opLooks ops i → maskAt ms i j = true) ∧ opDst ops i ≠ some t
 blooks : ∀ b ∈ p.b.map (·.1),∀ f ∈ p.all,∀ t,opDst ops f = some t → (t ∈ opLooks ops b → maskAt ms b f = true) ∧ opDst ops b ≠ some t
 fl : ∀ pre x post,p.b = pre ++ x :: post → ∀ f ∈ plainTo p.a pre,maskAt ms x.1 f = true ∨ f ∈ x.2.1
 fa : ∀ pre x post,p.b = pre ++ x :: post → ∀ f ∈ x.2.1,f ∈ plainTo p.a pre
 cb : ∀ x ∈ p.b,∀ c ∈ x.2.2,maskAt ms c x.1 = true
 self : ∀ f ∈ p.all,∀ t,opDst ops f = some t → t ∉ opLooks ops f ∨ ∀ x ∈ p.b,f ∉ x.2.1 ∧ f ∉ x.2.2
theorem plainTo_app {a:List Nat} {b c:List (Nat × List Nat × List Nat)} : plainTo a (b ++ c) = plainTo a b ++ c.flatMap (·.2.2):=by simp [plainTo,List.append_assoc]
theorem PlanC.pre_all {p:PlanC} {pre post:List (Nat × List Nat × List Nat)} (h:p.b = pre ++ post) {f:Nat} (hf:f ∈ plainTo p.a pre) : f ∈ p.all:=by
 unfold PlanC.all
 rw [h,plainTo_app]
 exact List.mem_append_left _ hf
section
variable {ops:Array Oper} {ms:List Nat} {p:PlanC}
theorem PlanC.a_all {i:Nat} (h:i ∈ p.a) : i ∈ p.all:=List.mem_append_left _ h
theorem DrawC.lt (d:DrawC ops ms p) : ∀ i,i < ops.size → ∀ k,k < ops.size → maskAt ms i k = true → k < i:=by
 intro i
 induction i using Nat.strongRecOn with
 | _ i ih =>
  intro hi k hk hm
  obtain ⟨e,he,h⟩:=d.mask i hi k hk hm
  have:=d.ons i hi e he
  rcases h with rfl | h
  ·
   exact this
  ·
   have:=ih e this (by omega) k hk h
   omega
theorem DrawC.altA (d:DrawC ops ms p) (i:Nat) (h:i ∈ p.a) : i < ops.size:=d.alt i (PlanC.a_all h)
theorem DrawC.looksA (d:DrawC ops ms p) (i:Nat) (hi:i ∈ p.a) (j:Nat) (hj:j ∈ p.a) (hij:i ≠ j) (t:Tmp) (ht:opDst ops j = some t) : (t ∈ opLooks ops i → maskAt ms i j = true) ∧ opDst ops i ≠ some t:=d.looks i (PlanC.a_all hi) j (PlanC.a_all hj) hij t ht
end
open Classical in
noncomputable def stepB (X:Px) (pan:Oracle) (ops:Array Oper) (b:Nat) (F C:List Nat) (E:Env) (H:Heap) : Option (Option AV × Env × Heap):=match ops[b]? with
 | none=>none
 | some o=>match F ++ C with
  | []=>stepQ X pan ops E H o
  | _ :: _=>match stepQ { X with nl:=H.length } pan ops (maskT (slotsOf ops F) E) H o with
   | some (none,E1,H1)=>match hasAll H1 (AV.idss ((slotsOf ops F).filterMap (E[·]?))) with
    | true=>match mapO (fun i=>ops[i]?) C with
     | none=>none
     | some os=>match runPG X.toCx ops os (restT E (slotsOf ops F) E1) H1 with
      | none=>none
      | some (E2,H2)=>if H2.length = H1.length ∧ ∀ f ∈ F ++ C,settledB X.toCx ops E2 H1 f then some (none,E2,H1) else none
    | false=>none
   | some (some x,E1,H1)=>some (some x,E1,H1)
   | none=>none
noncomputable def runB (X:Px) (pan:Oracle) (ops:Array Oper) : List (Nat × List Nat × List Nat) → Env → Heap → Option (Option AV × Env × Heap)
 | [],E,H=>some (none,E,H)
 | x :: bs,E,H=>match stepB X pan ops x.1 x.2.1 x.2.2 E H with
  | some (none,E1,H1)=>runB X pan ops bs E1 H1
  | some (some v,E1,H1)=>some (some v,E1,H1)
  | none=>none
def heavyOp (o:Op) : Bool:=wrOp o || match o with
 | .alloc _=>true
 | .box _ _=>true
 | .buildSlice _ _ _=>true
 | .makeSlice _ _ _=>true
 | _=>false
def lateC (ops:Array Oper) (ms bs:List Nat) (i:Nat) : Bool:=match ops[i]? with
 | some o=>!heavyOp o.op && bs.any fun j=>Nat.blt i j && !maskAt ms j i
 | none=>false
def goC (ms:List Nat) (cs:List Nat) : List Nat → List Nat → List (Nat × List Nat × List Nat)
 | [],_=>[]
 | b :: bs,vl=>(b,vl.filter (fun f=>!maskAt ms b f),cs.filter (fun c=>maskAt ms c b && !bs.any fun b'=>maskAt ms c b')) ::
   goC ms cs bs (vl ++ cs.filter (fun c=>maskAt ms c b && !bs.any fun b'=>maskAt ms c b'))
def planC (ops:Array Oper) : PlanC :=
 ⟨(goP (masks ops.toList []) ops.toList 0 [] []).1,goC (masks ops.toList []) ((goP (masks ops.toList []) ops.toList 0 [] []).2.filter (lateC ops (masks ops.toList []) (goP (masks ops.toList []) ops.toList 0 [] []).2)) ((goP (masks ops.toList []) ops.toList 0 [] []).2.filter fun i=>!lateC ops (masks ops.toList []) (goP (masks ops.toList []) ops.toList 0 [] []).2 i) (goP (masks ops.toList []) ops.toList 0 [] []).1⟩
def okF (ms:List Nat) : List (Nat × List Nat × List Nat) → List Nat → Bool
 | [],_=>true
 | x :: b,vl=>vl.all (fun f=>maskAt ms x.1 f || x.2.1.contains f) && x.2.1.all (fun f=>vl.contains f) && okF ms b (vl ++ x.2.2)
theorem okF_ok {ms:List Nat} : ∀ {b:List (Nat × List Nat × List Nat)} {vl:List Nat},okF ms b vl = true → ∀ pre x post,b = pre ++ x :: post →
  (∀ f ∈ plainTo vl pre,maskAt ms x.1 f = true ∨ f ∈ x.2.1) ∧ ∀ f ∈ x.2.1,f ∈ plainTo vl pre
 | [],vl,_,pre,x,post,h=>by simp at h
 | y :: b,vl,hk,pre,x,post,h=>by
  simp only [okF,Bool.and_eq_true,List.all_eq_true,Bool.or_eq_true,List.contains_eq_mem,decide_eq_true_eq] at hk
  obtain ⟨⟨h1,h2⟩,h3⟩:=hk
  cases pre with
  | nil =>
   simp only [List.nil_append,List.cons.injEq] at h
   obtain ⟨rfl,rfl⟩:=h
   simpa [plainTo] using And.intro h1 h2
  | cons z pre =>
   simp only [List.cons_append,List.cons.injEq] at h
   obtain ⟨rfl,rfl⟩:=h
   have:=okF_ok h3 pre x post rfl
   have e : plainTo (vl ++ y.2.2) pre = plainTo vl (y :: pre):=by simp [plainTo,List.append_assoc]
   rw [← e]
   exact this
def planCOK (ops:Array Oper) (ms:List Nat) (p:PlanC) : Bool :=
 (List.range ops.size).all (fun i=>(opOns ops i).all fun e=>Nat.blt e i) &&
 (List.range ops.size).all (fun i=>(List.range ops.size).all fun k=>!maskAt ms i k || (opOns ops i).any fun e=>e == k || maskAt ms e k) &&
 (List.range ops.size).all (fun i=>p.all.contains i || (p.b.map (·.1)).contains i) &&
 p.all.all (fun i=>Nat.blt i ops.size) && (p.b.map (·.1)).all (fun i=>Nat.blt i ops.size) &&
 pw (fun x y=>Nat.blt x y) p.a && pw (fun x y=>maskAt ms y x) (p.b.map (·.1)) &&
 p.all.all (fun i=>!(p.b.map (·.1)).contains i) &&
 p.a.all (fun i=>(List.range ops.size).all fun k=>!maskAt ms i k || p.a.contains k) &&
 p.all.all (fun i=>p.all.all fun j=>i == j || sepB ops ms i j) &&
 (p.b.map (·.1)).all (fun b=>p.all.all fun f=>sepB ops ms b f) &&
 okF ms p.b p.a &&
 p.b.all (fun x=>x.2.2.all fun c=>maskAt ms c x.1) &&
 p.all.all (fun f=>selfB ops f || p.b.all fun x=>!x.2.1.contains f && !x.2.2.contains f)
theorem planCOK_ok {ops:Array Oper} {ms:List Nat} {p:PlanC} (h:planCOK ops ms p = true) : DrawC ops ms p:=by
 unfold planCOK at h
 simp only [Bool.and_eq_true, List.all_eq_true, List.mem_range, Nat.blt_eq, Bool.or_eq_true, Bool.not_eq_true', List.contains_eq_mem, decide_eq_true_eq, decide_eq_false_iff_not, List.any_eq_true, beq_iff_eq] at h
 obtain ⟨⟨⟨⟨⟨⟨⟨⟨⟨⟨⟨⟨⟨h1,h2⟩,h3⟩,h4⟩,h5⟩,h6⟩,h7⟩,h8⟩,h9⟩,h10⟩,h11⟩,h12⟩,h13⟩,h14⟩:=h
 refine ⟨h1,fun i hi k hk hm=>?_,h3,h4,h5,?_,pw_ok h7,h8,fun i hi k hk hm=>?_,fun i hi j hj hij=>?_,fun b hb f hf=>sepB_ok (h11 b hb f hf),fun pre x post e=>(okF_ok h12 pre x post e).1,fun pre x post e=>(okF_ok h12 pre x post e).2,h13,fun f hf t ht=>?_⟩
 ·
  rcases h2 i hi k hk with h | h
  ·
   rw [hm] at h; cases h
  ·
   exact h
 ·
  exact (pw_ok h6).imp fun h=>by simpa [Nat.blt_eq] using h
 ·
  rcases h9 i hi k hk with h | h
  ·
   rw [hm] at h; cases h
  ·
   exact h
 ·
  rcases h10 i hi j hj with h | h
  ·
   exact absurd h hij
  ·
   exact sepB_ok h
 ·
  rcases h14 f hf with h | h
  ·
   left
   intro hm
   unfold selfB at h
   rw [ht] at h
   simp [hm] at h
  ·
   exact .inr h
open Classical in
noncomputable def drawB (X:Px) (pan:Oracle) (ops:Array Oper) (env:Env) (H:Heap) : Option (Option AV × Env × Heap) :=
 match planCOK ops (masks ops.toList []) (planC ops) with
 | false=>none
 | true=>match mapO (fun i=>ops[i]?) (planC ops).a with
  | none=>none
  | some os=>match runPG X.toCx ops os env H with
   | none=>none
   | some (E,H1)=>match (planC ops).b with
    | []=>some (none,E,H1)
    | x :: bs=>if ∀ f ∈ x.2.1,settledB X.toCx ops E H1 f then runB X pan ops (x :: bs) E H1 else none
theorem settledB_ok {X:Cx} {ops:Array Oper} {E:Env} {H:Heap} {f:Nat} (h:settledB X ops E H f) : settledP X ops E H f:=by
 obtain ⟨o,t,v,ho,ht,hv,h⟩:=h
 refine ⟨o,t,v,ho,ht,hv,h.imp id fun ⟨hg,hev⟩=>⟨hg,?_⟩⟩
 cases hcl : isCall o with
 | false =>
  have:=evP_no (X:=X) (c:=fun _ _ _=>none) (env:=E) (H:=H) (id:=H.length) hcl
  rw [← this]
  exact hev
 | true =>
  exfalso
  obtain ⟨g,args,ats,ho⟩:=isCall_op hcl
  have e1 : ev1 X.T X.own E o = none:=by unfold ev1; rw [ho]
  have e0 : ev0 X.T E H o = none:=by unfold ev0; rw [ho]
  have ex : evX X.T E H H.length o = none:=by unfold evX; rw [ho]
  have ec : evC (fun _ _ _=>none) E H o = none:=by
   unfold evC
   rw [ho]
   simp only
   split
   ·
    split
    ·
     unfold callP
     split
     ·
      rfl
     ·
      split <;> rfl
    ·
     rfl
   ·
    rfl
  unfold evP evQ at hev
  simp only [e1,e0,ec,ex] at hev
  cases hev
theorem all_settled {X:Cx} {ops:Array Oper} {E:Env} {H:Heap} {F:List Nat} (h:∀ f ∈ F,settledB X ops E H f) : ∀ f ∈ F,settledP X ops E H f:=fun f hf=>settledB_ok (h f hf)
section
variable {P:Program} {DF:List Deferred} {A:Nat → Prop} {κ0:Nat → Option Loc} {nl:Nat} {I0:Nat → Option (Array Value)} {w0:World} {X:Cx} {ops:Array Oper} {Q:Exit → Act → World → Prop} {p:PlanC} {s:Nat → Env × Heap}
variable {I1 I:Nat → Option (Array Value)} {κ1 κ:Nat → Option Loc} {w1 w:World} {listed:Array Bool} {E:Env} {a:Act} {ms:List Nat}
theorem ancC (d:DrawC ops ms p) (dn:Down ops listed) : ∀ i,isL listed i → ∀ k,k < ops.size → maskAt ms i k = true → isL listed k:=by
 intro i
 induction i using Nat.strongRecOn with
 | _ i ih =>
  intro hi k hk hm
  have hlt : i < ops.size:=dn.size ▸ isL_lt hi
  obtain ⟨e,he,h⟩:=d.mask i hlt k hk hm
  have hel:=dn.down i hi e he
  rcases h with rfl | h
  ·
   exact hel
  ·
   exact ih e (d.ons i hlt e he) hel k hk h
theorem ancC' (d:DrawC ops ms p) (dn:Down ops listed) {i:Nat} (hi:i < ops.size) (hon:∀ e ∈ opOns ops i,isL listed e) {k:Nat} (hk:k < ops.size) (hm:maskAt ms i k = true) : isL listed k:=by
 obtain ⟨e,he,h⟩:=d.mask i hi k hk hm
 rcases h with rfl | h
 ·
  exact hon _ he
 ·
  exact ancC d dn e (hon _ he) k hk h
theorem partLooks (d:DrawC ops ms p) (T:TraceA X ops p.a ops.size s) (dn:Down ops listed) (q:PartA DF X ops p.a s I1 κ1 w1 listed I κ w E a) {i:Nat} (hi:i ∈ p.a) (hun:¬ isL listed i) (hon:∀ e ∈ opOns ops i,isL listed e) :
  ∀ t ∈ opLooks ops i,(s i).1[t]? = E[t]?:=by
 intro t ht
 have hin:=d.altA i hi
 by_cases hw : ∃ j ∈ p.a,i ≠ j ∧ opDst ops j = some t
 ·
  obtain ⟨j,hj,hij,hd⟩:=hw
  have hjn:=d.altA j hj
  have h2:=(d.looksA i hi j hj hij t hd).1 ht
  have h1:=d.lt i hin j hjn h2
  have hl:=ancC' d dn hin hon hjn h2
  rw [q.ein j hj hl t hd]
  have e1 : (s ops.size).1[t]? = (s (j + 1)).1[t]?:=T.same (j + 1) ops.size (by omega) (Nat.le_refl _) (fun k ka h1 h2 hk=>(d.looksA k ka j hj (by omega) t hd).2 hk)
  have e2 : (s i).1[t]? = (s (j + 1)).1[t]?:=T.same (j + 1) i (by omega) (by omega) (fun k ka h1 h2 hk=>(d.looksA k ka j hj (by omega) t hd).2 hk)
  rw [e1,e2]
 ·
  have hw' : ∀ j ∈ p.a,i ≠ j → opDst ops j ≠ some t:=fun j hj hij hd=>hw ⟨j,hj,hij,hd⟩
  rw [q.eout t (fun k hk hl=>hw' k hk (fun e=>hun (e ▸ hl)))]
  exact T.same 0 i (by omega) (by omega) (fun k ka h1 h2=>hw' k ka (by omega))
theorem partNext (hT:X.T.ok P) (hc:CallOK P X.call) (d:DrawC ops ms p) (T:TraceA X ops p.a ops.size s) (dn:Down ops listed) (hk1:∀ id,(s 0).2.length ≤ id → κ1 id = none) (q:PartA DF X ops p.a s I1 κ1 w1 listed I κ w E a) {i:Nat} (hi:i ∈ p.a) (hun:¬ isL listed i)
  (hon : ∀ e ∈ opOns ops i, isL listed e) {K : Act → World → Prop} (hK : ∀ a' w' I' κ' E', PartA DF X ops p.a s I1 κ1 w1 (listed.setIfInBounds i true) I' κ' w' E' a' → K a' w') : wpOp P ops Q i K a w := by
 have hin:=d.altA i hi
 obtain ⟨o,ho,hstep⟩:=T.step i hin hi
 have hlooks:=partLooks d T dn q hi hun hon
 simp only [opLooks,ho] at hlooks
 have hdst : opDst ops i = o.dst:=by simp only [opDst,ho]
 have hsz : i < listed.size:=by rw [dn.size]; omega
 have heout : ∀ v t,(∀ k ∈ p.a,isL (listed.setIfInBounds i true) k → opDst ops k ≠ some t) → (putE E o.dst v)[t]? = (s 0).1[t]?:=by
  intro v t h
  have hi':=h i hi (by rw [isL_set hsz]; exact .inl rfl)
  rw [hdst] at hi'
  rw [putE_ne hi']
  exact q.eout t fun k hk hl=>h k hk (by rw [isL_set hsz]; exact .inr hl)
 have hdist : ∀ k ∈ p.a,k ≠ i → ∀ t,opDst ops k = some t → o.dst ≠ some t:=fun k hk hki t ht=>by
  rw [← hdst]
  exact (d.looksA i hi k hk (Ne.symm hki) t ht).2
 have hein : ∀ v,(s (i + 1)).1 = putE (s i).1 o.dst v → ∀ k ∈ p.a,isL (listed.setIfInBounds i true) k → ∀ t,opDst ops k = some t → (putE E o.dst v)[t]? = (s ops.size).1[t]?:=by
  intro v hv k hk hl t ht
  by_cases hki : k = i
  ·
   subst hki
   have e1 : (s ops.size).1[t]? = (s (k + 1)).1[t]?:=T.same (k + 1) ops.size (by omega) (Nat.le_refl _) (fun j ja h1 h2 hj=>(d.looksA j ja k hi (by omega) t ht).2 hj)
   rw [e1,hv]
   exact putE_eq (hdst ▸ ht) (by rw [q.elen,T.len k (by omega)])
  ·
   rw [putE_ne (hdist k hk hki t ht)]
   rw [isL_set hsz] at hl
   exact q.ein k hk (hl.resolve_left hki) t ht
 unfold wpOp
 rw [ho]
 simp only
 rcases stepP_cases hstep with ⟨hg,h1,h2⟩ | ⟨hg,v,b,hev,h1,h2⟩
 ·
  rw [guardOf_congr hlooks] at hg
  rw [guardOf_wanted q.env hg]
  have hsame : (s (i + 1)).2.length = (s i).2.length:=by rw [h2]
  refine hK (a.put o.dst undef) w I κ (putE E o.dst (.tup [])) ⟨q.wr,?_,q.mv,by rw [putE_len,q.elen],heout _,hein _ h1,q.kold,fun k hk hgr=>?_,q.kown,?_⟩
  ·
   cases hd : o.dst with
   | none=>exact q.env
   | some t=>simpa [putE,Act.put] using q.env.set t undef_rv
  ·
   rw [isL_set hsz]
   by_cases hki : k = i
   ·
    subst hki; exact absurd hsame hgr
   ·
    rw [← q.knew k hk hgr]
    exact ⟨fun h=>h.resolve_left hki,.inr⟩
  ·
   cases hd : o.dst <;> exact q.nodef
 ·
  rw [guardOf_congr hlooks] at hg
  rw [guardOf_wanted q.env hg]
  refine .inl (Goes.wp ?_)
  obtain ⟨id, hid, hidH, hev', hidi⟩ : ∃ id, κ id = none ∧ (∀ blk, b = some blk → (s ops.size).2[id]? = some (some blk)) ∧ evP X E (s ops.size).2 id o = some (v, b) ∧ ((b = none ∧ id = (s ops.size).2.length) ∨ (b ≠ none ∧ id = (s i).2.length)) := by
   cases b with
   | none =>
    refine ⟨(s ops.size).2.length,?_,by simp,evP_mono (T.sub (by omega) (Nat.le_refl _)) (opd_looks hlooks) (evP_any hev),.inl ⟨rfl,rfl⟩⟩
    cases hk : κ (s ops.size).2.length with
    | none=>rfl
    | some l =>
     obtain ⟨blk,hb,_⟩:=q.wr.own _ _ hk
     simp at hb
   | some b =>
    have hgr : (s (i + 1)).2.length ≠ (s i).2.length:=by rw [h2]; simp [extH]
    refine ⟨(s i).2.length,?_,fun blk hb=>?_,evP_mono (T.sub (by omega) (Nat.le_refl _)) (opd_looks hlooks) hev,.inr ⟨by simp,rfl⟩⟩
    ·
     cases hk : κ (s i).2.length with
     | none=>rfl
     | some l=>exact absurd ((q.knew i hi hgr).2 (by simp [hk])) hun
    ·
     cases hb
     exact T.sub (i:=i + 1) (j:=ops.size) (by omega) (Nat.le_refl _) _ _ (by rw [h2]; simp [extH])
  refine (evP_sound hT hc q.wr q.env hid hidH hev').mono fun x w' ⟨I', κ', g, hw', hr, k1, k2, k3⟩ => ?_
  have hid0 : (s 0).2.length ≤ id:=by
   rcases hidi with ⟨_,h⟩ | ⟨_,h⟩
   ·
    rw [h]; exact T.lens (by omega) (by omega)
   ·
    rw [h]; exact T.lens (by omega) (by omega)
  refine hK (a.put o.dst x) w' I' κ' (putE E o.dst v) ⟨hw', ?_, q.mv.trans g.move (fun _ h => h.elim), by rw [putE_len, q.elen], heout _, hein _ h1, fun j hj => ?_, fun k hk hgr => ?_, fun j b' base cap sz nn hj => ?_, ?_⟩
  ·
   cases hd : o.dst with
   | none=>exact q.env.mono g.im g.loc
   | some t=>simpa [putE,Act.put] using (q.env.mono g.im g.loc).set t hr
  ·
   rw [k1 j (by omega)]
   exact q.kold j hj
  ·
   rw [isL_set hsz]
   have hkn:=d.altA k hk
   by_cases hki : k = i
   ·
    subst hki
    have hb : b ≠ none:=by
     intro hb
     rw [h2,hb] at hgr
     exact hgr rfl
    rcases hidi with ⟨h,_⟩ | ⟨_,h⟩
    ·
     exact absurd h hb
    ·
     rw [← h]
     exact ⟨fun _=>k3 hb,fun _=>.inl rfl⟩
   ·
    have hne : (s k).2.length ≠ id:=by
     rcases hidi with ⟨hb,h⟩ | ⟨hb,h⟩
     ·
      have a1:=T.lens (i:=k) (j:=k + 1) (by omega) (by omega)
      have a2:=T.lens (i:=k + 1) (j:=ops.size) (by omega) (by omega)
      omega
     ·
      rw [h]
      intro e
      have hgr' : (s (i + 1)).2.length ≠ (s i).2.length:=by
       rw [h2]
       cases b with
       | none=>exact absurd rfl hb
       | some b=>simp [extH]
      exact hki (T.apart hkn hin hgr hgr' e)
    rw [k1 _ hne,← q.knew k hk hgr]
    exact ⟨fun h=>h.resolve_left hki,.inr⟩
  ·
   rcases g.lnew _ _ _ _ _ _ hj with h | h
   ·
    exact q.kown _ _ _ _ _ _ h
   ·
    have:=q.mv.size; exact .inr (by omega)
  ·
   cases hd : o.dst <;> exact q.nodef
theorem partOff (d:DrawC ops ms p) (T:TraceA X ops p.a ops.size s) {a1:Act} (st:St DF A κ0 nl I0 w0 I1 κ1 (s 0).2 w1 (s 0).1 a1) (q:PartA DF X ops p.a s I1 κ1 w1 listed I κ w E a) (hall:∀ k ∈ p.a,¬ isL listed k → (s (k + 1)).2.length = (s k).2.length) :
  Off ops p.a listed E (s ops.size).1 ∧ St DF A κ0 nl I0 w0 I κ (s ops.size).2 w E a:=by
 refine ⟨⟨by rw [q.elen,T.len ops.size (Nat.le_refl _)],fun t ht=>?_⟩,?_⟩
 ·
  by_cases hw : ∃ j ∈ p.a,opDst ops j = some t
  ·
   obtain ⟨j,hj,hd⟩:=hw
   refine q.ein j hj (Classical.byContradiction fun hun=>ht j hj hun hd) t hd
  ·
   have hw' : ∀ j ∈ p.a,opDst ops j ≠ some t:=fun j hj hd=>hw ⟨j,hj,hd⟩
   rw [q.eout t (fun k hk _=>hw' k hk)]
   exact (T.same 0 ops.size (by omega) (Nat.le_refl _) (fun k ka _ h2=>hw' k ka)).symm
 have hlen:=T.lens (i:=0) (j:=ops.size) (by omega) (Nat.le_refl _)
 refine ⟨q.wr,q.env,st.mv.trans q.mv (fun _ h=>h.elim),fun i b base cap sz nn h=>?_,fun i blk hb=>?_,q.nodef,fun i hi l h=>?_,by have:=st.len; omega⟩
 ·
  rcases q.kown _ _ _ _ _ _ h with h | h
  ·
   exact st.own _ _ _ _ _ _ h
  ·
   have:=st.mv.size; exact .inr (by omega)
 ·
  rcases Nat.lt_or_ge i (s 0).2.length with hi | hi
  ·
   obtain ⟨more,hmore⟩:=T.pre 0 ops.size (by omega) (Nat.le_refl _)
   rw [hmore,List.getElem?_append_left hi] at hb
   rw [q.kold i hi]
   exact st.dom _ _ hb
  ·
   have hlt : i < (s ops.size).2.length:=by
    rcases Nat.lt_or_ge i (s ops.size).2.length with h | h
    ·
     exact h
    ·
     simp [List.getElem?_eq_none h] at hb
   obtain ⟨j,ja,hj,h1,h2⟩:=T.made i hi ops.size (Nat.le_refl _) hlt
   have hjl : isL listed j:=Classical.byContradiction fun hun=>h2 (hall j ja hun)
   have:=(q.knew j ja h2).1 hjl
   rw [h1] at this
   cases hk : κ i with
   | none=>exact absurd hk this
   | some l=>exact ⟨l,rfl⟩
 ·
  have:=st.len
  rw [q.kold i (by omega)] at h
  exact st.lent i hi l h
theorem readyC (dn:Down ops listed) (d:DrawC ops ms p) (hnil:Region.ready .any ops listed = []) : ∀ i,i < ops.size → isL listed i:=by
 intro i
 induction i using Nat.strongRecOn with
 | _ i ih =>
  intro hi
  refine Classical.byContradiction fun hun=>?_
  have : i ∈ Region.ready .any ops listed:=(ready_iff dn.size i).2 ⟨hi,hun,fun e he=>by
   have:=d.ons i hi e he
   exact ih e this (by omega)⟩
  rw [hnil] at this
  cases this
end
section
variable {P:Program} {I I' : Nat → Option (Array Value)} {κ κ' : Nat → Option Loc} {w w' : World} {H H' : Heap} {DF:List Deferred} {A:Nat → Prop} {κ0:Nat → Option Loc} {I0:Nat → Option (Array Value)} {w0:World} {E E' env env' : Env} {a:Act} {ops:Array Oper} {Q:Exit → Act → World → Prop} {X:Px} {pan:Oracle} {r:Option AV × Env × Heap} {p:PlanC} {ms:List Nat} {listed:Array Bool}
theorem lateB_wp (hT:X.T.ok P) (hc:CallOK P X.call) (s:St DF A κ0 X.nl I0 w0 I κ H w E' a) {vl:List Nat} (hv:∀ f ∈ vl,f ∈ p.all) (hoff:Off ops vl listed E' E) (d:DrawC ops ms p) (dn:Down ops listed) {i:Nat} (hi:i ∈ vl) (hun:¬ isL listed i) (hon:∀ e ∈ opOns ops i,isL listed e)
  (hself:∀ t,opDst ops i = some t → t ∉ opLooks ops i) (hset:settledP X.toCx ops E H i) {K:Act → World → Prop}
  (hK:∀ a' w' I' κ' E2,St DF A κ0 X.nl I0 w0 I' κ' H w' E2 a' → Off ops vl (listed.setIfInBounds i true) E2 E → K a' w') : wpOp P ops Q i K a w:=by
 have hin:=d.alt i (hv i hi)
 have hsz : i < listed.size:=by rw [dn.size]; exact hin
 have hlooks : ∀ t ∈ opLooks ops i,E[t]? = E'[t]?:=by
  intro t ht
  refine (hoff.2 t fun f hf hfu hd=>?_).symm
  by_cases hfi : f = i
  ·
   subst hfi; exact hself t hd ht
  ·
   have hm:=(d.looks i (hv i hi) f (hv f hf) (Ne.symm hfi) t hd).1 ht
   exact hfu (ancC' d dn hin hon (d.alt f (hv f hf)) hm)
 have hoff2 : ∀ v t,opDst ops i = some t → E[t]? = some v → Off ops vl (listed.setIfInBounds i true) (E'.set t v) E:=by
  intro v t hd hv
  refine ⟨by simpa using hoff.1,fun u hu=>?_⟩
  by_cases htu : t = u
  ·
   subst htu
   have : t < E'.length:=by rw [hoff.1]; exact (List.getElem?_eq_some_iff.1 hv).1
   rw [List.getElem?_set_self this,hv]
  ·
   rw [List.getElem?_set_ne htu]
   refine hoff.2 u fun f hf hfu hd'=>?_
   refine hu f hf (fun hl=>?_) hd'
   rw [isL_set hsz] at hl
   rcases hl with rfl | hl
   ·
    rw [hd] at hd'
    cases hd'
    exact htu rfl
   ·
    exact hfu hl
 obtain ⟨o,t,v,ho,hd,hv,hset⟩:=hset
 have hlk : ∀ t ∈ o.looksAt ops,E[t]? = E'[t]?:=by simpa only [opLooks,ho] using hlooks
 have hdst : opDst ops i = some t:=by simp only [opDst,ho,hd]
 unfold wpOp
 rw [ho]
 simp only
 rcases hset with ⟨hg,hveq⟩ | ⟨hg,hev⟩
 ·
  rw [guardOf_congr hlk] at hg
  rw [guardOf_wanted s.env hg]
  simp only [Bool.false_eq_true,if_false]
  refine hK _ _ I κ _ ?_ (hoff2 v t hdst hv)
  have:=s.put (undef_rv (I:=I) (κ:=κ)) o.dst
  simp only [hd] at this
  rw [hd,← hveq]
  exact this
 ·
  rw [guardOf_congr hlk] at hg
  rw [guardOf_wanted s.env hg]
  simp only [if_true]
  have hev' : evP X.toCx E' H H.length o = some (v,none):=evP_mono (fun _ _ h=>h) (opd_looks hlk) hev
  refine .inl (Goes.wp ?_)
  refine (evP_sound hT hc s.wr s.env (s.none_at (Nat.le_refl _)) (fun blk h=>by cases h) hev').mono fun x w' hadd=>?_
  obtain ⟨I', κ', s'⟩ := s.adds (b := none) (v := v) (x := x) o.dst hadd
  rw [hd] at s' ⊢
  refine hK _ _ I' κ' _ s' ?_
  exact hoff2 v t hdst hv
theorem stillB {s:Nat → Env × Heap} (d:DrawC ops ms p) (T:TraceA X.toCx ops p.a ops.size s) {f:Nat} (hf:f ∈ p.a) (hself:∀ t,opDst ops f = some t → t ∉ opLooks ops f) (hset:settledP X.toCx ops (s ops.size).1 (s ops.size).2 f) : (s (f + 1)).2.length = (s f).2.length:=by
 have hfn:=d.altA f hf
 obtain ⟨o,ho,hst⟩:=T.step f hfn hf
 have hlk : ∀ t ∈ o.looksAt ops,(s f).1[t]? = (s ops.size).1[t]?:=by
  intro t ht
  have ht' : t ∈ opLooks ops f:=by simpa only [opLooks,ho] using ht
  refine (T.same f ops.size (by omega) (Nat.le_refl _) fun k ka h1 h2 hd=>?_).symm
  by_cases hkf : k = f
  ·
   subst hkf; exact hself t hd ht'
  ·
   have hm:=(d.looksA f hf k ka (Ne.symm hkf) t hd).1 ht'
   have:=d.lt f hfn k (d.altA k ka) hm
   omega
 rcases stepP_cases hst with ⟨_,_,h2⟩ | ⟨hg,v,b,hev,_,h2⟩
 ·
  rw [h2]
 ·
  have hg' : guardOf ops (s ops.size).1 o = some true:=by rw [← guardOf_congr hlk]; exact hg
  have hev' : evP X.toCx (s ops.size).1 (s ops.size).2 (s f).2.length o = some (v,b):=evP_mono (T.sub (by omega) (Nat.le_refl _)) (opd_looks hlk) hev
  obtain ⟨o', t, v', ho', hd, hv, h⟩ := hset
  rw [ho] at ho'
  cases ho'
  rcases h with ⟨h,_⟩ | ⟨_,h⟩
  ·
   rw [hg'] at h; cases h
  ·
   have:=evP_any (id':=(s f).2.length) h
   rw [hev'] at this
   cases this
   rw [h2]
   rfl
theorem runP_out {X:Cx} {ops:Array Oper} : ∀ (os:List Oper) {env:Env} {H:Heap} {q:Env × Heap},runP X ops os env H = some q → q.1.length = env.length ∧ ∀ t,(∀ o ∈ os,o.dst ≠ some t) → q.1[t]? = env[t]?
 | [],env,H,q,h=>by
  cases h
  exact ⟨rfl,fun _ _=>rfl⟩
 | o :: os,env,H,q,h=>by
  unfold runP at h
  split at h
  ·
   rename_i e2 H2 h2
   obtain ⟨l1,o1⟩:=runP_out os h
   obtain ⟨l2,o2⟩:=stepP_env h2
   refine ⟨by rw [l1,l2],fun t ht=>?_⟩
   rw [o1 t fun o ho=>ht o (List.mem_cons_of_mem _ ho)]
   exact o2 t (ht o (by simp))
  ·
   cases h
theorem offC_none {vl:List Nat} (h:Off ops vl listed E' E) (hall:∀ f ∈ vl,isL listed f) : E' = E:=off_none (p:=⟨vl,[]⟩) h hall
theorem otherB_wp (hT:X.T.ok P) (hc:CallOK P X.call) (hp:PanOK P pan) (d:DrawC ops ms p) (dn:Down ops listed) {pre post:List (Nat × List Nat × List Nat)} {x:Nat × List Nat × List Nat} (hb:p.b = pre ++ x :: post) (s:St DF A κ0 X.nl I0 w0 I κ H w E' a) (hoff:Off ops (plainTo p.a pre) listed E' E)
  (hpend:∀ f ∈ plainTo p.a pre,¬ isL listed f → f ∈ x.2.1) (hcun:∀ c ∈ x.2.2,¬ isL listed c)
  (h:stepB X pan ops x.1 x.2.1 x.2.2 E H = some r) {K:Act → World → Prop}
  (hK : ∀ E2 H2 a' w' I' κ' E2', r = (none, E2, H2) → St DF A κ0 X.nl I0 w0 I' κ' H2 w' E2' a' → Off ops (plainTo p.a pre ++ x.2.2) (listed.setIfInBounds x.1 true) E2' E2 → (∀ f ∈ x.2.1 ++ x.2.2, settledP X.toCx ops E2 H2 f) → K a' w')
  (hQ : ∀ y env' H', r = (some y, env', H') → ∀ I κ a' w' v, St DF A κ0 X.nl I0 w0 I κ H' w' env' a' → RV I κ y v → Q (pan1 v) a' w') : wpOp P ops Q x.1 K a w := by
 have hx : x ∈ p.b:=by rw [hb]; simp
 have hxm : x.1 ∈ p.b.map (·.1):=List.mem_map_of_mem hx
 have hxn:=d.blt _ hxm
 have hsz : x.1 < listed.size:=by rw [dn.size]; exact hxn
 have hvall : ∀ f ∈ plainTo p.a pre,f ∈ p.all:=fun f hf=>PlanC.pre_all hb hf
 have hcall : ∀ f ∈ x.2.2,f ∈ p.all:=fun f hf=>by
  unfold PlanC.all plainTo
  exact List.mem_append_right _ (List.mem_flatMap.2 ⟨x,hx,hf⟩)
 have hnl : ∀ f ∈ p.all,(isL (listed.setIfInBounds x.1 true) f ↔ isL listed f):=fun f hf=>by
  rw [isL_set hsz]
  exact ⟨fun h=>h.resolve_left fun e=>d.disj f hf (e ▸ hxm),.inr⟩
 unfold stepB at h
 split at h
 ·
  cases h
 ·
  rename_i o ho
  have hdst : opDst ops x.1 = o.dst:=by simp only [opDst,ho]
  split at h
  ·
   rename_i hFC
   obtain ⟨hF,hC⟩:=List.append_eq_nil_iff.1 hFC
   have hall : ∀ f ∈ plainTo p.a pre,isL listed f:=fun f hf=>Classical.byContradiction fun hun=>by
    have:=hpend f hf hun
    rw [hF] at this
    cases this
   have hE:=offC_none hoff hall
   subst hE
   obtain ⟨ro,e2,h2⟩:=r
   refine stepQ_wp hT hc hp ⟨I, κ, s⟩ ho h (fun hr a' w' ⟨I', κ', s'⟩ => ?_) (fun y hy => ?_)
   ·
    subst hr
    exact hK _ _ _ _ _ _ _ rfl s' ⟨rfl,fun _ _=>rfl⟩ (by rw [hF,hC]; simp)
   ·
    subst hy
    exact hQ y _ _ rfl
  ·
   rename_i f0 fs hF
   unfold slotsOf at h
   generalize hts : x.2.1.filterMap (opDst ops) = ts at h
   have hm : RVs I κ (maskT ts E) a.tmps.toList:=by
    refine RVs.weak s.env (by rw [maskT_len,hoff.1]) fun t=>?_
    rcases maskT_at ts E t with h1 | ⟨h1,h2⟩ | h1
    ·
     exact .inl h1
    ·
     right
     rw [h2]
     refine (hoff.2 t fun f hf hun hd=>h1 ?_).symm
     rw [← hts]
     exact List.mem_filterMap.2 ⟨f,hpend f hf hun,hd⟩
    ·
     right
     have l1:=List.getElem?_eq_none_iff.1 h1
     rw [List.getElem?_eq_none (by rw [maskT_len]; exact l1),List.getElem?_eq_none (by rw [hoff.1]; exact l1)]
   have sm : St DF A κ0 X.nl I0 w0 I κ H w (maskT ts E) a:=⟨s.wr,hm,s.mv,s.own,s.dom,s.nodef,s.lent,s.len⟩
   have sb:=sm.begin
   split at h
   ·
    rename_i E1 H1 hz
    split at h
    ·
     rename_i hal
     split at h
     ·
      cases h
     ·
      rename_i os hos
      split at h
      ·
       cases h
      ·
       rename_i E2 H2 hrun
       split at h
       ·
        rename_i hset
        cases h
        have hset' : ∀ f ∈ x.2.1 ++ x.2.2,settledP X.toCx ops E2 H1 f:=all_settled hset.2
        obtain ⟨el,eo⟩:=runP_out os (runPG_runP _ hrun)
        have eo' : ∀ t,(∀ c ∈ x.2.2,opDst ops c ≠ some t) → E2[t]? = (restT E ts E1)[t]?:=by
         intro t ht
         refine eo t fun o' ho' hd=>?_
         have hmm:=mapO_map hos
         have : some o' ∈ x.2.2.map (fun i=>ops[i]?):=by
          rw [hmm]
          exact List.mem_map_of_mem ho'
         obtain ⟨c,hc1,hc2⟩:=List.mem_map.1 this
         exact ht c hc1 (by simp only [opDst,hc2,hd])
        refine wpOp_mono (K:=fun a' w'=>Stx DF (lentOf κ) κ H.length I w H1 E1 a' w' ∧ ∃ v,a'.tmps = (a.put o.dst v).tmps) (fun a' w' ⟨⟨I2,κ2,s2⟩,v,hv⟩=>?_)
         (wpOp_frame ho (stepQ_wp (X:={ X with nl:=H.length }) (DF:=DF) (A:=lentOf κ) (κ0:=κ) (I0:=I) (w0:=w) hT hc hp ⟨I,κ,sb⟩ ho hz (fun _ a' w' s'=>s') (fun y hy=>by cases hy)))
        have s3:=sm.back s2
        have hE1 : E1.length = E.length:=by
         have l1:=s3.env.length
         have l2:=sm.env.length
         rw [hv] at l1
         rw [maskT_len] at l2
         have : (a.put o.dst v).tmps.toList.length = a.tmps.toList.length:=by cases o.dst <;> simp [Act.put]
         omega
        -- those that were done
        let tl:=(x.2.1.filter (fun f=>decide (isL listed f))).filterMap (opDst ops)
        have htl : ∀ t ∈ tl,t ∈ ts ∧ ∃ f ∈ x.2.1,isL listed f ∧ opDst ops f = some t:=by
         intro t ht
         obtain ⟨f,hf,hd⟩:=List.mem_filterMap.1 ht
         rw [List.mem_filter] at hf
         refine ⟨?_,f,hf.1,by simpa using hf.2,hd⟩
         rw [← hts]
         exact List.mem_filterMap.2 ⟨f,hf.1,hd⟩
        have henv : RVs I2 κ2 (restT E tl E1) a'.tmps.toList:=by
         refine RVs.rest tl s3.env fun t ht v0 hv0=>?_
         obtain ⟨hts', f, hf, hfl, hd⟩ := htl t ht
         have hfa:=d.fa pre x post hb f hf
         have he : E'[t]? = some v0:=by
          rw [hoff.2 t fun g hg hgu hgd=>?_,hv0]
          by_cases hgf : g = f
          ·
           subst hgf; exact hgu hfl
          ·
           exact (d.looks g (hvall g hg) f (hvall f hfa) hgf t hd).2 hgd
         obtain ⟨y,hy,hyr⟩:=s.env.get he
         have hne : o.dst ≠ some t:=by
          rw [← hdst]
          exact (d.blooks x.1 hxm f (hvall f hfa) t hd).2
         refine ⟨y,?_,?_⟩
         ·
          rw [hv]
          cases hod : o.dst with
          | none=>exact hy
          | some u =>
           have hut : u ≠ t:=fun e=>hne (by rw [hod,e])
           simp only [Act.put,Array.toList_setIfInBounds]
           rw [List.getElem?_set_ne hut]
           exact hy
         ·
          have hids:=hasAll_ok sb s2 hal
          refine RV.on s2.mv.im hyr fun i hi l hl=>hids i ?_ l hl
          refine mem_idss (x:=v0) ?_ i hi
          exact List.mem_filterMap.2 ⟨t, hts', hv0⟩
        refine hK _ _ _ _ _ _ _ rfl ⟨s3.wr,henv,s3.mv,s3.own,s3.dom,s3.nodef,s3.lent,s3.len⟩ ⟨by rw [el,restT_len,hE1,restT_len,hE1],fun t ht=>?_⟩ hset'
        rw [eo' t fun c hc hd=>ht c (List.mem_append_right _ hc) (fun hl=>hcun c hc ((hnl c (hcall c hc)).1 hl)) hd]
        by_cases hin : t ∈ ts
        ·
         rw [restT_in E ts E1 t hin hE1]
         refine restT_in E tl E1 t ?_ hE1
         rw [← hts] at hin
         obtain ⟨f,hf,hd⟩:=List.mem_filterMap.1 hin
         have hfa:=d.fa pre x post hb f hf
         have hfl : isL listed f:=Classical.byContradiction fun hun=>ht f (List.mem_append_left _ hfa) (fun hl=>hun ((hnl f (hvall f hfa)).1 hl)) hd
         exact List.mem_filterMap.2 ⟨f,List.mem_filter.2 ⟨hf,by simpa using hfl⟩,hd⟩
        ·
         rw [restT_out E ts E1 t hin]
         exact restT_out E tl E1 t fun h=>hin (htl t h).1
       ·
        cases h
    ·
     cases h
   ·
    rename_i y E1 H1 hz
    cases h
    refine stepQ_wp (X:={ X with nl:=H.length }) (DF:=DF) (A:=lentOf κ) (κ0:=κ) (I0:=I) (w0:=w) hT hc hp ⟨I,κ,sb⟩ ho hz (fun hy=>by cases hy) (fun y' hy I2 κ2 a' w' v s2 hv=>?_)
    cases hy
    exact hQ _ _ _ rfl _ _ _ _ _ (sm.back s2) hv
   ·
    cases h
theorem othersB (hT:X.T.ok P) (hc:CallOK P X.call) (hp:PanOK P pan) (d:DrawC ops ms p) {e:Ez} {env' : Env} {H' : Heap} (hM:Meets DF A κ0 X.nl I0 w0 e env' H' Q) :
  ∀ (fuel:Nat) (done bs:List (Nat × List Nat × List Nat)) (Fp:List Nat) (U:List Nat) (listed:Array Bool) (a:Act) (w:World) (I:Nat → Option (Array Value)) (κ:Nat → Option Loc) (E E' : Env) (H:Heap),
   p.b = done ++ bs → (∀ x ∈ done,isL listed x.1) → (∀ x ∈ bs,¬ isL listed x.1) → Down ops listed → (∀ f ∈ p.all,¬ isL listed f → f ∈ U ∧ (f ∈ plainTo p.a done → f ∈ Fp)) → (∀ f ∈ Fp,settledP X.toCx ops E H f ∧ ∀ t,opDst ops f = some t → t ∉ opLooks ops f) → U.length + bs.length ≤ fuel →
   Off ops (plainTo p.a done) listed E' E → St DF A κ0 X.nl I0 w0 I κ H w E' a → endQ (runB X pan ops bs E H) = some (e, env', H') → wpAny P .any ops Q fuel listed a w := by
 intro fuel
 induction fuel with
 | zero =>
  intro done bs Fp U listed a w I κ E E' H hb hdone hbs dn hpend hset hU hoff s h
  have hUn : U = []:=List.eq_nil_of_length_eq_zero (by omega)
  have hbn : bs = []:=List.eq_nil_of_length_eq_zero (by omega)
  subst hUn hbn
  have hall : ∀ f ∈ p.all,isL listed f:=fun f hf=>Classical.byContradiction fun hun=>by
   have:=(hpend f hf hun).1
   cases this
  have hE:=offC_none hoff fun f hf=>hall f (PlanC.pre_all hb hf)
  subst hE
  cases h
  refine wpAny_done ?_ (hM.1 rfl _ _ ⟨I,κ,s⟩) 0
  cases hr : Region.ready .any ops listed with
  | nil=>rfl
  | cons i is =>
   have hi : i ∈ Region.ready .any ops listed:=by rw [hr]; simp
   obtain ⟨h1,h2,_⟩:=(ready_iff dn.size i).1 hi
   rcases d.cover i h1 with h3 | h3
   ·
    exact absurd (hall i h3) h2
   ·
    rw [hb,List.append_nil] at h3
    obtain ⟨x,hx,rfl⟩:=List.mem_map.1 h3
    exact absurd (hdone x hx) h2
 | succ fuel ih =>
  intro done bs Fp U listed a w I κ E E' H hb hdone hbs dn hpend hset hU hoff s h
  refine ⟨fun hnil=>?_,fun i hi=>?_⟩
  ·
   have hall:=readyC dn d hnil
   have hbn : bs = []:=by
    cases bs with
    | nil=>rfl
    | cons x bs=>exact absurd (hall x.1 (d.blt x.1 (by rw [hb]; simp))) (hbs x (by simp))
   subst hbn
   have hE:=offC_none hoff fun f hf=>hall f (d.alt f (PlanC.pre_all hb hf))
   subst hE
   cases h
   exact hM.1 rfl _ _ ⟨I,κ,s⟩
  ·
   obtain ⟨hin,hun,hon⟩:=(ready_iff dn.size i).1 hi
   have hsz : i < listed.size:=by rw [dn.size]; exact hin
   rcases d.cover i hin with hia | hib
   ·
    have hiv : i ∈ plainTo p.a done:=by
     unfold PlanC.all at hia
     rw [hb,plainTo_app] at hia
     rcases List.mem_append.1 hia with h1 | h1
     ·
      exact h1
     ·
      exfalso
      obtain ⟨x,hx,hxc⟩:=List.mem_flatMap.1 h1
      have hxb : x ∈ p.b:=by rw [hb]; exact List.mem_append_right _ hx
      exact hbs x hx (ancC' d dn hin hon (d.blt x.1 (List.mem_map_of_mem hxb)) (d.cb x hxb i hxc))
    have hiF:=(hpend i hia hun).2 hiv
    have hiU:=(hpend i hia hun).1
    refine lateB_wp hT hc s (fun f hf=>PlanC.pre_all hb hf) hoff d dn hiv hun hon (hset i hiF).2 (hset i hiF).1 fun a' w' I' κ' E2 s2 off2=>?_
    have hpos:=List.length_pos_of_mem hiU
    refine ih done bs Fp (U.erase i) _ a' w' I' κ' E E2 H hb (fun x hx=>?_) (fun x hx=>?_) (dn.set hin hon) (fun f hf hfu=>?_) hset (by rw [List.length_erase_of_mem hiU]; omega) off2 s2 h
    ·
     rw [isL_set hsz]; exact .inr (hdone x hx)
    ·
     rw [isL_set hsz]
     rintro (e | e)
     ·
      refine d.disj i hia ?_
      rw [← e,hb]
      simp only [List.map_append,List.mem_append]
      exact .inr (List.mem_map_of_mem hx)
     ·
      exact hbs x hx e
    ·
     rw [isL_set hsz] at hfu
     have hne : f ≠ i:=fun e=>hfu (.inl e)
     have:=hpend f hf fun e=>hfu (.inr e)
     exact ⟨(List.mem_erase_of_ne hne).2 this.1,this.2⟩
   ·
    cases bs with
    | nil =>
     rw [hb,List.append_nil] at hib
     obtain ⟨x,hx,rfl⟩:=List.mem_map.1 hib
     exact absurd (hdone x hx) hun
    | cons x bs =>
     have hxb : x ∈ p.b:=by rw [hb]; simp
     have hix : i = x.1:=by
      rw [hb] at hib
      simp only [List.map_append,List.map_cons,List.mem_append,List.mem_cons] at hib
      rcases hib with h1 | h1 | h1
      ·
       obtain ⟨y,hy,rfl⟩:=List.mem_map.1 h1
       exact absurd (hdone y hy) hun
      ·
       exact h1
      ·
       exfalso
       have hch:=d.chain
       rw [hb] at hch
       simp only [List.map_append,List.map_cons] at hch
       have h2:=(List.pairwise_append.1 hch).2.1
       rw [List.pairwise_cons] at h2
       have:=ancC' d dn hin hon (d.blt x.1 (List.mem_map_of_mem hxb)) (h2.1 i h1)
       exact hbs x (by simp) this
     subst hix
     have hpx : ∀ f ∈ plainTo p.a done,¬ isL listed f → f ∈ x.2.1:=fun f hf hfu=>by
      rcases d.fl done x bs hb f hf with h1 | h1
      ·
       exact absurd (ancC' d dn hin hon (d.alt f (PlanC.pre_all hb hf)) h1) hfu
      ·
       exact h1
     have hcall : ∀ c ∈ x.2.2,c ∈ p.all:=fun c hc'=>by
      unfold PlanC.all plainTo
      exact List.mem_append_right _ (List.mem_flatMap.2 ⟨x,hxb,hc'⟩)
     have hcun : ∀ c ∈ x.2.2,¬ isL listed c:=fun c hc' hl=>hun (ancC d dn c hl x.1 (d.blt x.1 (List.mem_map_of_mem hxb)) (d.cb x hxb c hc'))
     unfold runB at h
     have hsome : ∃ q,stepB X pan ops x.1 x.2.1 x.2.2 E H = some q:=by
      cases hq : stepB X pan ops x.1 x.2.1 x.2.2 E H with
      | some q=>exact ⟨q,rfl⟩
      | none=>rw [hq] at h; cases h
     obtain ⟨q,hq⟩:=hsome
     rw [hq] at h
     have hplain : plainTo p.a (done ++ [x]) = plainTo p.a done ++ x.2.2:=by rw [plainTo_app]; simp
     refine otherB_wp hT hc hp d dn hb s hoff hpx hcun hq (fun E2 H2 a' w' I' κ' E2' hr s2 off2 hset2=>?_) (fun y env2 H2 hr I κ a' w' v s' hv=>by subst hr; cases h; exact hM.2 y rfl I κ a' w' v s' hv)
     subst hr
     refine ih (done ++ [x]) bs (x.2.1 ++ x.2.2) U _ a' w' I' κ' E2 E2' H2 (by rw [hb]; simp) (fun y hy=>?_) (fun y hy=>?_) (dn.set hin hon) (fun f hf hfu=>?_) (fun f hf=>⟨hset2 f hf,fun t ht=>?_⟩) (by simp only [List.length_cons] at hU; omega) (by rw [hplain]; exact off2) s2 h
     ·
      rw [isL_set hsz]
      rcases List.mem_append.1 hy with hy | hy
      ·
       exact .inr (hdone y hy)
      ·
       left; rw [List.mem_singleton.1 hy]
     ·
      rw [isL_set hsz]
      rintro (e | e)
      ·
       have hch:=d.chain
       rw [hb] at hch
       simp only [List.map_append,List.map_cons] at hch
       have h2:=(List.pairwise_append.1 hch).2.1
       rw [List.pairwise_cons] at h2
       have h3:=h2.1 y.1 (List.mem_map_of_mem hy)
       rw [e] at h3
       have:=d.lt x.1 hin x.1 hin h3
       omega
      ·
       exact hbs y (by simp [hy]) e
     ·
      rw [isL_set hsz] at hfu
      have hfu' : ¬ isL listed f:=fun e=>hfu (.inr e)
      refine ⟨(hpend f hf hfu').1,fun hfv=>?_⟩
      rw [hplain] at hfv
      rcases List.mem_append.1 hfv with h1 | h1
      ·
       exact List.mem_append_left _ (hpx f h1 hfu')
      ·
       exact List.mem_append_right _ h1
     ·
      have hfall : f ∈ p.all:=by
       rcases List.mem_append.1 hf with h1 | h1
       ·
        exact PlanC.pre_all hb (d.fa done x bs hb f h1)
       ·
        exact hcall f h1
      rcases d.self f hfall t ht with h1 | h1
      ·
       exact h1
      ·
       rcases List.mem_append.1 hf with h2 | h2
       ·
        exact absurd h2 (h1 x hxb).1
       ·
        exact absurd h2 (h1 x hxb).2
variable {I1:Nat → Option (Array Value)} {κ1:Nat → Option Loc} {w1:World} {s:Nat → Env × Heap}
theorem plainTo_nil {l:List Nat} : plainTo l [] = l:=by simp [plainTo]
theorem plainB (hT:X.T.ok P) (hc:CallOK P X.call) (hp:PanOK P pan) (d:DrawC ops ms p) {e:Ez} {env' : Env} {H' : Heap} (hM:Meets DF A κ0 X.nl I0 w0 e env' H' Q) (T:TraceA X.toCx ops p.a ops.size s) {a1:Act} (st:St DF A κ0 X.nl I0 w0 I1 κ1 (s 0).2 w1 (s 0).1 a1)
  (hfirst : ∀ x bs, p.b = x :: bs → ∀ f ∈ x.2.1, settledP X.toCx ops (s ops.size).1 (s ops.size).2 f) (h : endQ (runB X pan ops p.b (s ops.size).1 (s ops.size).2) = some (e, env', H')) :
  ∀ (fuel:Nat) (U:List Nat) (listed:Array Bool) (a:Act) (w:World) (I:Nat → Option (Array Value)) (κ:Nat → Option Loc) (E:Env),(∀ x ∈ p.b,¬ isL listed x.1) → Down ops listed → (∀ f ∈ p.all,¬ isL listed f → f ∈ U) → U.length + p.b.length ≤ fuel →
   PartA DF X.toCx ops p.a s I1 κ1 w1 listed I κ w E a → wpAny P .any ops Q fuel listed a w:=by
 intro fuel
 induction fuel with
 | zero =>
  intro U listed a w I κ E hb dn hUl hU q
  have hUn : U = []:=List.eq_nil_of_length_eq_zero (by omega)
  have hbn : p.b = []:=List.eq_nil_of_length_eq_zero (by omega)
  subst hUn
  have hall : ∀ f ∈ p.all,isL listed f:=fun f hf=>Classical.byContradiction fun hun=>by cases hUl f hf hun
  obtain ⟨off,s2⟩:=partOff d T st q fun f hf hun=>absurd (hall f (PlanC.a_all hf)) hun
  rw [hbn] at h
  exact othersB hT hc hp d hM 0 [] [] [] [] listed a w I κ _ E _ (by rw [hbn]; rfl) (by simp) (by simp) dn (fun f hf hun=>absurd (hall f hf) hun) (by simp) (by simp) (by rw [plainTo_nil]; exact off) s2 h
 | succ fuel ih =>
  intro U listed a w I κ E hb dn hUl hU q
  by_cases hex : (∀ f ∈ p.a,isL listed f) ∨ ∃ x bs,p.b = x :: bs ∧ ∀ e ∈ opOns ops x.1,isL listed e
  ·
   have hF : ∃ Fp : List Nat,(∀ f ∈ p.a,¬ isL listed f → f ∈ Fp) ∧ ∀ f ∈ Fp,(settledP X.toCx ops (s ops.size).1 (s ops.size).2 f ∧ ∀ t,opDst ops f = some t → t ∉ opLooks ops f) ∧ f ∈ p.a:=by
    rcases hex with hall | ⟨x,bs,hxb,hon⟩
    ·
     exact ⟨[],fun f hf hun=>absurd (hall f hf) hun,by simp⟩
    ·
     have hx : x ∈ p.b:=by rw [hxb]; simp
     have hxb' : p.b = [] ++ x :: bs:=hxb
     have hfa : ∀ f ∈ x.2.1,f ∈ p.a:=fun f hf=>by
      have:=d.fa [] x bs hxb' f hf
      rwa [plainTo_nil] at this
     refine ⟨x.2.1,fun f hf hun=>?_,fun f hf=>⟨⟨hfirst x bs hxb f hf,fun t ht=>?_⟩,hfa f hf⟩⟩
     ·
      rcases d.fl [] x bs hxb' f (by rw [plainTo_nil]; exact hf) with h1 | h1
      ·
       exact absurd (ancC' d dn (d.blt x.1 (List.mem_map_of_mem hx)) hon (d.altA f hf) h1) hun
      ·
       exact h1
     ·
      rcases d.self f (PlanC.a_all (hfa f hf)) t ht with h1 | h1
      ·
       exact h1
      ·
       exact absurd hf (h1 x hx).1
   obtain ⟨Fp,hF1,hF2⟩:=hF
   obtain ⟨off,s2⟩:=partOff d T st q fun f hf hun=>stillB d T hf (hF2 f (hF1 f hf hun)).1.2 (hF2 f (hF1 f hf hun)).1.1
   exact othersB hT hc hp d hM (fuel + 1) [] p.b Fp U listed a w I κ _ E _ rfl (by simp) hb dn (fun f hf hun=>⟨hUl f hf hun,fun hfv=>hF1 f (by rwa [plainTo_nil] at hfv) hun⟩) (fun f hf=>(hF2 f hf).1) hU (by rw [plainTo_nil]; exact off) s2 h
  ·
   have hn1 : ¬ ∀ f ∈ p.a,isL listed f:=fun h=>hex (.inl h)
   refine ⟨fun hnil=>absurd (fun f hf=>readyC dn d hnil f (d.altA f hf)) hn1,fun i hi=>?_⟩
   obtain ⟨hin,hun,hon⟩:=(ready_iff dn.size i).1 hi
   have hsz : i < listed.size:=by rw [dn.size]; exact hin
   rcases d.cover i hin with hial | hib
   ·
    have hia : i ∈ p.a:=by
     rcases List.mem_append.1 hial with h1 | h1
     ·
      exact h1
     ·
      exfalso
      obtain ⟨x,hx,hxc⟩:=List.mem_flatMap.1 h1
      exact hb x hx (ancC' d dn hin hon (d.blt x.1 (List.mem_map_of_mem hx)) (d.cb x hx i hxc))
    refine partNext hT hc d T dn (fun id hid=>st.none_at hid) q hia hun hon fun a' w' I' κ' E' q'=>?_
    have hiU:=hUl i hial hun
    have hpos:=List.length_pos_of_mem hiU
    refine ih (U.erase i) _ a' w' I' κ' E' (fun x hx=>?_) (dn.set hin hon) (fun f hf hfu=>?_) (by rw [List.length_erase_of_mem hiU]; omega) q'
    ·
     rw [isL_set hsz]
     rintro (e | e)
     ·
      exact d.disj i hial (e ▸ List.mem_map_of_mem hx)
     ·
      exact hb x hx e
    ·
     rw [isL_set hsz] at hfu
     exact (List.mem_erase_of_ne fun e=>hfu (.inl e)).2 (hUl f hf fun e=>hfu (.inr e))
   ·
    exfalso
    cases hpb : p.b with
    | nil=>rw [hpb] at hib; cases hib
    | cons x bs =>
     refine hex (.inr ⟨x,bs,hpb,?_⟩)
     have hxb : x ∈ p.b:=by rw [hpb]; simp
     rw [hpb] at hib
     simp only [List.map_cons,List.mem_cons] at hib
     rcases hib with h1 | h1
     ·
      subst h1; exact hon
     ·
      exfalso
      have hch:=d.chain
      rw [hpb] at hch
      simp only [List.map_cons] at hch
      rw [List.pairwise_cons] at hch
      have:=ancC' d dn hin hon (d.blt x.1 (List.mem_map_of_mem hxb)) (hch.1 i h1)
      exact hb x hxb this
theorem drawB_wp (hT : X.T.ok P) (hc : CallOK P X.call) (hp : PanOK P pan) (hm : P.follows .mixedOrders = true) {e : Ez} {env' : Env} {H' : Heap} (hM : Meets DF A κ0 X.nl I0 w0 e env' H' Q) (s : Stx DF A κ0 X.nl I0 w0 H env a w) (h : endQ (drawB X pan ops env H) = some (e, env', H')) {id : Nat} : (Code.region id ops true).wp P Q a w := by
 refine wp_region_any hm ?_
 unfold drawB at h
 split at h
 ·
  simp [endQ] at h
 ·
  rename_i hok
  have d:=planCOK_ok hok
  split at h
  ·
   simp [endQ] at h
  ·
   rename_i os hos
   split at h
   ·
    simp [endQ] at h
   ·
    rename_i E H1 hr
    obtain ⟨st,T,h0,hn⟩:=runP_traceA d.asort (mapO_map hos) d.altA (runPG_runP _ hr)
    obtain ⟨I1,κ1,s1⟩:=s
    have s1 : St DF A κ0 X.nl I0 w0 I1 κ1 (st 0).2 { w with drawn:=w.drawn + 1 } (st 0).1 a:=by
     rw [h0]
     exact s1.later ⟨rfl,rfl,rfl,Nat.le_refl _,fun _ _=>rfl⟩
    have hno : ∀ i,¬ isL (Array.replicate ops.size false) i:=fun i h=>by
     unfold isL at h
     by_cases hlt : i < ops.size <;> simp [hlt] at h
    have key : (∀ x bs, (planC ops).b = x :: bs → ∀ f ∈ x.2.1, settledP X.toCx ops (st ops.size).1 (st ops.size).2 f) ∧ endQ (runB X pan ops (planC ops).b (st ops.size).1 (st ops.size).2) = some (e, env', H') := by
     rw [hn]
     split at h
     ·
      rename_i hb
      rw [hb]
      exact ⟨fun x bs he=>(by cases he),h⟩
     ·
      rename_i x bs hb
      split at h
      ·
       rename_i hset
       refine ⟨fun y ys he f hf=>?_,by rw [hb]; exact h⟩
       rw [hb] at he
       cases he
       exact all_settled hset f hf
      ·
       simp [endQ] at h
    let U:=(List.range ops.size).filter fun i=>decide (i ∈ (planC ops).all)
    have hlen : U.length + (planC ops).b.length ≤ ops.size:=by
     have h1 : (U ++ (planC ops).b.map (·.1)).Nodup:=by
      rw [List.nodup_append]
      refine ⟨List.nodup_range.filter _,?_,fun x hx y hy e=>?_⟩
      ·
       exact d.chain.imp_of_mem fun {x y} hx hy h e=>by
        subst e
        have:=d.lt x (d.blt x hx) x (d.blt x hx) h
        omega
      ·
       have hx2:=(List.mem_filter.1 hx).2
       exact d.disj x (by simpa using hx2) (e ▸ hy)
     have h2 : ∀ x ∈ U ++ (planC ops).b.map (·.1),x < ops.size:=by
      intro x hx
      rcases List.mem_append.1 hx with hx | hx
      ·
       exact List.mem_range.1 (List.mem_filter.1 hx).1
      ·
       exact d.blt x hx
     have h3:=nodup_lt _ _ h1 h2
     simpa using h3
    refine plainB hT hc hp d hM T s1 key.1 key.2 ops.size U (Array.replicate ops.size false) a _ I1 κ1 (st 0).1 (fun x _=>hno _) ⟨fun i hl=>absurd hl (hno i),by simp⟩ (fun f hf _=>List.mem_filter.2 ⟨List.mem_range.2 (d.alt f hf),by simpa using hf⟩) hlen ?_
    refine ⟨⟨s1.wr.im,fun i l hl=>?_,s1.wr.inj,s1.wr.apart⟩,s1.env,.refl _,rfl,fun _ _=>rfl,fun i _ hl=>absurd hl (hno i),fun _ _=>rfl,fun i hi hg=>⟨fun hl=>absurd hl (hno i),fun hk=>?_⟩,fun _ _ _ _ _ _ h=>.inl h,s1.nodef⟩
    ·
     obtain ⟨blk,hb,hlies⟩:=s1.wr.own _ _ hl
     exact ⟨blk,T.sub (by omega) (Nat.le_refl _) _ _ hb,hlies⟩
    ·
     exact absurd (s1.none_at (T.lens (i:=0) (j:=i) (by omega) (by have:=d.altA i hi; omega))) hk
end
end Go.AM.S
/- The abstract machine,part SX: code that may panic,by steps that are told whom blocks are lent to. -/
namespace Go.AM.S
open Go.AM
def iterQ (head:Env → Heap → Env × Heap) (body:Env → Heap → Option (Ez × Env × Heap)) : Nat → Env → Heap → Option (Ez × Env × Heap)
 | 0,_,_=>none
 | n + 1,env,H=>match body (head env H).1 (head env H).2 with
  | some (.normal, env', H') => iterQ head body n env' H'
  | r=>r
noncomputable def execQ (X:Px) (pan:Oracle) (lf:Nat) : Code → Env → Heap → Option (Ez × Env × Heap)
 | .skip,env,H=>some (.normal,env,H)
 | .region id ops draw,env,H=>endQ (if draw then (if X.keep (100000 + id) then drawB X pan ops env H else runQY X pan ops env H) else runQ X pan ops ops.toList env H)
 | .seq a b,env,H=>match execQ X pan lf a env H with
  | some (.normal, env', H') => execQ X pan lf b env' H'
  | r=>r
 | .cond c t e,env,H=>match opd env c with
  | some (.im (.bool true))=>execQ X pan lf t env H
  | some (.im (.bool false))=>execQ X pan lf e env H
  | _=>none
 | .block id c,env,H=>match execQ X pan lf c env H with
  | some (.exit i, env', H') => if i == id then some (.normal, forget X.nl (X.after id) env' H') else some (.exit i, env', H')
  | some (.normal, env', H') => some (.normal, forget X.nl (X.after id) env' H')
  | some (.ret, env', H') => some (.ret, env', H')
  | some (.pan x, env', H') => some (.pan x, env', H')
  | none=>none
 | .loop c,env,H=>iterQ (headOf X c) (execQ X pan lf c) lf env H
 | .exit id,env,H=>some (.exit id,env,H)
 | .ret,env,H=>some (.ret,forget X.nl X.out env H)
 | _,_,_=>none
section
variable {P:Program} {I I' : Nat → Option (Array Value)} {κ κ' : Nat → Option Loc} {w w' : World} {H H' : Heap} {DF:List Deferred} {A:Nat → Prop} {κ0:Nat → Option Loc} {I0:Nat → Option (Array Value)} {w0:World} {env env' : Env} {a:Act} {ops:Array Oper} {Q:Exit → Act → World → Prop} {X:Px} {pan:Oracle} {nl:Nat}
theorem iterQ_wp {c:Code} {body:Env → Heap → Option (Ez × Env × Heap)} {head:Env → Heap → Env × Heap} (hhead:∀ env H a w,Stx DF A κ0 X.nl I0 w0 H env a w → Stx DF A κ0 X.nl I0 w0 (head env H).2 (head env H).1 a w)
  (hbody : ∀ {env H a w} {e : Ez} {env' : Env} {H' : Heap} {Q : Exit → Act → World → Prop}, Stx DF A κ0 X.nl I0 w0 H env a w → body env H = some (e, env', H') → Meets DF A κ0 X.nl I0 w0 e env' H' Q → c.wp P Q a w)
  {e : Ez} (hM : Meets DF A κ0 X.nl I0 w0 e env' H' Q) (n : Nat) (h : iterQ head body n env H = some (e, env', H')) (s : Stx DF A κ0 X.nl I0 w0 H env a w) : (Code.loop c).wp P Q a w := by
 let Left : Act → World → Nat → Prop := fun a w n => ∃ env H, Stx DF A κ0 X.nl I0 w0 H env a w ∧ iterQ head body n env H = some (e, env', H')
 have hex : ∃ n,Left a w n:=⟨n,env,H,s,h⟩
 refine wp_loop (fun a w=>∃ n,Left a w n) (fun a w=>leastOf (Left a w)) hex fun a w hI=>?_
 obtain ⟨⟨env1,H1,s1,h1⟩,hle⟩:=leastOf_spec hI
 generalize hN : leastOf (Left a w) = N at h1 hle
 cases N with
 | zero=>simp [iterQ] at h1
 | succ N =>
  unfold iterQ at h1
  split at h1
  ·
   rename_i e2 H2 hb
   refine hbody (hhead _ _ _ _ s1) hb ⟨fun _ a' w' s'=>?_,fun x hx=>by cases hx⟩
   have hx : ∃ n, Left a' w' n := ⟨N, e2, H2, s', h1⟩
   refine ⟨hx,?_⟩
   have := (leastOf_spec hx).2 N ⟨e2, H2, s', h1⟩
   omega
  ·
   rename_i hne
   refine hbody (hhead _ _ _ _ s1) h1 ⟨fun hp a' w' s'=>?_,fun x hx I κ a' w' v s' hr=>hM.2 x hx I κ a' w' v s' hr⟩
   have:=hM.1 hp a' w' s'
   cases e with
   | normal=>exact absurd h1 (hne _ _)
   | exit id=>exact this
   | ret=>exact this
   | pan y=>cases hp
theorem execQ_wp (hT:X.T.ok P) (hc:CallOK P X.call) (hp:PanOK P pan) (hm:P.follows .mixedOrders = true) {lf:Nat} : ∀ (c:Code) {env H a w} {e:Ez} {env' : Env} {H' : Heap} {Q:Exit → Act → World → Prop},codeOK c = true → Stx DF A κ0 X.nl I0 w0 H env a w →
  execQ X pan lf c env H = some (e, env', H') → Meets DF A κ0 X.nl I0 w0 e env' H' Q → c.wp P Q a w
 | .skip, env, H, a, w, e, env', H', Q, hk, s, h, hM => by
  simp [execQ] at h
  obtain ⟨rfl,rfl,rfl⟩:=h
  exact wp_skip (hM.1 rfl _ _ s)
 | .exit id, env, H, a, w, e, env', H', Q, hk, s, h, hM => by
  simp [execQ] at h
  obtain ⟨rfl,rfl,rfl⟩:=h
  exact wp_exit (hM.1 rfl _ _ s)
 | .ret, env, H, a, w, e, env', H', Q, hk, s, h, hM => by
  simp only [execQ,Option.some.injEq,Prod.mk.injEq] at h
  obtain ⟨rfl,h⟩:=h
  have:=forget_st (X:=X) X.out s
  rw [h] at this
  exact wp_ret (hM.1 rfl _ _ this)
 | .region id ops draw, env, H, a, w, e, env', H', Q, hk, s, h, hM => by
  unfold execQ at h
  cases draw with
  | true =>
   simp only [if_true] at h
   split at h
   ·
    exact drawB_wp hT hc hp hm hM s h
   ·
    exact runQY_wp hT hc hp hm hM (by simpa [codeOK] using hk) s h
  | false =>
   simp only [Bool.false_eq_true,if_false] at h
   exact wp_region (runQ_wp hT hc hp hM ops.toList _ (range_map ops) s h)
 | .seq x y, env, H, a, w, e, env', H', Q, hk, s, h, hM => by
  simp only [codeOK,Bool.and_eq_true] at hk
  unfold execQ at h
  split at h
  ·
   rename_i e2 H2 hx
   exact wp_seq (execQ_wp hT hc hp hm x hk.1 s hx ⟨fun _ a' w' s'=>execQ_wp hT hc hp hm y hk.2 s' h hM,fun x hx=>by cases hx⟩)
  ·
   rename_i hne
   refine wp_seq (execQ_wp hT hc hp hm x hk.1 s h ⟨fun hq a' w' s'=>?_,fun x hx I κ a' w' v s' hr=>hM.2 x hx I κ a' w' v s' hr⟩)
   have:=hM.1 hq a' w' s'
   cases e with
   | normal=>exact absurd h (hne _ _)
   | exit id=>exact this
   | ret=>exact this
   | pan y=>cases hq
 | .cond c x y, env, H, a, w, e, env', H', Q, hk, s, h, hM => by
  simp only [codeOK,Bool.and_eq_true] at hk
  unfold execQ at h
  obtain ⟨I,κ,st⟩:=s
  split at h
  ·
   rename_i hc'
   have hr:=opd_rv st.env hc'
   generalize hv : a.eval c = v at hr
   cases hr with
   | im _ _ hr =>
   cases hr
   exact wp_cond_true hv (execQ_wp hT hc hp hm x hk.1 ⟨_,_,st⟩ h hM)
  ·
   rename_i hc'
   have hr:=opd_rv st.env hc'
   generalize hv : a.eval c = v at hr
   cases hr with
   | im _ _ hr =>
   cases hr
   exact wp_cond_false hv (execQ_wp hT hc hp hm y hk.2 ⟨_,_,st⟩ h hM)
  ·
   simp at h
 | .block id c, env, H, a, w, e, env', H', Q, hk, s, h, hM => by
  unfold execQ at h
  have hk' : codeOK c = true:=by simpa [codeOK] using hk
  split at h
  ·
   rename_i i e2 H2 hx
   split at h
   ·
    rename_i hi
    simp only [Option.some.injEq,Prod.mk.injEq] at h
    simp at hi
    obtain ⟨rfl,h⟩:=h
    exact wp_block (execQ_wp hT hc hp hm c hk' s hx ⟨fun _ a' w' s'=>by
     show (if i = id then Q .normal a' w' else Q (.exit i) a' w')
     rw [if_pos hi]
     have:=forget_st (X:=X) (X.after id) s'
     rw [h] at this
     exact hM.1 rfl _ _ this,fun x hx=>by cases hx⟩)
   ·
    rename_i hi
    simp at h hi
    obtain ⟨rfl,rfl,rfl⟩:=h
    exact wp_block (execQ_wp hT hc hp hm c hk' s hx ⟨fun _ a' w' s'=>by
     show (if i = id then Q .normal a' w' else Q (.exit i) a' w')
     rw [if_neg hi]
     exact hM.1 rfl _ _ s', fun x hx => by cases hx⟩)
  ·
   rename_i e2 H2 hx
   simp only [Option.some.injEq,Prod.mk.injEq] at h
   obtain ⟨rfl,h⟩:=h
   refine wp_block (execQ_wp hT hc hp hm c hk' s hx ⟨fun _ a' w' s'=>?_,fun x hx=>by cases hx⟩)
   have:=forget_st (X:=X) (X.after id) s'
   rw [h] at this
   exact hM.1 rfl _ _ this
  ·
   rename_i e2 H2 hx
   simp at h
   obtain ⟨rfl,rfl,rfl⟩:=h
   exact wp_block (execQ_wp hT hc hp hm c hk' s hx ⟨fun _ a' w' s' => hM.1 rfl _ _ s', fun x hx => by cases hx⟩)
  ·
   rename_i y e2 H2 hx
   simp at h
   obtain ⟨rfl,rfl,rfl⟩:=h
   exact wp_block (execQ_wp hT hc hp hm c hk' s hx ⟨fun hq=>(by cases hq),fun x hx I κ a' w' v s' hr=>hM.2 x hx I κ a' w' v s' hr⟩)
  ·
   simp at h
 | .loop c, env, H, a, w, e, env', H', Q, hk, s, h, hM => by
  unfold execQ at h
  exact iterQ_wp (fun env H a w=>headOf_st c) (fun s' h' hM'=>execQ_wp hT hc hp hm c (by simpa [codeOK] using hk) s' h' hM') hM lf h s
 | .rangeFunc .., env, H, a, w, e, env', H', Q, hk, s, h, hM => by simp [execQ] at h
 | .scope _, env, H, a, w, e, env', H', Q, hk, s, h, hM => by simp [execQ] at h
 | .label _, env, H, a, w, e, env', H', Q, hk, s, h, hM => by simp [execQ] at h
 | .goto _, env, H, a, w, e, env', H', Q, hk, s, h, hM => by simp [execQ] at h
 | .refuse _, env, H, a, w, e, env', H', Q, hk, s, h, hM => by simp [execQ] at h
end
noncomputable def bodyQ (T:Tab) (call pan:Oracle) (i:Fi) (lf:Nat) (as:List AV) (H:Heap) : Option (Bool × AV × Heap) :=
 match execQ (i.px T call H.length) pan lf i.code (entry i.fn.ntmps as) H with
 | some (.normal,env,H')=>match fin T H.length i.fn.results.toList env H' with
  | some (r,H2)=>some (false,r,H2)
  | none=>none
 | some (.ret,env,H')=>match fin T H.length i.fn.results.toList env H' with
  | some (r,H2)=>some (false,r,H2)
  | none=>none
 | some (.pan x,env,H')=>some (true,AV.ren (posn (keepL H.length H' [x])) x,pickH H' (keepL H.length H' [x]))
 | _=>none
section
variable {P:Program} {T:Tab}
theorem bodyQ_ok (hT:T.ok P) {call pan:Oracle} (hc:CallOK P call) (hp:PanOK P pan) (hm:P.follows .mixedOrders = true) {f:FuncId} {i:Fi} (hi:i.ok P f) {lf:Nat} : OkZ P f (bodyQ T call pan i lf):=by
 have hrun : ∀ (w:World) (vals:List Value),(callFunc f vals.toArray).run P w = .ok (.enter f vals.toArray) w:=by
  intro w vals
  have h1 : ¬ i.fn.name = "runtime.NumGoroutine" := by simpa using hi.name
  simp [callFunc,hi.get,h1,hi.body]
 have start : ∀ (as:List AV) (H:Heap) (I:Nat → Option (Array Value)) (κ:Nat → Option Loc) (w:World) (vals:List Value),WR I κ H w → (∀ i blk,H[i]? = some (some blk) → ∃ l,κ i = some l) → RVs I κ as vals →
   Stx [] (lentOf κ) κ (i.px T call H.length).nl I w H (entry i.fn.ntmps as) { tmps:=vals.toArray ++ Array.replicate (i.fn.ntmps - vals.toArray.size) undef,defers:=[] } w:=by
  intro as H I κ w vals hw hdom hr
  have hlen:=hr.length
  refine ⟨I,κ,hw,?_,.refl _,fun i b base cap sz nn h=>.inl ⟨i,base,cap,sz,nn,h⟩,hdom,rfl,fun _ _ _ h=>h,Nat.le_refl _⟩
  simp only [Array.toList_append,Array.toList_replicate,List.size_toArray,hlen]
  exact hr.append rep_rv
 constructor
 ·
  intro as H res H' hsp I κ w vals hw hdom hr
  rw [hrun]
  show Calls P f vals.toArray w _
  refine calls_of_wp hi.get hi.body ?_
  have close : ∀ env2 H2, fin T H.length i.fn.results.toList env2 H2 = some (res, H') → ∀ a' w', Stx [] (lentOf κ) κ (i.px T call H.length).nl I w H2 env2 a' w' → a'.defers = [] ∧ ∃ v, (results i.fn a'.tmps).run P w' = .ok v w' ∧
    ∃ I' κ', St [] (lentOf κ) κ H.length I w I' κ' H' w' [res] ⟨#[v], []⟩ := by
   intro env2 H2 hf a' w' ⟨I2,κ2,s2⟩
   unfold fin at hf
   split at hf
   ·
    rename_i vs hvs
    simp at hf
    obtain ⟨rfl,rfl⟩:=hf
    obtain ⟨v,hv,hvr⟩:=fin_run hT s2.wr s2.env hvs
    refine ⟨s2.nodef,v,hv,I2,pickK κ2 (keepL H.length H2 vs),?_⟩
    have s3 : St [] (lentOf κ) κ H.length I w I2 κ2 H2 w' [oneOf vs] ⟨#[v],[]⟩:=⟨s2.wr,.cons _ _ _ _ hvr .nil,s2.mv,s2.own,s2.dom,rfl,s2.lent,s2.len⟩
    have:=s3.pick (keepL_nodup H.length H2 vs) (keepL_pre H.length H2 vs)
    simpa [AV.rens] using this
   ·
    simp at hf
  dsimp only at hsp
  split at hsp
  ·
   rename_i r H2 hb
   simp at hsp
   obtain ⟨rfl,rfl⟩:=hsp
   unfold bodyQ at hb
   split at hb
   ·
    rename_i env2 H3 hx
    split at hb
    ·
     rename_i r H4 hf
     simp at hb
     obtain ⟨rfl,rfl⟩:=hb
     exact execQ_wp hT hc hp hm i.code hi.draws (start as H I κ w vals hw hdom hr) hx ⟨fun _ a' w' s' => close _ _ hf a' w' s', fun x hx => by cases hx⟩
    ·
     simp at hb
   ·
    rename_i env2 H3 hx
    split at hb
    ·
     rename_i r H4 hf
     simp at hb
     obtain ⟨rfl,rfl⟩:=hb
     exact execQ_wp hT hc hp hm i.code hi.draws (start as H I κ w vals hw hdom hr) hx ⟨fun _ a' w' s' => close _ _ hf a' w' s', fun x hx => by cases hx⟩
    ·
     simp at hb
   ·
    simp at hb
   ·
    simp at hb
  ·
   simp at hsp
 ·
  intro as H x H' hb I κ w vals hw hdom hr
  refine ⟨hrun w vals,?_⟩
  refine calls_of_wp hi.get hi.body ?_
  unfold bodyQ at hb
  split at hb
  ·
   split at hb <;> simp at hb
  ·
   split at hb <;> simp at hb
  ·
   rename_i y env2 H3 hx
   simp at hb
   obtain ⟨rfl,rfl⟩:=hb
   refine execQ_wp hT hc hp hm i.code hi.draws (start as H I κ w vals hw hdom hr) hx ⟨fun hq=>(by cases hq),fun x hx I2 κ2 a' w' v s2 hvr=>?_⟩
   cases hx
   refine ⟨s2.nodef,v,rfl,I2,pickK κ2 (keepL H.length H3 [y]),?_⟩
   have s3 : St [] (lentOf κ) κ H.length I w I2 κ2 H3 w' [y] ⟨#[v],[]⟩:=⟨s2.wr,.cons _ _ _ _ hvr .nil,s2.mv,s2.own,s2.dom,rfl,s2.lent,s2.len⟩
   have:=s3.pick (keepL_nodup H.length H3 [y]) (keepL_pre H.length H3 [y])
   simpa [AV.rens] using this
  ·
   simp at hb
end
end Go.AM.S