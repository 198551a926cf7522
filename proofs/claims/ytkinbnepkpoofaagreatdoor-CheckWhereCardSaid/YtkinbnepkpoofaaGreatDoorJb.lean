/- Texts joined into one: Am14 Am15 Am16 Am17 Am18 AmX0 AmX1 AmX2 AmX3 Am19 Am20 Am21 Am22 Am23 Am24 Am25. -/
import Derived.Test.YtkinbnepkpoofaaGreatDoorJa
import Derived.Conc.Own4
/- The abstract machine,part 14: own blocks that are given up,taken,turned into immutable ones. -/
set_option linter.unusedVariables false
set_option linter.unusedSimpArgs false
namespace Go.AM
section
variable {P:Program} {I I' : Nat → Option (Array Value)} {κ κ' : Nat → Option Loc} {w w' : World} {H H' : Heap} {DF:List Deferred} {A:Nat → Prop} {κ0:Nat → Option Loc} {nl:Nat} {I0:Nat → Option (Array Value)} {w0:World} {env:Env} {a:Act}
theorem heap_sub (id:Nat) (fr:Nat → Nat → AV) (H:Heap) (i:Nat) : (Heap.sub id fr H)[i]? = (H[i]?).map fun b=>b.map (Blk.sub id fr):=by
 simp [Heap.sub]
theorem St.turn (s:St DF A κ0 nl I0 w0 I κ H w env a) (id:Nat) {fr:Nat → Nat → AV} (hfine:fine fr) (hI:∀ b c,I b = some c → I' b = some c)
  (hnew:∀ b c,I' b = some c → I b = some c ∨ ((∃ base cap sz nn,κ id = some (.at b base cap sz nn)) ∧ ∃ T fz,w.heap[b]? = some (.cells c T fz)))
  (hf:∀ o l v,RV I κ (.ref id o l) v → RV I' (fun i=>if i = id then none else κ i) (fr o l) v) :
  St DF A κ0 nl I0 w0 I' (fun i=>if i = id then none else κ i) ((Heap.sub id fr H).set id none) w (AV.subs id fr env) a:=by
 have hκ : ∀ i l,i ≠ id → κ i = some l → (fun i=>if i = id then none else κ i) i = some l:=fun i l hi h=>by simp [hi,h]
 have hget : ∀ i,i ≠ id → ((Heap.sub id fr H).set id none)[i]? = (H[i]?).map fun b=>b.map (Blk.sub id fr):=fun i hi=>by
  rw [List.getElem?_set_ne (Ne.symm hi),heap_sub]
 refine ⟨⟨fun b c h=>?_,fun i l h=>?_,fun i j b base cap sz nn base' cap' sz' nn' h1 h2=>?_,fun i b base cap sz nn h=>?_⟩,RVs.sub hI hκ hf s.env,?_,fun i b base cap sz nn h=>?_,fun i blk h=>?_,s.nodef,fun i hi l h=>?_,by simpa [Heap.sub] using s.len⟩
 ·
  rcases hnew b c h with h | ⟨_,h⟩
  ·
   exact s.wr.im _ _ h
  ·
   exact h
 ·
  split at h
  ·
   cases h
  ·
   rename_i hi
   obtain ⟨blk,hb,hl⟩:=s.wr.own _ _ h
   exact ⟨blk.sub id fr,by rw [hget i hi,hb]; rfl,hl.sub hfine hI hκ hf (fun _ _ _ _ _ _=>rfl)⟩
 ·
  split at h1
  ·
   cases h1
  ·
   split at h2
   ·
    cases h2
   ·
    exact s.wr.inj _ _ _ _ _ _ _ _ _ _ _ h1 h2
 ·
  split at h
  ·
   cases h
  ·
   rename_i hi
   cases hIb : I' b with
   | none=>rfl
   | some c =>
    exfalso
    rcases hnew b c hIb with h' | ⟨⟨base', cap', sz', nn', h'⟩, _⟩
    ·
     rw [s.wr.apart _ _ _ _ _ _ h] at h'; cases h'
    ·
     exact hi (s.wr.inj _ _ _ _ _ _ _ _ _ _ _ h h')
 ·
  refine ⟨s.mv.os,s.mv.tape,s.mv.output,s.mv.size,s.mv.block,fun b c h=>hI _ _ (s.mv.im _ _ h),fun b c h=>?_⟩
  rcases hnew b c h with h' | ⟨⟨base', cap', sz', nn', h'⟩, _⟩
  ·
   exact s.mv.inew _ _ h'
  ·
   exact .inr (s.own _ _ _ _ _ _ h')
 ·
  split at h
  ·
   cases h
  ·
   exact s.own _ _ _ _ _ _ h
 ·
  by_cases hi : i = id
  ·
   subst hi
   exfalso
   rcases Nat.lt_or_ge i (Heap.sub i fr H).length with hlt | hge
   ·
    simp [hlt] at h
   ·
    simp [List.getElem?_eq_none (show ((Heap.sub i fr H).set i none).length ≤ i by simpa using hge)] at h
  ·
   rw [hget i hi] at h
   cases hH : H[i]? with
   | none=>simp [hH] at h
   | some ob =>
    cases ob with
    | none=>simp [hH] at h
    | some b =>
     obtain ⟨l,hl⟩:=s.dom _ _ hH
     exact ⟨l,by simp [hi,hl]⟩
 ·
  split at h
  ·
   cases h
  ·
   exact s.lent i hi l h
theorem St.kill (s:St DF A κ0 nl I0 w0 I κ H w env a) (id:Nat) : St DF A κ0 nl I0 w0 I (fun i=>if i = id then none else κ i) ((Heap.sub id (fun _ _=>.bad) H).set id none) w (AV.subs id (fun _ _=>.bad) env) a :=
 s.turn id (fun _ _=>.inl rfl) (fun _ _ h=>h) (fun _ _ h=>.inl h) (fun _ _ v _=>.bad v)
theorem St.write (s:St DF A κ0 nl I0 w0 I κ H w env a) {b:Nat} (hb:I b = none) (hown:∀ i base cap sz nn,κ i ≠ some (.at b base cap sz nn)) (hA:A b ∨ w0.heap.size ≤ b) (c' : Array Value) : St DF A κ0 nl I0 w0 I κ H (w.setRow b c') env a:=by
 have hother : ∀ k,k ≠ b → (w.setRow b c').heap[k]? = w.heap[k]?:=fun k hk=>setRow_other w b k c' hk
 refine ⟨⟨fun b' c h=>?_,fun i l h=>?_,s.wr.inj,s.wr.apart⟩,s.env,?_,s.own,s.dom,s.nodef,s.lent,s.len⟩
 ·
  obtain ⟨T,fr,hb'⟩:=s.wr.im _ _ h
  exact ⟨T,fr,(hother _ (fun e=>by subst e; rw [hb] at h; cases h)).trans hb'⟩
 ·
  obtain ⟨blk, hb', hl⟩ := s.wr.own _ _ h
  refine ⟨blk, hb', ?_⟩
  cases l with
  | nil=>exact hl
  | «at» b2 base2 cap2 sz2 nn2 =>
   rcases hl with ⟨h1,h2,h3⟩ | ⟨h1,h0,c,T,vs,hb2,hcap,hv,hsz,hc⟩
   ·
    exact .inl ⟨h1,h2.at (hother _ (fun e=>by subst e; exact hown _ _ _ _ _ h)),h3⟩
   exact .inr ⟨h1,h0,c,T,vs,(hother _ (fun e=>by subst e; exact hown _ _ _ _ _ h)).trans hb2,hcap,hv,hsz,hc⟩
 ·
  refine s.mv.trans (B:=fun x=>x = b) ⟨rfl,rfl,rfl,by simp,fun x _ hx=>hother x hx,fun _ _ h=>h,fun _ _ h=>.inl h⟩ (fun x hx=>by subst hx; exact hA)
theorem St.claim (s:St DF A κ0 nl I0 w0 I κ H w env a) {id:Nat} (hid:κ id = none) (hnl:nl ≤ id) (hlen:nl ≤ H'.length) {nb:Blk} (hH:∀ i,i ≠ id → ∀ b,H'[i]? = some (some b) ↔ H[i]? = some (some b)) (hHid:H'[id]? = some (some nb)) {l:Loc}
  (hown : ∀ b base cap sz nn, l = .at b base cap sz nn → I b = none ∧ (∀ i base' cap' sz' nn', κ i ≠ some (.at b base' cap' sz' nn')) ∧ (A b ∨ w0.heap.size ≤ b)) (hl : Lies I κ w nb l) :
  St DF A κ0 nl I0 w0 I (fun i=>if i = id then some l else κ i) H' w env a:=by
 have hκ : ∀ i l', κ i = some l' → (fun i => if i = id then some l else κ i) i = some l' := fun i l' h => by
  simp only
  rw [if_neg (fun e=>by subst e; rw [hid] at h; cases h)]
  exact h
 have hlies : ∀ blk l', Lies I κ w blk l' → Lies I (fun i => if i = id then some l else κ i) w blk l' := fun blk l' h => by
  cases l' with
  | nil=>exact h
  | «at» b base cap sz nn =>
   rcases h with h | ⟨h1,h0,c,T,vs,hb,hcap,hv,hsz,hc⟩
   ·
    exact .inl h
   exact .inr ⟨h1,h0,c,T,vs,hb,hcap,hv.mono (fun _ _ h=>h) hκ,hsz,hc⟩
 refine ⟨⟨s.wr.im,fun i l' h=>?_,fun i j b base cap sz nn base' cap' sz' nn' h1 h2=>?_,fun i b base cap sz nn h=>?_⟩,s.env.mono (fun _ _ h=>h) hκ,s.mv,fun i b base cap sz nn h=>?_,fun i blk h=>?_,s.nodef,fun i hi l' h=>?_,hlen⟩
 ·
  split at h
  ·
   rename_i hi
   subst hi
   cases h
   exact ⟨nb,hHid,hlies _ _ hl⟩
  ·
   rename_i hi
   obtain ⟨blk,hb,hl'⟩:=s.wr.own _ _ h
   exact ⟨blk,(hH i hi blk).2 hb,hlies _ _ hl'⟩
 ·
  split at h1 <;> split at h2
  ·
   omega
  ·
   cases h1
   exact absurd h2 ((hown _ _ _ _ _ rfl).2.1 _ _ _ _ _)
  ·
   cases h2
   exact absurd h1 ((hown _ _ _ _ _ rfl).2.1 _ _ _ _ _)
  ·
   exact s.wr.inj _ _ _ _ _ _ _ _ _ _ _ h1 h2
 ·
  split at h
  ·
   cases h; exact (hown _ _ _ _ _ rfl).1
  ·
   exact s.wr.apart _ _ _ _ _ _ h
 ·
  split at h
  ·
   cases h; exact (hown _ _ _ _ _ rfl).2.2
  ·
   exact s.own _ _ _ _ _ _ h
 ·
  by_cases hi : i = id
  ·
   exact ⟨l,by simp [hi]⟩
  ·
   obtain ⟨l', hl'⟩ := s.dom _ _ ((hH i hi blk).1 h)
   exact ⟨l', by simp [hi, hl']⟩
 ·
  rw [if_neg (by omega)] at h
  exact s.lent i hi l' h
theorem St.later (s:St DF A κ0 nl I0 w0 I κ H w env a) (hb:RowKit.Below w.heap.size w w') : St DF A κ0 nl I0 w0 I κ H w' env a:=by
 have g : Grow I κ w I κ w':=⟨hb,fun _ _ h=>h,fun _ _ h=>.inl h,fun _ _ h=>h,fun _ _ _ _ _ _ h=>.inl h⟩
 refine ⟨⟨fun b c h=>?_,fun i l h=>?_,s.wr.inj,s.wr.apart⟩,s.env,?_,s.own,s.dom,s.nodef,s.lent,s.len⟩
 ·
  obtain ⟨T,fr,hb'⟩:=s.wr.im _ _ h
  exact ⟨T,fr,(hb.block _ (s.wr.lt_im h)).trans hb'⟩
 ·
  obtain ⟨blk, hb', hl⟩ := s.wr.own _ _ h
  exact ⟨blk, hb', hl.grow g⟩
 ·
  exact s.mv.trans g.move (fun _ h=>h.elim)
theorem St.fresh (s:St DF A κ0 nl I0 w0 I κ H w env a) (o:Obj) : (∀ i base cap sz nn,κ i ≠ some (.at w.heap.size base cap sz nn)) ∧ I w.heap.size = none ∧ (A w.heap.size ∨ w0.heap.size ≤ w.heap.size):=by
 refine ⟨fun i base cap sz nn h=>?_,?_,.inr s.mv.size⟩
 ·
  have:=s.wr.lt_own h; omega
 ·
  cases hI : I w.heap.size with
  | none=>rfl
  | some c=>have:=s.wr.lt_im hI; omega
end
end Go.AM
/- The abstract machine,part 15: append. -/
namespace Go.AM
def view {α:Type} (l:List α) (o n:Nat) : List α:=(l.drop o).take n
def Blk.view (b:Blk) (o n:Nat) : Blk:=match b with
 | .c sz ds=>.c sz (AM.view ds o n)
 | .m sz es=>.m sz (AM.view es o n)
 | .o ds=>.m 0 []
def Blk.app (sz:Nat) (a b:Blk) : Blk:=match a,b with
 | .c _ x,.c _ y=>.c sz (x ++ y)
 | a,b=>.m sz (a.es ++ b.es)
def srcB (sz:Nat) (H:Heap) (x:AV) : Option Blk:=match x with
 | .im (.sl _ z es)=>if z == sz || es.isEmpty then some (.c sz es) else none
 | .ref id o l=>match H[id]? with
  | some (some b)=>if b.sz == sz then some (b.view o l) else none
  | _=>none
 | _=>none
def evA (T:Tab) (nl:Nat) (env:Env) (H:Heap) (o:Oper) : Option (AV × Env × Heap) :=
 match o.op with
 | .call { callee:=.builtin .append,args,argTypes }=>match argTypes.toList,opds env args.toList with
  | [t,t'],some [s,x]=>if t == t' then match T.ty t with
   | some ⟨.slice e,_,_,_⟩=>match T.ty e with
    | some ie=>match constD ie.zero,srcB ie.size H s,srcB ie.size H x with
     | some z,some bs,some bx=>if ie.size != 0 && z.cells.length == ie.size && bx.es.all (fun e=>e.cells.all okCell) then
       (if decide ((bs.app ie.size bx).len * ie.bytes ≤ 140737488355328) && decide ((bs.app ie.size bx).len ≤ 140737488355328) then match s with
        | .ref id _ _ =>
         let nb:=(bs.app ie.size bx).sub id (fun _ _=>.bad)
         let H1:=(Heap.sub id (fun _ _=>.bad) H).set id none
         if Nat.ble nl id then some (.ref id 0 nb.len,AV.subs id (fun _ _=>.bad) env,H1.set id (some nb))
         else some (.ref H.length 0 nb.len,AV.subs id (fun _ _=>.bad) env,H1 ++ [some nb])
        | .im (.sl _ 0 [])=>some (.ref H.length 0 (bs.app ie.size bx).len,env,H ++ [some (bs.app ie.size bx)])
        | .im (.sl true _ _)=>if bx.len != 0 then some (.ref H.length 0 (bs.app ie.size bx).len,env,H ++ [some (bs.app ie.size bx)]) else none
        | _=>none
       else none)
      else none
     | _,_,_=>none
    | none=>none
   | _=>none
   else none
  | _,_=>none
 | _=>none
theorem Blk.view_es (b:Blk) (o n:Nat) : (b.view o n).es = AM.view b.es o n:=by
 cases b <;> simp [Blk.view,Blk.es,AM.view,List.map_take,List.map_drop]
theorem Blk.view_sz (b:Blk) (o n:Nat) : (b.view o n).sz = b.sz:=by cases b <;> rfl
theorem Blk.app_es (sz:Nat) (a b:Blk) : (a.app sz b).es = a.es ++ b.es:=by
 cases a <;> cases b <;> simp [Blk.app,Blk.es]
theorem Blk.app_sz (sz:Nat) (a b:Blk) : (a.app sz b).sz = sz:=by
 cases a <;> cases b <;> rfl
theorem flat_take {α β:Type} (f:α → List β) (sz:Nat) : ∀ (l:List α) (n:Nat),(∀ d ∈ l,(f d).length = sz) → (l.flatMap f).take (n * sz) = (l.take n).flatMap f
 | [],n,_=>by simp
 | d :: l,0,_=>by simp
 | d :: l,n + 1,hl=>by
  have hd:=hl d (by simp)
  have ih:=flat_take f sz l n (fun x hx=>hl x (by simp [hx]))
  rw [List.flatMap_cons,List.take_append,Nat.succ_mul,List.take_of_length_le (by omega),hd,show n * sz + sz - sz = n * sz by omega,ih]
  simp
theorem flat_drop {α β:Type} (f:α → List β) (sz:Nat) : ∀ (l:List α) (n:Nat),(∀ d ∈ l,(f d).length = sz) → (l.flatMap f).drop (n * sz) = (l.drop n).flatMap f
 | [],n,_=>by simp
 | d :: l,0,_=>by simp
 | d :: l,n + 1,hl=>by
  have hd:=hl d (by simp)
  have ih:=flat_drop f sz l n (fun x hx=>hl x (by simp [hx]))
  rw [List.flatMap_cons,List.drop_append,Nat.succ_mul,List.drop_of_length_le (by omega),hd,show n * sz + sz - sz = n * sz by omega,ih]
  simp
section
variable {P:Program} {I I' : Nat → Option (Array Value)} {κ κ' : Nat → Option Loc} {w w' : World} {H H' : Heap} {DF:List Deferred} {A:Nat → Prop} {κ0:Nat → Option Loc} {nl:Nat} {I0:Nat → Option (Array Value)} {w0:World} {env:Env} {a:Act}
structure Reads (I:Nat → Option (Array Value)) (κ:Nat → Option Loc) (w:World) (sz:Nat) (b:Blk) (v:Value) (news:List Value) : Prop where
 rel : RVs I κ (b.es.flatMap AV.cells) news
 lens : ∀ e ∈ b.es,e.cells.length = sz
 bsz : b.sz = sz
 val : (∃ c,v = .slice none 0 c ∧ b.es = []) ∨ ∃ ad c,v = .slice (some ad) b.es.length c ∧ ∀ (j:Nat) (u:Value),news[j]? = some u → w.cell? (ad.add j) = some u
theorem srcB_reads (hw:WR I κ H w) {sz:Nat} (h0:0 < sz) {x:AV} {v:Value} {b:Blk} (h:srcB sz H x = some b) (hr:RV I κ x v) : ∃ news,Reads I κ w sz b v news:=by
 unfold srcB at h
 split at h
 ·
  rename_i t z es
  split at h
  ·
   rename_i hz
   simp at h
   subst h
   cases hr with
   | im _ _ hr =>
   cases hr with
   | slnil=>exact ⟨[],.nil,by simp [Blk.es],rfl,.inl ⟨0,rfl,rfl⟩⟩
   | sle _ A n hz0 =>
    cases A with
    | none=>exact ⟨[],.nil,by simp [Blk.es],rfl,.inl ⟨n,rfl,rfl⟩⟩
    | some a=>exact ⟨[],.nil,by simp [Blk.es],rfl,.inr ⟨a,n,by simp [Blk.es],by simp⟩⟩
   | slz _ _ a hz0=>exact ⟨[],.nil,by simp [Blk.es],rfl,.inr ⟨a,0,by simp [Blk.es],by simp⟩⟩
   | sl _ _ _ b off cap c vs hs0 hI hv hc hsz ht hle =>
    by_cases he : es = []
    ·
     subst he
     exact ⟨[],.nil,by simp [Blk.es],rfl,.inr ⟨⟨b,off,none⟩,cap,by simp [Blk.es],by simp⟩⟩
    ·
     have hzz : z = sz:=by
      cases es with
      | nil=>exact absurd rfl he
      | cons _ _=>simpa using hz
     subst hzz
     refine ⟨vs,?_,?_,rfl,.inr ⟨⟨b,off,none⟩,cap,by simp [Blk.es],fun j u hu=>?_⟩⟩
     ·
      simp only [Blk.es,flat_im]; exact hv.toRVs
     ·
      intro e he
      simp [Blk.es] at he
      obtain ⟨d,hd,rfl⟩:=he
      rw [im_cells]
      simpa using hsz d hd
     ·
      obtain ⟨T,fr,hb⟩:=hw.im _ _ hI
      rw [addr_add]
      simp [World.cell?,hb,hc j u hu]
  ·
   simp at h
 ·
  rename_i id o l
  split at h
  ·
   rename_i blk hb
   split at h
   ·
    rename_i hc
    have hsz : blk.sz = sz:=by simpa using hc
    simp at h
    subst h
    cases hr with
    | refnil _ hk =>
     obtain ⟨blk', hb', hl⟩ := hw.own _ _ hk
     rw [hb] at hb'
     simp at hb'
     subst hb'
     have he : (blk.view 0 0).es = []:=by rw [Blk.view_es]; simp [view]
     exact ⟨[],by rw [he]; exact .nil,by simp [he],by rw [Blk.view_sz]; exact hsz,.inl ⟨0,rfl,he⟩⟩
    | refend _ _ b base cap sz' nn oo hk hl ho =>
     have he : (blk.view o 0).es = []:=by rw [Blk.view_es]; simp [view]
     exact ⟨[],by rw [he]; exact .nil,by simp [he],by rw [Blk.view_sz]; exact hsz,.inr ⟨_,0,by rw [he]; rfl,by simp⟩⟩
    | ref _ _ _ b base cap sz' nn hk hl =>
     obtain ⟨blk', hb', hlies⟩ := hw.own _ _ hk
     rw [hb] at hb'
     simp at hb'
     subst hb'
     obtain ⟨h1, h0', c, T, vs, hbc, hcap, hv, hlen, hcc⟩ := hlies.cell (isO_sz (by omega))
     have hs : sz' = sz:=by rw [← h1.1]; exact hsz
     subst hs
     have e1 : (view blk.es o l).flatMap AV.cells = ((blk.es.flatMap AV.cells).drop (o * sz')).take (l * sz'):=by
      unfold view
      rw [flat_drop AV.cells sz' _ _ hlen,flat_take AV.cells sz' _ _ (fun d hd=>hlen d (List.mem_of_mem_drop hd))]
     have hvl : (view blk.es o l).length = l:=by have:=h1.2; simp [view]; omega
     refine ⟨(vs.drop (o * sz')).take (l * sz'),?_,?_,by rw [Blk.view_sz]; exact hsz,.inr ⟨_,cap - o,by rw [Blk.view_es,hvl],fun j u hu=>?_⟩⟩
     ·
      rw [Blk.view_es,e1]
      exact (hv.drop _).take _
     ·
      intro e he
      rw [Blk.view_es] at he
      exact hlen e (List.mem_of_mem_drop (List.mem_of_mem_take he))
     ·
      have hj : j < l * sz':=by
       rcases Nat.lt_or_ge j (l * sz') with h | h
       ·
        exact h
       ·
        simp [List.getElem?_take,show ¬ j < l * sz' by omega] at hu
      simp [List.getElem?_take,hj] at hu
      have:=hcc _ _ hu
      rw [addr_add]
      simp only [World.cell?,hbc]
      rw [show (base + o) * sz' + j = base * sz' + (o * sz' + j) by rw [Nat.add_mul]; omega]
      simpa using this
   ·
    simp at h
  ·
   simp at h
 ·
  simp at h
theorem run_append_at (w:World) (t ty e:TypeId) (i:TypeInfo) (ht:P.underlying t = some (.slice e)) (hi:P.info? e = some i)
  (g o sLen sCap:Nat) (cur:Array Value) (T:TypeId) (hg:w.heap[g]? = some (.cells cur T (0,0)))
  (ad:Addr) (m c:Nat) (news:List Value) (hl:news.length = m * i.size) (hnews:∀ (j:Nat) (u:Value),news[j]? = some u → w.cell? (ad.add j) = some u) (h1:∀ u ∈ news,u.oneCell' = true)
  (hroom:sLen + m ≤ sCap) (hfit:o + sLen * i.size + news.length ≤ cur.size) :
  (Builtin.append_ #[t,t] ty #[.slice (some ⟨g,o,none⟩) sLen sCap,.slice (some ad) m c]).run P w =
   .ok (.slice (some ⟨g,o,none⟩) (sLen + m) sCap) (w.setRow g (cur.toList.take (o + sLen * i.size) ++ news ++ cur.toList.drop (o + sLen * i.size + news.length)).toArray):=by
 have hf:=run_firstCells_some (P:=P) w i.size m ad m c news hl hnews
 have hst:=run_storeCells_at P g (o + sLen * i.size) T news 0 cur w hg (by simpa using hfit) h1
 simp only [Nat.add_zero] at hst
 simp [Builtin.append_,run_underlying ht,sizeOf,typeInfo,hi,Builtin.lenOf,hroom,hf,Addr.add_lit,hst]
theorem run_append_none (w:World) (t ty e:TypeId) (i:TypeInfo) (ht:P.underlying t = some (.slice e)) (hi:P.info? e = some i) (b:Option Addr) (sLen sCap:Nat) (h:sLen ≤ sCap) (q:Nat:=0) :
  (Builtin.append_ #[t,t] ty #[.slice b sLen sCap,.slice none 0 q]).run P w = .ok (.slice b sLen sCap) w:=by
 cases b <;> simp [Builtin.append_,run_underlying ht,sizeOf,typeInfo,hi,Builtin.lenOf,Builtin.firstCells,h,storeCells]
theorem run_append_nilz (w:World) (t ty e:TypeId) (i:TypeInfo) (ht:P.underlying t = some (.slice e)) (hi:P.info? e = some i) (ad:Addr) (c:Nat) :
  (Builtin.append_ #[t,t] ty #[.slice none 0 0,.slice (some ad) 0 c]).run P w = .ok (.slice none 0 0) w:=by
 simp [Builtin.append_,run_underlying ht,sizeOf,typeInfo,hi,Builtin.lenOf,Builtin.firstCells,loadCells,loadCellsFrom]
end
end Go.AM
/- The abstract machine,part 16: what `evA` says of an append the model's does. -/
namespace Go.AM
section
variable {P:Program} {I I' : Nat → Option (Array Value)} {κ κ' : Nat → Option Loc} {w w' : World} {H H' : Heap} {DF:List Deferred} {A:Nat → Prop} {κ0:Nat → Option Loc} {nl:Nat} {I0:Nat → Option (Array Value)} {w0:World} {env:Env} {a:Act}
theorem St.row (s:St DF A κ0 nl I0 w0 I κ H w env a) {id:Nat} (hid:κ id = none) (hnl:nl ≤ id) (hlen:nl ≤ H'.length) {nb:Blk} (hH:∀ i,i ≠ id → ∀ b,H'[i]? = some (some b) ↔ H[i]? = some (some b)) (hHid:H'[id]? = some (some nb))
  (h0:0 < nb.sz) {L:List Value} (hv:RVs I κ (nb.es.flatMap AV.cells) L) (hsz:∀ e ∈ nb.es,e.cells.length = nb.sz) {cells:Array Value} {cap:Nat} (hc:∀ (i:Nat) (x:Value),L[i]? = some x → cells[i]? = some x)
  (hcap:cap * nb.sz ≤ cells.size) (T:TypeId) :
  St DF A κ0 nl I0 w0 I (fun i=>if i = id then some (.at w.heap.size 0 cap nb.sz nb.es.length) else κ i) H' (w.drew.alloc (.cells cells T)) env a:=by
 have hb : RowKit.Below w.heap.size w (w.drew.alloc (.cells cells T)):=((RowKit.Below.refl _ _).drew).alloc (by simp) _
 have s1:=s.later hb
 obtain ⟨f1,f2,f3⟩:=s.fresh (.cells cells T)
 refine s1.claim hid hnl hlen hH hHid (fun b base cap' sz nn h=>by cases h; exact ⟨f2,f1,f3⟩) (.inr ⟨⟨rfl,rfl⟩,h0,cells,T,L,?_,by simpa using hcap,hv,hsz,by simpa using hc⟩)
 have:=heap_alloc_new w.drew (.cells cells T)
 simpa using this
theorem getNew (H1:Heap) (nb:Blk) (i:Nat) (hi:i ≠ H1.length) (b:Blk) : (H1 ++ [some nb])[i]? = some (some b) ↔ H1[i]? = some (some b):=by
 rcases Nat.lt_or_ge i H1.length with h | h
 ·
  rw [List.getElem?_append_left h]
 ·
  rw [List.getElem?_append_right h,List.getElem?_eq_none (show [some nb].length ≤ i - H1.length by simp; omega),List.getElem?_eq_none h]
theorem St.none_at (s:St DF A κ0 nl I0 w0 I κ H w env a) {i:Nat} (h:H.length ≤ i) : κ i = none:=by
 cases hk : κ i with
 | none=>rfl
 | some l =>
  obtain ⟨b,hb,_⟩:=s.wr.own _ _ hk
  rw [List.getElem?_eq_none h] at hb
  cases hb
theorem append_new {t e ty:TypeId} {i:Tyi} (ht:P.underlying t = some (.slice e)) (hi:Tyi.ok P e i) (h0:0 < i.size) {z:D} (hz:RD I z i.zero) (hzl:z.cells.length = i.size) {bs bx:Blk} {vs vx:Value} {ns nx:List Value}
  (rs:Reads I κ w i.size bs vs ns) (rx:Reads I κ w i.size bx vx nx) (hm:0 < bx.es.length) (hroom:∀ ad c,vs = .slice (some ad) bs.es.length c → c < bs.es.length + bx.es.length) (hnone:∀ c,vs = .slice none 0 c → c = 0)
  (hby:(bs.es.length + bx.es.length) * i.bytes ≤ 140737488355328) (hn:bs.es.length + bx.es.length ≤ 140737488355328) :
  ∃ cap cells,(Builtin.append_ #[t,t] ty #[vs,vx]).run P w = .ok (.slice (some ⟨w.heap.size,0,none⟩) (bs.es.length + bx.es.length) cap) (w.drew.alloc (.cells cells e)) ∧ bs.es.length + bx.es.length ≤ cap ∧ cap * i.size ≤ cells.size ∧
   ∀ (j:Nat) (x:Value),(ns ++ nx)[j]? = some x → cells[j]? = some x:=by
 obtain ⟨f,hf,hfs,hfb,hfz⟩:=hi.info
 have hzs : i.zero.cells.size = i.size:=by have:=hz.cells.length; simp at this; omega
 have hnsl : ns.length = bs.es.length * i.size:=by rw [rs.rel.length,flat_len AV.cells i.size _ rs.lens]
 have hnxl : nx.length = bx.es.length * i.size:=by rw [rx.rel.length,flat_len AV.cells i.size _ rx.lens]
 rcases rx.val with ⟨_,_,hx⟩ | ⟨ax,cx,rfl,hcx⟩
 ·
  simp [hx] at hm
 ·
  have fin : ∀ old,let cap:=grownCap w (bs.es.length + bx.es.length) old e
    let cells:=ns.toArray ++ nx.toArray ++ Builtin.zeroCells i.zero.cells (cap - (bs.es.length + bx.es.length))
    bs.es.length + bx.es.length ≤ cap ∧ cap * i.size ≤ cells.size ∧ ∀ (j:Nat) (x:Value),(ns ++ nx)[j]? = some x → cells[j]? = some x:=by
   intro old cap cells
   have hge : bs.es.length + bx.es.length ≤ cap:=grownCap_ge w _ old e
   refine ⟨hge,?_,fun j x hj=>?_⟩
   ·
    simp only [cells,Array.size_append,List.size_toArray,hnsl,hnxl,size_zeroCells,hzs,← Nat.add_mul]
    exact Nat.mul_le_mul_right _ (by omega)
   ·
    have hlt : j < (ns ++ nx).length:=by
     rcases Nat.lt_or_ge j (ns ++ nx).length with h | h
     ·
      exact h
     ·
      rw [List.getElem?_eq_none h] at hj; cases hj
    have : cells = (ns ++ nx ++ (Builtin.zeroCells i.zero.cells (cap - (bs.es.length + bx.es.length))).toList).toArray:=by
     simp [cells]
    rw [this,List.getElem?_toArray,List.getElem?_append_left hlt]
    exact hj
  rcases rs.val with ⟨q0,rfl,hs⟩ | ⟨as,cs,rfl,hcs⟩
  ·
   obtain rfl:=hnone _ rfl
   have hns : ns = []:=by rw [hs] at hnsl; simpa using hnsl
   subst hns
   have hr:=run_append_nil (P:=P) w t ty e f i.zero ht hf hfz ax bx.es.length cx nx (by rw [hfs]; exact hnxl) hcx hm (by omega) (by rw [hfb]; simp only [hs,List.length_nil,Nat.zero_add] at hby; omega)
   have:=fin 0
   simp only [hs,List.length_nil,Nat.zero_add,List.nil_append] at this hr ⊢
   refine ⟨_,_,hr,this.1,?_,?_⟩
   ·
    simpa using this.2.1
   ·
    simpa using this.2.2
  ·
   have hg:=hroom as cs rfl
   have hr:=run_append_grow (P:=P) w t ty e f i.zero ht hf hfz as bs.es.length cs ns (by rw [hfs]; exact hnsl) hcs ax bx.es.length cx nx (by rw [hfs]; exact hnxl) hcx hg (by omega) (by rw [hfb]; exact growslice_fits hg hby)
   have:=fin cs
   exact ⟨_,_,hr,this.1,this.2.1,this.2.2⟩
theorem append_nil {t e ty:TypeId} {i:Tyi} (ht:P.underlying t = some (.slice e)) (hi:Tyi.ok P e i) {bx:Blk} {vx:Value} {nx:List Value}
  (rx:Reads I κ w i.size bx vx nx) (hm:bx.es.length = 0) : (Builtin.append_ #[t,t] ty #[.slice none 0 0,vx]).run P w = .ok (.slice none 0 0) w:=by
 obtain ⟨f,hf,hfs,hfb,hfz⟩:=hi.info
 rcases rx.val with ⟨q0,rfl,hx⟩ | ⟨ax,cx,rfl,hcx⟩
 ·
  exact run_append_none w t ty e f ht hf none 0 0 (Nat.le_refl _) q0
 ·
  rw [hm]
  exact run_append_nilz w t ty e f ht hf ax cx
theorem append_in {t e ty:TypeId} {i:Tyi} (ht:P.underlying t = some (.slice e)) (hi:Tyi.ok P e i) {g o n c:Nat} {cur:Array Value} {T:TypeId} (hg:w.heap[g]? = some (.cells cur T (0,0))) {bx:Blk} {vx:Value} {nx:List Value}
  (rx:Reads I κ w i.size bx vx nx) (hok:∀ u ∈ nx,u.oneCell' = true) (hroom:n + bx.es.length ≤ c) (hfit:o + n * i.size + nx.length ≤ cur.size) :
  (Builtin.append_ #[t,t] ty #[.slice (some ⟨g,o,none⟩) n c,vx]).run P w = .ok (.slice (some ⟨g,o,none⟩) (n + bx.es.length) c) (w.setRow g (cur.toList.take (o + n * i.size) ++ nx ++ cur.toList.drop (o + n * i.size + nx.length)).toArray):=by
 obtain ⟨f,hf,hfs,hfb,hfz⟩:=hi.info
 have hnxl : nx.length = bx.es.length * i.size:=by rw [rx.rel.length,flat_len AV.cells i.size _ rx.lens]
 rcases rx.val with ⟨q0,rfl,hx⟩ | ⟨ax,cx,rfl,hcx⟩
 ·
  have hnx : nx = []:=by rw [hx] at hnxl; simpa using hnxl
  subst hnx
  have:=run_append_none (P:=P) w t ty e f ht hf (some ⟨g,o,none⟩) n c (by omega) q0
  rw [this,hx]
  simp only [List.length_nil,Nat.add_zero,List.append_nil,List.take_append_drop,Array.toArray_toList]
  rw [setRow_self w g cur T (0,0) hg]
 ·
  have:=run_append_at (P:=P) w t ty e f ht hf g o n c cur T hg ax bx.es.length cx nx (by rw [hfs]; exact hnxl) hcx hok hroom (by rw [hfs]; exact hfit)
  rw [hfs] at this
  exact this
theorem exec_append {o:Oper} {args:Array Operand} {t:TypeId} (ho:o.op = .call { callee:=.builtin .append,args,argTypes:=#[t,t] }) {vs vx:Value} (ha:args.map a.eval = #[vs,vx]) {v:Value}
  (h:(Builtin.append_ #[t,t] o.type #[vs,vx]).run P w = .ok v w') : (execOp a.eval o).run P w = .ok (.value v) w':=by
 unfold execOp
 rw [ho]
 simp [resolve,invoke,builtin,ha,h]
theorem okCells_flat {es:List AV} (h:es.all (fun e=>e.cells.all okCell) = true) : (es.flatMap AV.cells).all okCell = true:=by
 induction es with
 | nil=>rfl
 | cons e es ih =>
  simp only [List.all_cons,Bool.and_eq_true] at h
  simp only [List.flatMap_cons,List.all_append,Bool.and_eq_true]
  exact ⟨h.1,ih h.2⟩
theorem srcB_ref {sz id o l:Nat} {bs blk:Blk} (h:srcB sz H (.ref id o l) = some bs) (hb:H[id]? = some (some blk)) : blk.sz = sz ∧ bs.es = view blk.es o l:=by
 simp only [srcB,hb] at h
 split at h
 ·
  rename_i hc
  simp at h
  subst h
  exact ⟨by simpa using hc,Blk.view_es _ _ _⟩
 ·
  simp at h
theorem evA_sound {T : Tab} (hT : T.ok P) (s : St DF A κ0 nl I0 w0 I κ H w env a) {o : Oper} {v : AV} {env' : Env} (h : evA T nl env H o = some (v, env', H')) :
  ∃ x w' κ', (execOp a.eval o).run P w = .ok (.value x) w' ∧ RV I κ' v x ∧ St DF A κ0 nl I0 w0 I κ' H' w' env' a := by
 unfold evA at h
 split at h
 ·
  rename_i args argTypes ho
  split at h
  ·
   rename_i t t' sv xv hat hop
   split at h
   ·
    rename_i htt
    simp at htt
    subst htt
    have hat' : argTypes = #[t,t]:=by cases argTypes; simp_all
    subst hat'
    split at h
    ·
     rename_i e _ _ _ ht
     have h1:=(hT.ty _ _ ht).desc
     simp only at h1
     split at h
     ·
      rename_i ie hie
      have hi:=hT.ty _ _ hie
      split at h
      ·
       rename_i z bs bx hz hbs hbx
       have hzr : RD I z ie.zero:=constD_rd hz
       split at h
       ·
        rename_i hc1
        simp only [Bool.and_eq_true,beq_iff_eq,bne_iff_ne] at hc1
        obtain ⟨⟨hs0,hzl⟩,hokx⟩:=hc1
        have h0 : 0 < ie.size:=by omega
        split at h
        ·
         rename_i hc2
         simp only [Bool.and_eq_true,decide_eq_true_eq,Blk.len_eq,Blk.app_es,List.length_append] at hc2
         obtain ⟨hby,hnn⟩:=hc2
         obtain ⟨ws,hws,hrs⟩:=opds_toList s.env hop
         cases hrs with
         | cons _ _ vs _ hrs hn=>cases hn with
         | cons _ _ vx _ hrx hn =>
         cases hn
         obtain ⟨ns,rs⟩:=srcB_reads s.wr h0 hbs hrs
         obtain ⟨nx,rx⟩:=srcB_reads s.wr h0 hbx hrx
         have hokn : ∀ u ∈ nx,u.oneCell' = true:=okCells_one rx.rel (okCells_flat hokx)
         have hnsl : ns.length = bs.es.length * ie.size:=by rw [rs.rel.length,flat_len AV.cells ie.size _ rs.lens]
         have hnxl : nx.length = bx.es.length * ie.size:=by rw [rx.rel.length,flat_len AV.cells ie.size _ rx.lens]
         have happ : ((bs.app ie.size bx).es.flatMap AV.cells) = bs.es.flatMap AV.cells ++ bx.es.flatMap AV.cells:=by rw [Blk.app_es,List.flatMap_append]
         have hrelL : RVs I κ ((bs.app ie.size bx).es.flatMap AV.cells) (ns ++ nx):=by rw [happ]; exact rs.rel.append rx.rel
         have hlensL : ∀ q ∈ (bs.app ie.size bx).es,q.cells.length = ie.size:=by
          intro q hq
          rw [Blk.app_es,List.mem_append] at hq
          rcases hq with hq | hq
          ·
           exact rs.lens q hq
          ·
           exact rx.lens q hq
         -- appended to nil,or where there is no room: a row at the end of the list
         have atEnd : (∀ ad c,vs = .slice (some ad) bs.es.length c → c < bs.es.length + bx.es.length) → (∀ c,vs = .slice none 0 c → c = 0) → (vs = .slice none 0 0 ∨ 0 < bx.es.length) →
           ∃ x w' κ', (execOp a.eval o).run P w = .ok (.value x) w' ∧ RV I κ' (.ref H.length 0 (bs.app ie.size bx).len) x ∧ St DF A κ0 nl I0 w0 I κ' (H ++ [some (bs.app ie.size bx)]) w' env a := by
          intro hroom hnone hcase
          have hid : κ H.length = none:=s.none_at (Nat.le_refl _)
          by_cases hm : bx.es.length = 0
          ·
           have hvs : vs = .slice none 0 0:=by rcases hcase with h | h; exact h; omega
           subst hvs
           have hr:=append_nil (P:=P) (ty:=o.type) h1 hi rx hm
           have hes : (bs.app ie.size bx).es = []:=by
            rw [Blk.app_es]
            rcases rs.val with ⟨_,_,hb⟩ | ⟨_,_,hb,_⟩
            ·
             rw [hb,List.eq_nil_of_length_eq_zero hm]; rfl
            ·
             cases hb
           refine ⟨.slice none 0 0,w,_,exec_append ho hws hr,?_,s.claim (l:=.nil) hid s.len (by simp; have:=s.len; omega) (fun i hi b=>getNew H _ i hi b) (by simp) (fun _ _ _ _ _ h=>by cases h) hes⟩
           rw [Blk.len_eq,hes]
           exact .refnil _ (by simp)
          ·
           obtain ⟨cap,cells,hr,hle,hcap,hcells⟩:=append_new (P:=P) (ty:=o.type) h1 hi h0 hzr hzl rs rx (by omega) hroom hnone hby hnn
           have st:=s.row hid s.len (by simp; have:=s.len; omega) (fun i hi b=>getNew H (bs.app ie.size bx) i hi b) (by simp) (by rw [Blk.app_sz]; exact h0) hrelL (by rw [Blk.app_sz]; exact hlensL) hcells (by rw [Blk.app_sz]; exact hcap) e
           refine ⟨_,_,_,exec_append ho hws hr,?_,st⟩
           have:=RV.ref (I:=I) (κ:=fun i=>if i = H.length then some (.at w.heap.size 0 cap (bs.app ie.size bx).sz (bs.app ie.size bx).es.length) else κ i) H.length 0 (bs.es.length + bx.es.length) w.heap.size 0 cap (bs.app ie.size bx).sz (bs.app ie.size bx).es.length (by simp) (by rw [Blk.app_es,List.length_append]; omega)
           simpa [Blk.len_eq,Blk.app_es] using this
         split at h
         ·
          rename_i id off len
          -- the row is given up
          have sk:=s.kill id
          have hfine : fine (fun _ _=>AV.bad):=fun _ _=>.inl rfl
          generalize hnb : (bs.app ie.size bx).sub id (fun _ _=>AV.bad) = nb at h
          generalize hH1 : (Heap.sub id (fun _ _=>AV.bad) H).set id none = H1 at h sk
          have hH1l : H1.length = H.length:=by rw [← hH1]; simp [Heap.sub]
          have hnblen : nb.es.length = bs.es.length + bx.es.length:=by
           rw [← hnb]
           cases hq : bs.app ie.size bx with
           | c sz ds =>
            have:=congrArg (fun b:Blk=>b.es.length) hq
            simp only [Blk.app_es,List.length_append] at this
            rw [this]
            rfl
           | m sz es =>
            have:=congrArg (fun b:Blk=>b.es.length) hq
            simp only [Blk.app_es,List.length_append] at this
            rw [this]
            show (many sz _).es.length = _
            rw [many_es]
            simp [Blk.es]
           | o ds =>
            have:=congrArg (fun b:Blk=>b.es.length) hq
            simp only [Blk.app_es,List.length_append] at this
            rw [this]
            rfl
          have hnbsz : nb.sz = ie.size:=by rw [← hnb,Blk.sub_sz,Blk.app_sz]
          have hκs : ∀ i l,i ≠ id → κ i = some l → (fun i=>if i = id then none else κ i) i = some l:=fun i l hi h=>by simp [hi,h]
          have hrelN : RVs I (fun i=>if i = id then none else κ i) (nb.es.flatMap AV.cells) (ns ++ nx) ∧ ∀ q ∈ nb.es,q.cells.length = ie.size:=by
           have hv':=RVs.sub (κ':=fun i=>if i = id then none else κ i) (fr:=fun _ _=>AV.bad) (fun _ _ h=>h) hκs (fun _ _ v _=>.bad v) hrelL
           have hne : ∀ e ∈ (bs.app ie.size bx).es,e.cells ≠ []:=fun e he h=>by have:=hlensL e he; rw [h] at this; simp at this; omega
           rw [← hnb]
           generalize bs.app ie.size bx = bb at hv' hne hlensL ⊢
           cases bb with
           | c sz ds => exact ⟨by simp only [Blk.es] at hv' ⊢; rw [flat_sub_im] at hv'; exact hv', hlensL⟩
           | m sz es =>
            have e1 : ((Blk.m sz es).sub id (fun _ _=>AV.bad)).es = es.map fun e=>el (AV.sub id (fun _ _=>AV.bad) e):=many_es _ _
            refine ⟨by rw [e1, flat_sub hfine es hne]; exact hv', fun q hq => ?_⟩
            rw [e1,List.mem_map] at hq
            obtain ⟨e0,he0,rfl⟩:=hq
            rw [sub_cells hfine (hne e0 he0)]
            simpa using hlensL e0 he0
           | o ds => exact ⟨by simpa [Blk.es, Blk.sub, AV.subs] using hv', fun q hq => by simp [Blk.sub, Blk.es] at hq⟩
          -- which number the new row has
          obtain ⟨nid,hnid,hv,he,hH'a,hH'b,hH'l⟩ : ∃ nid,(nl ≤ nid ∧ (fun i=>if i = id then none else κ i) nid = none) ∧ v = .ref nid 0 nb.len ∧ env' = AV.subs id (fun _ _=>AV.bad) env ∧
            (∀ i,i ≠ nid → ∀ b,H'[i]? = some (some b) ↔ H1[i]? = some (some b)) ∧ H'[nid]? = some (some nb) ∧ nl ≤ H'.length:=by
           have hlive : id < H.length:=by
            have : ∃ l,κ id = some l:=by cases hrs <;> exact ⟨_,by assumption⟩
            obtain ⟨l,hl⟩:=this
            obtain ⟨b,hb,_⟩:=s.wr.own _ _ hl
            exact (List.getElem?_eq_some_iff.1 hb).1
           split at h
           ·
            rename_i hble
            simp at h
            obtain ⟨rfl,rfl,rfl⟩:=h
            refine ⟨id,⟨by simpa using hble,by simp⟩,rfl,rfl,fun i hi b=>by rw [List.getElem?_set_ne (Ne.symm hi)],by simp [hH1l,hlive],by simp [hH1l]; exact s.len⟩
           ·
            simp at h
            obtain ⟨rfl,rfl,rfl⟩:=h
            refine ⟨H.length,⟨s.len,?_⟩,rfl,rfl,fun i hi b=>getNew H1 nb i (by rw [hH1l]; exact hi) b,by rw [← hH1l]; simp,by simp [hH1l]; have:=s.len; omega⟩
            show (if H.length = id then none else κ H.length) = none
            rw [if_neg (by omega)]
            exact s.none_at (Nat.le_refl _)
          subst hv he
          have newRow : 0 < bx.es.length → (∀ ad c,vs = .slice (some ad) bs.es.length c → c < bs.es.length + bx.es.length) → (∀ c,vs = .slice none 0 c → c = 0) →
            ∃ x w' κ', (execOp a.eval o).run P w = .ok (.value x) w' ∧ RV I κ' (.ref nid 0 nb.len) x ∧ St DF A κ0 nl I0 w0 I κ' H' w' (AV.subs id (fun _ _ => AV.bad) env) a := by
           intro hm hroom hnone
           obtain ⟨cap,cells,hr,hle,hcap,hcells⟩:=append_new (P:=P) (ty:=o.type) h1 hi h0 hzr hzl rs rx hm hroom hnone hby hnn
           have st:=sk.row hnid.2 hnid.1 hH'l hH'a hH'b (by rw [hnbsz]; exact h0) hrelN.1 (by rw [hnbsz]; exact hrelN.2) hcells (by rw [hnbsz]; exact hcap) e
           refine ⟨_,_,_,exec_append ho hws hr,?_,st⟩
           have:=RV.ref (I:=I) (κ:=fun i=>if i = nid then some (.at w.heap.size 0 cap nb.sz nb.es.length) else if i = id then none else κ i) nid 0 (bs.es.length + bx.es.length) w.heap.size 0 cap nb.sz nb.es.length (by simp) (by rw [hnblen]; omega)
           simpa [Blk.len_eq,hnblen] using this
          have unowned : ∀ b base cap sz nn, κ id = some (.at b base cap sz nn) → I b = none ∧ (∀ i base' cap' sz' nn', (fun i => if i = id then none else κ i) i ≠ some (.at b base' cap' sz' nn')) ∧ (A b ∨ w0.heap.size ≤ b) := by
           intro b base cap sz nn hk
           refine ⟨s.wr.apart _ _ _ _ _ _ hk,fun i base' cap' sz' nn' h=>?_,s.own _ _ _ _ _ _ hk⟩
           replace h : (if i = id then none else κ i) = some (.at b base' cap' sz' nn'):=h
           split at h
           ·
            cases h
           ·
            rename_i hne; exact hne (s.wr.inj _ _ _ _ _ _ _ _ _ _ _ h hk)
          cases hrs with
          | refnil _ hk =>
           by_cases hm : bx.es.length = 0
           ·
            have hr:=append_nil (P:=P) (ty:=o.type) h1 hi rx hm
            have hbs0 : bs.es = []:=by
             rcases rs.val with ⟨_,_,hb⟩ | ⟨_,_,hb,_⟩
             ·
              exact hb
             ·
              cases hb
            have hes : nb.es = []:=by apply List.eq_nil_of_length_eq_zero; rw [hnblen,hbs0,hm]; rfl
            refine ⟨.slice none 0 0,w,_,exec_append ho hws hr,?_,sk.claim (l:=.nil) hnid.2 hnid.1 hH'l hH'a hH'b (fun _ _ _ _ _ h=>by cases h) hes⟩
            rw [Blk.len_eq,hes]
            exact .refnil _ (by simp)
           ·
            exact newRow (by omega) (fun ad c h=>by cases h) (fun c h=>by cases h; rfl)
          | refend _ _ b base cap sz nn oo hk hl hoo =>
           have hbs0 : bs.es.length = 0:=by
            rcases rs.val with ⟨_,hb,_⟩ | ⟨_,_,hb,_⟩
            ·
             cases hb
            ·
             simp at hb; omega
           by_cases hm : bx.es.length = 0
           ·
            obtain ⟨blk,hb,hlies⟩:=s.wr.own _ _ hk
            obtain ⟨h1', h0', c, Ty, vv, hbc, hcap, hv, hlen, hcc⟩ := hlies.cell (isO_sz (by have := (srcB_ref hbs hb).1; omega))
            have hnx : nx = []:=by rw [hm] at hnxl; simpa using hnxl
            have hsz' : oo ≤ c.size:=Nat.le_trans hoo hcap
            have hr:=append_in (P:=P) (ty:=o.type) h1 hi hbc (o:=oo) (n:=0) (c:=0) rx hokn (by omega) (by rw [hnx]; simp; exact hsz')
            rw [hnx] at hr
            simp only [List.append_nil,List.length_nil,Nat.add_zero,List.take_append_drop,Array.toArray_toList,setRow_self w b c Ty (0,0) hbc,hm] at hr
            obtain ⟨u1,u2,u3⟩:=unowned _ _ _ _ _ hk
            have hes : nb.es = []:=by apply List.eq_nil_of_length_eq_zero; rw [hnblen,hbs0,hm]
            refine ⟨_,w,_,exec_append ho hws hr,?_,sk.claim (l:=.at b (base + cap) 0 ie.size 0) hnid.2 hnid.1 hH'l hH'a hH'b (fun _ _ _ _ _ h=>by cases h; exact ⟨u1,u2,u3⟩) (.inr ⟨⟨hnbsz,by rw [hes]; rfl⟩,h0,c,Ty,[],hbc,?_,by rw [hes]; exact .nil,by simp [hes],by simp⟩)⟩
            ·
             rw [Blk.len_eq,hes]
             obtain ⟨q1,q3⟩:=srcB_ref hbs hb
             have hq : sz = ie.size:=by rw [← h1'.1,q1]
             exact .refend nid 0 b (base + cap) 0 ie.size 0 oo (by simp) rfl (by rw [← hq]; simpa using hoo)
            ·
             obtain ⟨q1,q3⟩:=srcB_ref hbs hb
             have hq : sz = ie.size:=by rw [← h1'.1,q1]
             rw [← hq]
             simpa using hcap
           ·
            exact newRow (by omega) (fun ad c h=>by simp at h; omega) (fun c h=>by cases h)
          | ref _ _ _ b base cap sz nn hk hl =>
           have hbsl : bs.es.length = len:=by
            rcases rs.val with ⟨_,hb,_⟩ | ⟨_,_,hb,_⟩
            ·
             cases hb
            ·
             simp at hb; omega
           by_cases hroom : len + bx.es.length ≤ cap - off
           ·
            obtain ⟨blk,hb,hlies⟩:=s.wr.own _ _ hk
            obtain ⟨h1', h0', c, Ty, vv, hbc, hcap, hv, hlen, hcc⟩ := hlies.cell (isO_sz (by have := (srcB_ref hbs hb).1; omega))
            obtain ⟨q1,q3⟩:=srcB_ref hbs hb
            have hq : sz = ie.size:=by rw [← h1'.1,q1]
            subst hq
            obtain ⟨u1,u2,u3⟩:=unowned _ _ _ _ _ hk
            have hfit : (base + off) * ie.size + len * ie.size + nx.length ≤ c.size:=by
             rw [hnxl,← Nat.add_mul,← Nat.add_mul]
             exact Nat.le_trans (Nat.mul_le_mul_right _ (by omega)) hcap
            have hr:=append_in (P:=P) (ty:=o.type) h1 hi hbc (o:=(base + off) * ie.size) (n:=len) (c:=cap - off) rx hokn hroom hfit
            have hnsr : ∀ (j:Nat) (u:Value),ns[j]? = some u → c[(base + off) * ie.size + j]? = some u:=by
             intro j u hu
             rcases rs.val with ⟨_, hb', _⟩ | ⟨ad, c2, hb', hrd⟩
             ·
              cases hb'
             ·
              have:=hrd j u hu
              injection hb' with e1 e2 e3
              injection e1 with e1
              subst e1
              rw [addr_add] at this
              simpa [World.cell?,hbc] using this
            generalize hc' : (c.toList.take ((base + off) * ie.size + len * ie.size) ++ nx ++ c.toList.drop ((base + off) * ie.size + len * ie.size + nx.length)).toArray = c' at hr
            have hsz' : c'.size = c.size:=by rw [← hc']; simp; omega
            have sw:=sk.write u1 (fun i base' cap' sz' nn' h=>u2 i base' cap' sz' nn' h) u3 c'
            have st:=sw.claim (l:=.at b (base + off) (cap - off) ie.size (len + bx.es.length)) hnid.2 hnid.1 hH'l hH'a hH'b (fun _ _ _ _ _ h=>by cases h; exact ⟨u1,u2,u3⟩)
             (.inr ⟨⟨hnbsz, by rw [hnblen, hbsl]⟩, h0, c', Ty, ns ++ nx, setRow_heap w b c c' Ty _ hbc, by rw [hsz', show base + off + (cap - off) = base + cap by omega]; exact hcap, hrelN.1, hrelN.2, fun j u hu => by
              rw [← hc', List.getElem?_toArray]
              rcases Nat.lt_or_ge j ns.length with hj | hj
              ·
               rw [List.getElem?_append_left hj] at hu
               have h2:=hnsr j u hu
               have hj2 : (base + off) * ie.size + j < (base + off) * ie.size + len * ie.size:=by rw [hnsl,hbsl] at hj; omega
               rw [List.append_assoc,List.getElem?_append_left (by simp; omega),List.getElem?_take,if_pos hj2]
               simpa using h2
              ·
               rw [List.getElem?_append_right hj] at hu
               have hj3 : j - ns.length < nx.length:=by
                rcases Nat.lt_or_ge (j - ns.length) nx.length with h | h
                ·
                 exact h
                ·
                 rw [List.getElem?_eq_none h] at hu; cases hu
               have hm1 : (c.toList.take ((base + off) * ie.size + len * ie.size)).length = (base + off) * ie.size + len * ie.size:=by simp; omega
               rw [List.append_assoc,List.getElem?_append_right (by rw [hm1,hnsl,hbsl] at *; omega),hm1,List.getElem?_append_left (by rw [hnsl,hbsl] at *; omega)]
               rw [← hu]
               congr 1
               rw [hnsl,hbsl]
               omega⟩)
            refine ⟨_,_,_,exec_append ho hws hr,?_,st⟩
            have:=RV.ref (I:=I) (κ:=fun i=>if i = nid then some (.at b (base + off) (cap - off) ie.size (len + bx.es.length)) else if i = id then none else κ i) nid 0 (len + bx.es.length) b (base + off) (cap - off) ie.size (len + bx.es.length) (by simp) (by omega)
            simpa [Blk.len_eq,hnblen,hbsl] using this
           ·
            exact newRow (by omega) (fun ad c h=>by simp at h; omega) (fun c h=>by cases h)
         ·
          rename_i tt
          simp at h
          obtain ⟨rfl,rfl,rfl⟩:=h
          cases hrs with
          | im _ _ hrs =>
          cases hrs with
          | slnil=>exact atEnd (fun ad c h=>by cases h) (fun c h=>by cases h; rfl) (.inl rfl)
          | slz _ _ _ hh=>omega
          | sle _ _ _ hh=>omega
          | sl _ _ _ _ _ _ _ _ hh=>omega
         ·
          rename_i z' es' hne
          split at h
          ·
           rename_i hlen
           simp at h
           obtain ⟨rfl,rfl,rfl⟩:=h
           have hm : 0 < bx.es.length:=by
            rcases Nat.eq_zero_or_pos bx.es.length with h | h
            ·
             rw [Blk.len_eq,h] at hlen
             simp at hlen
            ·
             exact h
           refine atEnd (fun ad c h=>?_) (fun c h=>?_) (.inr hm)
           rotate_left
           ·
            cases hrs with
            | im _ _ hrs =>
            cases hrs with
            | slnil=>cases h; rfl
            | slz=>cases h
            | sl=>cases h
           cases hrs with
           | im _ _ hrs =>
           cases hrs with
           | slnil=>cases h
           | slz _ _ a hz0=>simp at h; omega
           | sl _ _ _ b off cap c' vs' hs0' hI hv hc hsz ht2 hle =>
            have:=ht2 rfl
            simp at h
            omega
          ·
           simp at h
         ·
          simp at h
        ·
         simp at h
       ·
        simp at h
      ·
       simp at h
     ·
      simp at h
    ·
     simp at h
   ·
    simp at h
  ·
   simp at h
 ·
  simp at h
end
end Go.AM
/- The abstract machine,part 17: rows turn immutable; blocks are forgotten; values under other numbers. -/
namespace Go.AM
def frV (sz:Nat) (ds:List D) (o l:Nat) : AV:=.im (.sl false sz (view ds o l))
def frz (id:Nat) (env:Env) (H:Heap) : Option (Env × Heap):=match H[id]? with
 | some (some (.c sz ds))=>some (AV.subs id (frV sz ds) env,(Heap.sub id (frV sz ds) H).set id none)
 | _=>none
mutual
def AV.ids : AV → List Nat
 | .ref i _ _=>[i]
 | .ptr i _ _=>[i]
 | .agg cs=>AV.idss cs
 | .fn _ a c=>AV.idss a ++ AV.idss c
 | .ifc _ x=>AV.ids x
 | .tup vs=>AV.idss vs
 | .im _=>[]
 | .pe _ _=>[]
 | .mp i=>[i]
 | .bad=>[]
def AV.idss : List AV → List Nat
 | []=>[]
 | x :: xs=>AV.ids x ++ AV.idss xs
end
mutual
def AV.ren (f:Nat → Option Nat) : AV → AV
 | .ref i o l=>match f i with
  | some j=>.ref j o l
  | none=>.bad
 | .ptr i j k=>match f i with
  | some i'=>.ptr i' j k
  | none=>.bad
 | .agg cs=>.agg (AV.rens f cs)
 | .fn g a c=>.fn g (AV.rens f a) (AV.rens f c)
 | .ifc t x=>.ifc t (AV.ren f x)
 | .tup vs=>.tup (AV.rens f vs)
 | .im d=>.im d
 | .pe d k=>.pe d k
 | .mp i=>match f i with
  | some j=>.mp j
  | none=>.bad
 | .bad=>.bad
def AV.rens (f:Nat → Option Nat) : List AV → List AV
 | []=>[]
 | x :: xs=>AV.ren f x :: AV.rens f xs
end
def Blk.ren (f:Nat → Option Nat) : Blk → Blk
 | .c sz ds=>.c sz ds
 | .m sz es=>.m sz (es.map fun e=>el (AV.ren f e))
 | .o ds=>.o ds
theorem rens_eq (f:Nat → Option Nat) (xs:List AV) : AV.rens f xs = xs.map (AV.ren f):=by
 induction xs with
 | nil=>rfl
 | cons x xs ih=>simp [AV.rens,ih]
theorem ren_cells {f:Nat → Option Nat} {e:AV} (he:e.cells ≠ []) : (el (AV.ren f e)).cells = e.cells.map (AV.ren f):=by
 cases e with
 | im d =>
  have h1 : AV.ren f (.im d) = .im d:=by simp [AV.ren]
  have h2 : ∀ ds : List D,(ds.map AV.im).map (AV.ren f) = ds.map .im:=by
   intro ds
   induction ds with
   | nil=>rfl
   | cons d ds ih=>simp only [List.map_cons,ih,AV.ren]
  rw [h1,im_cells,h2]
  exact im_cells d
 | ref i o l=>cases hi : f i <;> simp [AV.cells,AV.ren,hi,el]
 | ptr i j k=>cases hi : f i <;> simp [AV.cells,AV.ren,hi,el]
 | mp i=>cases hi : f i <;> simp [AV.cells,AV.ren,hi,el]
 | pe d k=>simp [AV.cells,AV.ren,el]
 | agg cs=>simp [AV.cells,AV.ren,rens_eq,el]
 | fn g a c=>simp [AV.cells,AV.ren,el]
 | ifc t x=>simp [AV.cells,AV.ren,el]
 | tup vs=>exact absurd rfl he
 | bad=>exact absurd rfl he
section
variable {P:Program} {I I' : Nat → Option (Array Value)} {κ κ' : Nat → Option Loc} {w w' : World} {H H' : Heap} {DF:List Deferred} {A:Nat → Prop} {κ0:Nat → Option Loc} {nl:Nat} {I0:Nat → Option (Array Value)} {w0:World} {env:Env} {a:Act}
mutual
theorem RV.ren {f:Nat → Option Nat} (hI:∀ b c,I b = some c → I' b = some c) (hf:∀ i j,f i = some j → ∀ l,κ i = some l → κ' j = some l) : ∀ {x v},RV I κ x v → RV I' κ' (AV.ren f x) v
 | _,_,.im d v h=>by simp only [AV.ren]; exact .im _ _ (h.mono hI)
 | _,_,.refnil i h=>by
  simp only [AV.ren]
  cases hi : f i with
  | none=>exact .bad _
  | some j=>exact .refnil _ (hf _ _ hi _ h)
 | _,_,.ref i off len b base cap sz nn h hl=>by
  simp only [AV.ren]
  cases hi : f i with
  | none=>exact .bad _
  | some j=>exact .ref _ _ _ _ _ _ _ _ (hf _ _ hi _ h) hl
 | _,_,.refend i off b base cap sz nn o h hl ho=>by
  simp only [AV.ren]
  cases hi : f i with
  | none=>exact .bad _
  | some j=>exact .refend _ _ _ _ _ _ _ _ (hf _ _ hi _ h) hl ho
 | _,_,.ptr i j k b base cap sz nn h=>by
  simp only [AV.ren]
  cases hi : f i with
  | none=>exact .bad _
  | some j=>exact .ptr _ _ _ _ _ _ _ _ (hf _ _ hi _ h)
 | _,_,.mp i b base cap sz nn h=>by
  simp only [AV.ren]
  cases hi : f i with
  | none=>exact .bad _
  | some j=>exact .mp _ _ _ _ _ _ (hf _ _ hi _ h)
 | _,_,.pe d k b off c vs h hv hc=>by simp only [AV.ren]; exact .pe _ _ _ _ _ _ (hI _ _ h) (hv.mono hI) hc
 | _,_,.agg cs vs h=>by simp only [AV.ren]; exact .agg _ _ (RVs.ren hI hf h)
 | _,_,.fn g a c va vc h h'=>by simp only [AV.ren]; exact .fn _ _ _ _ _ (RVs.ren hI hf h) (RVs.ren hI hf h')
 | _,_,.ifc t x v h=>by simp only [AV.ren]; exact .ifc _ _ _ (RV.ren hI hf h)
 | _,_,.tup vs ws h=>by simp only [AV.ren]; exact .tup _ _ (RVs.ren hI hf h)
 | _,_,.bad v=>by simp only [AV.ren]; exact .bad v
theorem RVs.ren {f:Nat → Option Nat} (hI:∀ b c,I b = some c → I' b = some c) (hf:∀ i j,f i = some j → ∀ l,κ i = some l → κ' j = some l) : ∀ {xs vs},RVs I κ xs vs → RVs I' κ' (AV.rens f xs) vs
 | _,_,.nil=>.nil
 | _,_,.cons _ _ _ _ h hs=>.cons _ _ _ _ (RV.ren hI hf h) (RVs.ren hI hf hs)
end
theorem Blk.ren_sz (f:Nat → Option Nat) (b:Blk) : (b.ren f).sz = b.sz:=by cases b <;> rfl
theorem Blk.ren_len (f:Nat → Option Nat) (b:Blk) : (b.ren f).es.length = b.es.length:=by cases b <;> simp [Blk.ren,Blk.es]
theorem flat_ren {f:Nat → Option Nat} (es:List AV) (h:∀ e ∈ es,e.cells ≠ []) : ((es.map fun e=>el (AV.ren f e)).flatMap AV.cells) = AV.rens f (es.flatMap AV.cells):=by
 rw [rens_eq]
 induction es with
 | nil=>rfl
 | cons e es ih =>
  simp only [List.map_cons,List.flatMap_cons,List.map_append]
  rw [ren_cells (h e (by simp)),ih (fun e he=>h e (by simp [he]))]
theorem flat_ren_im {f:Nat → Option Nat} (ds:List D) : AV.rens f ((ds.map AV.im).flatMap AV.cells) = (ds.map AV.im).flatMap AV.cells:=by
 rw [flat_im,rens_eq]
 induction (ds.flatMap D.cells) with
 | nil=>rfl
 | cons d ds ih=>simp only [List.map_cons,ih,AV.ren]
theorem Lies.ren {f:Nat → Option Nat} (hI:∀ b c,I b = some c → I' b = some c) (hf:∀ i j,f i = some j → ∀ l,κ i = some l → κ' j = some l) {blk:Blk} {l:Loc} (hl:Lies I κ w blk l)
  (hw:∀ b base cap sz nn,l = .at b base cap sz nn → w'.heap[b]? = w.heap[b]?) : Lies I' κ' w' (blk.ren f) l:=by
 cases l with
 | nil =>
  have h : blk.es = []:=hl
  show (blk.ren f).es = []
  cases blk with
  | c sz ds=>exact h
  | m sz es=>simp [Blk.es] at h; subst h; rfl
  | o ds=>rfl
 | «at» b base cap sz nn =>
  rcases hl with ⟨h1,h2,h3⟩ | ⟨h1,h0,c,T,vs,hb,hcap,hv,hsz,hc⟩
  ·
   cases blk with
   | o ds=>exact .inl ⟨rfl,h2.at (hw _ _ _ _ _ rfl),h3⟩
   | _=>cases h1
  refine .inr ?_
  have hv':=RVs.ren hI hf hv
  have hne : ∀ e ∈ blk.es,e.cells ≠ []:=fun e he h=>by have:=hsz e he; rw [h] at this; simp at this; omega
  refine ⟨by rw [Blk.ren_sz,Blk.ren_len]; exact h1,h0,c,T,vs,(hw _ _ _ _ _ rfl).trans hb,hcap,?_,?_,hc⟩
  ·
   cases blk with
   | c s ds=>simp only [Blk.es] at hv' ⊢; rw [flat_ren_im] at hv'; exact hv'
   | m s es =>
    have e1 : ((Blk.m s es).ren f).es = es.map fun e=>el (AV.ren f e):=rfl
    rw [e1,flat_ren es hne]
    exact hv'
   | o ds=>simpa [Blk.es,Blk.ren,AV.rens] using hv'
  ·
   cases blk with
   | c s ds=>exact hsz
   | m s es =>
    intro e he
    have e1 : ((Blk.m s es).ren f).es = es.map fun e=>el (AV.ren f e):=rfl
    rw [e1,List.mem_map] at he
    obtain ⟨e0,he0,rfl⟩:=he
    rw [ren_cells (hne e0 he0)]
    simpa using hsz e0 he0
   | o ds=>intro e he; simp [Blk.ren,Blk.es] at he
theorem St.freeze (s : St DF A κ0 nl I0 w0 I κ H w env a) {id : Nat} {env' : Env} (h : frz id env H = some (env', H')) : ∃ I', (∀ b c, I b = some c → I' b = some c) ∧ (∀ sz ds, H[id]? = some (some (.c sz ds)) → ∀ x v, RV I κ x v → RV I' (fun i => if i = id then none else κ i) (AV.sub id (frV sz ds) x) v) ∧
  St DF A κ0 nl I0 w0 I' (fun i=>if i = id then none else κ i) H' w env' a:=by
 unfold frz at h
 split at h
 ·
  rename_i sz ds hb
  simp at h
  obtain ⟨rfl,rfl⟩:=h
  have hfine : fine (frV sz ds):=fun o l=>.inr ⟨_,_,_,rfl⟩
  have hκ : ∀ i l,i ≠ id → κ i = some l → (fun i=>if i = id then none else κ i) i = some l:=fun i l hi h=>by simp [hi,h]
  obtain ⟨l,hl⟩:=s.dom _ _ hb
  obtain ⟨blk, hb', hlies⟩ := s.wr.own _ _ hl
  rw [hb] at hb'
  simp at hb'
  subst hb'
  cases l with
  | nil =>
   have hds : ds = []:=by have h : (Blk.c sz ds).es = []:=hlies; simpa [Blk.es] using h
   have hf : ∀ o l v,RV I κ (.ref id o l) v → RV I (fun i=>if i = id then none else κ i) (frV sz ds o l) v:=by
    intro o l v hr
    cases hr with
    | refnil _ hk=>subst hds; exact .im _ _ (by simpa [view] using RD.slnil (I:=I) false sz)
    | ref _ _ _ _ _ _ _ _ hk=>rw [hl] at hk; cases hk
    | refend _ _ _ _ _ _ _ _ hk=>rw [hl] at hk; cases hk
   refine ⟨I,fun _ _ h=>h,fun sz' ds' h x v hr=>?_,s.turn id hfine (fun _ _ h=>h) (fun _ _ h=>.inl h) hf⟩
   rw [hb] at h
   simp at h
   obtain ⟨rfl,rfl⟩:=h
   exact hr.sub (fun _ _ h=>h) hκ hf
  | «at» b base cap sz' nn =>
   obtain ⟨h1,h0,c,T,vs,hbc,hcap,hv,hsz,hcc⟩:=hlies.cell rfl
   have hs : sz' = sz:=h1.1.symm
   subst hs
   have hn : ds.length = nn:=by simpa [Blk.es] using h1.2
   have hIb : I b = none:=s.wr.apart _ _ _ _ _ _ hl
   have hI : ∀ x y,I x = some y → (fun x=>if x = b then some c else I x) x = some y:=fun x y h=>by
    simp only
    rw [if_neg (fun e=>by subst e; rw [hIb] at h; cases h)]
    exact h
   have hlens : ∀ d ∈ ds,d.cells.length = sz':=fun d hd=>by
    have:=hsz (.im d) (by simp [Blk.es,hd])
    rw [im_cells] at this
    simpa using this
   have hvd : RDs I (ds.flatMap D.cells) vs:=by
    simp only [Blk.es,flat_im] at hv
    exact hv.toRDs
   have hf : ∀ o l v,RV I κ (.ref id o l) v → RV (fun x=>if x = b then some c else I x) (fun i=>if i = id then none else κ i) (frV sz' ds o l) v:=by
    intro o l v hr
    cases hr with
    | refnil _ hk=>rw [hl] at hk; cases hk
    | refend _ _ _ _ _ _ _ oo hk hle hoo =>
     rw [hl] at hk
     cases hk
     refine .im _ _ ?_
     have:=RD.sl (I:=fun x=>if x = b then some c else I x) false sz' [] b oo 0 c [] h0 (by simp) .nil (by simp) (by simp) (by simp) (by simp)
     simpa [view] using this
    | ref _ _ _ _ _ _ _ _ hk hle =>
     rw [hl] at hk
     cases hk
     refine .im _ _ ?_
     have hvl : (view ds o l).length = l:=by simp [view]; omega
     have e1 : (view ds o l).flatMap D.cells = ((ds.flatMap D.cells).drop (o * sz')).take (l * sz'):=by
      unfold view
      rw [flat_drop D.cells sz' _ _ hlens,flat_take D.cells sz' _ _ (fun d hd=>hlens d (List.mem_of_mem_drop hd))]
     have:=RD.sl (I:=fun x=>if x = b then some c else I x) false sz' (view ds o l) b ((base + o) * sz') (cap - o) c ((vs.drop (o * sz')).take (l * sz')) h0 (by simp)
      (by rw [e1]; exact ((hvd.drop _).take _).mono hI) (fun i x hx=>by
       have hi : i < l * sz':=by
        rcases Nat.lt_or_ge i (l * sz') with h | h
        ·
         exact h
        ·
         simp [List.getElem?_take,show ¬ i < l * sz' by omega] at hx
       simp [List.getElem?_take,hi] at hx
       have:=hcc _ _ hx
       rw [show (base + o) * sz' + i = base * sz' + (o * sz' + i) by rw [Nat.add_mul]; omega]
       exact this)
      (fun d hd=>hlens d (List.mem_of_mem_drop (List.mem_of_mem_take hd))) (by simp) (by omega)
     rw [hvl] at this
     exact this
   refine ⟨_,hI,fun sz2 ds2 h x v hr=>?_,s.turn id hfine hI (fun x y h=>?_) hf⟩
   ·
    rw [hb] at h
    simp at h
    obtain ⟨rfl,rfl⟩:=h
    exact hr.sub hI hκ hf
   ·
    split at h
    ·
     rename_i hx
     subst hx
     cases h
     exact .inr ⟨⟨_,_,_,_,hl⟩,_,_,hbc⟩
    ·
     exact .inl h
 ·
  simp at h
end
end Go.AM
/- The abstract machine,part 18: a value as the heap stands: all that is own turns immutable at once. -/
namespace Go.AM
def mapO {α β:Type} (f:α → Option β) : List α → Option (List β)
 | []=>some []
 | x :: xs=>match f x,mapO f xs with
  | some y,some ys=>some (y :: ys)
  | _,_=>none
def snap (H:Heap) : Nat → AV → Option AV
 | _,.im d=>some (.im d)
 | _,.pe d k=>some (.pe d k)
 | 0,_=>none
 | n + 1,.ref id o l=>match H[id]? with
  | some (some (.c sz ds))=>some (.im (.sl false sz (view ds o l)))
  | some (some (.m sz es))=>match mapO (snap H n) (view es o l) with
   | some ys=>match clos ys with
    | some ds=>some (.im (.sl false sz ds))
    | none=>none
   | none=>none
  | _=>none
 | n + 1,.ptr id j k=>match H[id]? with
  | some (some b)=>match b.get j with
   | some e=>match snap H n e with
    | some (.im d)=>some (.pe d k)
    | _=>none
   | none=>none
  | _=>none
 | n + 1,.agg cs=>match mapO (snap H n) cs with
  | some ys=>some (mkAgg ys)
  | none=>none
 | n + 1,.fn f a c=>match mapO (snap H n) a,mapO (snap H n) c with
  | some ya,some yc=>some (mkFn f ya yc)
  | _,_=>none
 | n + 1,.ifc t x=>match snap H n x with
  | some y=>some (mkIfc t y)
  | none=>none
 | n + 1,.tup vs=>match mapO (snap H n) vs with
  | some ys=>some (.tup ys)
  | none=>none
 | _ + 1,.bad=>some .bad
 | _ + 1,.mp _=>none
section
variable {P:Program} {I I' : Nat → Option (Array Value)} {κ κ' : Nat → Option Loc} {w w' : World} {H H' : Heap} {DF:List Deferred} {A:Nat → Prop} {κ0:Nat → Option Loc} {nl:Nat} {I0:Nat → Option (Array Value)} {w0:World} {env:Env} {a:Act}
theorem mapO_len {α β:Type} {f:α → Option β} : ∀ {xs:List α} {ys:List β},mapO f xs = some ys → ys.length = xs.length
 | [],ys,h=>by simp [mapO] at h; subst h; rfl
 | x :: xs,ys,h=>by
  unfold mapO at h
  split at h
  ·
   rename_i y ys' h1 h2
   simp at h
   subst h
   simp [mapO_len h2]
  ·
   simp at h
theorem mapO_mono {α β:Type} {f g:α → Option β} (hfg:∀ x y,f x = some y → g x = some y) : ∀ {xs:List α} {ys:List β},mapO f xs = some ys → mapO g xs = some ys
 | [],ys,h=>h
 | x :: xs,ys,h=>by
  unfold mapO at h ⊢
  split at h
  ·
   rename_i y ys' h1 h2
   simp at h
   subst h
   rw [hfg _ _ h1,mapO_mono hfg h2]
  ·
   simp at h
theorem snap_mono (hH:∀ (id:Nat) (b:Blk),H[id]? = some (some b) → H'[id]? = some (some b)) : ∀ (n:Nat) (x y:AV),snap H n x = some y → snap H' n x = some y
 | n,.im d,y,h=>by cases n <;> simpa [snap] using h
 | n,.pe d k,y,h=>by cases n <;> simpa [snap] using h
 | 0,.ref ..,y,h=>by simp [snap] at h
 | 0,.ptr ..,y,h=>by simp [snap] at h
 | 0,.agg ..,y,h=>by simp [snap] at h
 | 0,.fn ..,y,h=>by simp [snap] at h
 | 0,.ifc ..,y,h=>by simp [snap] at h
 | 0,.tup ..,y,h=>by simp [snap] at h
 | 0,.bad,y,h=>by simp [snap] at h
 | 0,.mp _,y,h=>by simp [snap] at h
 | n + 1,.mp _,y,h=>by simp [snap] at h
 | n + 1,.ref id o l,y,h=>by
  simp only [snap] at h ⊢
  split at h
  ·
   rename_i hb
   rw [hH _ _ hb]
   exact h
  ·
   rename_i hb
   split at h
   ·
    rename_i hm
    simp only [hH _ _ hb,mapO_mono (snap_mono hH n) hm]
    exact h
   ·
    simp at h
  ·
   simp at h
 | n + 1,.ptr id j k,y,h=>by
  simp only [snap] at h ⊢
  split at h
  ·
   rename_i b hb
   split at h
   ·
    rename_i e he
    split at h
    ·
     rename_i d hd
     simp only [hH _ _ hb,he,snap_mono hH n _ _ hd]
     exact h
    ·
     simp at h
   ·
    simp at h
  ·
   simp at h
 | n + 1,.agg cs,y,h=>by
  simp only [snap] at h ⊢
  split at h
  ·
   rename_i hm
   rw [mapO_mono (snap_mono hH n) hm]
   exact h
  ·
   simp at h
 | n + 1,.fn f a c,y,h=>by
  simp only [snap] at h ⊢
  split at h
  ·
   rename_i h1 h2
   rw [mapO_mono (snap_mono hH n) h1,mapO_mono (snap_mono hH n) h2]
   exact h
  ·
   simp at h
 | n + 1,.ifc t x,y,h=>by
  simp only [snap] at h ⊢
  split at h
  ·
   rename_i h1
   rw [snap_mono hH n _ _ h1]
   exact h
  ·
   simp at h
 | n + 1,.tup vs,y,h=>by
  simp only [snap] at h ⊢
  split at h
  ·
   rename_i hm
   rw [mapO_mono (snap_mono hH n) hm]
   exact h
  ·
   simp at h
 | n + 1,.bad,y,h=>by simpa [snap] using h
open Classical in
noncomputable def star (I:Nat → Option (Array Value)) (κ:Nat → Option Loc) (w:World) (b:Nat) : Option (Array Value) :=
 match I b with
 | some c=>some c
 | none=>if ∃ i base cap sz nn,κ i = some (.at b base cap sz nn) then (match w.heap[b]? with
  | some (.cells c _ _)=>some c
  | _=>none) else none
theorem star_im {b:Nat} {c:Array Value} (h:I b = some c) : star I κ w b = some c:=by simp [star,h]
theorem star_own (hw:WR I κ H w) {i b base cap sz nn:Nat} (hk:κ i = some (.at b base cap sz nn)) {c:Array Value} {T:TypeId} {fz:Nat × Nat} (hb:w.heap[b]? = some (.cells c T fz)) : star I κ w b = some c:=by
 unfold star
 rw [hw.apart _ _ _ _ _ _ hk]
 simp only
 rw [if_pos ⟨_,_,_,_,_,hk⟩,hb]
theorem star_from {b:Nat} {c:Array Value} (h:star I κ w b = some c) : I b = some c ∨ (∃ i base cap sz nn,κ i = some (.at b base cap sz nn)):=by
 unfold star at h
 split at h
 ·
  rename_i hI; exact .inl (hI.trans h)
 ·
  split at h
  ·
   rename_i hx; exact .inr hx
  ·
   simp at h
theorem star_lies (hw:WR I κ H w) {b:Nat} {c:Array Value} (h:star I κ w b = some c) : ∃ T fz,w.heap[b]? = some (.cells c T fz):=by
 unfold star at h
 split at h
 ·
  rename_i hI
  exact hw.im _ _ (hI.trans h)
 ·
  split at h
  ·
   split at h
   ·
    rename_i hb
    cases h
    exact ⟨_,_,hb⟩
   ·
    simp at h
  ·
   simp at h
theorem star_wr (hw:WR I κ H w) (H' : Heap) : WR (star I κ w) (fun _=>none) H' w :=
 ⟨fun b c h=>star_lies hw h,fun i l h=>by simp at h,fun _ _ _ _ _ _ _ _ _ _ _ h=>by simp at h,fun _ _ _ _ _ _ h=>by simp at h⟩
theorem RV.one {x:AV} {v:Value} (h:RV I κ x v) (hx:∀ cs,x ≠ .agg cs) (hd:∀ cs,x ≠ .im (.agg cs)) (hb:x.cells ≠ []) : v.cells.toList = [v]:=by
 cases h with
 | im d v h=>cases h <;> first | rfl | exact absurd rfl (hd _)
 | agg=>exact absurd rfl (hx _)
 | tup=>exact absurd rfl hb
 | bad=>exact absurd rfl hb
 | _=>rfl
theorem el_val {e:AV} (hb:e.cells ≠ []) {vs:List Value} (h:RVs I κ e.cells vs) : ∃ v,RV I κ e v ∧ v.cells.toList = vs:=by
 cases e with
 | agg cs=>exact ⟨.agg vs.toArray,.agg _ _ h,by simp [Value.cells]⟩
 | tup vs=>exact absurd rfl hb
 | bad=>exact absurd rfl hb
 | im d =>
  rw [show (AV.im d).cells = d.cells.map .im by cases d <;> rfl] at h
  have h:=h.toRDs
  cases d with
  | agg cs=>exact ⟨.agg vs.toArray,.im _ _ (.agg _ _ h),by simp [Value.cells]⟩
  | _ =>
   cases h with
   | cons _ _ v vs h1 hs =>
    cases hs
    exact ⟨v,.im _ _ h1,by cases h1 <;> rfl⟩
 | _ =>
  cases h with
  | cons _ _ v vs h1 hs =>
   cases hs
   exact ⟨v,h1,h1.one (by simp) (by simp) hb⟩
theorem RVs.split : ∀ {xs ys:List AV} {vs:List Value},RVs I κ (xs ++ ys) vs → ∃ us ws,vs = us ++ ws ∧ RVs I κ xs us ∧ RVs I κ ys ws
 | [],ys,vs,h=>⟨[],vs,rfl,.nil,h⟩
 | x :: xs,ys,vs,h=>by
  cases h with
  | cons _ _ v vs h hs =>
   obtain ⟨us,ws,rfl,h1,h2⟩:=RVs.split hs
   exact ⟨v :: us,ws,rfl,.cons _ _ _ _ h h1,h2⟩
theorem mapO_rv {f:AV → Option AV} (hf:∀ x y v,f x = some y → RV I κ x v → RV I' κ' y v) : ∀ {xs ys:List AV} {vs:List Value},mapO f xs = some ys → RVs I κ xs vs → RVs I' κ' ys vs
 | [],ys,vs,h,hr=>by simp [mapO] at h; subst h; cases hr; exact .nil
 | x :: xs,ys,vs,h,hr=>by
  unfold mapO at h
  split at h
  ·
   rename_i y ys' h1 h2
   simp at h
   subst h
   cases hr with
   | cons _ _ _ _ hr hrs=>exact .cons _ _ _ _ (hf _ _ _ h1 hr) (mapO_rv hf h2 hrs)
  ·
   simp at h
theorem mapO_flat {f:AV → Option AV} {sz:Nat} (h0:0 < sz) (hf:∀ x y v,f x = some y → RV I κ x v → RV I' κ' y v) : ∀ {xs:List AV} {ds:List D} {vs:List Value},mapO f xs = some (ds.map .im) → (∀ e ∈ xs,e.cells.length = sz) → RVs I κ (xs.flatMap AV.cells) vs →
  RDs I' (ds.flatMap D.cells) vs ∧ ∀ d ∈ ds,d.cells.length = sz
 | [],ds,vs,h,hne,hr=>by
  simp [mapO] at h
  subst h
  simp at hr
  cases hr
  exact ⟨.nil,by simp⟩
 | x :: xs,ds,vs,h,hne,hr=>by
  unfold mapO at h
  split at h
  ·
   rename_i y ys' h1 h2
   cases ds with
   | nil=>simp at h
   | cons d ds =>
    simp at h
    obtain ⟨rfl,rfl⟩:=h
    rw [List.flatMap_cons] at hr
    obtain ⟨us,ws,rfl,hr1,hr2⟩:=RVs.split hr
    have hx:=hne x (by simp)
    obtain ⟨v,hv,rfl⟩:=el_val (by intro e; rw [e] at hx; simp at hx; omega) hr1
    have hh:=hf _ _ _ h1 hv
    cases hh with
    | im _ _ hd =>
     rw [List.flatMap_cons]
     obtain ⟨i1,i2⟩:=mapO_flat h0 hf h2 (fun e he=>hne e (by simp [he])) hr2
     refine ⟨hd.cells.append i1,fun d' hd'=>?_⟩
     simp at hd'
     rcases hd' with rfl | hd'
     ·
      rw [← hd.cells.length,hr1.length,hx]
     ·
      exact i2 _ hd'
  ·
   simp at h
theorem view_rv (hw:WR I κ H w) {id:Nat} {blk:Blk} (hb:H[id]? = some (some blk)) {o l:Nat} {v:Value} (hr:RV I κ (.ref id o l) v) {ds:List D}
  (ho:blk.isO = false) (hnil:blk.es = [] → ds = [])
  (hlen:ds.length = (view blk.es o l).length)
  (hds:∀ vs,0 < blk.sz → (∀ e ∈ view blk.es o l,e.cells.length = blk.sz) → RVs I κ ((view blk.es o l).flatMap AV.cells) vs → RDs (star I κ w) (ds.flatMap D.cells) vs ∧ ∀ d ∈ ds,d.cells.length = blk.sz) :
  RV (star I κ w) (fun _=>none) (.im (.sl false blk.sz ds)) v:=by
 cases hr with
 | refnil _ hk =>
  obtain ⟨blk', hb', hl⟩ := hw.own _ _ hk
  rw [hb] at hb'
  simp at hb'
  subst hb'
  rw [hnil hl]
  exact .im _ _ (.slnil _ _)
 | refend _ _ b base cap sz nn oo hk hle hoo =>
  obtain ⟨blk', hb', hl⟩ := hw.own _ _ hk
  rw [hb] at hb'
  simp at hb'
  subst hb'
  obtain ⟨⟨h1,h2⟩,h0,c,T,vs,hbc,hcap,hv,hsz,hcc⟩:=hl.cell ho
  have : ds = []:=List.eq_nil_of_length_eq_zero (by rw [hlen]; simp [view])
  subst this
  subst h1
  exact .im _ _ (RD.sl (I:=star I κ w) false _ [] b oo 0 c [] h0 (star_own hw hk hbc) .nil (by simp) (by simp) (by simp) (by simp))
 | ref _ _ _ b base cap sz nn hk hle =>
  obtain ⟨blk', hb', hl⟩ := hw.own _ _ hk
  rw [hb] at hb'
  simp at hb'
  subst hb'
  obtain ⟨⟨h1,h2⟩,h0,c,T,vs,hbc,hcap,hv,hsz,hcc⟩:=hl.cell ho
  subst h1
  have e1 : (view blk.es o l).flatMap AV.cells = ((blk.es.flatMap AV.cells).drop (o * blk.sz)).take (l * blk.sz):=by
   unfold view
   rw [flat_drop AV.cells blk.sz _ _ hsz,flat_take AV.cells blk.sz _ _ (fun d hd=>hsz d (List.mem_of_mem_drop hd))]
  obtain ⟨i1,i2⟩:=hds ((vs.drop (o * blk.sz)).take (l * blk.sz)) h0 (fun e he=>hsz e (List.mem_of_mem_drop (List.mem_of_mem_take he))) (by rw [e1]; exact (hv.drop _).take _)
  have hvl : ds.length = l:=by rw [hlen]; simp [view]; omega
  have:=RD.sl (I:=star I κ w) false blk.sz ds b ((base + o) * blk.sz) (cap - o) c ((vs.drop (o * blk.sz)).take (l * blk.sz)) h0 (star_own hw hk hbc) i1 (fun i x hx=>by
    have hi : i < l * blk.sz:=by
     rcases Nat.lt_or_ge i (l * blk.sz) with h | h
     ·
      exact h
     ·
      simp [List.getElem?_take,show ¬ i < l * blk.sz by omega] at hx
    simp [List.getElem?_take,hi] at hx
    have:=hcc _ _ hx
    rw [show (base + o) * blk.sz + i = base * blk.sz + (o * blk.sz + i) by rw [Nat.add_mul]; omega]
    exact this) i2 (by simp) (by omega)
  rw [hvl] at this
  exact .im _ _ this
theorem snap_rv (hw:WR I κ H w) : ∀ (n:Nat) (x y:AV) (v:Value),snap H n x = some y → RV I κ x v → RV (star I κ w) (fun _=>none) y v
 | n,.im d,y,v,h,hr=>by
  have : y = .im d:=by cases n <;> (simp [snap] at h; exact h.symm)
  subst this
  cases hr with
  | im _ _ hr=>exact .im _ _ (hr.mono fun _ _=>star_im)
 | n,.pe d k,y,v,h,hr=>by
  have : y = .pe d k:=by cases n <;> (simp [snap] at h; exact h.symm)
  subst this
  cases hr with
  | pe _ _ b off c vs hI hv hc=>exact .pe _ _ _ _ _ _ (star_im hI) (hv.mono fun _ _=>star_im) hc
 | 0,.ref ..,y,v,h,hr=>by simp [snap] at h
 | 0,.ptr ..,y,v,h,hr=>by simp [snap] at h
 | 0,.agg ..,y,v,h,hr=>by simp [snap] at h
 | 0,.fn ..,y,v,h,hr=>by simp [snap] at h
 | 0,.ifc ..,y,v,h,hr=>by simp [snap] at h
 | 0,.tup ..,y,v,h,hr=>by simp [snap] at h
 | 0,.bad,y,v,h,hr=>by simp [snap] at h
 | 0,.mp _,y,v,h,hr=>by simp [snap] at h
 | n + 1,.mp _,y,v,h,hr=>by simp [snap] at h
 | n + 1,.ref id o l,y,v,h,hr=>by
  simp only [snap] at h
  split at h
  ·
   rename_i sz ds hb
   simp at h
   subst h
   refine view_rv (blk:=.c sz ds) hw hb hr rfl (by intro e; simp [Blk.es] at e; subst e; simp [view]) (by simp [view,Blk.es]) (fun vs h0 hl hv=>?_)
   have e1 : view (Blk.c sz ds).es o l = (view ds o l).map .im:=by simp [view,Blk.es]
   rw [e1] at hl hv
   rw [flat_im] at hv
   refine ⟨hv.toRDs.mono fun _ _=>star_im,fun d hd=>?_⟩
   have:=hl (.im d) (List.mem_map.2 ⟨d,hd,rfl⟩)
   rw [im_cells] at this
   simpa using this
  ·
   rename_i sz es hb
   split at h
   ·
    rename_i ys hm
    split at h
    ·
     rename_i ds hc
     simp at h
     subst h
     have:=clos_map hc
     subst this
     have hlen:=mapO_len hm
     exact view_rv (blk:=.m sz es) hw hb hr rfl (by intro e; simp [Blk.es] at e; subst e; simpa [view,mapO] using hm) (by simpa [Blk.es] using hlen) (fun vs h0 hl hv=>mapO_flat h0 (snap_rv hw n) hm hl hv)
    ·
     simp at h
   ·
    simp at h
  ·
   simp at h
 | n + 1,.ptr id j k,y,v,h,hr=>by
  simp only [snap] at h
  split at h
  ·
   rename_i blk hb
   split at h
   ·
    rename_i e he
    split at h
    ·
     rename_i d hd
     simp at h
     subst h
     cases hr with
     | ptr _ _ _ b base cap sz nn hk =>
     obtain ⟨blk', hb', hl⟩ := hw.own _ _ hk
     rw [hb] at hb'
     simp at hb'
     subst hb'
     rw [Blk.get_eq] at he
     obtain ⟨hel,vs,hvs,hcell⟩:=hl.elem he
     obtain ⟨⟨h1, h2⟩, h0, c, T, vs', hbc, hcap, hv, hsz, hcc⟩ := hl.cell (isO_es he)
     obtain ⟨u,hu,rfl⟩:=el_val (by intro e; rw [e] at hel; simp at hel; omega) hvs
     have hh:=snap_rv hw n _ _ _ hd hu
     cases hh with
     | im _ _ hh =>
     refine .pe d k b ((base + j) * sz) c u.cells.toList (star_own hw hk hbc) hh.cells (fun i x hx=>?_)
     have:=hcell i x hx
     simpa [World.cell?,hbc] using this
    ·
     simp at h
   ·
    simp at h
  ·
   simp at h
 | n + 1,.agg cs,y,v,h,hr=>by
  simp only [snap] at h
  split at h
  ·
   rename_i ys hm
   simp at h
   subst h
   cases hr with
   | agg _ vs hr=>exact mkAgg_rv (mapO_rv (snap_rv hw n) hm hr)
  ·
   simp at h
 | n + 1,.fn f a c,y,v,h,hr=>by
  simp only [snap] at h
  split at h
  ·
   rename_i ya yc h1 h2
   simp at h
   subst h
   cases hr with
   | fn _ _ _ va vc ha hc=>exact mkFn_rv (mapO_rv (snap_rv hw n) h1 ha) (mapO_rv (snap_rv hw n) h2 hc)
  ·
   simp at h
 | n + 1,.ifc t x,y,v,h,hr=>by
  simp only [snap] at h
  split at h
  ·
   rename_i h1
   simp at h
   subst h
   cases hr with
   | ifc _ _ _ hr=>exact mkIfc_rv (snap_rv hw n _ _ _ h1 hr)
  ·
   simp at h
 | n + 1,.tup vs,y,v,h,hr=>by
  simp only [snap] at h
  split at h
  ·
   rename_i hm
   simp at h
   subst h
   cases hr with
   | tup _ _ hr=>exact .tup _ _ (mapO_rv (snap_rv hw n) hm hr)
  ·
   simp at h
 | n + 1,.bad,y,v,h,hr=>by
  simp [snap] at h
  subst h
  exact .bad _
end
end Go.AM
/- The abstract machine,part X0: more operations: bytes of a text,comparisons with nil,assertions of types,maps. -/
namespace Go.AM
def u8s (s:List UInt8) : List D:=s.map fun b=>.int .u8 b.toNat
def isConst : Operand → Bool
 | .const _=>true
 | _=>false
def nilOf (d:TypeDesc) (v:AV) : Option Bool:=match d,v with
 | .interface _,.im .nili=>some true
 | .interface _,.im (.ifc _ _)=>some false
 | .interface _,.ifc _ _=>some false
 | .func _ _ _,.im .nilf=>some true
 | .func _ _ _,.im (.fn _ _ _)=>some false
 | .func _ _ _,.fn _ _ _=>some false
 | .slice _,.im (.sl _ 0 [])=>some true
 | .slice _,.im (.sl _ _ (_ :: _))=>some false
 | .slice _,.ref _ _ (_ + 1)=>some false
 | _,_=>none
def findD (k:IntKind) (n:Int) : List D → Option (Option (Nat × D))
 | []=>some none
 | .agg [.int k' m,v,_] :: ds=>if k = k' then (if n == m then some (some (0,v)) else match findD k n ds with
  | some (some (i,v))=>some (some (i + 1,v))
  | some none=>some none
  | none=>none) else none
 | _=>none
def isIfcD : TypeDesc → Bool
 | .interface _=>true
 | _=>false
def evX (T:Tab) (env:Env) (H:Heap) (id:Nat) (o:Oper) : Option (AV × Option Blk) :=
 match o.op with
 | .convert src dst x=>match T.ty src,T.ty dst,opd env x with
  | some ⟨.string,_,_,_⟩,some ⟨.slice e,_,_,_⟩,some (.im (.str s))=>match T.ty e with
   | some ⟨.int .u8,_,_,_⟩=>some (.im (.sl false 1 (u8s s)),none)
   | _=>none
  | _,_,_=>none
 | .binOp op t x y _=>match T.ty t,opd env x,opd env y with
  | some i,some a,some b=>match nilOf i.desc a,nilOf i.desc b with
   | some true,some true=>if isConst x || isConst y then (match eqOp op true with
    | some d=>some (.im d,none)
    | none=>none) else none
   | some false,some true=>(match eqOp op false with
    | some d=>some (.im d,none)
    | none=>none)
   | _,_=>none
  | _,_,_=>none
 | .typeAssert x _ t2 ok=>match T.ty t2,opd env x with
  | some i,some v=>if isIfcD i.desc || !ok then none else match constD i.zero with
   | some z=>match v with
    | .im .nili=>some (.tup [.im z,.im (.bool false)],none)
    | .im (.ifc t d)=>if Nat.beq t t2 then some (.tup [.im d,.im (.bool true)],none) else some (.tup [.im z,.im (.bool false)],none)
    | .ifc t d=>if Nat.beq t t2 then some (.tup [d,.im (.bool true)],none) else some (.tup [.im z,.im (.bool false)],none)
    | _=>none
   | none=>none
  | _,_=>none
 | .makeMap _ none=>some (.mp id,some (.o [.int .i64 0]))
 | .lookup t m k ok=>match T.ty t with
  | some ⟨.map kt et,_,_,_⟩=>match T.ty kt,T.ty et,opd env m,opd env k with
   | some ⟨.int kd,_,_,_⟩,some ie,some (.mp i),some (.im (.int kd' n))=>if kd = kd' then match H[i]? with
    | some (some (.o (_ :: ds)))=>match findD kd n ds,constD ie.zero with
     | some (some (_,v)),_=>some (if ok then .tup [.im v,.im (.bool true)] else .im v,none)
     | some none,some z=>some (if ok then .tup [.im z,.im (.bool false)] else .im z,none)
     | _,_=>none
    | _=>none
    else none
   | _,_,_,_=>none
  | _=>none
 | _=>none
theorem evX_congr {T:Tab} {env env' : Env} {H:Heap} {id:Nat} {o:Oper} (h:∀ x ∈ o.op.operands,opd env x = opd env' x) : evX T env H id o = evX T env' H id o:=by
 obtain ⟨dst,op,type,pos,after,guard⟩:=o
 cases op with
 | convert s d x=>have e0:=h x (by simp [Op.operands]); simp only [evX,e0]
 | binOp op t x y u =>
  have e0:=h x (by simp [Op.operands])
  have e1:=h y (by simp [Op.operands])
  simp only [evX,e0,e1]
 | typeAssert x t u ok=>have e0:=h x (by simp [Op.operands]); simp only [evX,e0]
 | lookup t m k ok =>
  have e0:=h m (by simp [Op.operands])
  have e1:=h k (by simp [Op.operands])
  simp only [evX,e0,e1]
 | makeMap t r=>cases r <;> rfl
 | _=>rfl
theorem evX_mono {T:Tab} {env:Env} {H H' : Heap} (hH:∀ (id:Nat) (b:Blk),H[id]? = some (some b) → H'[id]? = some (some b)) {id:Nat} {o:Oper} {r:AV × Option Blk} (h:evX T env H id o = some r) : evX T env H' id o = some r:=by
 obtain ⟨dst,op,type,pos,after,guard⟩:=o
 cases op with
 | lookup t m k ok =>
  simp only [evX] at h ⊢
  split at h
  ·
   split at h
   ·
    split at h
    ·
     rename_i hk
     split at h
     ·
      rename_i hb
      rw [if_pos hk,hH _ _ hb]
      exact h
     ·
      simp at h
    ·
     simp at h
   ·
    simp at h
  ·
   simp at h
 | makeMap t r=>cases r <;> exact h
 | _=>exact h
def isX : Op → Bool
 | .convert _ _ _=>true
 | .binOp _ _ _ _ _=>true
 | .typeAssert _ _ _ _=>true
 | .makeMap _ _=>true
 | .lookup _ _ _ _=>true
 | _=>false
theorem evX_isX {T:Tab} {env:Env} {H:Heap} {id:Nat} {o:Oper} {r:AV × Option Blk} (h:evX T env H id o = some r) : isX o.op = true:=by
 obtain ⟨dst,op,type,pos,after,guard⟩:=o
 cases op <;> first | rfl | (simp [evX] at h)
theorem ev0_isX {T:Tab} {env:Env} {H H' : Heap} {o:Oper} (h:isX o.op = true) : ev0 T env H o = ev0 T env H' o:=by
 obtain ⟨dst,op,type,pos,after,guard⟩:=o
 cases op <;> first | rfl | (simp [isX] at h)
end Go.AM
/- The abstract machine,part X1: what `evX` says the model's operations do. -/
namespace Go.AM
section
variable {P:Program} {I I' : Nat → Option (Array Value)} {κ κ' : Nat → Option Loc} {w w' : World} {H:Heap}
theorem nilOf_val {d:TypeDesc} {x:AV} {r:Bool} (h:nilOf d x = some r) {v:Value} (hr:RV I κ x v) :
  (∃ ms,d = .interface ms ∧ ((r = true ∧ v = .nilIface) ∨ (r = false ∧ ∃ t y,v = .iface t y))) ∨
  (∃ q y z,d = .func q y z ∧ ((r = true ∧ v = .nilFunc) ∨ (r = false ∧ ∃ f a c,v = .func f a c))) ∨
  (∃ e,d = .slice e ∧ ((r = true ∧ v = .slice none 0 0) ∨ (r = false ∧ ∃ a n c,v = .slice (some a) n c))):=by
 unfold nilOf at h
 split at h
 ·
  simp at h; subst h
  cases hr with | im _ _ hr=>cases hr; exact .inl ⟨_,rfl,.inl ⟨rfl,rfl⟩⟩
 ·
  simp at h; subst h
  cases hr with | im _ _ hr=>cases hr; exact .inl ⟨_,rfl,.inr ⟨rfl,_,_,rfl⟩⟩
 ·
  simp at h; subst h
  cases hr; exact .inl ⟨_,rfl,.inr ⟨rfl,_,_,rfl⟩⟩
 ·
  simp at h; subst h
  cases hr with | im _ _ hr=>cases hr; exact .inr (.inl ⟨_,_,_,rfl,.inl ⟨rfl,rfl⟩⟩)
 ·
  simp at h; subst h
  cases hr with | im _ _ hr=>cases hr; exact .inr (.inl ⟨_,_,_,rfl,.inr ⟨rfl,_,_,_,rfl⟩⟩)
 ·
  simp at h; subst h
  cases hr; exact .inr (.inl ⟨_,_,_,rfl,.inr ⟨rfl,_,_,_,rfl⟩⟩)
 ·
  simp at h; subst h
  cases hr with
  | im _ _ hr =>
   refine .inr (.inr ⟨_,rfl,.inl ⟨rfl,?_⟩⟩)
   cases hr with
   | slnil=>rfl
   | slz _ _ _ h0=>omega
   | sle _ _ _ h0=>omega
   | sl _ _ _ _ _ _ _ _ h0=>omega
 ·
  simp at h; subst h
  cases hr with
  | im _ _ hr=>cases hr; exact .inr (.inr ⟨_,rfl,.inr ⟨rfl,_,_,_,rfl⟩⟩)
 ·
  simp at h; subst h
  cases hr; exact .inr (.inr ⟨_,rfl,.inr ⟨rfl,_,_,_,rfl⟩⟩)
 ·
  simp at h
theorem eq_nil_run {t:TypeId} {d:TypeDesc} (ht:P.underlying t = some d) {x y:AV} {r:Bool} (hx:nilOf d x = some r) (hy:nilOf d y = some true) {vx vy:Value} (rx:RV I κ x vx) (ry:RV I κ y vy) :
  (Op.equal t vx vy).run P w = .ok r w ∧ (r = false → ∀ op ox oy,(eqGuard op t ox oy vx vy).run P w = .ok () w) ∧ (∀ op ox oy,(isConst ox || isConst oy) = true → (eqGuard op t ox oy vx vy).run P w = .ok () w) ∧
  (∀ op,op = BinOp.eql → binOp op t vx vy = (do pure (.bool (← Op.equal t vx vy)))) ∧ (∀ op,op = BinOp.neq → binOp op t vx vy = (do pure (.bool (!(← Op.equal t vx vy))))):=by
 have eqn : ∀ (x y:Value) (r:Bool),(∀ d,(Op.equalIn (d + 1) t x y).run P w = .ok r w) → (Op.equal t x y).run P w = .ok r w:=fun x y r h=>h 9999
 have gc : ∀ (op:BinOp) (ox oy:Operand),(isConst ox || isConst oy) = true → (eqGuard op t ox oy .nilIface .nilIface).run P w = .ok () w:=by
  intro op ox oy h
  unfold eqGuard
  cases op <;> simp <;> cases ox <;> cases oy <;> simp [isConst] at h ⊢
 rcases nilOf_val hx rx with ⟨ms,rfl,h⟩ | ⟨q,z,u,rfl,h⟩ | ⟨e,rfl,h⟩
 ·
  rcases nilOf_val hy ry with ⟨ms', _, h'⟩ | ⟨_, _, _, hd, _⟩ | ⟨_, hd, _⟩
  ·
   rcases h' with ⟨_, rfl⟩ | ⟨h', _⟩
   ·
    rcases h with ⟨rfl,rfl⟩ | ⟨rfl,_,_,rfl⟩
    ·
     refine ⟨eqn _ _ _ (fun d=>by simp only [Op.equalIn,Sem.run_bind,run_underlying ht,Result.andThen_ok,Sem.run_pure]),fun h=>(by cases h),gc,fun op h=>by subst h; rfl,fun op h=>by subst h; rfl⟩
    ·
     refine ⟨eqn _ _ _ (fun d=>by simp only [Op.equalIn,Sem.run_bind,run_underlying ht,Result.andThen_ok,Sem.run_pure]),fun _ op ox oy=>?_,fun op ox oy _=>?_,fun op h=>by subst h; rfl,fun op h=>by subst h; rfl⟩
     ·
      unfold eqGuard; cases op <;> simp
     ·
      unfold eqGuard; cases op <;> simp
   ·
    cases h'
  ·
   cases hd
  ·
   cases hd
 ·
  rcases nilOf_val hy ry with ⟨_,hd,_⟩ | ⟨_,_,_,_,h'⟩ | ⟨_,hd,_⟩
  ·
   cases hd
  ·
   rcases h' with ⟨_, rfl⟩ | ⟨h', _⟩
   ·
    rcases h with ⟨rfl,rfl⟩ | ⟨rfl,_,_,_,rfl⟩
    ·
     refine ⟨eqn _ _ _ (fun d=>by simp only [Op.equalIn,Sem.run_bind,run_underlying ht,Result.andThen_ok,Sem.run_pure]),fun _ op ox oy=>?_,fun op ox oy _=>?_,fun op h=>by subst h; rfl,fun op h=>by subst h; rfl⟩
     ·
      unfold eqGuard; cases op <;> simp
     ·
      unfold eqGuard; cases op <;> simp
    ·
     refine ⟨eqn _ _ _ (fun d=>by simp only [Op.equalIn,Sem.run_bind,run_underlying ht,Result.andThen_ok,Sem.run_pure]),fun _ op ox oy=>?_,fun op ox oy _=>?_,fun op h=>by subst h; rfl,fun op h=>by subst h; rfl⟩
     ·
      unfold eqGuard; cases op <;> simp
     ·
      unfold eqGuard; cases op <;> simp
   ·
    cases h'
  ·
   cases hd
 ·
  rcases nilOf_val hy ry with ⟨_,hd,_⟩ | ⟨_,_,_,hd,_⟩ | ⟨_,_,h'⟩
  ·
   cases hd
  ·
   cases hd
  ·
   rcases h' with ⟨_, rfl⟩ | ⟨h', _⟩
   ·
    rcases h with ⟨rfl,rfl⟩ | ⟨rfl,_,_,_,rfl⟩
    ·
     refine ⟨eqn _ _ _ (fun d=>by simp only [Op.equalIn,Sem.run_bind,run_underlying ht,Result.andThen_ok,Sem.run_pure]; rfl),fun _ op ox oy=>?_,fun op ox oy _=>?_,fun op h=>by subst h; rfl,fun op h=>by subst h; rfl⟩
     ·
      unfold eqGuard; cases op <;> simp
     ·
      unfold eqGuard; cases op <;> simp
    ·
     refine ⟨eqn _ _ _ (fun d=>by simp only [Op.equalIn,Sem.run_bind,run_underlying ht,Result.andThen_ok,Sem.run_pure]),fun _ op ox oy=>?_,fun op ox oy _=>?_,fun op h=>by subst h; rfl,fun op h=>by subst h; rfl⟩
     ·
      unfold eqGuard; cases op <;> simp
     ·
      unfold eqGuard; cases op <;> simp
   ·
    cases h'
theorem evX_binOp {T:Tab} (hT:T.ok P) {env:Env} {a:Act} (he:RVs I κ env a.tmps.toList) {o:Oper} {op:BinOp} {t u:TypeId} {x y:Operand} (ho:o.op = .binOp op t x y u) {v:AV} {b:Option Blk} {id:Nat}
  (h:evX T env H id o = some (v,b)) : b = none ∧ Val P I κ w a o v:=by
 unfold evX at h
 unfold Val execOp
 rw [ho] at h ⊢
 simp only at h ⊢
 split at h
 ·
  rename_i i vx vy hi hx hy
  have rx:=opd_rv he hx
  have ry:=opd_rv he hy
  have ht:=(hT.ty _ _ hi).desc
  have fin : ∀ {r:Bool} {d:D},nilOf i.desc vx = some r → nilOf i.desc vy = some true → eqOp op r = some d → (eqGuard op t x y (a.eval x) (a.eval y)).run P w = .ok () w →
    ∃ z,(do pure (Next.value (← (do eqGuard op t x y (a.eval x) (a.eval y); binOp op t (a.eval x) (a.eval y)))) : Sem Next).run P w = .ok (.value z) w ∧ RV I κ (.im d) z:=by
   intro r d h1 h2 hd hg
   obtain ⟨e1,_,_,e4,e5⟩:=eq_nil_run (w:=w) ht h1 h2 rx ry
   rcases eqOp_run hd with ⟨rfl,rfl⟩ | ⟨rfl,rfl⟩
   ·
    refine ⟨.bool r,?_,.im _ _ (.bool _)⟩
    simp only [Sem.run_bind,hg,Result.andThen_ok,e4 _ rfl,e1,Sem.run_pure]
   ·
    refine ⟨.bool (!r),?_,.im _ _ (.bool _)⟩
    simp only [Sem.run_bind,hg,Result.andThen_ok,e5 _ rfl,e1,Sem.run_pure]
  split at h
  ·
   rename_i h1 h2
   split at h
   ·
    rename_i hc
    split at h
    ·
     rename_i d hd
     simp at h
     obtain ⟨rfl,rfl⟩:=h
     exact ⟨rfl,fin h1 h2 hd ((eq_nil_run (w:=w) ht h1 h2 rx ry).2.2.1 _ _ _ hc)⟩
    ·
     simp at h
   ·
    simp at h
  ·
   rename_i h1 h2
   split at h
   ·
    rename_i d hd
    simp at h
    obtain ⟨rfl,rfl⟩:=h
    exact ⟨rfl,fin h1 h2 hd ((eq_nil_run (w:=w) ht h1 h2 rx ry).2.1 rfl _ _ _)⟩
   ·
    simp at h
  ·
   simp at h
 ·
  simp at h
theorem evX_typeAssert {T:Tab} (hT:T.ok P) {env:Env} {a:Act} (he:RVs I κ env a.tmps.toList) {o:Oper} {x:Operand} {t1 t2:TypeId} {ok:Bool} (ho:o.op = .typeAssert x t1 t2 ok) {v:AV} {b:Option Blk} {id:Nat}
  (h:evX T env H id o = some (v,b)) : b = none ∧ Val P I κ w a o v:=by
 unfold evX at h
 unfold Val execOp
 rw [ho] at h ⊢
 simp only at h ⊢
 split at h
 ·
  rename_i i vx hi hx
  have rx:=opd_rv he hx
  have ht:=(hT.ty _ _ hi).desc
  have hz:=run_zero (hT.ty _ _ hi) w
  split at h
  ·
   simp at h
  ·
   rename_i hni
   split at h
   ·
    rename_i z hzd
    have rz : RV I κ (.im z) i.zero:=.im _ _ (constD_rd hzd)
    generalize a.eval x = xe at rx ⊢
    have hok : ok = true:=by
     cases ok <;> simp at hni ⊢
    subst hok
    have fails : xe = .nilIface ∨ (∃ t y,xe = .iface t y ∧ t ≠ t2) → (do pure (Next.value (← Instr.typeAssert xe t1 t2 true)) : Sem Next).run P w = .ok (.value (.tuple #[i.zero,.bool false])) w:=by
     intro hx
     rcases hx with rfl | ⟨t,y,rfl,hne⟩
     ·
      simp only [Instr.typeAssert,Sem.run_bind,run_underlying ht,Result.andThen_ok]
      revert hni
      cases i.desc <;> simp [hz,isIfcD]
     ·
      simp only [Instr.typeAssert,Sem.run_bind,run_underlying ht,Result.andThen_ok]
      revert hni
      cases i.desc <;> simp [hz,hne,isIfcD]
    have holds : ∀ y,xe = .iface t2 y → (do pure (Next.value (← Instr.typeAssert xe t1 t2 true)) : Sem Next).run P w = .ok (.value (.tuple #[y,.bool true])) w:=by
     rintro y rfl
     simp only [Instr.typeAssert,Sem.run_bind,run_underlying ht,Result.andThen_ok]
     revert hni
     cases i.desc <;> simp [isIfcD]
    split at h
    ·
     simp at h
     obtain ⟨rfl,rfl⟩:=h
     cases rx with | im _ _ rx=>cases rx; exact ⟨rfl,_,fails (.inl rfl),.tup _ [_,_] (.cons _ _ _ _ rz (.cons _ _ _ _ (.im _ _ (.bool _)) .nil))⟩
    ·
     rename_i t d
     cases rx with | im _ _ rx =>
     cases rx with | ifc _ _ y hy =>
     split at h
     ·
      rename_i ht2
      simp only [Nat.beq_eq] at ht2
      simp at h
      obtain ⟨rfl,rfl⟩:=h
      subst ht2
      exact ⟨rfl,_,holds _ rfl,.tup _ [_,_] (.cons _ _ _ _ (.im _ _ hy) (.cons _ _ _ _ (.im _ _ (.bool _)) .nil))⟩
     ·
      rename_i ht2
      simp only [Nat.beq_eq] at ht2
      simp at h
      obtain ⟨rfl,rfl⟩:=h
      exact ⟨rfl,_,fails (.inr ⟨_,_,rfl,ht2⟩),.tup _ [_,_] (.cons _ _ _ _ rz (.cons _ _ _ _ (.im _ _ (.bool _)) .nil))⟩
    ·
     rename_i t d
     cases rx with | ifc _ _ y hy =>
     split at h
     ·
      rename_i ht2
      simp only [Nat.beq_eq] at ht2
      simp at h
      obtain ⟨rfl,rfl⟩:=h
      subst ht2
      exact ⟨rfl,_,holds _ rfl,.tup _ [_,_] (.cons _ _ _ _ hy (.cons _ _ _ _ (.im _ _ (.bool _)) .nil))⟩
     ·
      rename_i ht2
      simp only [Nat.beq_eq] at ht2
      simp at h
      obtain ⟨rfl,rfl⟩:=h
      exact ⟨rfl,_,fails (.inr ⟨_,_,rfl,ht2⟩),.tup _ [_,_] (.cons _ _ _ _ rz (.cons _ _ _ _ (.im _ _ (.bool _)) .nil))⟩
    ·
     simp at h
   ·
    simp at h
 ·
  simp at h
end
end Go.AM
/- The abstract machine,part X2: bytes of a text; maps: made,looked into. -/
namespace Go.AM
section
variable {P:Program} {I I' : Nat → Option (Array Value)} {κ κ' : Nat → Option Loc} {w w' : World} {H:Heap}
theorem WR.imm (hw:WR I κ H w) {cells:Array Value} {T:TypeId} {fr:Nat × Nat} (hb:RowKit.Below w.heap.size w w') (hc:w'.heap[w.heap.size]? = some (.cells cells T fr)) :
  Grow I κ w (fun b=>if b = w.heap.size then some cells else I b) κ w' ∧ WR (fun b=>if b = w.heap.size then some cells else I b) κ H w':=by
 have hI : ∀ b c,I b = some c → (fun b=>if b = w.heap.size then some cells else I b) b = some c:=fun b c h=>by
  have:=hw.lt_im h
  simp only
  rw [if_neg (by omega)]
  exact h
 have g : Grow I κ w (fun b=>if b = w.heap.size then some cells else I b) κ w':=by
  refine ⟨hb,hI,fun b c h=>?_,fun _ _ h=>h,fun _ _ _ _ _ _ h=>.inl h⟩
  split at h
  ·
   right; omega
  ·
   exact .inl h
 refine ⟨g,?_,fun id l h=>?_,hw.inj,fun id b base cap sz nn h=>?_⟩
 ·
  intro b c h
  split at h
  ·
   rename_i hb'
   simp at h
   subst hb' h
   exact ⟨T,fr,hc⟩
  ·
   obtain ⟨T', fr', hb'⟩ := hw.im _ _ h
   exact ⟨T', fr', (g.below.block _ (hw.lt_im h)).trans hb'⟩
 ·
  obtain ⟨blk, hb', hl⟩ := hw.own _ _ h
  exact ⟨blk, hb', hl.grow g⟩
 ·
  have:=hw.lt_own h
  rw [if_neg (by omega)]
  exact hw.apart _ _ _ _ _ _ h
theorem freeze_heap (w:World) (a:Addr) (n k:Nat) (h:k ≠ a.block) : (w.freeze a n).heap[k]? = w.heap[k]?:=by
 unfold World.freeze
 split
 ·
  rfl
 ·
  simp only
  rw [Array.getElem?_modify]
  rw [if_neg (by omega)]
theorem freeze_at (w : World) (a : Addr) (n : Nat) {c : Array Value} {T : TypeId} {fr : Nat × Nat} (h : w.heap[a.block]? = some (.cells c T fr)) : ∃ fr', (w.freeze a n).heap[a.block]? = some (.cells c T fr') := by
 unfold World.freeze
 split
 ·
  exact ⟨fr,h⟩
 ·
  simp only
  rw [Array.getElem?_modify,if_pos rfl,h]
  exact ⟨_,rfl⟩
theorem freeze_same (w:World) (a:Addr) (n:Nat) : (w.freeze a n).os = w.os ∧ (w.freeze a n).tape = w.tape ∧ (w.freeze a n).output = w.output ∧ (w.freeze a n).heap.size = w.heap.size:=by
 unfold World.freeze
 split <;> simp
theorem stringToBytes_run (e:TypeId) (s:ByteArray) : ∃ c cs w2 fr,s.size ≤ c ∧ cs = (s.data.map fun b=>Value.int .u8 b.toNat) ++ Array.replicate (c - s.size) (.int .u8 0) ∧
  (Conv.stringToBytes e s).run P w = .ok (.slice (some ⟨w.heap.size,0,none⟩) s.size c) w2 ∧ RowKit.Below w.heap.size w w2 ∧ w2.heap[w.heap.size]? = some (.cells cs e fr):=by
 let q : Question:=.appendCap s.size 0 e
 let c : Nat:=q.cut (w.tape w.drawn q)
 let cs : Array Value:=(s.data.map fun b=>Value.int .u8 b.toNat) ++ Array.replicate (c - s.size) (.int .u8 0)
 have hcap : s.size ≤ c:=Nat.le_add_right _ _
 let w1 : World:=w.drew.alloc (.cells cs e)
 have h1 : w1.heap[w.heap.size]? = some (.cells cs e (0,0)):=by
  exact heap_alloc_new w.drew (.cells cs e)
 obtain ⟨fr,hfr⟩:=freeze_at w1 ⟨w.heap.size,cs.size,none⟩ 1 h1
 refine ⟨c,cs,w1.freeze ⟨w.heap.size,cs.size,none⟩ 1,fr,hcap,rfl,?_,?_,hfr⟩
 ·
  have hrun : (Conv.stringToBytes e s).run P w = (do markStringish ⟨w.heap.size,0,none⟩; pure (.slice (some ⟨w.heap.size,0,none⟩) s.size c) : Sem Value).run P w1:=rfl
  rw [hrun]
  have hs : w1.shape? w.heap.size = some (e,cs.size):=by simp [World.shape?,h1]
  simp only [markStringish,shape,Sem.run_bind,Sem.run,hs,freeze]
  rfl
 ·
  obtain ⟨e1,e2,e3,e4⟩:=freeze_same w1 ⟨w.heap.size,cs.size,none⟩ 1
  refine ⟨e1,e2,e3,by rw [e4]; simp [w1],fun k hk=>?_⟩
  rw [freeze_heap _ _ _ _ (by simp; omega)]
  exact (((RowKit.Below.refl w.heap.size w).drew).alloc (by simp) (.cells cs e)).block k hk
theorem u8s_rds (s:List UInt8) : RDs I (u8s s) (s.map fun b=>Value.int .u8 b.toNat):=by
 induction s with
 | nil=>exact .nil
 | cons b s ih=>exact .cons _ _ _ _ (.int _ _) ih
theorem u8s_cells (s:List UInt8) : (u8s s).flatMap D.cells = u8s s:=by
 induction s with
 | nil=>rfl
 | cons b s ih=>simp only [u8s,List.map_cons,List.flatMap_cons,D.cells]; exact congrArg _ ih
theorem evX_convert {T:Tab} (hT:T.ok P) (hw:WR I κ H w) {env:Env} {a:Act} (he:RVs I κ env a.tmps.toList) {o:Oper} {t u:TypeId} {x:Operand} (ho:o.op = .convert t u x) {v:AV} {b:Option Blk} {id:Nat} (hid:κ id = none)
  (h:evX T env H id o = some (v,b)) : Made P I κ H w a o id v b:=by
 unfold evX at h
 rw [ho] at h
 simp only at h
 split at h
 ·
  rename_i e _ _ _ s hi hj hx
  split at h
  ·
   rename_i hk
   simp at h
   obtain ⟨rfl,rfl⟩:=h
   have hr:=opd_rv he hx
   have h1:=(hT.ty _ _ hi).desc
   have h2:=(hT.ty _ _ hj).desc
   have h3:=(hT.ty _ _ hk).desc
   generalize hxe : a.eval x = xe at hr
   cases hr with
   | im _ _ hr =>
   cases hr
   obtain ⟨c,cs,w2,fr,hcap,hcs,hrun,hb,hcell⟩:=stringToBytes_run (P:=P) (w:=w) e ⟨s.toArray⟩
   obtain ⟨g,hw'⟩:=hw.imm hb hcell
   refine ⟨.slice (some ⟨w.heap.size, 0, none⟩) s.length c, w2, _, κ, ?_, g, hw', .im _ _ ?_, fun _ _ => rfl, fun _ => hid, fun h => absurd rfl h⟩
   ·
    unfold execOp
    rw [ho]
    simp only [hxe,convert,Sem.run_bind,run_underlying h1,run_underlying h2,run_underlying h3,Result.andThen_ok,hrun,Sem.run_pure]
    rfl
   ·
    have hlen : (u8s s).length = s.length:=by simp [u8s]
    have:=RD.sl (I:=fun b=>if b = w.heap.size then some cs else I b) false 1 (u8s s) w.heap.size 0 c cs (s.map fun b=>Value.int .u8 b.toNat) (by omega) (by simp) (by rw [u8s_cells]; exact u8s_rds s) (fun i y hy=>by
     subst hcs
     have hi : i < s.length:=by
      rcases Nat.lt_or_ge i s.length with h | h
      ·
       exact h
      ·
       simp [List.getElem?_eq_none h] at hy
     rw [Array.getElem?_append_left (by simp; omega)]
     simp at hy ⊢
     simpa using hy) (fun d hd=>by
      simp only [u8s,List.mem_map] at hd
      obtain ⟨b,_,rfl⟩:=hd
      rfl) (by simp) (by rw [hlen]; exact hcap)
    rw [hlen] at this
    exact this
  ·
   simp at h
 ·
  simp at h
end
end Go.AM
/- The abstract machine,part X3: maps: made,looked into; all that `evX` tells. -/
namespace Go.AM
section
variable {P:Program} {I I' : Nat → Option (Array Value)} {κ κ' : Nat → Option Loc} {w w' : World} {H:Heap}
theorem WR.newmap (hw:WR I κ H w) {id:Nat} (hid:κ id = none) (hb:H[id]? = some (some (.o [.int .i64 0]))) :
  let κ':=fun i=>if i = id then some (.at w.heap.size 0 0 0 0) else κ i
  Grow I κ w I κ' (w.alloc (.map #[] 0)) ∧ WR I κ' H (w.alloc (.map #[] 0)):=by
 intro κ'
 have hκ : ∀ i l,κ i = some l → κ' i = some l:=fun i l h=>by
  simp only [κ']
  rw [if_neg (fun e=>by subst e; rw [hid] at h; cases h)]
  exact h
 have g : Grow I κ w I κ' (w.alloc (.map #[] 0)):=by
  refine ⟨(RowKit.Below.refl _ _).alloc (Nat.le_refl _) _,fun _ _ h=>h,fun _ _ h=>.inl h,hκ,fun i b base cap sz nn h=>?_⟩
  simp only [κ'] at h
  split at h
  ·
   simp at h; right; omega
  ·
   exact .inl h
 refine ⟨g,fun b c h=>?_,fun i l h=>?_,fun i j b base cap sz nn base' cap' sz' nn' h1 h2=>?_,fun i b base cap sz nn h=>?_⟩
 ·
  obtain ⟨T', fr, hb⟩ := hw.im _ _ h
  exact ⟨T', fr, (g.below.block _ (hw.lt_im h)).trans hb⟩
 ·
  simp only [κ'] at h
  split at h
  ·
   rename_i hi
   subst hi
   simp at h
   subst h
   exact ⟨_,hb,.inl ⟨rfl,⟨#[],0,[],rfl,heap_alloc_new w _,.nil⟩,rfl,rfl⟩⟩
  ·
   obtain ⟨blk', hb', hl⟩ := hw.own _ _ h
   exact ⟨blk', hb', hl.grow g⟩
 ·
  simp only [κ'] at h1 h2
  split at h1 <;> split at h2
  ·
   omega
  ·
   simp at h1
   have:=hw.lt_own h2
   omega
  ·
   simp at h2
   have:=hw.lt_own h1
   omega
  ·
   exact hw.inj _ _ _ _ _ _ _ _ _ _ _ h1 h2
 ·
  simp only [κ'] at h
  split at h
  ·
   simp at h
   cases hI : I b with
   | none=>rfl
   | some c=>have:=hw.lt_im hI; omega
  ·
   exact hw.apart _ _ _ _ _ _ h
theorem evX_makeMap {T:Tab} (hw:WR I κ H w) {env:Env} {a:Act} {o:Oper} {t:TypeId} {r:Option Operand} (ho:o.op = .makeMap t r) {v:AV} {b:Option Blk} {id:Nat} (hid:κ id = none) (hH:∀ blk,b = some blk → H[id]? = some (some blk))
  (h:evX T env H id o = some (v,b)) : Made P I κ H w a o id v b:=by
 unfold evX at h
 rw [ho] at h
 cases r with
 | some r=>simp at h
 | none =>
  simp at h
  obtain ⟨rfl,rfl⟩:=h
  obtain ⟨g,hw'⟩:=hw.newmap hid (hH _ rfl)
  refine ⟨.map (some w.heap.size), w.alloc (.map #[] 0), I, _, ?_, g, hw', .mp _ w.heap.size 0 0 0 0 (by simp), fun i hi => by simp [hi], fun h => by simp at h, fun _ => by simp⟩
  unfold execOp
  rw [ho]
  rfl
theorem findD_run {kd:IntKind} {n:Int} : ∀ {ds:List D} {es:List MapEntry} {r:Option (Nat × D)} (i:Nat),MapEs ds es → findD kd n ds = some r →
  ∃ q,Instr.findNow (.int kd) (.int kd n) es i = some q ∧ match r with
   | none=>q = none
   | some (j,v)=>∃ e z,es[j]? = some e ∧ e.key = .int kd n ∧ ds[j]? = some (.agg [.int kd n,v,.int .i64 (e.born : Nat)]) ∧ q = some (i + j,z) ∧ e.val = z ∧ RD (fun _=>none) v z
 | _,_,r,i,.nil,h=>by
  simp [findD] at h
  subst h
  exact ⟨none,rfl,rfl⟩
 | _,_,r,i,.cons k v e ds es hk hv hs,h=>by
  unfold findD at h
  split at h
  ·
   rename_i hh; cases hh
  ·
   rename_i k' m v' _ ds' hh
   simp only [List.cons.injEq,D.agg.injEq] at hh
   obtain ⟨⟨rfl,rfl,rfl,_⟩,rfl⟩:=hh
   split at h
   ·
    rename_i hkk
    subst hkk
    have hkey : e.key = .int kd m:=by generalize e.key = z at hk; cases hk; rfl
    split at h
    ·
     rename_i hnm
     simp at hnm h
     subst hnm h
     refine ⟨some (i,e.val),?_,e,e.val,rfl,hkey,rfl,rfl,rfl,hv⟩
     simp [Instr.findNow,hkey,Instr.sameNow]
    ·
     rename_i hnm
     simp at hnm
     have step : Instr.findNow (.int kd) (.int kd n) (e :: es) i = Instr.findNow (.int kd) (.int kd n) es (i + 1):=by
      have hb : (n == m) = false:=by simpa using hnm
      simp only [Instr.findNow,hkey,Instr.sameNow,if_true,hb]
     rw [step]
     split at h
     ·
      rename_i j v2 hf
      simp at h
      subst h
      obtain ⟨q, hq, e', z, h1, h2, h3, h4, h5, h6⟩ := findD_run (i + 1) hs hf
      exact ⟨q, hq, e', z, by simpa using h1, h2, by simpa using h3, by rw [h4]; congr 2; omega, h5, h6⟩
     ·
      rename_i hf
      simp at h
      subst h
      obtain ⟨q,hq,h1⟩:=findD_run (i + 1) hs hf
      exact ⟨q,hq,h1⟩
     ·
      simp at h
   ·
    simp at h
  ·
   simp at h
theorem checkKey_any {kt:TypeId} {kd:IntKind} (h:P.underlying kt = some (.int kd)) (b:Bool) (n:Int) (d:Nat) : (Instr.checkKey b (d + 1) kt (.int kd n)).run P w = .ok () w:=by
 simp only [Instr.checkKey,Sem.run_bind,run_underlying h,Result.andThen_ok]
 rfl
theorem checkKey_run {kt:TypeId} {kd:IntKind} (h:P.underlying kt = some (.int kd)) (b:Bool) (n:Int) : (Instr.checkKey b 10000 kt (.int kd n)).run P w = .ok () w:=checkKey_any h b n 9999
theorem mp_at (hw:WR I κ H w) {i:Nat} {ds:List D} (hb:H[i]? = some (some (.o ds))) {x:Value} (hr:RV I κ (.mp i) x) : ∃ r es clock ds' base cap,x = .map (some r) ∧ κ i = some (.at r base cap 0 0) ∧ ds = .int .i64 (clock:Nat) :: ds' ∧ w.heap[r]? = some (.map es clock) ∧ MapEs ds' es.toList:=by
 cases hr with
 | mp _ b base cap sz nn hk =>
  obtain ⟨blk, hb', hl⟩ := hw.own _ _ hk
  rw [hb] at hb'
  simp at hb'
  subst hb'
  rcases hl with ⟨_, ⟨es, clock, ds', h1, h2, h3⟩, rfl, rfl⟩ | ⟨⟨h1, _⟩, h0, _⟩
  ·
   exact ⟨b, es, clock, ds', base, cap, rfl, hk, h1, h2, h3⟩
  ·
   simp [Blk.sz] at h1; omega
theorem evX_lookup {T:Tab} (hT:T.ok P) (hw:WR I κ H w) {env:Env} {a:Act} (he:RVs I κ env a.tmps.toList) {o:Oper} {t:TypeId} {m k:Operand} {ok:Bool} (ho:o.op = .lookup t m k ok) {v:AV} {b:Option Blk} {id:Nat}
  (h:evX T env H id o = some (v,b)) : b = none ∧ Val P I κ w a o v:=by
 unfold evX at h
 unfold Val execOp
 rw [ho] at h ⊢
 simp only at h ⊢
 split at h
 ·
  rename_i kt et _ _ _ ht
  split at h
  ·
   rename_i kd _ _ _ ie i kd' n hkt het hm hk
   have h1:=(hT.ty _ _ ht).desc
   have h2:=(hT.ty _ _ hkt).desc
   have hz:=run_zero (hT.ty _ _ het) w
   have rm:=opd_rv he hm
   have rk:=opd_rv he hk
   generalize a.eval m = ve at rm ⊢
   generalize a.eval k = ke at rk ⊢
   cases rk with | im _ _ rk =>
   cases rk
   split at h
   ·
    rename_i hkd
    subst hkd
    split at h
    ·
     rename_i c ds hb
     obtain ⟨r, es, clock, ds', base, cap, rfl, hκ, hds, hheap, hes⟩ := mp_at hw hb rm
     simp only [List.cons.injEq] at hds
     obtain ⟨rfl,rfl⟩:=hds
     have hget : (getObj r).run P w = .ok (.map es clock) w:=by simp [getObj,Sem.run,hheap]
     have hck : ∀ b,(Instr.checkKey b 10000 kt (.int kd n)).run P w = .ok () w:=fun b=>checkKey_run h2 b n
     have fin : ∀ q,Instr.findNow (.int kd) (.int kd n) es.toList 0 = some q → (Instr.lookup t (.map (some r)) (.int kd n) ok).run P w = (do
       let (v,okk) ← match q with
        | some (_,v)=>pure (v,true)
        | none=>pure (← zeroValue et,false)
       pure (if ok then .tuple #[v,.bool okk] else v) : Sem Value).run P w:=by
      intro q hq
      simp only [Instr.lookup,Instr.findKey,Sem.run_bind,run_underlying h1,run_underlying h2,Result.andThen_ok,hget,Sem.run_pure,hck,hq]
      cases q <;> rfl
     split at h
     ·
      rename_i j u hf
      obtain ⟨q,hq,e,z,e1,e2,e3,e4,e5,e6⟩:=findD_run 0 hes hf
      simp at h
      obtain ⟨rfl,rfl⟩:=h
      have rz : RD I u z:=e6.mono (fun _ _ h=>by cases h)
      refine ⟨rfl,?_⟩
      rw [Sem.run_bind,fin q hq,e4]
      cases ok with
      | true=>exact ⟨.tuple #[z,.bool true],by simp,.tup _ [_,_] (.cons _ _ _ _ (.im _ _ rz) (.cons _ _ _ _ (.im _ _ (.bool _)) .nil))⟩
      | false=>exact ⟨z,by simp,.im _ _ rz⟩
     ·
      rename_i z hf hzd
      obtain ⟨q,hq,e1⟩:=findD_run 0 hes hf
      simp at h
      obtain ⟨rfl,rfl⟩:=h
      have rz : RD I z ie.zero:=constD_rd hzd
      refine ⟨rfl,?_⟩
      have e1 : q = none:=e1
      rw [Sem.run_bind,fin q hq,e1]
      cases ok with
      | true=>exact ⟨.tuple #[ie.zero,.bool false],by simp [hz],.tup _ [_,_] (.cons _ _ _ _ (.im _ _ rz) (.cons _ _ _ _ (.im _ _ (.bool _)) .nil))⟩
      | false=>exact ⟨ie.zero,by simp [hz],.im _ _ rz⟩
     ·
      simp at h
    ·
     simp at h
   ·
    simp at h
  ·
   simp at h
 ·
  simp at h
theorem evX_sound {T:Tab} (hT:T.ok P) (hw:WR I κ H w) {env:Env} {a:Act} (he:RVs I κ env a.tmps.toList) {o:Oper} {v:AV} {b:Option Blk} {id:Nat} (hid:κ id = none) (hH:∀ blk,b = some blk → H[id]? = some (some blk))
  (h:evX T env H id o = some (v,b)) : Made P I κ H w a o id v b:=by
 have hx:=evX_isX h
 cases ho : o.op with
 | convert t u x=>exact evX_convert hT hw he ho hid h
 | binOp op t x y u =>
  obtain ⟨rfl,hv⟩:=evX_binOp hT he ho h
  exact made_val hw hid hv
 | typeAssert x t u ok =>
  obtain ⟨rfl,hv⟩:=evX_typeAssert hT he ho h
  exact made_val hw hid hv
 | makeMap t r=>exact evX_makeMap hw ho hid hH h
 | lookup t m k ok =>
  obtain ⟨rfl,hv⟩:=evX_lookup hT hw he ho h
  exact made_val hw hid hv
 | _=>rw [ho] at hx; simp [isX] at hx
end
end Go.AM
/- The abstract machine,part 19: calls that leave what the caller owns as it was. -/
namespace Go.AM
abbrev Oracle:=FuncId → List AV → Heap → Option (AV × Heap)
def Goes (P:Program) (r:Result Next) (R:Value → World → Prop) : Prop:=match r with
 | .ok (.value v) w'=>R v w'
 | .ok .skip w'=>R undef w'
 | .ok (.enter f args) w'=>Calls P f args w' fun
  | .returned v,w''=>R v w''
  | _,_=>False
 | _=>False
theorem Goes.mono {P:Program} {r:Result Next} {R R' : Value → World → Prop} (h:Goes P r R) (hr:∀ v w,R v w → R' v w) : Goes P r R':=by
 unfold Goes at *
 split at h
 ·
  exact hr _ _ h
 ·
  exact hr _ _ h
 ·
  refine h.mono fun e w' he=>?_
  cases e with
  | returned v=>exact hr _ _ he
  | _=>exact he
 ·
  exact h.elim
theorem Goes.wp {P:Program} {o:Oper} {a:Act} {w:World} {K:Act → World → Prop} {Q:Exit → Act → World → Prop} (h:Goes P ((execOp a.eval o).run P w) fun v w'=>K (a.put o.dst v) w') : o.wp P a w K Q:=by
 unfold Oper.wp Oper.upon
 unfold Goes at h
 split at h
 ·
  rename_i e; rw [e]; exact h
 ·
  rename_i e; rw [e]; exact h
 ·
  rename_i e
  rw [e]
  refine Calls.mono h fun e w' he=>?_
  cases e with
  | returned v=>exact he
  | _=>exact he.elim
 ·
  exact h.elim
def lentOf (κ:Nat → Option Loc) (b:Nat) : Prop:=∃ i base cap sz nn,κ i = some (.at b base cap sz nn)
def CallOK (P:Program) (call:Oracle) : Prop:=∀ (f:FuncId) (as:List AV) (H:Heap) (res:AV) (H' : Heap),call f as H = some (res,H') →
 ∀ (I:Nat → Option (Array Value)) (κ:Nat → Option Loc) (w:World) (vals:List Value),WR I κ H w → (∀ i blk,H[i]? = some (some blk) → ∃ l,κ i = some l) → RVs I κ as vals →
  Goes P ((callFunc f vals.toArray).run P w) fun v w' => ∃ I' κ', St [] (lentOf κ) κ H.length I w I' κ' H' w' [res] ⟨#[v], []⟩
def fnOf : AV → Option (FuncId × List AV × List AV)
 | .im (.fn (.func g) a c)=>some (g,a.map .im,c.map .im)
 | .fn (.func g) a c=>some (g,a,c)
 | _=>none
def D.plain : D → Bool
 | .int _ _=>true
 | .bool _=>true
 | .str _=>true
 | _=>false
def D.plains : List D → Bool
 | []=>true
 | d :: ds=>d.plain && D.plains ds
def AV.plain : AV → Bool
 | .im (.agg ds)=>D.plains ds
 | .im d=>d.plain
 | _=>false
def AV.plains : List AV → Bool
 | []=>true
 | x :: xs=>x.plain && AV.plains xs
def plainR : AV → Bool
 | .tup vs=>AV.plains vs
 | x=>x.plain
def callP (call:Oracle) (H:Heap) (g:FuncId) (as:List AV) : Option AV :=
 if (AV.idss as).isEmpty then match call g as [] with
  | some (res,H')=>snap H' 12 res
  | none=>none
 else match mapO (snap H 12) as with
  | some bs=>match call g bs [] with
   | some (res,_)=>if plainR res then some res else none
   | none=>none
  | none=>none
def evC (call:Oracle) (env:Env) (H:Heap) (o:Oper) : Option AV :=
 match o.op with
 | .call { callee:=.value f,args,.. }=>match opd env f,opds env args.toList with
  | some fv,some as=>match fnOf fv with
   | some (g,a,c)=>callP call H g (a ++ as ++ c)
   | none=>none
  | _,_=>none
 | _=>none
section
variable {P:Program} {I I' : Nat → Option (Array Value)} {κ κ' : Nat → Option Loc} {w w' : World} {H H' : Heap} {DF:List Deferred} {A:Nat → Prop} {κ0:Nat → Option Loc} {nl:Nat} {I0:Nat → Option (Array Value)} {w0:World} {env:Env} {a:Act}
mutual
theorem RV.still : ∀ {x:AV} {v:Value},RV I κ x v → AV.ids x = [] → RV I κ' x v
 | _,_,.im d v hr,h=>.im _ _ hr
 | _,_,.refnil ..,h=>by simp [AV.ids] at h
 | _,_,.ref ..,h=>by simp [AV.ids] at h
 | _,_,.refend ..,h=>by simp [AV.ids] at h
 | _,_,.ptr ..,h=>by simp [AV.ids] at h
 | _,_,.mp ..,h=>by simp [AV.ids] at h
 | _,_,.pe _ _ _ _ _ _ h1 h2 h3,h=>.pe _ _ _ _ _ _ h1 h2 h3
 | _,_,.agg cs vs hr,h=>.agg _ _ (RVs.still hr (by simpa [AV.ids] using h))
 | _,_,.fn f a c va vc h1 h2,h=>by
  simp only [AV.ids,List.append_eq_nil_iff] at h
  exact .fn _ _ _ _ _ (RVs.still h1 h.1) (RVs.still h2 h.2)
 | _,_,.ifc t x v hr,h=>.ifc _ _ _ (RV.still hr (by simpa [AV.ids] using h))
 | _,_,.tup vs ws hr,h=>.tup _ _ (RVs.still hr (by simpa [AV.ids] using h))
 | _,_,.bad v,h=>.bad v
theorem RVs.still : ∀ {xs:List AV} {vs:List Value},RVs I κ xs vs → AV.idss xs = [] → RVs I κ' xs vs
 | _,_,.nil,h=>.nil
 | _,_,.cons x xs v vs hr hrs,h=>by
  simp only [AV.idss,List.append_eq_nil_iff] at h
  exact .cons _ _ _ _ (RV.still hr h.1) (RVs.still hrs h.2)
end
theorem D.plain_rd {d:D} {v:Value} (h:d.plain = true) (hr:RD I d v) : RD I' d v:=by
 cases hr <;> first | (simp [D.plain] at h; done) | constructor
theorem D.plains_rd {ds:List D} {vs:List Value} (h:D.plains ds = true) (hr:RDs I ds vs) : RDs I' ds vs:=by
 induction ds generalizing vs with
 | nil=>cases hr; exact .nil
 | cons d ds ih =>
  simp only [D.plains,Bool.and_eq_true] at h
  cases hr with
  | cons _ _ _ _ h1 h2=>exact .cons _ _ _ _ (D.plain_rd h.1 h1) (ih h.2 h2)
theorem AV.plain_rv {x:AV} {v:Value} (h:x.plain = true) (hr:RV I κ x v) : RV I' κ' x v:=by
 cases hr with
 | im d v hr =>
  refine .im _ _ ?_
  unfold AV.plain at h
  split at h
  ·
   rename_i ds e
   cases e
   cases hr with
   | agg _ _ hr=>exact .agg _ _ (D.plains_rd h hr)
  ·
   rename_i d' e
   cases e
   exact D.plain_rd h hr
  ·
   simp at h
 | _=>simp [AV.plain] at h
theorem AV.plains_rv {xs:List AV} {vs:List Value} (h:AV.plains xs = true) (hr:RVs I κ xs vs) : RVs I' κ' xs vs:=by
 induction xs generalizing vs with
 | nil=>cases hr; exact .nil
 | cons d ds ih =>
  simp only [AV.plains,Bool.and_eq_true] at h
  cases hr with
  | cons _ _ _ _ h1 h2=>exact .cons _ _ _ _ (AV.plain_rv h.1 h1) (ih h.2 h2)
theorem plainR_rv {x:AV} {v:Value} (h:plainR x = true) (hr:RV I κ x v) : RV I' κ' x v:=by
 cases hr with
 | tup vs ws hr=>exact .tup _ _ (AV.plains_rv h hr)
 | im d v hr=>exact AV.plain_rv h (.im (κ:=κ) d v hr)
 | _=>simp [plainR,AV.plain] at h
theorem CallOK.pure {call:Oracle} (hc:CallOK P call) (hw:WR I κ H w) {g:FuncId} {as:List AV} {vals:List Value} (hr:RVs I κ as vals) {y:AV} (h:callP call H g as = some y) :
  Goes P ((callFunc g vals.toArray).run P w) fun v w' => ∃ I', Grow I κ w I' κ w' ∧ WR I' κ H w' ∧ RV I' κ y v := by
 have none_dom : ∀ (i:Nat) (blk:Blk),([] : Heap)[i]? = some (some blk) → ∃ l,(fun _=>none : Nat → Option Loc) i = some l:=fun i blk h=>by simp at h
 unfold callP at h
 split at h
 ·
  rename_i hi
  split at h
  ·
   rename_i res H' hcall
   have hw0 : WR I (fun _=>none) ([] : Heap) w:=⟨hw.im,fun _ _ h=>by simp at h,fun _ _ _ _ _ _ _ _ _ _ _ h=>by simp at h,fun _ _ _ _ _ _ h=>by simp at h⟩
   refine (hc g as [] res H' hcall I (fun _ => none) w vals hw0 none_dom (RVs.still hr (by simpa using hi))).mono fun v w' ⟨I', κ', s⟩ => ?_
   have hx : RV I' κ' res v:=by
    have:=s.env
    cases this with
    | cons _ _ _ _ h1 _=>exact h1
   have hm:=s.mv
   have hnew : ∀ b c,star I' κ' w' b = some c → I b = some c ∨ w.heap.size ≤ b:=fun b c hb=>by
    rcases star_from hb with h1 | ⟨i,base,cap,sz,nn,hk⟩
    ·
     rcases hm.inew _ _ h1 with h2 | ⟨_,_,_,_,_,h2⟩ | h2
     ·
      exact .inl h2
     ·
      simp at h2
     ·
      exact .inr h2
    ·
     rcases s.own _ _ _ _ _ _ hk with ⟨_,_,_,_,_,h2⟩ | h2
     ·
      simp at h2
     ·
      exact .inr h2
   have g1 : Grow I κ w (star I' κ' w') κ w':=⟨⟨hm.os,hm.tape,hm.output,hm.size,fun b hb=>hm.block b hb (by rintro ⟨_,_,_,_,_,h2⟩; simp at h2)⟩,
    fun b c h=>star_im (hm.im _ _ h),hnew,fun _ _ h=>h,fun _ _ _ _ _ _ h=>.inl h⟩
   refine ⟨_,g1,⟨fun b c hb=>star_lies s.wr hb,fun i l hl=>?_,hw.inj,fun i b base cap sz nn hk=>?_⟩,(snap_rv s.wr 12 _ _ _ h hx).mono (fun _ _ h=>h) (fun _ _ h=>by simp at h)⟩
   ·
    obtain ⟨blk,hb,hl'⟩:=hw.own _ _ hl
    exact ⟨blk,hb,hl'.grow g1⟩
   ·
    cases hs : star I' κ' w' b with
    | none=>rfl
    | some c =>
     exfalso
     rcases hnew _ _ hs with h1 | h1
     ·
      rw [hw.apart _ _ _ _ _ _ hk] at h1; cases h1
     ·
      have:=hw.lt_own hk; omega
  ·
   simp at h
 ·
  split at h
  ·
   rename_i bs hbs
   split at h
   ·
    rename_i res H' hcall
    split at h
    ·
     rename_i hp
     simp at h
     subst h
     have hbr : RVs (star I κ w) (fun _=>none) bs vals:=mapO_rv (snap_rv hw 12) hbs hr
     refine (hc g bs [] res H' hcall (star I κ w) (fun _ => none) w vals (star_wr hw _) none_dom hbr).mono fun v w' ⟨I', κ', s⟩ => ?_
     have hx : RV I' κ' res v:=by
      have:=s.env
      cases this with
      | cons _ _ _ _ h1 _=>exact h1
     have hm:=s.mv
     have g1 : Grow I κ w I κ w':=⟨⟨hm.os,hm.tape,hm.output,hm.size,fun b hb=>hm.block b hb (by rintro ⟨_,_,_,_,_,h2⟩; simp at h2)⟩,
      fun _ _ h=>h,fun _ _ h=>.inl h,fun _ _ h=>h,fun _ _ _ _ _ _ h=>.inl h⟩
     refine ⟨I,g1,⟨fun b c hb=>?_,fun i l hl=>?_,hw.inj,hw.apart⟩,plainR_rv hp hx⟩
     ·
      obtain ⟨T,fr,h1⟩:=hw.im _ _ hb
      exact ⟨T,fr,(g1.below.block _ (hw.lt_im hb)).trans h1⟩
     ·
      obtain ⟨blk,hb,hl'⟩:=hw.own _ _ hl
      exact ⟨blk,hb,hl'.grow g1⟩
    ·
     simp at h
   ·
    simp at h
  ·
   simp at h
theorem exec_call (he:RVs I κ env a.tmps.toList) {o:Oper} {f:Operand} {args:Array Operand} {ats:Array TypeId} (ho:o.op = .call { callee:=.value f,args,argTypes:=ats }) {fv:AV} {as:List AV} (hf:opd env f = some fv)
  (ha:opds env args.toList = some as) {g:FuncId} {x c:List AV} (hg:fnOf fv = some (g,x,c)) : ∃ vals,(execOp a.eval o).run P w = (callFunc g (List.toArray vals)).run P w ∧ RVs I κ (x ++ as ++ c) vals:=by
 obtain ⟨ws,hws,hr⟩:=opds_toList he ha
 have hfr:=opd_rv he hf
 have key : ∃ vx vc,a.eval f = .func (.func g) (List.toArray vx) (List.toArray vc) ∧ RVs I κ x vx ∧ RVs I κ c vc:=by
  unfold fnOf at hg
  split at hg
  ·
   rename_i g' a' c'
   simp at hg
   obtain ⟨rfl,rfl,rfl⟩:=hg
   generalize hv : a.eval f = v at hfr
   cases hfr with
   | im _ _ hfr =>
   cases hfr with
   | fn _ _ _ va vc h1 h2=>exact ⟨va,vc,rfl,h1.toRVs,h2.toRVs⟩
  ·
   rename_i g' a' c'
   simp at hg
   obtain ⟨rfl,rfl,rfl⟩:=hg
   generalize hv : a.eval f = v at hfr
   cases hfr with
   | fn _ _ _ va vc h1 h2=>exact ⟨va,vc,rfl,h1,h2⟩
  ·
   simp at hg
 obtain ⟨vx,vc,hev,h1,h2⟩:=key
 refine ⟨vx ++ ws ++ vc,?_,(h1.append hr).append h2⟩
 unfold execOp
 simp [ho,resolve,Deferred.ofValue,invoke,hev,hws]
theorem evC_sound {call:Oracle} (hc:CallOK P call) (hw:WR I κ H w) (he:RVs I κ env a.tmps.toList) {o:Oper} {y:AV} (h:evC call env H o = some y) :
  Goes P ((execOp a.eval o).run P w) fun v w' => ∃ I', Grow I κ w I' κ w' ∧ WR I' κ H w' ∧ RV I' κ y v := by
 unfold evC at h
 split at h
 ·
  rename_i f args ats ho
  split at h
  ·
   rename_i fv as hf ha
   split at h
   ·
    rename_i g x c hg
    obtain ⟨vals,hrun,hr⟩:=exec_call (P:=P) (w:=w) he ho hf ha hg
    rw [hrun]
    exact hc.pure hw hr h
   ·
    simp at h
  ·
   simp at h
 ·
  simp at h
end
end Go.AM
/- The abstract machine,part 20: what an operation comes to hangs on its operands,and on the blocks that there are,alone. -/
namespace Go.AM
section
variable {env env' : Env} {H H' : Heap}
theorem opds_congr : ∀ {xs:List Operand},(∀ x ∈ xs,opd env x = opd env' x) → opds env xs = opds env' xs
 | [],_=>rfl
 | x :: xs,h=>by
  have ih:=opds_congr (xs:=xs) (fun y hy=>h y (by simp [hy]))
  simp only [opds,h x (by simp),ih]
theorem opdsI_congr : ∀ {xs:List (Nat × Operand)},(∀ x ∈ xs.map (·.2),opd env x = opd env' x) → opdsI env xs = opdsI env' xs
 | [],_=>rfl
 | (i,x) :: xs,h=>by
  have ih:=opdsI_congr (xs:=xs) (fun y hy=>h y (by simp at hy ⊢; exact .inr hy))
  simp only [opdsI,h x (by simp),ih]
theorem bndO_congr {x:Option Operand} (h:∀ y ∈ x.toArray,opd env y = opd env' y) (y d:Nat) : bndO env x y d = bndO env' x y d:=by
 cases x with
 | none=>rfl
 | some x=>simp only [bndO,h x (by simp)]
theorem ev0_congr {T:Tab} {o:Oper} (h:∀ x ∈ o.op.operands,opd env x = opd env' x) : ev0 T env H o = ev0 T env' H o:=by
 obtain ⟨dst,op,type,pos,after,guard⟩:=o
 cases op with
 | slice t x lo hi mx =>
  simp only [Op.operands] at h
  have e0:=h x (by simp)
  have e1:=fun y d=>bndO_congr (env:=env) (env':=env') (x:=lo) (fun z hz=>h z (by simp at hz ⊢; simp [hz])) y d
  have e2:=fun y d=>bndO_congr (env:=env) (env':=env') (x:=hi) (fun z hz=>h z (by simp at hz ⊢; simp [hz])) y d
  cases mx <;> simp only [ev0,e0,e1,e2]
 | call c =>
  obtain ⟨callee,args,argTypes⟩:=c
  cases callee with
  | builtin b =>
   have e0 : opds env args.toList = opds env' args.toList:=opds_congr fun x hx=>h x (by simpa [Op.operands,Call.operands] using hx)
   cases b <;> simp only [ev0,e0]
  | _=>rfl
 | makeFunc f a c =>
  have e0 : opds env a.toList = opds env' a.toList:=opds_congr fun x hx=>h x (by simp only [Op.operands,Array.mem_append]; exact .inl (by simpa using hx))
  have e1 : opds env c.toList = opds env' c.toList:=opds_congr fun x hx=>h x (by simp only [Op.operands,Array.mem_append]; exact .inr (by simpa using hx))
  simp only [ev0,e0,e1]
 | pick c x y =>
  have e0:=h c (by simp [Op.operands])
  have e1:=h x (by simp [Op.operands])
  have e2:=h y (by simp [Op.operands])
  simp only [ev0,e0,e1,e2]
 | move x=>have e0:=h x (by simp [Op.operands]); simp only [ev0,e0]
 | assign x=>have e0:=h x (by simp [Op.operands]); simp only [ev0,e0]
 | load t x=>have e0:=h x (by simp [Op.operands]); simp only [ev0,e0]
 | nilCheck x=>have e0:=h x (by simp [Op.operands]); simp only [ev0,e0]
 | unOp op t x=>have e0:=h x (by simp [Op.operands]); simp only [ev0,e0]
 | convert s d x=>have e0:=h x (by simp [Op.operands]); simp only [ev0,e0]
 | makeInterface t x=>have e0:=h x (by simp [Op.operands]); simp only [ev0,e0]
 | fieldAddr t x f=>have e0:=h x (by simp [Op.operands]); simp only [ev0,e0]
 | field t x f=>have e0:=h x (by simp [Op.operands]); simp only [ev0,e0]
 | extract x i=>have e0:=h x (by simp [Op.operands]); simp only [ev0,e0]
 | binOp op t x y u =>
  have e0:=h x (by simp [Op.operands])
  have e1:=h y (by simp [Op.operands])
  simp only [ev0,e0,e1]
 | indexAddr t x i =>
  have e0:=h x (by simp [Op.operands])
  have e1:=h i (by simp [Op.operands])
  simp only [ev0,e0,e1]
 | index t x i =>
  have e0:=h x (by simp [Op.operands])
  have e1:=h i (by simp [Op.operands])
  simp only [ev0,e0,e1]
 | _=>rfl
theorem ev1_congr {T:Tab} {own:Nat → Bool} {o:Oper} (h:∀ x ∈ o.op.operands,opd env x = opd env' x) : ev1 T own env o = ev1 T own env' o:=by
 obtain ⟨dst,op,type,pos,after,guard⟩:=o
 cases op with
 | box t x=>have e0:=h x (by simp [Op.operands]); simp only [ev1,e0]
 | assign x=>have e0:=h x (by simp [Op.operands]); simp only [ev1,e0]
 | build t ps =>
  have e0 : opdsI env ps.toList = opdsI env' ps.toList:=opdsI_congr fun x hx=>h x (by simpa [Op.operands] using hx)
  simp only [ev1,e0]
 | buildSlice t n ps =>
  have e0 : opdsI env ps.toList = opdsI env' ps.toList:=opdsI_congr fun x hx=>h x (by simpa [Op.operands] using hx)
  simp only [ev1,e0]
 | makeSlice t l c =>
  have e0:=h l (by simp [Op.operands])
  have e1:=h c (by simp [Op.operands])
  simp only [ev1,e0,e1]
 | _=>rfl
theorem evC_congr {call:Oracle} {o:Oper} (h:∀ x ∈ o.op.operands,opd env x = opd env' x) : evC call env H o = evC call env' H o:=by
 obtain ⟨dst,op,type,pos,after,guard⟩:=o
 cases op with
 | call c =>
  obtain ⟨callee,args,argTypes⟩:=c
  cases callee with
  | value f =>
   have e0 : opds env args.toList = opds env' args.toList:=opds_congr fun x hx=>h x (by simp [Op.operands,Call.operands]; exact .inr (by simpa using hx))
   have e1:=h f (by simp [Op.operands,Call.operands])
   simp only [evC,e0,e1]
  | _=>rfl
 | _=>rfl
theorem elem_mono (hH:∀ (id:Nat) (b:Blk),H[id]? = some (some b) → H'[id]? = some (some b)) {id j:Nat} {e:AV} (h:elem H id j = some e) : elem H' id j = some e:=by
 unfold elem at *
 split at h
 ·
  rename_i b hb; rw [hH _ _ hb]; exact h
 ·
  simp at h
theorem ev0_mono (hH:∀ (id:Nat) (b:Blk),H[id]? = some (some b) → H'[id]? = some (some b)) {T:Tab} {o:Oper} {v:AV} (h:ev0 T env H o = some v) : ev0 T env H' o = some v:=by
 obtain ⟨dst,op,type,pos,after,guard⟩:=o
 cases op with
 | load t x =>
  simp only [ev0] at h ⊢
  split at h
  ·
   split at h
   ·
    split at h
    ·
     rename_i h1 h2 _ h3
     simp only [elem_mono hH h3]
     exact h
    ·
     simp at h
   ·
    exact h
   ·
    simp at h
  ·
   simp at h
 | slice t x lo hi mx =>
  cases mx with
  | some _=>simp [ev0] at h
  | none =>
  simp only [ev0] at h ⊢
  split at h
  ·
   exact h
  ·
   split at h
   ·
    split at h
    ·
     exact h
    ·
     split at h
     ·
      rename_i hb
      simp only [hH _ _ hb]
      exact h
     ·
      simp at h
    ·
     simp at h
   ·
    simp at h
  ·
   simp at h
 | indexAddr t x i =>
  simp only [ev0] at h ⊢
  split at h
  ·
   split at h
   ·
    split at h
    ·
     split at h
     ·
      rename_i hn
      rw [if_pos hn]
      split at h
      ·
       exact h
      ·
       split at h
       ·
        rename_i hb
        simp only [hH _ _ hb]
        exact h
       ·
        simp at h
      ·
       simp at h
     ·
      simp at h
    ·
     simp at h
   ·
    simp at h
  ·
   simp at h
 | call c =>
  obtain ⟨callee,args,ats⟩:=c
  cases callee with
  | builtin b=>cases b <;> exact h
  | _=>exact h
 | _=>exact h
theorem callP_mono (hH:∀ (id:Nat) (b:Blk),H[id]? = some (some b) → H'[id]? = some (some b)) {call:Oracle} {g:FuncId} {as:List AV} {v:AV} (h:callP call H g as = some v) : callP call H' g as = some v:=by
 unfold callP at *
 split at h
 ·
  rename_i hi
  rw [if_pos hi]
  exact h
 ·
  rename_i hi
  rw [if_neg hi]
  split at h
  ·
   rename_i bs hb
   rw [mapO_mono (snap_mono hH 12) hb]
   exact h
  ·
   simp at h
theorem evC_mono (hH:∀ (id:Nat) (b:Blk),H[id]? = some (some b) → H'[id]? = some (some b)) {call:Oracle} {o:Oper} {v:AV} (h:evC call env H o = some v) : evC call env H' o = some v:=by
 unfold evC at *
 split at h
 ·
  split at h
  ·
   split at h
   ·
    exact callP_mono hH h
   ·
    simp at h
  ·
   simp at h
 ·
  simp at h
inductive Sc where
 | any
 | int (k:IntKind)
 | bool
 | str
 | sl (z:Nat)
 | fn (g:FuncId)
inductive Sh where
 | any
 | c (s:Sc)
 | st (l:List Sc)
inductive Cs where
 | any
 | v (s:Sh)
 | p (s:Sh)
def D.asInt (kd:IntKind) : D → Option Int
 | .int k n=>if k = kd then some n else none
 | _=>none
def D.asBool : D → Option Bool
 | .bool b=>some b
 | _=>none
def D.asStr : D → Option (List UInt8)
 | .str s=>some s
 | _=>none
def D.asSl (z:Nat) : D → Option (List D)
 | .sl _ z' es=>if z' == z || (z' == 0 && es.isEmpty) then some es else none
 | _=>none
def D.asAgg : D → Option (List D)
 | .agg cs=>some cs
 | _=>none
def D.asFn (g:FuncId) : D → Option Unit
 | .fn (.func g') [] []=>if Nat.beq g' g then some () else none
 | _=>none
theorem asFn_eq {g:FuncId} {d:D} {u:Unit} (h:d.asFn g = some u) : d = .fn (.func g) [] []:=by
 unfold D.asFn at h
 split at h
 ·
  split at h
  ·
   rename_i g' hg
   simp only [Nat.beq_eq] at hg
   rw [hg]
  ·
   simp at h
 ·
  simp at h
def castC : Sc → D → Option D
 | .any,d=>some d
 | .int kd,d=>match d.asInt kd with
  | some n=>some (.int kd n)
  | none=>none
 | .bool,d=>match d.asBool with
  | some n=>some (.bool n)
  | none=>none
 | .str,d=>match d.asStr with
  | some n=>some (.str n)
  | none=>none
 | .sl z,d=>match d.asSl z with
  | some n=>some (.sl false z n)
  | none=>none
 | .fn g,d=>match d.asFn g with
  | some _=>some (.fn (.func g) [] [])
  | none=>none
def castCs : List Sc → List D → Option (List D)
 | [],[]=>some []
 | s :: ss,d :: ds=>match castC s d,castCs ss ds with
  | some x,some xs=>some (x :: xs)
  | _,_=>none
 | _,_=>none
def castD : Sh → D → Option D
 | .any,d=>some d
 | .c s,d=>castC s d
 | .st l,d=>match d.asAgg with
  | some cs=>match castCs l cs with
   | some l=>some (.agg l)
   | none=>none
  | none=>none
def castV : Cs → AV → Option AV
 | .any,v=>some v
 | .p s,.pe d k=>match castD s d with
  | some d'=>some (.pe d' k)
  | none=>none
 | .v s,.im d=>match castD s d with
  | some d'=>some (.im d')
  | none=>none
 | _,v=>some v
theorem asSl_rd {I:Nat → Option (Array Value)} {z:Nat} {d:D} {es:List D} {v:Value} (h:d.asSl z = some es) (hr:RD I d v) : RD I (.sl false z es) v:=by
 cases d with
 | sl t z' es' =>
  simp only [D.asSl] at h
  split at h
  ·
   rename_i hc
   simp at h
   subst h
   simp only [Bool.or_eq_true,beq_iff_eq,Bool.and_eq_true] at hc
   rcases hc with rfl | ⟨rfl,_⟩
   ·
    cases hr with
    | slnil=>exact .slnil _ _
    | slz _ _ a hz=>exact .slz _ _ a hz
    | sle _ A n hz=>exact .sle _ A n hz
    | sl _ _ _ b off cap c vs h0 h1 h2 h3 h4 h5 h6=>exact .sl false _ _ b off cap c vs h0 h1 h2 h3 h4 (by simp) h6
   ·
    cases hr with
    | slnil=>exact .slnil _ _
    | slz _ _ a hz=>exact absurd hz (by simp)
    | sle _ A n hz=>exact absurd hz (by simp)
    | sl _ _ _ b off cap c vs h0 h1 h2 h3 h4 h5 h6=>exact absurd h0 (by simp)
  ·
   simp at h
 | _=>simp [D.asSl] at h
theorem castC_rd {I:Nat → Option (Array Value)} {s:Sc} {d d' : D} (h:castC s d = some d') {v:Value} (hr:RD I d v) : RD I d' v:=by
 unfold castC at h
 split at h
 ·
  simp at h; rw [← h]; exact hr
 ·
  split at h
  ·
   rename_i hd
   simp at h
   subst h
   cases d <;> simp [D.asInt] at hd
   rw [← hd.1,← hd.2]
   exact hr
  ·
   simp at h
 ·
  split at h
  ·
   rename_i hd
   simp at h
   subst h
   cases d <;> simp [D.asBool] at hd
   rw [← hd]
   exact hr
  ·
   simp at h
 ·
  split at h
  ·
   rename_i hd
   simp at h
   subst h
   cases d <;> simp [D.asStr] at hd
   rw [← hd]
   exact hr
  ·
   simp at h
 ·
  split at h
  ·
   rename_i hd
   simp at h
   subst h
   exact asSl_rd hd hr
  ·
   simp at h
 ·
  split at h
  ·
   rename_i hd
   simp at h
   subst h
   rw [asFn_eq hd] at hr
   exact hr
  ·
   simp at h
theorem castC_cells {s:Sc} {d d' : D} (h:castC s d = some d') (hs:s ≠ .any) : d.cells = [d] ∧ d'.cells = [d']:=by
 cases s with
 | fn g =>
  unfold castC at h
  simp only at h
  split at h
  ·
   rename_i hd
   simp at h
   subst h
   rw [asFn_eq hd]
   exact ⟨rfl,rfl⟩
  ·
   simp at h
 | any=>exact absurd rfl hs
 | _=>cases d <;> simp [castC,D.asInt,D.asBool,D.asStr,D.asSl] at h hs ⊢ <;> first | (split at h <;> simp at h <;> subst h <;> exact ⟨rfl,rfl⟩) | (subst h; exact ⟨rfl,rfl⟩) | skip
theorem castCs_rd {I:Nat → Option (Array Value)} : ∀ {l:List Sc} {ds es:List D} {vs:List Value},castCs l ds = some es → RDs I ds vs → RDs I es vs
 | [],[],es,vs,h,hr=>by simp [castCs] at h; subst h; exact hr
 | [],_ :: _,es,vs,h,hr=>by simp [castCs] at h
 | _ :: _,[],es,vs,h,hr=>by simp [castCs] at h
 | s :: ss,d :: ds,es,vs,h,hr=>by
  unfold castCs at h
  split at h
  ·
   rename_i x xs h1 h2
   simp at h
   subst h
   cases hr with
   | cons _ _ _ _ hr hrs=>exact .cons _ _ _ _ (castC_rd h1 hr) (castCs_rd h2 hrs)
  ·
   simp at h
theorem castD_rd {I:Nat → Option (Array Value)} {s:Sh} {d d' : D} (h:castD s d = some d') {v:Value} (hr:RD I d v) : RD I d' v:=by
 unfold castD at h
 split at h
 ·
  simp at h; rw [← h]; exact hr
 ·
  exact castC_rd h hr
 ·
  split at h
  ·
   rename_i cs hd
   split at h
   ·
    rename_i l hl
    simp at h
    subst h
    cases d <;> simp [D.asAgg] at hd
    subst hd
    cases hr with
    | agg _ vs hr=>exact .agg _ _ (castCs_rd hl hr)
   ·
    simp at h
  ·
   simp at h
theorem castD_cells {I:Nat → Option (Array Value)} {s:Sh} {d d' : D} (h:castD s d = some d') {vs:List Value} (hr:RDs I d.cells vs) : RDs I d'.cells vs:=by
 unfold castD at h
 split at h
 ·
  simp at h; rw [← h]; exact hr
 ·
  rename_i s'
  by_cases hs : s' = .any
  ·
   subst hs
   have h : some d = some d':=h
   simp at h
   rw [← h]
   exact hr
  ·
   obtain ⟨e1,e2⟩:=castC_cells h hs
   rw [e1] at hr
   rw [e2]
   cases hr with
   | cons _ _ _ _ h1 h2 =>
    cases h2
    exact .cons _ _ _ _ (castC_rd h h1) .nil
 ·
  split at h
  ·
   rename_i cs hd
   split at h
   ·
    rename_i l hl
    simp at h
    subst h
    cases d <;> simp [D.asAgg] at hd
    subst hd
    exact castCs_rd hl hr
   ·
    simp at h
  ·
   simp at h
theorem castV_rv {I:Nat → Option (Array Value)} {κ:Nat → Option Loc} {s:Cs} {x y:AV} (h:castV s x = some y) {v:Value} (hr:RV I κ x v) : RV I κ y v:=by
 unfold castV at h
 split at h
 ·
  simp at h; rw [← h]; exact hr
 ·
  split at h
  ·
   rename_i hd
   simp at h
   subst h
   cases hr with
   | pe _ _ b off c vs h1 h2 h3=>exact .pe _ _ _ _ _ _ h1 (castD_cells hd h2) h3
  ·
   simp at h
 ·
  split at h
  ·
   rename_i hd
   simp at h
   subst h
   cases hr with
   | im _ _ hr=>exact .im _ _ (castD_rd hd hr)
  ·
   simp at h
 ·
  simp at h; rw [← h]; exact hr
structure Cx where
 T : Tab
 call : Oracle
 own : Nat → Bool
 keep : Nat → Bool
 lend : FuncId → Bool
 cast : Oper → Cs
def evQ (X:Cx) (env:Env) (H:Heap) (id:Nat) (o:Oper) : Option (AV × Option Blk) :=
 match ev1 X.T X.own env o with
 | some ans=>some (ans.av id,ans.blk)
 | none=>match ev0 X.T env H o with
  | some v=>some (v,none)
  | none=>match evC X.call env H o with
   | some v=>some (v,none)
   | none=>evX X.T env H id o
theorem evC_isX {call:Oracle} {o:Oper} (h:isX o.op = true) : evC call env H o = none:=by
 obtain ⟨dst,op,type,pos,after,guard⟩:=o
 cases op <;> first | rfl | (simp [isX] at h)
theorem evQ_mono {X:Cx} (hH:∀ (id:Nat) (b:Blk),H[id]? = some (some b) → H'[id]? = some (some b)) {o:Oper} (hx:∀ x ∈ o.op.operands,opd env x = opd env' x) {id:Nat} {r:AV × Option Blk}
  (h:evQ X env H id o = some r) : evQ X env' H' id o = some r:=by
 unfold evQ at *
 rw [← ev1_congr hx]
 split at h
 ·
  exact h
 ·
  split at h
  ·
   rename_i hv
   rw [← ev0_congr hx,ev0_mono hH hv]
   exact h
  ·
   split at h
   ·
    rename_i hv
    have hc : ∃ f args ats,o.op = .call { callee:=.value f,args,argTypes:=ats }:=by
     unfold evC at hv
     split at hv
     ·
      rename_i ho; exact ⟨_,_,_,ho⟩
     ·
      simp at hv
    obtain ⟨f,args,ats,ho⟩:=hc
    have e0 : ev0 X.T env' H' o = none:=by unfold ev0; rw [ho]
    rw [e0,← evC_congr hx,evC_mono hH hv]
    exact h
   ·
    rename_i _ _ h0 _ hv
    have hx':=evX_isX h
    rw [← ev0_congr (H := H') hx, ev0_isX (H' := H) hx', h0, evC_isX hx', ← evX_congr hx, evX_mono hH h]
def evP (X:Cx) (env:Env) (H:Heap) (id:Nat) (o:Oper) : Option (AV × Option Blk) :=
 match evQ X env H id o with
 | some (v,b)=>match castV (X.cast o) v with
  | some v' => some (v', b)
  | none=>none
 | none=>none
theorem evP_mono {X:Cx} (hH:∀ (id:Nat) (b:Blk),H[id]? = some (some b) → H'[id]? = some (some b)) {o:Oper} (hx:∀ x ∈ o.op.operands,opd env x = opd env' x) {id:Nat} {r:AV × Option Blk}
  (h:evP X env H id o = some r) : evP X env' H' id o = some r:=by
 unfold evP at *
 split at h
 ·
  rename_i hq
  rw [evQ_mono hH hx hq]
  exact h
 ·
  simp at h
theorem evP_from {X : Cx} {o : Oper} {id : Nat} {v' : AV} {b : Option Blk} (h : evP X env H id o = some (v', b)) : ∃ v, evQ X env H id o = some (v, b) ∧ castV (X.cast o) v = some v' := by
 unfold evP at h
 split at h
 ·
  rename_i hq
  split at h
  ·
   rename_i hc
   simp at h
   obtain ⟨rfl,rfl⟩:=h
   exact ⟨_,hq,hc⟩
  ·
   simp at h
 ·
  simp at h
end
section
variable {P:Program} {I I' : Nat → Option (Array Value)} {κ κ' : Nat → Option Loc} {w w' : World} {H H' : Heap} {env:Env} {a:Act}
def Adds (I:Nat → Option (Array Value)) (κ:Nat → Option Loc) (H:Heap) (w:World) (id:Nat) (v:AV) (b:Option Blk) (x:Value) (w' : World) : Prop :=
 ∃ I' κ', Grow I κ w I' κ' w' ∧ WR I' κ' H w' ∧ RV I' κ' v x ∧ (∀ i, i ≠ id → κ' i = κ i) ∧ (b = none → κ' id = none) ∧ (b ≠ none → κ' id ≠ none)
theorem evQ_sound {X:Cx} (hT:X.T.ok P) (hc:CallOK P X.call) (hw:WR I κ H w) (he:RVs I κ env a.tmps.toList) {o:Oper} {v:AV} {b:Option Blk} {id:Nat} (hid:κ id = none) (hH:∀ blk,b = some blk → H[id]? = some (some blk))
  (h:evQ X env H id o = some (v,b)) : Goes P ((execOp a.eval o).run P w) (Adds I κ H w id v b):=by
 unfold evQ at h
 split at h
 ·
  rename_i ans hans
  simp at h
  obtain ⟨rfl,rfl⟩:=h
  obtain ⟨x, w', I', κ', hrun, hg, hw', hr, h1, h2, h3⟩ := ev1_sound hT hw he hid hH hans
  rw [hrun]
  exact ⟨I', κ', hg, hw', hr, h1, h2, h3⟩
 ·
  split at h
  ·
   rename_i hv
   simp at h
   obtain ⟨rfl,rfl⟩:=h
   obtain ⟨x,hrun,hr⟩:=ev0_sound hT hw he hv
   rw [hrun]
   exact ⟨I,κ,.refl,hw,hr,fun _ _=>rfl,fun _=>hid,fun h=>absurd rfl h⟩
  ·
   split at h
   ·
    rename_i hv
    simp at h
    obtain ⟨rfl,rfl⟩:=h
    refine (evC_sound hc hw he hv).mono fun x w' ⟨I', hg, hw', hr⟩ => ?_
    exact ⟨I', κ, hg, hw', hr, fun _ _ => rfl, fun _ => hid, fun h => absurd rfl h⟩
   ·
    obtain ⟨x, w', I', κ', hrun, hg, hw', hr, h1, h2, h3⟩ := evX_sound hT hw he hid hH h
    rw [hrun]
    exact ⟨I', κ', hg, hw', hr, h1, h2, h3⟩
theorem evP_sound {X:Cx} (hT:X.T.ok P) (hc:CallOK P X.call) (hw:WR I κ H w) (he:RVs I κ env a.tmps.toList) {o:Oper} {v:AV} {b:Option Blk} {id:Nat} (hid:κ id = none) (hH:∀ blk,b = some blk → H[id]? = some (some blk))
  (h:evP X env H id o = some (v,b)) : Goes P ((execOp a.eval o).run P w) (Adds I κ H w id v b):=by
 obtain ⟨v0,hq,hv⟩:=evP_from h
 exact (evQ_sound hT hc hw he hid hH hq).mono fun x w' ⟨I', κ', g, hw', hr, h1, h2, h3⟩ => ⟨I', κ', g, hw', castV_rv hv hr, h1, h2, h3⟩
end
end Go.AM
/- The abstract machine,part 21: own blocks under other numbers: some are kept,the others forgotten. -/
namespace Go.AM
def posn : List Nat → Nat → Option Nat
 | [],_=>none
 | x :: xs,i=>if x == i then some 0 else match posn xs i with
  | some j=>some (j + 1)
  | none=>none
def reach (H:Heap) : Nat → List Nat → List Nat → List Nat
 | 0,_,seen=>seen
 | _ + 1,[],seen=>seen
 | n + 1,i :: todo,seen=>if seen.contains i then reach H n todo seen else match H[i]? with
  | some (some (.c _ _))=>reach H n todo (seen ++ [i])
  | some (some (.m _ es))=>reach H n (AV.idss es ++ todo) (seen ++ [i])
  | some (some (.o _))=>reach H n todo (seen ++ [i])
  | _=>reach H n todo seen
def Heap.at (H:Heap) (i:Nat) : Option Blk:=match H[i]? with
 | some b=>b
 | none=>none
def bren (f:Nat → Option Nat) : Option Blk → Option Blk
 | some b=>some (b.ren f)
 | none=>none
def pickH (H:Heap) (L:List Nat) : Heap:=L.map fun i=>bren (posn L) (H.at i)
def pickK (κ:Nat → Option Loc) (L:List Nat) (j:Nat) : Option Loc:=match L[j]? with
 | some i=>κ i
 | none=>none
theorem posn_get : ∀ {L:List Nat} {i j:Nat},posn L i = some j → L[j]? = some i
 | [],i,j,h=>by simp [posn] at h
 | x :: xs,i,j,h=>by
  unfold posn at h
  split at h
  ·
   rename_i hx
   simp at h hx
   subst h hx
   rfl
  ·
   split at h
   ·
    rename_i j' hj
    simp at h
    subst h
    simpa using posn_get hj
   ·
    simp at h
theorem get_posn : ∀ {L:List Nat} {i j:Nat},L.Nodup → L[j]? = some i → posn L i = some j
 | [],i,j,hn,h=>by simp at h
 | x :: xs,i,0,hn,h=>by
  simp at h
  subst h
  simp [posn]
 | x :: xs,i,j + 1,hn,h=>by
  simp at h
  rw [List.nodup_cons] at hn
  have hm : i ∈ xs:=List.mem_of_getElem? h
  have hx : ¬ x = i:=fun e=>hn.1 (e ▸ hm)
  simp [posn,hx,get_posn hn.2 h]
theorem reach_nodup (H:Heap) : ∀ (n:Nat) (todo seen:List Nat),seen.Nodup → (reach H n todo seen).Nodup
 | 0,todo,seen,h=>by cases todo <;> simpa [reach] using h
 | n + 1,[],seen,h=>by simpa [reach] using h
 | n + 1,i :: todo,seen,h=>by
  unfold reach
  split
  ·
   exact reach_nodup H n _ _ h
  ·
   rename_i hc
   have hs : (seen ++ [i]).Nodup:=by
    rw [List.nodup_append]
    refine ⟨h,by simp,fun a ha b hb=>?_⟩
    simp at hb
    subst hb
    intro e
    subst e
    simp at hc
    exact hc ha
   split
   ·
    exact reach_nodup H n _ _ hs
   ·
    exact reach_nodup H n _ _ hs
   ·
    exact reach_nodup H n _ _ hs
   ·
    exact reach_nodup H n _ _ h
theorem reach_some (H:Heap) : ∀ (n:Nat) (todo seen:List Nat),(∀ i ∈ seen,∃ b,H[i]? = some (some b)) → ∀ i ∈ reach H n todo seen,∃ b,H[i]? = some (some b)
 | 0,todo,seen,h=>by cases todo <;> simpa [reach] using h
 | n + 1,[],seen,h=>by simpa [reach] using h
 | n + 1,i :: todo,seen,h=>by
  unfold reach
  split
  ·
   exact reach_some H n _ _ h
  ·
   split
   ·
    rename_i hb
    refine reach_some H n _ _ (fun j hj=>?_)
    simp at hj
    rcases hj with hj | rfl
    ·
     exact h j hj
    ·
     exact ⟨_,hb⟩
   ·
    rename_i hb
    refine reach_some H n _ _ (fun j hj=>?_)
    simp at hj
    rcases hj with hj | rfl
    ·
     exact h j hj
    ·
     exact ⟨_,hb⟩
   ·
    rename_i hb
    refine reach_some H n _ _ (fun j hj=>?_)
    simp at hj
    rcases hj with hj | rfl
    ·
     exact h j hj
    ·
     exact ⟨_,hb⟩
   ·
    exact reach_some H n _ _ h
theorem reach_pre (H:Heap) : ∀ (n:Nat) (todo seen:List Nat),∃ more,reach H n todo seen = seen ++ more
 | 0,todo,seen=>by cases todo <;> exact ⟨[],by simp [reach]⟩
 | n + 1,[],seen=>⟨[],by simp [reach]⟩
 | n + 1,i :: todo,seen=>by
  unfold reach
  split
  ·
   exact reach_pre H n _ _
  ·
   split
   ·
    obtain ⟨m,h⟩:=reach_pre H n todo (seen ++ [i]); exact ⟨[i] ++ m,by rw [h]; simp⟩
   ·
    rename_i es _; obtain ⟨m,h⟩:=reach_pre H n (AV.idss es ++ todo) (seen ++ [i]); exact ⟨[i] ++ m,by rw [h]; simp⟩
   ·
    obtain ⟨m,h⟩:=reach_pre H n todo (seen ++ [i]); exact ⟨[i] ++ m,by rw [h]; simp⟩
   ·
    exact reach_pre H n _ _
theorem Heap.at_some {H:Heap} {i:Nat} {b:Blk} : H.at i = some b ↔ H[i]? = some (some b):=by
 unfold Heap.at
 split
 ·
  rename_i h; rw [h]; simp
 ·
  rename_i h; rw [h]; simp
theorem bren_some {f:Nat → Option Nat} {x:Option Blk} {b:Blk} (h:bren f x = some b) : ∃ c,x = some c ∧ b = c.ren f:=by
 cases x with
 | none=>simp [bren] at h
 | some c=>simp [bren] at h; exact ⟨c,rfl,h.symm⟩
theorem pickH_get {H:Heap} {L:List Nat} (j:Nat) : (pickH H L)[j]? = (L[j]?).map fun i=>bren (posn L) (H.at i):=by simp [pickH]
section
variable {P:Program} {I I' : Nat → Option (Array Value)} {κ κ' : Nat → Option Loc} {w w' : World} {H H' : Heap} {DF:List Deferred} {A:Nat → Prop} {κ0:Nat → Option Loc} {nl:Nat} {I0:Nat → Option (Array Value)} {w0:World} {env:Env} {a:Act}
theorem pickK_ren {L:List Nat} (hL:L.Nodup) : ∀ i j,posn L i = some j → ∀ l,κ i = some l → pickK κ L j = some l:=fun i j h l hl=>by
 simp only [pickK,posn_get h,hl]
theorem pickK_some {L:List Nat} {j:Nat} {l:Loc} (h:pickK κ L j = some l) : ∃ i,L[j]? = some i ∧ κ i = some l:=by
 unfold pickK at h
 split at h
 ·
  rename_i i hi; exact ⟨i,hi,h⟩
 ·
  simp at h
theorem WR.pick (hw:WR I κ H w) {L:List Nat} (hL:L.Nodup) : WR I (pickK κ L) (pickH H L) w:=by
 refine ⟨hw.im,fun j l h=>?_,fun j j' b base cap sz nn base' cap' sz' nn' h h'=>?_,fun j b base cap sz nn h=>?_⟩
 ·
  obtain ⟨i,hi,hl⟩:=pickK_some h
  obtain ⟨blk,hb,hlies⟩:=hw.own _ _ hl
  refine ⟨blk.ren (posn L),?_,hlies.ren (fun _ _ h=>h) (pickK_ren hL) (fun _ _ _ _ _ _=>rfl)⟩
  rw [pickH_get,hi]
  simp [Heap.at_some.2 hb,bren]
 ·
  obtain ⟨i,hi,hl⟩:=pickK_some h
  obtain ⟨i', hi', hl'⟩ := pickK_some h'
  have:=hw.inj _ _ _ _ _ _ _ _ _ _ _ hl hl'
  subst this
  have e1:=get_posn hL hi
  have e2:=get_posn hL hi'
  rw [e1] at e2
  exact Option.some.inj e2
 ·
  obtain ⟨i,hi,hl⟩:=pickK_some h
  exact hw.apart _ _ _ _ _ _ hl
theorem St.pick (s:St DF A κ0 nl I0 w0 I κ H w env a) {L:List Nat} (hL:L.Nodup) (hnl:∀ i,i < nl → L[i]? = some i) : St DF A κ0 nl I0 w0 I (pickK κ L) (pickH H L) w (AV.rens (posn L) env) a:=by
 refine ⟨s.wr.pick hL,RVs.ren (fun _ _ h=>h) (pickK_ren hL) s.env,s.mv,fun j b base cap sz nn h=>?_,fun j blk h=>?_,s.nodef,fun j hj l h=>?_,?_⟩
 ·
  obtain ⟨i,hi,hl⟩:=pickK_some h
  exact s.own _ _ _ _ _ _ hl
 ·
  rw [pickH_get] at h
  cases hi : L[j]? with
  | none=>simp [hi] at h
  | some i =>
   simp [hi] at h
   obtain ⟨c,hc,rfl⟩:=bren_some h
   obtain ⟨l,hl⟩:=s.dom _ _ (Heap.at_some.1 hc)
   exact ⟨l,by simp [pickK,hi,hl]⟩
 ·
  obtain ⟨i,hi,hl⟩:=pickK_some h
  rw [hnl j hj] at hi
  cases hi
  exact s.lent _ hj _ hl
 ·
  rcases Nat.lt_or_ge (pickH H L).length nl with h | h
  ·
   have:=hnl (pickH H L).length h
   simp [pickH] at this
  ·
   exact h
end
end Go.AM
/- The abstract machine,part 22: calls to which own blocks are lent. -/
namespace Go.AM
def backF (L:List Nat) (base:Nat) (j:Nat) : Option Nat:=match L[j]? with
 | some i=>some i
 | none=>some (base + (j - L.length))
def keepF (L:List Nat) (H' : Heap) (i:Nat) : Option Nat:=match posn L i with
 | some j=>match H'.at j with
  | some _=>some i
  | none=>none
 | none=>some i
def backH (L:List Nat) (H H' : Heap) : Heap :=
 ((List.range H.length).map fun i=>match posn L i with
  | some j=>bren (backF L H.length) (H'.at j)
  | none=>bren (keepF L H') (H.at i)) ++ (H'.drop L.length).map (bren (backF L H.length))
def callL (call:Oracle) (env:Env) (H:Heap) (g:FuncId) (as:List AV) : Option (AV × Env × Heap) :=
 match call g (AV.rens (posn (reach H 400 (AV.idss as) [])) as) (pickH H (reach H 400 (AV.idss as) [])) with
 | some (res,H')=>some (AV.ren (backF (reach H 400 (AV.idss as) []) H.length) res,AV.rens (keepF (reach H 400 (AV.idss as) []) H') env,backH (reach H 400 (AV.idss as) []) H H')
 | none=>none
def evL (X:Cx) (env:Env) (H:Heap) (o:Oper) : Option (AV × Env × Heap) :=
 match o.op with
 | .call { callee:=.value f,args,.. }=>match opd env f,opds env args.toList with
  | some fv,some as=>match fnOf fv with
   | some (g,a,c)=>if X.lend g || X.keep (o.dst.getD 0) then callL X.call env H g (a ++ as ++ c) else none
   | none=>none
  | _,_=>none
 | _=>none
section
variable {P:Program} {I I' : Nat → Option (Array Value)} {κ κ' : Nat → Option Loc} {w w' : World} {H H' : Heap} {DF:List Deferred} {A:Nat → Prop} {κ0:Nat → Option Loc} {nl:Nat} {I0:Nat → Option (Array Value)} {w0:World} {env:Env} {a:Act}
def backK (κ κ' : Nat → Option Loc) (L:List Nat) (base i:Nat) : Option Loc:=match posn L i with
 | some j=>κ' j
 | none=>if i < base then κ i else κ' (i - base + L.length)
theorem backK_cases {L:List Nat} {base i:Nat} {l:Loc} (h:backK κ κ' L base i = some l) :
  (∃ j,posn L i = some j ∧ κ' j = some l) ∨ (posn L i = none ∧ i < base ∧ κ i = some l) ∨ (posn L i = none ∧ base ≤ i ∧ κ' (i - base + L.length) = some l):=by
 unfold backK at h
 split at h
 ·
  rename_i j hj; exact .inl ⟨j,hj,h⟩
 ·
  rename_i hn
  split at h
  ·
   rename_i hi; exact .inr (.inl ⟨hn,hi,h⟩)
  ·
   rename_i hi; exact .inr (.inr ⟨hn,by omega,h⟩)
theorem callL_core (s:St DF A κ0 nl I0 w0 I κ H w env a) {L:List Nat} (hL:L.Nodup) (hLs:∀ i ∈ L,∃ b,H[i]? = some (some b)) {res:AV} {H' : Heap} {v:Value} {w' : World} {I' : Nat → Option (Array Value)} {κ' : Nat → Option Loc}
  (s' : St [] (lentOf (pickK κ L)) (pickK κ L) (pickH H L).length I w I' κ' H' w' [res] ⟨#[v],[]⟩) :
  ∃ I' κ', St DF A κ0 nl I0 w0 I' κ' (backH L H H') w' (AV.rens (keepF L H') env) a ∧ RV I' κ' (AV.ren (backF L H.length) res) v := by
 have hlt : ∀ i ∈ L,i < H.length:=fun i hi=>by
  obtain ⟨b,hb⟩:=hLs i hi
  rcases Nat.lt_or_ge i H.length with h | h
  ·
   exact h
  ·
   simp [List.getElem?_eq_none h] at hb
 have hlen : (pickH H L).length = L.length:=by simp [pickH]
 rw [hlen] at s'
 have hlent : ∀ b,lentOf (pickK κ L) b → ∃ i base cap sz nn,i ∈ L ∧ κ i = some (.at b base cap sz nn):=by
  rintro b ⟨j,base,cap,sz,nn,hj⟩
  obtain ⟨i,hi,hl⟩:=pickK_some hj
  exact ⟨i,base,cap,sz,nn,List.mem_of_getElem? hi,hl⟩
 have hIim : ∀ b c,I b = some c → I' b = some c:=s'.mv.im
 -- the callee's numbers,back
 have hback : ∀ j i,backF L H.length j = some i → ∀ l,κ' j = some l → backK κ κ' L H.length i = some l:=by
  intro j i hji l hl
  unfold backF at hji
  split at hji
  ·
   rename_i i' hi'
   simp at hji
   subst hji
   simp only [backK, get_posn hL hi', hl]
  ·
   rename_i hn
   simp at hji
   subst hji
   have hj : L.length ≤ j:=by simpa using hn
   have hp : posn L (H.length + (j - L.length)) = none:=by
    cases hp : posn L (H.length + (j - L.length)) with
    | none=>rfl
    | some k =>
     have:=hlt _ (List.mem_of_getElem? (posn_get hp))
     omega
   simp only [backK,hp]
   rw [if_neg (by omega),show H.length + (j - L.length) - H.length + L.length = j by omega]
   exact hl
 -- the caller's,kept
 have hkeep : ∀ i i', keepF L H' i = some i' → ∀ l, κ i = some l → backK κ κ' L H.length i' = some l := by
  intro i i' hii l hl
  unfold keepF at hii
  split at hii
  ·
   rename_i j hj
   split at hii
   ·
    rename_i b hb
    simp at hii
    subst hii
    obtain ⟨l', hl'⟩ := s'.dom _ _ (Heap.at_some.1 hb)
    have hjL : j < L.length:=by
     have:=posn_get hj
     rcases Nat.lt_or_ge j L.length with h | h
     ·
      exact h
     ·
      simp [List.getElem?_eq_none h] at this
    have h1:=s'.lent _ hjL _ hl'
    rw [pickK,posn_get hj] at h1
    simp only at h1
    rw [hl] at h1
    simp only [backK, hj, hl', h1]
   ·
    simp at hii
  ·
   rename_i hn
   simp at hii
   subst hii
   have hi : i < H.length:=by
    obtain ⟨blk,hb,_⟩:=s.wr.own _ _ hl
    rcases Nat.lt_or_ge i H.length with h | h
    ·
     exact h
    ·
     simp [List.getElem?_eq_none h] at hb
   simp only [backK,hn,hi,if_true,hl]
 have hnotlent : ∀ i b base cap sz nn,posn L i = none → κ i = some (.at b base cap sz nn) → ¬ lentOf (pickK κ L) b:=by
  intro i b base cap sz nn hp hk hl
  obtain ⟨i', base', cap', sz', nn', hi', hk'⟩ := hlent b hl
  have:=s.wr.inj _ _ _ _ _ _ _ _ _ _ _ hk hk'
  subst this
  obtain ⟨j,hj⟩:=List.getElem?_of_mem hi'
  rw [get_posn hL hj] at hp
  cases hp
 have hget1 : ∀ i,i < H.length → (backH L H H')[i]? = some (match posn L i with
   | some j=>bren (backF L H.length) (H'.at j)
   | none=>bren (keepF L H') (H.at i)):=by
  intro i hi
  unfold backH
  rw [List.getElem?_append_left (by simpa using hi)]
  simp [hi]
 have hget2 : ∀ i,H.length ≤ i → (backH L H H')[i]? = (H'[i - H.length + L.length]?).map (bren (backF L H.length)):=by
  intro i hi
  unfold backH
  rw [List.getElem?_append_right (by simpa using hi)]
  simp [Nat.add_comm]
 have hsame : ∀ i b base cap sz nn,posn L i = none → κ i = some (.at b base cap sz nn) → w'.heap[b]? = w.heap[b]?:=fun i b base cap sz nn hp hk =>
  s'.mv.block b (s.wr.lt_own hk) (hnotlent i b base cap sz nn hp hk)
 refine ⟨I', backK κ κ' L H.length, ⟨⟨s'.wr.im, fun i l hk => ?_, fun i1 i2 b base cap sz nn base' cap' sz' nn' h1 h2 => ?_, fun i b base cap sz nn hk => ?_⟩, RVs.ren hIim hkeep s.env, ?_, fun i b base cap sz nn hk => ?_, fun i blk hb => ?_, s.nodef, fun i hi l hk => ?_, ?_⟩, ?_⟩
 ·
  -- where they lie
  rcases backK_cases hk with ⟨j,hj,hl⟩ | ⟨hp,hi,hl⟩ | ⟨hp,hi,hl⟩
  ·
   obtain ⟨blk,hb,hlies⟩:=s'.wr.own _ _ hl
   refine ⟨blk.ren (backF L H.length),?_,hlies.ren (fun _ _ h=>h) hback (fun _ _ _ _ _ _=>rfl)⟩
   rw [hget1 i (hlt _ (List.mem_of_getElem? (posn_get hj))),hj]
   simp [Heap.at_some.2 hb,bren]
  ·
   obtain ⟨blk,hb,hlies⟩:=s.wr.own _ _ hl
   refine ⟨blk.ren (keepF L H'),?_,hlies.ren hIim hkeep (fun b base cap sz nn e=>?_)⟩
   ·
    rw [hget1 i hi,hp]
    simp [Heap.at_some.2 hb,bren]
   ·
    subst e
    exact hsame i b base cap sz nn hp hl
  ·
   obtain ⟨blk,hb,hlies⟩:=s'.wr.own _ _ hl
   refine ⟨blk.ren (backF L H.length),?_,hlies.ren (fun _ _ h=>h) hback (fun _ _ _ _ _ _=>rfl)⟩
   rw [hget2 i hi,hb]
   simp [bren]
 ·
  -- apart from each other
  have hcal : ∀ j b base cap sz nn,κ' j = some (.at b base cap sz nn) → lentOf (pickK κ L) b ∨ w.heap.size ≤ b:=s'.own
  have hmix : ∀ i j b base cap sz nn base' cap' sz' nn', posn L i = none → κ i = some (.at b base cap sz nn) → κ' j = some (.at b base' cap' sz' nn') → False := by
   intro i j b base cap sz nn base' cap' sz' nn' hp hk hk'
   rcases hcal _ _ _ _ _ _ hk' with h | h
   ·
    exact hnotlent _ _ _ _ _ _ hp hk h
   ·
    have:=s.wr.lt_own hk; omega
  rcases backK_cases h1 with ⟨j, hj, hl⟩ | ⟨hp, hi, hl⟩ | ⟨hp, hi, hl⟩ <;> rcases backK_cases h2 with ⟨j', hj', hl'⟩ | ⟨hp', hi', hl'⟩ | ⟨hp', hi', hl'⟩
  ·
   have:=s'.wr.inj _ _ _ _ _ _ _ _ _ _ _ hl hl'
   subst this
   have e1:=posn_get hj
   have e2:=posn_get hj'
   rw [e1] at e2
   exact Option.some.inj e2
  ·
   exact (hmix _ _ _ _ _ _ _ _ _ _ _ hp' hl' hl).elim
  ·
   have:=s'.wr.inj _ _ _ _ _ _ _ _ _ _ _ hl hl'
   have hjL : j < L.length:=by
    have:=posn_get hj
    rcases Nat.lt_or_ge j L.length with h | h
    ·
     exact h
    ·
     simp [List.getElem?_eq_none h] at this
   omega
  ·
   exact (hmix _ _ _ _ _ _ _ _ _ _ _ hp hl hl').elim
  ·
   exact s.wr.inj _ _ _ _ _ _ _ _ _ _ _ hl hl'
  ·
   exact (hmix _ _ _ _ _ _ _ _ _ _ _ hp hl hl').elim
  ·
   have:=s'.wr.inj _ _ _ _ _ _ _ _ _ _ _ hl hl'
   have hjL : j' < L.length:=by
    have:=posn_get hj'
    rcases Nat.lt_or_ge j' L.length with h | h
    ·
     exact h
    ·
     simp [List.getElem?_eq_none h] at this
   omega
  ·
   exact (hmix _ _ _ _ _ _ _ _ _ _ _ hp' hl' hl).elim
  ·
   have:=s'.wr.inj _ _ _ _ _ _ _ _ _ _ _ hl hl'
   omega
 ·
  -- and from what is immutable
  rcases backK_cases hk with ⟨j,hj,hl⟩ | ⟨hp,hi,hl⟩ | ⟨hp,hi,hl⟩
  ·
   exact s'.wr.apart _ _ _ _ _ _ hl
  ·
   cases hI : I' b with
   | none=>rfl
   | some c =>
    exfalso
    rcases s'.mv.inew _ _ hI with h | h | h
    ·
     rw [s.wr.apart _ _ _ _ _ _ hl] at h; cases h
    ·
     exact hnotlent _ _ _ _ _ _ hp hl h
    ·
     have:=s.wr.lt_own hl; omega
  ·
   exact s'.wr.apart _ _ _ _ _ _ hl
 ·
  refine s.mv.trans s'.mv (fun b hb=>?_)
  obtain ⟨i,base,cap,sz,nn,_,hk⟩:=hlent b hb
  exact s.own _ _ _ _ _ _ hk
 ·
  have hcal : ∀ j,κ' j = some (.at b base cap sz nn) → A b ∨ w0.heap.size ≤ b:=fun j hj=>by
   rcases s'.own _ _ _ _ _ _ hj with h | h
   ·
    obtain ⟨i,base,cap,sz,nn,_,hk⟩:=hlent b h
    exact s.own _ _ _ _ _ _ hk
   ·
    have:=s.mv.size; exact .inr (by omega)
  rcases backK_cases hk with ⟨j,hj,hl⟩ | ⟨hp,hi,hl⟩ | ⟨hp,hi,hl⟩
  ·
   exact hcal _ hl
  ·
   exact s.own _ _ _ _ _ _ hl
  ·
   exact hcal _ hl
 ·
  rcases Nat.lt_or_ge i H.length with hi | hi
  ·
   rw [hget1 i hi] at hb
   simp only [Option.some.injEq] at hb
   cases hp : posn L i with
   | some j =>
    rw [hp] at hb
    obtain ⟨c,hc,_⟩:=bren_some hb
    obtain ⟨l,hl⟩:=s'.dom _ _ (Heap.at_some.1 hc)
    exact ⟨l,by simp only [backK,hp,hl]⟩
   | none =>
    rw [hp] at hb
    obtain ⟨c,hc,_⟩:=bren_some hb
    obtain ⟨l,hl⟩:=s.dom _ _ (Heap.at_some.1 hc)
    exact ⟨l,by simp only [backK,hp,hi,if_true,hl]⟩
  ·
   rw [hget2 i hi] at hb
   cases hx : H'[i - H.length + L.length]? with
   | none=>simp [hx] at hb
   | some ob =>
    simp [hx] at hb
    obtain ⟨c,hc,_⟩:=bren_some hb
    subst hc
    obtain ⟨l,hl⟩:=s'.dom _ _ hx
    have hp : posn L i = none:=by
     cases hp : posn L i with
     | none=>rfl
     | some k =>
      have:=hlt _ (List.mem_of_getElem? (posn_get hp))
      omega
    exact ⟨l,by simp only [backK,hp]; rw [if_neg (by omega)]; exact hl⟩
 ·
  have hiH : i < H.length:=Nat.lt_of_lt_of_le hi s.len
  rcases backK_cases hk with ⟨j, hj, hl⟩ | ⟨hp, _, hl⟩ | ⟨hp, hi', hl⟩
  ·
   have hjL : j < L.length:=by
    have:=posn_get hj
    rcases Nat.lt_or_ge j L.length with h | h
    ·
     exact h
    ·
     simp [List.getElem?_eq_none h] at this
   have h1:=s'.lent _ hjL _ hl
   rw [pickK,posn_get hj] at h1
   exact s.lent i hi l h1
  ·
   exact s.lent i hi l hl
  ·
   omega
 ·
  have:=s.len
  simp [backH]
  omega
 ·
  have hx : RV I' κ' res v:=by
   have:=s'.env
   cases this with
   | cons _ _ _ _ h1 _=>exact h1
  exact RV.ren (fun _ _ h=>h) hback hx
theorem callL_sound {call:Oracle} (hc:CallOK P call) (s:St DF A κ0 nl I0 w0 I κ H w env a) {g:FuncId} {as:List AV} {vals:List Value} (hr:RVs I κ as vals) {y:AV} {env' : Env} {H2:Heap}
  (h : callL call env H g as = some (y, env', H2)) :
  Goes P ((callFunc g vals.toArray).run P w) fun v w' => ∃ I' κ', St DF A κ0 nl I0 w0 I' κ' H2 w' env' a ∧ RV I' κ' y v := by
 unfold callL at h
 generalize hLe : reach H 400 (AV.idss as) [] = L at h
 have hL : L.Nodup:=by rw [← hLe]; exact reach_nodup H _ _ _ List.nodup_nil
 have hLs : ∀ i ∈ L,∃ b,H[i]? = some (some b):=by rw [← hLe]; exact reach_some H _ _ _ (by simp)
 split at h
 ·
  rename_i res H' hcall
  simp at h
  obtain ⟨rfl,rfl,rfl⟩:=h
  have hlt : ∀ i ∈ L,i < H.length:=fun i hi=>by
   obtain ⟨b,hb⟩:=hLs i hi
   rcases Nat.lt_or_ge i H.length with h | h
   ·
    exact h
   ·
    simp [List.getElem?_eq_none h] at hb
  have hdom : ∀ (j:Nat) (blk:Blk),(pickH H L)[j]? = some (some blk) → ∃ l,pickK κ L j = some l:=fun j blk h=>by
   rw [pickH_get] at h
   cases hi : L[j]? with
   | none=>simp [hi] at h
   | some i =>
    simp [hi] at h
    obtain ⟨c,hc,rfl⟩:=bren_some h
    obtain ⟨l,hl⟩:=s.dom _ _ (Heap.at_some.1 hc)
    exact ⟨l,by simp [pickK,hi,hl]⟩
  have hcl:=hc g _ _ res H' hcall I (pickK κ L) w vals (s.wr.pick hL) hdom (RVs.ren (fun _ _ h=>h) (pickK_ren hL) hr)
  refine hcl.mono fun v w' ⟨I', κ', s'⟩ => ?_
  exact callL_core s hL hLs s'
 ·
  simp at h
theorem evL_sound {X : Cx} (hc : CallOK P X.call) (s : St DF A κ0 nl I0 w0 I κ H w env a) {o : Oper} {y : AV} {env' : Env} {H2 : Heap} (h : evL X env H o = some (y, env', H2)) :
  Goes P ((execOp a.eval o).run P w) fun v w' => ∃ I' κ', St DF A κ0 nl I0 w0 I' κ' H2 w' env' a ∧ RV I' κ' y v := by
 unfold evL at h
 split at h
 ·
  rename_i f args ats ho
  split at h
  ·
   rename_i fv as hf ha
   split at h
   ·
    rename_i g x c hg
    split at h
    ·
     obtain ⟨vals,hrun,hr⟩:=exec_call (P:=P) (w:=w) s.env ho hf ha hg
     rw [hrun]
     exact callL_sound hc s hr h
    ·
     simp at h
   ·
    simp at h
  ·
   simp at h
 ·
  simp at h
end
end Go.AM
/- The abstract machine,part 23: one operation of a region,whatever it is; a region in the text's order. -/
namespace Go.AM
def putE (env:Env) (d:Option Tmp) (v:AV) : Env:=match d with
 | some d=>env.set d v
 | none=>env
def extH (H:Heap) : Option Blk → Heap
 | none=>H
 | some b=>H ++ [some b]
def guardOf (ops:Array Oper) (env:Env) (o:Oper) : Option Bool:=match o.guard with
 | none=>some true
 | some (j,want)=>match ops[j]? with
  | some oj=>match oj.dst with
   | some t=>match env[t]? with
    | some (.im (.bool b))=>some (b == want)
    | some (.tup _)=>some false
    | _=>none
   | none=>none
  | none=>none
def stepP (X:Cx) (ops:Array Oper) (env:Env) (H:Heap) (o:Oper) : Option (Env × Heap) :=
 match guardOf ops env o with
 | some true=>match evP X env H H.length o with
  | some (v,none)=>some (putE env o.dst v,H)
  | some (v,some b)=>some (putE env o.dst v,H ++ [some b])
  | none=>none
 | some false=>some (putE env o.dst (.tup []),H)
 | none=>none
def stepO (X:Cx) (nl:Nat) (ops:Array Oper) (env:Env) (H:Heap) (o:Oper) : Option (Env × Heap) :=
 match guardOf ops env o with
 | some true=>match evL X env H o with
  | some (v, env', H') => match castV (X.cast o) v with
   | some v' => some (putE env' o.dst v', H')
   | none=>none
  | none=>match evP X env H H.length o with
   | some (v,none)=>some (putE env o.dst v,H)
   | some (v,some b)=>some (putE env o.dst v,H ++ [some b])
   | none=>match evS X.T env H o with
    | some H'=>some (putE env o.dst (.tup []),H')
    | none=>match evA X.T nl env H o with
     | some (v, env', H') => some (putE env' o.dst v, H')
     | none=>none
 | some false=>some (putE env o.dst (.tup []),H)
 | none=>none
def runP (X:Cx) (ops:Array Oper) : List Oper → Env → Heap → Option (Env × Heap)
 | [],env,H=>some (env,H)
 | o :: os,env,H=>match stepP X ops env H o with
  | some (env', H') => runP X ops os env' H'
  | none=>none
section
variable {P:Program} {I I' : Nat → Option (Array Value)} {κ κ' : Nat → Option Loc} {w w' : World} {H H' : Heap} {DF:List Deferred} {A:Nat → Prop} {κ0:Nat → Option Loc} {nl:Nat} {I0:Nat → Option (Array Value)} {w0:World} {env env' : Env} {a:Act} {ops:Array Oper} {Q:Exit → Act → World → Prop}
theorem guardOf_wanted (he:RVs I κ env a.tmps.toList) {o:Oper} {b:Bool} (h:guardOf ops env o = some b) : Region.wanted o (yielded ops a.tmps) = b:=by
 unfold guardOf at h
 unfold Region.wanted
 split at h
 ·
  rename_i hg
  rw [hg]
  simpa using h
 ·
  rename_i j want hg
  rw [hg]
  simp only
  split at h
  ·
   rename_i oj hj
   split at h
   ·
    rename_i t ht
    have hy : yielded ops a.tmps j = match a.tmps[t]? with
     | some (.bool b)=>some b
     | _=>none:=by
     simp only [yielded,hj,Option.bind_some,ht]
     rfl
    split at h
    ·
     rename_i b' hb
     simp at h
     obtain ⟨v,hv,hr⟩:=he.get hb
     cases hr with
     | im _ _ hr =>
     cases hr
     rw [hy]
     simp at hv
     rw [hv]
     simp
     exact h
    ·
     rename_i vs hb
     simp at h
     obtain ⟨v,hv,hr⟩:=he.get hb
     cases hr with
     | tup _ ws hr =>
     rw [hy]
     simp at hv
     rw [hv]
     simp [← h]
    ·
     simp at h
   ·
    simp at h
  ·
   simp at h
theorem St.set (s:St DF A κ0 nl I0 w0 I κ H w env a) {x:AV} {v:Value} (h:RV I κ x v) (d:Option Tmp) : St DF A κ0 nl I0 w0 I κ H w (putE env d x) (a.put d v):=by
 have:=s.put h d
 cases d <;> exact this
theorem undef_rv : RV I κ (.tup []) undef:=.tup _ _ .nil
theorem grown_sub (b:Option Blk) (H:Heap) : ∀ (i:Nat) (blk:Blk),H[i]? = some (some blk) → (extH H b)[i]? = some (some blk):=by
 intro i blk h
 cases b with
 | none=>exact h
 | some b =>
  have hi : i < H.length:=by
   rcases Nat.lt_or_ge i H.length with h' | h'
   ·
    exact h'
   ·
    simp [List.getElem?_eq_none h'] at h
  unfold extH
  rw [List.getElem?_append_left hi]
  exact h
theorem St.adds (s:St DF A κ0 nl I0 w0 I κ H w env a) {b:Option Blk} {v:AV} {x:Value} (d:Option Tmp)
  (h : Adds I κ (extH H b) w H.length v b x w') : ∃ I' κ', St DF A κ0 nl I0 w0 I' κ' (extH H b) w' (putE env d v) (a.put d x) := by
 obtain ⟨I', κ', g, hw', hr, h1, h2, h3⟩ := h
 refine ⟨I', κ', St.set ⟨hw', s.env.mono g.im g.loc, s.mv.trans g.move (fun _ h => h.elim), fun i b' base cap sz nn hk => ?_, fun i blk hb => ?_, s.nodef, fun i hi l hk => ?_, ?_⟩ hr d⟩
 ·
  rcases g.lnew _ _ _ _ _ _ hk with h | h
  ·
   exact s.own _ _ _ _ _ _ h
  ·
   have:=s.mv.size; exact .inr (by omega)
 ·
  by_cases hi : i = H.length
  ·
   subst hi
   cases b with
   | none=>simp [extH] at hb
   | some b =>
    cases hk : κ' H.length with
    | none=>exact absurd hk (h3 (by simp))
    | some l=>exact ⟨l,rfl⟩
  ·
   have hb' : H[i]? = some (some blk):=by
    cases b with
    | none=>exact hb
    | some b =>
     unfold extH at hb
     rcases Nat.lt_or_ge i H.length with h | h
     ·
      rwa [List.getElem?_append_left h] at hb
     ·
      rw [List.getElem?_eq_none (by simp; omega)] at hb; simp at hb
   obtain ⟨l,hl⟩:=s.dom _ _ hb'
   exact ⟨l,g.loc _ _ hl⟩
 ·
  have:=s.len
  rw [h1 i (by omega)] at hk
  exact s.lent i hi l hk
 ·
  have:=s.len
  cases b <;> simp [extH] <;> omega
theorem evP_st {X:Cx} (hT:X.T.ok P) (hc:CallOK P X.call) (s:St DF A κ0 nl I0 w0 I κ H w env a) {o:Oper} {v:AV} {b:Option Blk} (h:evP X env H H.length o = some (v,b)) :
  Goes P ((execOp a.eval o).run P w) fun x w' => ∃ I' κ', St DF A κ0 nl I0 w0 I' κ' (extH H b) w' (putE env o.dst v) (a.put o.dst x) := by
 have hsub:=grown_sub b H
 have hw' : WR I κ (extH H b) w:=⟨s.wr.im,fun i l hl=>by
  obtain ⟨blk,hb,hlies⟩:=s.wr.own _ _ hl
  exact ⟨blk,hsub _ _ hb,hlies⟩,s.wr.inj,s.wr.apart⟩
 have hP:=evP_mono (X:=X) (H':=(extH H b)) (env':=env) hsub (fun _ _=>rfl) h
 have:=evP_sound (P:=P) hT hc hw' s.env (s.none_at (Nat.le_refl _)) (fun blk hb=>by subst hb; simp [extH]) hP
 exact this.mono fun x w' hA=>s.adds o.dst hA
theorem stepO_wp {X : Cx} (hT : X.T.ok P) (hc : CallOK P X.call) (s : St DF A κ0 nl I0 w0 I κ H w env a) {i : Nat} {o : Oper} (ho : ops[i]? = some o) (h : stepO X nl ops env H o = some (env', H')) {K : Act → World → Prop}
  (hK : ∀ a' w' I' κ', St DF A κ0 nl I0 w0 I' κ' H' w' env' a' → K a' w') : wpOp P ops Q i K a w := by
 unfold wpOp
 rw [ho]
 simp only
 unfold stepO at h
 split at h
 ·
  rename_i hg
  rw [guardOf_wanted s.env hg]
  refine .inl (Goes.wp ?_)
  split at h
  ·
   rename_i v e2 H2 hv
   split at h
   ·
    rename_i v' hcv
    simp at h
    obtain ⟨rfl,rfl⟩:=h
    exact (evL_sound hc s hv).mono fun x w' ⟨I', κ', s', hr⟩ => hK _ _ _ _ (s'.set (castV_rv hcv hr) o.dst)
   ·
    simp at h
  ·
   split at h
   ·
    rename_i v hv
    simp at h
    obtain ⟨rfl,rfl⟩:=h
    exact (evP_st hT hc s hv).mono fun x w' ⟨I', κ', s'⟩ => hK _ _ _ _ s'
   ·
    rename_i v b hv
    simp at h
    obtain ⟨rfl,rfl⟩:=h
    exact (evP_st hT hc s hv).mono fun x w' ⟨I', κ', s'⟩ => hK _ _ _ _ s'
   ·
    split at h
    ·
     rename_i H2 hv
     simp at h
     obtain ⟨rfl,rfl⟩:=h
     obtain ⟨w', hrun, s'⟩ := evS_sound hT s hv
     rw [hrun]
     exact hK _ _ _ _ (s'.set undef_rv o.dst)
    ·
     split at h
     ·
      rename_i v e2 H2 hv
      simp at h
      obtain ⟨rfl,rfl⟩:=h
      obtain ⟨x, w', κ', hrun, hr, s'⟩ := evA_sound hT s hv
      rw [hrun]
      exact hK _ _ _ _ (s'.set hr o.dst)
     ·
      simp at h
 ·
  rename_i hg
  rw [guardOf_wanted s.env hg]
  simp at h
  obtain ⟨rfl,rfl⟩:=h
  exact hK _ _ _ _ (s.set undef_rv o.dst)
 ·
  simp at h
theorem range_map (ops:Array Oper) : (List.range ops.size).map (ops[·]?) = ops.toList.map some:=by
 apply List.ext_getElem?
 intro i
 rcases Nat.lt_or_ge i ops.size with h | h
 ·
  simp [h]
 ·
  rw [List.getElem?_eq_none (by simpa using h),List.getElem?_eq_none (by simpa using h)]
end
end Go.AM
/- The abstract machine,part 24: regions whose order is drawn. -/
namespace Go.AM
def onsOf (o:Oper) : List Nat:=o.after.toList.filterMap fun e=>if Region.binds .any e then some e.on else none
def masks : List Oper → List Nat → List Nat
 | [],acc=>acc
 | o :: os,acc=>masks os (acc ++ [(onsOf o).foldl (fun m j=>(m ||| 2 ^ j) ||| acc.getD j 0) 0])
def maskAt (ms:List Nat) (i k:Nat) : Bool:=(ms.getD i 0).testBit k
def opOns (ops:Array Oper) (i:Nat) : List Nat:=match ops[i]? with
 | some o=>onsOf o
 | none=>[]
def opDst (ops:Array Oper) (i:Nat) : Option Tmp:=match ops[i]? with
 | some o=>o.dst
 | none=>none
def opLooks (ops:Array Oper) (i:Nat) : List Tmp:=match ops[i]? with
 | some o=>o.looksAt ops
 | none=>[]
def fullAt (ms:List Nat) (i:Nat) : Bool:=(List.range i).all fun k=>maskAt ms i k
def cutGo (ms:List Nat) : Nat → Nat
 | 0=>0
 | i + 1=>if fullAt ms i then cutGo ms i else i + 1
def cutOf (ops:Array Oper) : Nat:=cutGo (masks ops.toList []) ops.size
theorem cutGo_spec (ms:List Nat) : ∀ n,cutGo ms n ≤ n ∧ ∀ i,cutGo ms n ≤ i → i < n → fullAt ms i = true
 | 0=>⟨Nat.le_refl _,fun i _ h=>by omega⟩
 | n + 1=>by
  obtain ⟨h1,h2⟩:=cutGo_spec ms n
  unfold cutGo
  split
  ·
   rename_i hf
   refine ⟨by omega,fun i hi hn=>?_⟩
   by_cases e : i = n
   ·
    subst e; exact hf
   ·
    exact h2 i hi (by omega)
  ·
   exact ⟨Nat.le_refl _,fun i hi hn=>by omega⟩
def drawIn (ops:Array Oper) (ms:List Nat) (m:Nat) : Bool :=
 Nat.blt m ops.size &&
 (List.range ops.size).all (fun i=>(opOns ops i).all fun e=>Nat.blt e i) &&
 (List.range ops.size).all (fun i=>(List.range ops.size).all fun k=>!maskAt ms i k || (opOns ops i).any fun e=>e == k || maskAt ms e k) &&
 (List.range m).all (fun i=>(List.range m).all fun j=>i == j || match opDst ops j with
  | some t=>(!(opLooks ops i).contains t || (Nat.blt j i && maskAt ms i j)) && opDst ops i != some t
  | none=>true)
def drawOK (ops:Array Oper) : Bool:=drawIn ops (masks ops.toList []) (cutOf ops)
structure DrawOK (ops:Array Oper) (ms:List Nat) (m:Nat) : Prop where
 pos : m < ops.size
 ons : ∀ i,i < ops.size → ∀ e ∈ opOns ops i,e < i
 mask : ∀ i,i < ops.size → ∀ k,k < ops.size → maskAt ms i k = true → ∃ e ∈ opOns ops i,e = k ∨ maskAt ms e k = true
 last : ∀ i,m ≤ i → i < ops.size → ∀ k,k < i → maskAt ms i k = true
 looks : ∀ i,i < m → ∀ j,j < m → i ≠ j → ∀ t,opDst ops j = some t → (t ∈ opLooks ops i → j < i ∧ maskAt ms i j = true) ∧ opDst ops i ≠ some t
theorem drawIn_spec {ops:Array Oper} (h:drawOK ops = true) : DrawOK ops (masks ops.toList []) (cutOf ops):=by
 generalize hms : masks ops.toList [] = ms
 have hcut : cutOf ops = cutGo ms ops.size:=by rw [← hms]; rfl
 simp only [drawOK,drawIn,hms,Bool.and_eq_true,List.all_eq_true,List.mem_range] at h
 obtain ⟨⟨⟨h1,h2⟩,h3⟩,h5⟩:=h
 refine ⟨by simpa [Nat.blt_eq] using h1,fun i hi e he=>by simpa [Nat.blt_eq] using h2 i hi e he,fun i hi k hk hm=>?_,fun i hmi hi k hk=>?_,fun i hi j hj hij t ht=>?_⟩
 ·
  have:=h3 i hi k hk
  simp only [hm,Bool.not_true,Bool.false_or,List.any_eq_true,Bool.or_eq_true,beq_iff_eq] at this
  exact this
 ·
  rw [hcut] at hmi
  have:=(cutGo_spec ms ops.size).2 i hmi hi
  unfold fullAt at this
  rw [List.all_eq_true] at this
  exact this k (by simpa using hk)
 ·
  have:=h5 i hi j hj
  simp only [Bool.or_eq_true, beq_iff_eq, hij, false_or, ht, Bool.and_eq_true, Bool.not_eq_true', List.contains_eq_mem, decide_eq_false_iff_not, bne_iff_ne, ne_eq, Nat.blt_eq] at this
  refine ⟨fun hm=>?_,this.2⟩
  rcases this.1 with h | h
  ·
   exact absurd hm h
  ·
   exact h
section
variable {X:Cx} {ops:Array Oper}
theorem stepP_cases {env env' : Env} {H H' : Heap} {o : Oper} (h : stepP X ops env H o = some (env', H')) :
  (guardOf ops env o = some false ∧ env' = putE env o.dst (.tup []) ∧ H' = H) ∨ (guardOf ops env o = some true ∧ ∃ v b,evP X env H H.length o = some (v,b) ∧ env' = putE env o.dst v ∧ H' = extH H b):=by
 unfold stepP at h
 split at h
 ·
  rename_i hg
  right
  split at h
  ·
   rename_i v hv
   simp at h
   exact ⟨hg,v,none,hv,h.1.symm,h.2.symm⟩
  ·
   rename_i v b hv
   simp at h
   exact ⟨hg,v,some b,hv,h.1.symm,h.2.symm⟩
  ·
   simp at h
 ·
  rename_i hg
  simp at h
  exact .inl ⟨hg,h.1.symm,h.2.symm⟩
 ·
  simp at h
theorem putE_ne {env:Env} {d:Option Tmp} {v:AV} {t:Tmp} (h:d ≠ some t) : (putE env d v)[t]? = env[t]?:=by
 cases d with
 | none=>rfl
 | some d=>exact List.getElem?_set_ne (fun e=>h (by rw [e]))
theorem putE_eq {env env' : Env} {d:Option Tmp} {v:AV} {t:Tmp} (h:d = some t) (hl:env.length = env'.length) : (putE env d v)[t]? = (putE env' d v)[t]?:=by
 subst h
 simp only [putE]
 rcases Nat.lt_or_ge t env.length with h | h
 ·
  rw [List.getElem?_set_self h,List.getElem?_set_self (hl ▸ h)]
 ·
  rw [List.getElem?_eq_none (by simpa using h),List.getElem?_eq_none (by simp; omega)]
theorem putE_len (env:Env) (d:Option Tmp) (v:AV) : (putE env d v).length = env.length:=by cases d <;> simp [putE]
theorem stepP_env {env env' : Env} {H H' : Heap} {o : Oper} (h : stepP X ops env H o = some (env', H')) : env'.length = env.length ∧ ∀ t, o.dst ≠ some t → env'[t]? = env[t]? := by
 rcases stepP_cases h with ⟨_,h1,_⟩ | ⟨_,v,b,_,h1,_⟩ <;> subst h1 <;> exact ⟨putE_len _ _ _,fun t ht=>putE_ne ht⟩
theorem stepP_heap {env env' : Env} {H H' : Heap} {o : Oper} (h : stepP X ops env H o = some (env', H')) : H' = H ∨ ∃ b, H' = H ++ [some b] := by
 rcases stepP_cases h with ⟨_,_,h1⟩ | ⟨_,v,b,_,_,h1⟩
 ·
  exact .inl h1
 ·
  cases b with
  | none=>exact .inl h1
  | some b=>exact .inr ⟨b,h1⟩
theorem runP_trace : ∀ (os:List Oper) (env:Env) (H:Heap) (r:Env × Heap),runP X ops os env H = some r →
  ∃ s : Nat → Env × Heap,s 0 = (env,H) ∧ s os.length = r ∧ ∀ i o,os[i]? = some o → stepP X ops (s i).1 (s i).2 o = some (s (i + 1))
 | [],env,H,r,h=>⟨fun _=>(env,H),rfl,by simpa [runP] using h,by simp⟩
 | o :: os,env,H,r,h=>by
  unfold runP at h
  split at h
  ·
   rename_i e2 H2 h2
   obtain ⟨s,h0,h1,hs⟩:=runP_trace os e2 H2 r h
   refine ⟨fun i=>match i with | 0=>(env,H) | i + 1=>s i,rfl,h1,fun i o' ho=>?_⟩
   cases i with
   | zero =>
    simp at ho
    subst ho
    show stepP X ops env H o = some (s 0)
    rw [h0]
    exact h2
   | succ i=>exact hs i o' (by simpa using ho)
  ·
   simp at h
structure Trace (X:Cx) (ops:Array Oper) (m:Nat) (s:Nat → Env × Heap) : Prop where
 step : ∀ i,i < m → ∃ o,ops[i]? = some o ∧ stepP X ops (s i).1 (s i).2 o = some (s (i + 1))
variable {m:Nat} {s:Nat → Env × Heap}
theorem Trace.len (T:Trace X ops m s) : ∀ j,j ≤ m → (s j).1.length = (s 0).1.length
 | 0,_=>rfl
 | j + 1,hj=>by
  obtain ⟨o,ho,h⟩:=T.step j (by omega)
  rw [(stepP_env h).1,T.len j (by omega)]
theorem Trace.same (T:Trace X ops m s) {t:Tmp} (i:Nat) : ∀ j,i ≤ j → j ≤ m → (∀ k,i ≤ k → k < j → opDst ops k ≠ some t) → (s j).1[t]? = (s i).1[t]?
 | 0,hij,_,_=>by
  have : i = 0:=by omega
  subst this; rfl
 | j + 1,hij,hj,hd=>by
  by_cases h : i = j + 1
  ·
   subst h; rfl
  ·
   obtain ⟨o,ho,hs⟩:=T.step j (by omega)
   have hk:=hd j (by omega) (by omega)
   simp only [opDst,ho] at hk
   rw [(stepP_env hs).2 t hk]
   exact T.same i j (by omega) (by omega) (fun k h1 h2=>hd k h1 (by omega))
theorem Trace.pre (T:Trace X ops m s) (i:Nat) : ∀ j,i ≤ j → j ≤ m → ∃ more,(s j).2 = (s i).2 ++ more
 | 0,hij,_=>by
  have : i = 0:=by omega
  subst this; exact ⟨[],by simp⟩
 | j + 1,hij,hj=>by
  by_cases h : i = j + 1
  ·
   subst h; exact ⟨[],by simp⟩
  ·
   obtain ⟨o,ho,hs⟩:=T.step j (by omega)
   obtain ⟨more,hm⟩:=T.pre i j (by omega) (by omega)
   rcases stepP_heap hs with h | ⟨b,h⟩
   ·
    exact ⟨more,by rw [h,hm]⟩
   ·
    exact ⟨more ++ [some b],by rw [h,hm,List.append_assoc]⟩
theorem Trace.sub (T:Trace X ops m s) {i j:Nat} (hij:i ≤ j) (hj:j ≤ m) (id:Nat) (b:Blk) (h:(s i).2[id]? = some (some b)) : (s j).2[id]? = some (some b):=by
 obtain ⟨more,hm⟩:=T.pre i j hij hj
 have hi : id < (s i).2.length:=by
  rcases Nat.lt_or_ge id (s i).2.length with h' | h'
  ·
   exact h'
  ·
   simp [List.getElem?_eq_none h'] at h
 rw [hm,List.getElem?_append_left hi]
 exact h
theorem Trace.lens (T:Trace X ops m s) {i j:Nat} (hij:i ≤ j) (hj:j ≤ m) : (s i).2.length ≤ (s j).2.length:=by
 obtain ⟨more,hm⟩:=T.pre i j hij hj
 rw [hm]; simp
theorem Trace.made (T:Trace X ops m s) (id:Nat) (h0:(s 0).2.length ≤ id) : ∀ j,j ≤ m → id < (s j).2.length → ∃ i,i < j ∧ (s i).2.length = id ∧ (s (i + 1)).2.length ≠ (s i).2.length
 | 0,_,h=>by omega
 | j + 1,hj,h=>by
  by_cases hlt : id < (s j).2.length
  ·
   obtain ⟨i,hi,h1,h2⟩:=T.made id h0 j (by omega) hlt
   exact ⟨i,by omega,h1,h2⟩
  ·
   obtain ⟨o,ho,hs⟩:=T.step j (by omega)
   rcases stepP_heap hs with h' | ⟨b,h'⟩
   ·
    rw [h'] at h; omega
   ·
    rw [h'] at h
    simp at h
    exact ⟨j,by omega,by omega,by rw [h']; simp⟩
theorem Trace.apart (T:Trace X ops m s) {i k:Nat} (hi:i < m) (hk:k < m) (gi:(s (i + 1)).2.length ≠ (s i).2.length) (gk:(s (k + 1)).2.length ≠ (s k).2.length) (h:(s i).2.length = (s k).2.length) : i = k:=by
 have h1:=T.lens (i:=i) (j:=i + 1) (by omega) (by omega)
 have h2:=T.lens (i:=k) (j:=k + 1) (by omega) (by omega)
 rcases Nat.lt_trichotomy i k with h' | h' | h'
 ·
  have:=T.lens (i:=i + 1) (j:=k) (by omega) (by omega); omega
 ·
  exact h'
 ·
  have:=T.lens (i:=k + 1) (j:=i) (by omega) (by omega); omega
theorem evX_any {T:Tab} {env:Env} {H:Heap} {id id' : Nat} {o:Oper} {v:AV} (h:evX T env H id o = some (v,none)) : evX T env H id' o = some (v,none):=by
 obtain ⟨dst,op,type,pos,after,guard⟩:=o
 cases op with
 | makeMap t r=>cases r <;> simp [evX] at h
 | _=>exact h
theorem evQ_any {env:Env} {H:Heap} {id id' : Nat} {o:Oper} {v:AV} (h:evQ X env H id o = some (v,none)) : evQ X env H id' o = some (v,none):=by
 unfold evQ at *
 split at h
 ·
  rename_i ans ha
  simp at h
  cases ans <;> simp [Ans.blk,Ans.av] at h ⊢ <;> exact h
 ·
  split at h
  ·
   exact h
  ·
   split at h
   ·
    exact h
   ·
    exact evX_any h
theorem evP_any {env:Env} {H:Heap} {id id' : Nat} {o:Oper} {v:AV} (h:evP X env H id o = some (v,none)) : evP X env H id' o = some (v,none):=by
 obtain ⟨v0,hq,hv⟩:=evP_from h
 unfold evP
 rw [evQ_any hq]
 simp only [hv]
theorem guardOf_congr {env env' : Env} {o:Oper} (h:∀ t ∈ o.looksAt ops,env[t]? = env'[t]?) : guardOf ops env o = guardOf ops env' o:=by
 unfold guardOf
 cases hg : o.guard with
 | none=>rfl
 | some gw =>
  obtain ⟨j,want⟩:=gw
  simp only
  cases hj : ops[j]? with
  | none=>rfl
  | some oj =>
   simp only
   cases hd : oj.dst with
   | none=>rfl
   | some t =>
    have:=h t (by simp [Oper.looksAt,hg,hj,hd])
    simp only [this]
theorem opd_looks {env env' : Env} {o:Oper} (h:∀ t ∈ o.looksAt ops,env[t]? = env'[t]?) : ∀ x ∈ o.op.operands,opd env x = opd env' x:=by
 intro x hx
 cases x with
 | tmp t =>
  simp only [opd]
  exact h t (List.mem_append_left _ (List.mem_filterMap.2 ⟨.tmp t,by simpa using hx,rfl⟩))
 | _=>rfl
end
end Go.AM
/- The abstract machine,part 25: in whichever order a region comes,it comes to the same. -/
namespace Go.AM
section
variable {P:Program} {DF:List Deferred} {A:Nat → Prop} {κ0:Nat → Option Loc} {nl:Nat} {I0:Nat → Option (Array Value)} {w0:World} {X:Cx} {ops:Array Oper} {Q:Exit → Act → World → Prop} {m:Nat} {s:Nat → Env × Heap}
abbrev isL (listed:Array Bool) (i:Nat) : Prop:=listed.getD i false = true
theorem isL_set {listed:Array Bool} {i j:Nat} (hi:i < listed.size) : isL (listed.setIfInBounds i true) j ↔ j = i ∨ isL listed j:=by
 unfold isL
 by_cases h : i = j
 ·
  subst h
  simp [hi]
 ·
  rw [getD_set_ne false h]
  constructor
  ·
   exact fun h'=>.inr h'
  ·
   rintro (h' | h')
   ·
    exact absurd h'.symm h
   ·
    exact h'
structure Part (DF:List Deferred) (X:Cx) (ops:Array Oper) (m:Nat) (s:Nat → Env × Heap) (I1:Nat → Option (Array Value)) (κ1:Nat → Option Loc) (w1:World) (listed:Array Bool) (I:Nat → Option (Array Value)) (κ:Nat → Option Loc) (w:World) (E:Env) (a:Act) : Prop where
 wr : WR I κ (s m).2 w
 env : RVs I κ E a.tmps.toList
 mv : Move (fun _=>False) I1 w1 I w
 elen : E.length = (s 0).1.length
 eout : ∀ t,(∀ i,i < m → isL listed i → opDst ops i ≠ some t) → E[t]? = (s 0).1[t]?
 ein : ∀ i,i < m → isL listed i → ∀ t,opDst ops i = some t → E[t]? = (s m).1[t]?
 kold : ∀ id,id < (s 0).2.length → κ id = κ1 id
 knew : ∀ i,i < m → (s (i + 1)).2.length ≠ (s i).2.length → (isL listed i ↔ κ (s i).2.length ≠ none)
 kown : ∀ i b base cap sz nn,κ i = some (.at b base cap sz nn) → κ1 i = some (.at b base cap sz nn) ∨ w1.heap.size ≤ b
 nodef : a.defers = DF
 down : ∀ i,isL listed i → ∀ e ∈ opOns ops i,isL listed e
 size : listed.size = ops.size
variable {I1 I:Nat → Option (Array Value)} {κ1 κ:Nat → Option Loc} {w1 w:World} {listed:Array Bool} {E:Env} {a:Act} {ms:List Nat}
theorem isL_lt {i:Nat} (h:isL listed i) : i < listed.size:=by
 rcases Nat.lt_or_ge i listed.size with h' | h'
 ·
  exact h'
 ·
  simp [isL,Array.getElem?_eq_none h'] at h
theorem Part.anc (d:DrawOK ops ms m) (p:Part DF X ops m s I1 κ1 w1 listed I κ w E a) : ∀ i,isL listed i → ∀ k,k < ops.size → maskAt ms i k = true → isL listed k:=by
 intro i
 induction i using Nat.strongRecOn with
 | _ i ih =>
  intro hi k hk hm
  have hlt : i < ops.size:=p.size ▸ isL_lt hi
  obtain ⟨e,he,h⟩:=d.mask i hlt k hk hm
  have hel:=p.down i hi e he
  rcases h with rfl | h
  ·
   exact hel
  ·
   exact ih e (d.ons i hlt e he) hel k hk h
theorem Part.anc' (d:DrawOK ops ms m) (p:Part DF X ops m s I1 κ1 w1 listed I κ w E a) {i:Nat} (hi:i < ops.size) (hon:∀ e ∈ opOns ops i,isL listed e) {k:Nat} (hk:k < ops.size) (hm:maskAt ms i k = true) : isL listed k:=by
 obtain ⟨e,he,h⟩:=d.mask i hi k hk hm
 rcases h with rfl | h
 ·
  exact hon _ he
 ·
  exact p.anc d e (hon _ he) k hk h
theorem Part.looks (d:DrawOK ops ms m) (T:Trace X ops m s) (p:Part DF X ops m s I1 κ1 w1 listed I κ w E a) {i:Nat} (hi:i < m) (hun:¬ isL listed i) (hon:∀ e ∈ opOns ops i,isL listed e) :
  ∀ t ∈ opLooks ops i,(s i).1[t]? = E[t]?:=by
 intro t ht
 have hmn : m < ops.size:=d.pos
 by_cases hw : ∃ j,j < m ∧ i ≠ j ∧ opDst ops j = some t
 ·
  obtain ⟨j,hj,hij,hd⟩:=hw
  obtain ⟨h1,h2⟩:=(d.looks i hi j hj hij t hd).1 ht
  have hl:=p.anc' d (by omega) hon (by omega) h2
  rw [p.ein j hj hl t hd]
  have e1 : (s m).1[t]? = (s (j + 1)).1[t]?:=T.same (j + 1) m (by omega) (Nat.le_refl _) (fun k h1 h2 hk=>(d.looks k (by omega) j (by omega) (by omega) t hd).2 hk)
  have e2 : (s i).1[t]? = (s (j + 1)).1[t]?:=T.same (j + 1) i (by omega) (by omega) (fun k h1 h2 hk=>(d.looks k (by omega) j (by omega) (by omega) t hd).2 hk)
  rw [e1,e2]
 ·
  have hw' : ∀ j,j < m → i ≠ j → opDst ops j ≠ some t:=fun j hj hij hd=>hw ⟨j,hj,hij,hd⟩
  rw [p.eout t (fun k hk hl=>hw' k hk (fun e=>hun (e ▸ hl)))]
  exact T.same 0 i (by omega) (by omega) (fun k h1 h2=>hw' k (by omega) (by omega))
theorem Part.next (hT:X.T.ok P) (hc:CallOK P X.call) (d:DrawOK ops ms m) (T:Trace X ops m s) (hk1:∀ id,(s 0).2.length ≤ id → κ1 id = none) (p:Part DF X ops m s I1 κ1 w1 listed I κ w E a) {i:Nat} (hi:i < m) (hun:¬ isL listed i)
  (hon : ∀ e ∈ opOns ops i, isL listed e) {K : Act → World → Prop} (hK : ∀ a' w' I' κ' E', Part DF X ops m s I1 κ1 w1 (listed.setIfInBounds i true) I' κ' w' E' a' → K a' w') : wpOp P ops Q i K a w := by
 have hmn : m < ops.size:=d.pos
 obtain ⟨o,ho,hstep⟩:=T.step i hi
 have hlooks:=p.looks d T hi hun hon
 simp only [opLooks,ho] at hlooks
 have hdst : opDst ops i = o.dst:=by simp only [opDst,ho]
 have hsz : i < listed.size:=by rw [p.size]; omega
 have hdown : ∀ j,isL (listed.setIfInBounds i true) j → ∀ e ∈ opOns ops j,isL (listed.setIfInBounds i true) e:=by
  intro j hj e he
  rw [isL_set hsz] at hj ⊢
  rcases hj with rfl | hj
  ·
   exact .inr (hon e he)
  ·
   exact .inr (p.down j hj e he)
 -- the environment behind it
 have heout : ∀ v t,(∀ k,k < m → isL (listed.setIfInBounds i true) k → opDst ops k ≠ some t) → (putE E o.dst v)[t]? = (s 0).1[t]?:=by
  intro v t h
  have hi':=h i hi (by rw [isL_set hsz]; exact .inl rfl)
  rw [hdst] at hi'
  rw [putE_ne hi']
  exact p.eout t fun k hk hl=>h k hk (by rw [isL_set hsz]; exact .inr hl)
 have hdist : ∀ k,k < m → k ≠ i → ∀ t,opDst ops k = some t → o.dst ≠ some t:=fun k hk hki t ht=>by
  rw [← hdst]
  exact (d.looks i (by omega) k (by omega) (Ne.symm hki) t ht).2
 have hein : ∀ v,(s (i + 1)).1 = putE (s i).1 o.dst v → ∀ k,k < m → isL (listed.setIfInBounds i true) k → ∀ t,opDst ops k = some t → (putE E o.dst v)[t]? = (s m).1[t]?:=by
  intro v hv k hk hl t ht
  by_cases hki : k = i
  ·
   subst hki
   have e1 : (s m).1[t]? = (s (k + 1)).1[t]?:=T.same (k + 1) m (by omega) (Nat.le_refl _) (fun j h1 h2 hj=>(d.looks j (by omega) k (by omega) (by omega) t ht).2 hj)
   rw [e1,hv]
   exact putE_eq (hdst ▸ ht) (by rw [p.elen,T.len k (by omega)])
  ·
   rw [putE_ne (hdist k hk hki t ht)]
   rw [isL_set hsz] at hl
   exact p.ein k hk (hl.resolve_left hki) t ht
 unfold wpOp
 rw [ho]
 simp only
 rcases stepP_cases hstep with ⟨hg,h1,h2⟩ | ⟨hg,v,b,hev,h1,h2⟩
 ·
  rw [guardOf_congr hlooks] at hg
  rw [guardOf_wanted p.env hg]
  have hsame : (s (i + 1)).2.length = (s i).2.length:=by rw [h2]
  refine hK (a.put o.dst undef) w I κ (putE E o.dst (.tup [])) ⟨p.wr,?_,p.mv,by rw [putE_len,p.elen],heout _,hein _ h1,p.kold,fun k hk hgr=>?_,p.kown,?_,hdown,by simp [p.size]⟩
  ·
   cases hd : o.dst with
   | none=>exact p.env
   | some t=>simpa [putE,Act.put] using p.env.set t undef_rv
  ·
   rw [isL_set hsz]
   by_cases hki : k = i
   ·
    subst hki; exact absurd hsame hgr
   ·
    rw [← p.knew k hk hgr]
    exact ⟨fun h=>h.resolve_left hki,.inr⟩
  ·
   cases hd : o.dst <;> exact p.nodef
 ·
  rw [guardOf_congr hlooks] at hg
  rw [guardOf_wanted p.env hg]
  refine .inl (Goes.wp ?_)
  -- which number it gets
  obtain ⟨id, hid, hidH, hev', hidi⟩ : ∃ id, κ id = none ∧ (∀ blk, b = some blk → (s m).2[id]? = some (some blk)) ∧ evP X E (s m).2 id o = some (v, b) ∧ ((b = none ∧ id = (s m).2.length) ∨ (b ≠ none ∧ id = (s i).2.length)) := by
   cases b with
   | none =>
    refine ⟨(s m).2.length,?_,by simp,evP_mono (T.sub (by omega) (Nat.le_refl _)) (opd_looks hlooks) (evP_any hev),.inl ⟨rfl,rfl⟩⟩
    cases hk : κ (s m).2.length with
    | none=>rfl
    | some l =>
     obtain ⟨blk,hb,_⟩:=p.wr.own _ _ hk
     simp at hb
   | some b =>
    have hgr : (s (i + 1)).2.length ≠ (s i).2.length:=by rw [h2]; simp [extH]
    refine ⟨(s i).2.length,?_,fun blk hb=>?_,evP_mono (T.sub (by omega) (Nat.le_refl _)) (opd_looks hlooks) hev,.inr ⟨by simp,rfl⟩⟩
    ·
     cases hk : κ (s i).2.length with
     | none=>rfl
     | some l=>exact absurd ((p.knew i hi hgr).2 (by simp [hk])) hun
    ·
     cases hb
     exact T.sub (i:=i + 1) (j:=m) (by omega) (Nat.le_refl _) _ _ (by rw [h2]; simp [extH])
  refine (evP_sound hT hc p.wr p.env hid hidH hev').mono fun x w' ⟨I', κ', g, hw', hr, k1, k2, k3⟩ => ?_
  have hid0 : (s 0).2.length ≤ id:=by
   rcases hidi with ⟨_,h⟩ | ⟨_,h⟩
   ·
    rw [h]; exact T.lens (by omega) (by omega)
   ·
    rw [h]; exact T.lens (by omega) (by omega)
  refine hK (a.put o.dst x) w' I' κ' (putE E o.dst v) ⟨hw', ?_, p.mv.trans g.move (fun _ h => h.elim), by rw [putE_len, p.elen], heout _, hein _ h1, fun j hj => ?_, fun k hk hgr => ?_, fun j b' base cap sz nn hj => ?_, ?_, hdown, by simp [p.size]⟩
  ·
   cases hd : o.dst with
   | none=>exact p.env.mono g.im g.loc
   | some t=>simpa [putE,Act.put] using (p.env.mono g.im g.loc).set t hr
  ·
   rw [k1 j (by omega)]
   exact p.kold j hj
  ·
   rw [isL_set hsz]
   by_cases hki : k = i
   ·
    subst hki
    have hb : b ≠ none:=by
     intro hb
     rw [h2,hb] at hgr
     exact hgr rfl
    rcases hidi with ⟨h,_⟩ | ⟨_,h⟩
    ·
     exact absurd h hb
    ·
     rw [← h]
     exact ⟨fun _=>k3 hb,fun _=>.inl rfl⟩
   ·
    have hne : (s k).2.length ≠ id:=by
     rcases hidi with ⟨hb,h⟩ | ⟨hb,h⟩
     ·
      have a1:=T.lens (i:=k) (j:=k + 1) (by omega) (by omega)
      have a2:=T.lens (i:=k + 1) (j:=m) (by omega) (by omega)
      omega
     ·
      rw [h]
      intro e
      have hgr' : (s (i + 1)).2.length ≠ (s i).2.length:=by
       rw [h2]
       cases b with
       | none=>exact absurd rfl hb
       | some b=>simp [extH]
      exact hki (T.apart hk hi hgr hgr' e)
    rw [k1 _ hne,← p.knew k hk hgr]
    exact ⟨fun h=>h.resolve_left hki,.inr⟩
  ·
   rcases g.lnew _ _ _ _ _ _ hj with h | h
   ·
    exact p.kown _ _ _ _ _ _ h
   ·
    have:=p.mv.size; exact .inr (by omega)
  ·
   cases hd : o.dst <;> exact p.nodef
theorem Part.done (d:DrawOK ops ms m) (T:Trace X ops m s) {a1:Act} (st:St DF A κ0 nl I0 w0 I1 κ1 (s 0).2 w1 (s 0).1 a1) (p:Part DF X ops m s I1 κ1 w1 listed I κ w E a) (hall:∀ k,k < m → isL listed k) :
  St DF A κ0 nl I0 w0 I κ (s m).2 w (s m).1 a:=by
 have hE : E = (s m).1:=by
  apply List.ext_getElem?
  intro t
  by_cases hw : ∃ j,j < m ∧ opDst ops j = some t
  ·
   obtain ⟨j,hj,hd⟩:=hw
   exact p.ein j hj (hall j hj) t hd
  ·
   have hw' : ∀ j,j < m → opDst ops j ≠ some t:=fun j hj hd=>hw ⟨j,hj,hd⟩
   rw [p.eout t (fun k hk _=>hw' k hk)]
   exact (T.same 0 m (by omega) (Nat.le_refl _) (fun k _ h2=>hw' k h2)).symm
 subst hE
 have hlen:=T.lens (i:=0) (j:=m) (by omega) (Nat.le_refl _)
 refine ⟨p.wr,p.env,st.mv.trans p.mv (fun _ h=>h.elim),fun i b base cap sz nn h=>?_,fun i blk hb=>?_,p.nodef,fun i hi l h=>?_,by have:=st.len; omega⟩
 ·
  rcases p.kown _ _ _ _ _ _ h with h | h
  ·
   exact st.own _ _ _ _ _ _ h
  ·
   have:=st.mv.size; exact .inr (by omega)
 ·
  rcases Nat.lt_or_ge i (s 0).2.length with hi | hi
  ·
   obtain ⟨more,hmore⟩:=T.pre 0 m (by omega) (Nat.le_refl _)
   rw [hmore,List.getElem?_append_left hi] at hb
   rw [p.kold i hi]
   exact st.dom _ _ hb
  ·
   have hlt : i < (s m).2.length:=by
    rcases Nat.lt_or_ge i (s m).2.length with h | h
    ·
     exact h
    ·
     simp [List.getElem?_eq_none h] at hb
   obtain ⟨j,hj,h1,h2⟩:=T.made i hi m (Nat.le_refl _) hlt
   have:=(p.knew j hj h2).1 (hall j hj)
   rw [h1] at this
   cases hk : κ i with
   | none=>exact absurd hk this
   | some l=>exact ⟨l,rfl⟩
 ·
  have:=st.len
  rw [p.kold i (by omega)] at h
  exact st.lent i hi l h
theorem ready_iff (hs:listed.size = ops.size) (i:Nat) : i ∈ Region.ready .any ops listed ↔ (i < ops.size ∧ ¬ isL listed i ∧ ∀ e ∈ opOns ops i,isL listed e):=by
 rw [mem_ready]
 constructor
 ·
  rintro ⟨h0,o,ho,hall⟩
  have hi : i < ops.size:=(Array.getElem?_eq_some_iff.1 ho).1
  refine ⟨hi,fun h=>?_,fun e he=>?_⟩
  ·
   unfold isL at h
   have hs : i < listed.size:=by rw [hs]; exact hi
   simp [hs] at h h0
   rw [h] at h0
   cases h0
  ·
   simp only [opOns,ho,onsOf,List.mem_filterMap] at he
   obtain ⟨ed,hed,h⟩:=he
   split at h
   ·
    rename_i hb
    cases h
    exact hall ed (by simpa using hed) hb
   ·
    cases h
 ·
  rintro ⟨hi,hun,hon⟩
  have hs : i < listed.size:=by rw [hs]; exact hi
  refine ⟨?_,ops[i],by simp [hi],fun e he hb=>hon e.on ?_⟩
  ·
   unfold isL at hun
   simp [hs] at hun ⊢
   exact hun
  ·
   simp only [opOns,Array.getElem?_eq_getElem hi,onsOf,List.mem_filterMap]
   exact ⟨e,by simpa using he,by simp [hb]⟩
theorem wpAny_tail (d:DrawOK ops ms m) : ∀ (n i fuel:Nat) (listed:Array Bool) (a:Act) (w:World),i + n = ops.size → m ≤ i → n ≤ fuel → listed.size = ops.size → (∀ k,k < ops.size → (isL listed k ↔ k < i)) →
  wpOps P ops Q (List.range' i n) a w → wpAny P .any ops Q fuel listed a w
 | 0,i,fuel,listed,a,w,hn,hmi,hf,hs,hl,h=>by
  refine wpAny_done ?_ h fuel
  cases hr : Region.ready .any ops listed with
  | nil=>rfl
  | cons k ks =>
   have hk : k ∈ Region.ready .any ops listed:=by rw [hr]; simp
   obtain ⟨h1,h2,_⟩:=(ready_iff hs k).1 hk
   exact absurd ((hl k h1).2 (by omega)) h2
 | n + 1,i,0,listed,a,w,hn,hmi,hf,hs,hl,h=>by omega
 | n + 1,i,fuel + 1,listed,a,w,hn,hmi,hf,hs,hl,h=>by
  rw [List.range'_succ,wpOps_cons] at h
  have hi : i ∈ Region.ready .any ops listed:=(ready_iff hs i).2 ⟨by omega,fun hli=>by have:=(hl i (by omega)).1 hli; omega,fun e he=>(hl e (by have:=d.ons i (by omega) e he; omega)).2 (d.ons i (by omega) e he)⟩
  refine ⟨fun hnil=>?_,fun j hj=>?_⟩
  ·
   rw [hnil] at hi; cases hi
  ·
   obtain ⟨hjo,hun,hon⟩:=(ready_iff hs j).1 hj
   have hji : j = i:=by
    rcases Nat.lt_trichotomy j i with h1 | h1 | h1
    ·
     exact absurd ((hl j hjo).2 h1) hun
    ·
     exact h1
    ·
     exfalso
     -- what it hangs on was done
     have key : ∀ N,∀ e,e < N → e < ops.size → (∀ x ∈ opOns ops e,isL listed x) → ∀ k,k < ops.size → maskAt ms e k = true → isL listed k:=by
      intro N
      induction N with
      | zero=>intro e he; omega
      | succ N ihN =>
       intro e he heo hx k hk hmk
       obtain ⟨y,hy,h2⟩:=d.mask e heo k hk hmk
       rcases h2 with rfl | h2
       ·
        exact hx _ hy
       ·
        have hye:=d.ons e heo y hy
        refine ihN y (by omega) (by omega) (fun x hx'=>?_) k hk h2
        have h3:=d.ons y (by omega) x hx'
        have h4:=(hl y (by omega)).1 (hx y hy)
        exact (hl x (by omega)).2 (by omega)
     have:=key (j + 1) j (by omega) hjo hon i (by omega) (d.last j (by omega) hjo i h1)
     have:=(hl i (by omega)).1 this
     omega
   subst hji
   refine wpOp_mono (fun a' w' hq=>?_) h
   refine wpAny_tail d n (j + 1) fuel _ a' w' (by omega) (by omega) (by omega) (by simp [hs]) (fun k hk=>?_) hq
   rw [isL_set (by omega),hl k hk]
   omega
theorem wpAny_part (hT:X.T.ok P) (hc:CallOK P X.call) (d:DrawOK ops ms m) (T:Trace X ops m s) {a1:Act} (st:St DF A κ0 nl I0 w0 I1 κ1 (s 0).2 w1 (s 0).1 a1)
  (hlast:∀ a w I κ,St DF A κ0 nl I0 w0 I κ (s m).2 w (s m).1 a → wpOps P ops Q (List.range' m (ops.size - m)) a w) :
  ∀ (fuel:Nat) (listed:Array Bool) (I:Nat → Option (Array Value)) (κ:Nat → Option Loc) (w:World) (E:Env) (a:Act) (U:List Nat),U.length + (ops.size - m) ≤ fuel → (∀ i,i < m → ¬ isL listed i → i ∈ U) → (∀ k,m ≤ k → ¬ isL listed k) →
   Part DF X ops m s I1 κ1 w1 listed I κ w E a → wpAny P .any ops Q fuel listed a w:=by
 have hmn : m < ops.size:=d.pos
 intro fuel
 induction fuel with
 | zero=>intro listed I κ w E a U hU; omega
 | succ fuel ih =>
  intro listed I κ w E a U hU hUl hml p
  by_cases hall : ∀ k,k < m → isL listed k
  ·
   refine wpAny_tail d (ops.size - m) m (fuel + 1) listed a w (by omega) (Nat.le_refl _) (by omega) p.size (fun k hk=>⟨fun h=>?_,hall k⟩) (hlast a w I κ (p.done d T st hall))
   rcases Nat.lt_or_ge k m with h' | h'
   ·
    exact h'
   ·
    exact absurd h (hml k h')
  have hready:=ready_iff (ops:=ops) p.size
  refine ⟨fun hnil=>?_,fun i hi=>?_⟩
  ·
   exfalso
   have key : ∀ n,∀ i,i < n → i < m → isL listed i:=by
    intro n
    induction n with
    | zero=>intro i hi; omega
    | succ n ihn =>
     intro i hi hio
     refine Classical.byContradiction fun hun=>?_
     have : i ∈ Region.ready .any ops listed:=(hready i).2 ⟨by omega,hun,fun e he=>by
      have:=d.ons i (by omega) e he
      exact ihn e (by omega) (by omega)⟩
     rw [hnil] at this
     cases this
   exact hall fun k hk=>key (k + 1) k (by omega) hk
  ·
   obtain ⟨hio,hun,hon⟩:=(hready i).1 hi
   have hilt : i < m:=by
    rcases Nat.lt_or_ge i m with h | h
    ·
     exact h
    ·
     exfalso
     exact hall fun k hk=>p.anc' d hio hon (by omega) (d.last i h hio k (by omega))
   refine p.next hT hc d T (fun id hid=>st.none_at hid) hilt hun hon fun a' w' I' κ' E' p'=>?_
   have hs : i < listed.size:=by rw [p.size]; exact hio
   have hiU:=hUl i hilt hun
   have hpos:=List.length_pos_of_mem hiU
   refine ih _ I' κ' w' E' a' (U.erase i) (by rw [List.length_erase_of_mem hiU]; omega) (fun k hk hkun=>?_) (fun k hk h=>?_) p'
   ·
    rw [isL_set hs] at hkun
    exact (List.mem_erase_of_ne (fun e=>hkun (.inl e))).2 (hUl k hk (fun h=>hkun (.inr h)))
   ·
    rw [isL_set hs] at h
    rcases h with h | h
    ·
     omega
    ·
     exact hml k hk h
end
end Go.AM