/- Texts joined into one: Am0 Am1 Am2 Am3 Am4 Am5 Am6 Am7 Am8 Am9 Am10 Am11 Am12 Am13. -/
import Derived.Orders
import Derived.RowKit3
import Derived.Laws.AppendOwn
import Derived.Laws.OwnMore
import Derived.Tactics
import Derived.WalkKit
import Derived.ChangeKeysEq
import Derived.Laws.StructEq
import Derived.Laws.BytesString
import Derived.Laws.Cells
import Derived.Laws.Cover1
import Derived.Laws.MakeOwn
import Derived.Laws.Tables
import Derived.Great.BuildSlice
/- The abstract machine,part 0: immutable data,abstract values,own blocks,and how they stand to the model's values and world. Over any Program. -/
set_option linter.unusedVariables false
set_option linter.unusedSimpArgs false
namespace Go.AM
inductive D where
 | int (k:IntKind) (n:Int)
 | bool (b:Bool)
 | str (s:List UInt8)
 | nilp
 | nili
 | nilf
 | nilm
 | sl (t:Bool) (sz:Nat) (es:List D)
 | agg (cs:List D)
 | fn (f:Fn) (first caps:List D)
 | ifc (t:TypeId) (x:D)
 deriving Inhabited
def D.cells : D → List D
 | .agg cs=>cs
 | d=>[d]
inductive AV where
 | im (d:D)
 | ref (id off len:Nat)
 | ptr (id j k:Nat)
 | pe (d:D) (k:Nat)
 | agg (cs:List AV)
 | fn (f:Fn) (first caps:List AV)
 | ifc (t:TypeId) (x:AV)
 | tup (vs:List AV)
 | mp (id:Nat)
 | bad
 deriving Inhabited
def AV.cells : AV → List AV
 | .im (.agg cs)=>cs.map .im
 | .agg cs=>cs
 | .tup _=>[]
 | .bad=>[]
 | x=>[x]
inductive Blk where
 | c (sz:Nat) (ds:List D)
 | m (sz:Nat) (es:List AV)
 | o (ds:List D)
 deriving Inhabited
def Blk.sz : Blk → Nat
 | .c sz _=>sz
 | .m sz _=>sz
 | .o _=>0
def Blk.es : Blk → List AV
 | .c _ ds=>ds.map .im
 | .m _ es=>es
 | .o _=>[]
def Blk.get (b:Blk) (j:Nat) : Option AV:=match b with
 | .c _ ds=>(ds[j]?).map .im
 | .m _ es=>es[j]?
 | .o _=>none
def Blk.len : Blk → Nat
 | .c _ ds=>ds.length
 | .m _ es=>es.length
 | .o _=>0
def Blk.isO : Blk → Bool
 | .o _=>true
 | _=>false
theorem Blk.get_eq (b:Blk) (j:Nat) : b.get j = b.es[j]?:=by cases b <;> simp [Blk.get,Blk.es]
theorem Blk.len_eq (b:Blk) : b.len = b.es.length:=by cases b <;> simp [Blk.len,Blk.es]
abbrev Heap:=List (Option Blk)
abbrev Env:=List AV
mutual
inductive RD (I:Nat → Option (Array Value)) : D → Value → Prop
 | int (k n) : RD I (.int k n) (.int k n)
 | bool (b) : RD I (.bool b) (.bool b)
 | str (s) : RD I (.str s) (.string ⟨s.toArray⟩)
 | nilp : RD I .nilp (.pointer none)
 | nili : RD I .nili .nilIface
 | nilf : RD I .nilf .nilFunc
 | nilm : RD I .nilm (.map none)
 | slnil (t sz) : RD I (.sl t sz []) (.slice none 0 0)
 | slz (t sz a) (hz:0 < sz) : RD I (.sl t sz []) (.slice (some a) 0 0)
 | sle (sz A n) (hz:0 < sz) : RD I (.sl false sz []) (.slice A 0 n)
 | sl (t sz es b off cap c vs) (hsz0:0 < sz) (hI:I b = some c) (hv:RDs I (es.flatMap D.cells) vs)
   (hc:∀ i x,vs[i]? = some x → c[off + i]? = some x) (hsz:∀ d ∈ es,d.cells.length = sz)
   (ht:t = true → cap = es.length) (hle:es.length ≤ cap) : RD I (.sl t sz es) (.slice (some ⟨b,off,none⟩) es.length cap)
 | agg (cs vs) (h:RDs I cs vs) : RD I (.agg cs) (.agg vs.toArray)
 | fn (f a c va vc) (ha:RDs I a va) (hc:RDs I c vc) : RD I (.fn f a c) (.func f va.toArray vc.toArray)
 | ifc (t x v) (h:RD I x v) : RD I (.ifc t x) (.iface t v)
inductive RDs (I:Nat → Option (Array Value)) : List D → List Value → Prop
 | nil : RDs I [] []
 | cons (d ds v vs) (h:RD I d v) (hs:RDs I ds vs) : RDs I (d :: ds) (v :: vs)
end
inductive Loc where
 | nil
 | at (b base cap sz nn:Nat)
mutual
inductive RV (I:Nat → Option (Array Value)) (κ:Nat → Option Loc) : AV → Value → Prop
 | im (d v) (h:RD I d v) : RV I κ (.im d) v
 | refnil (id) (h:κ id = some .nil) : RV I κ (.ref id 0 0) (.slice none 0 0)
 | ref (id off len b base cap sz nn) (h:κ id = some (.at b base cap sz nn)) (hl:off + len ≤ nn ∧ nn ≤ cap) : RV I κ (.ref id off len) (.slice (some ⟨b,(base + off) * sz,none⟩) len (cap - off))
 | refend (id off b base cap sz nn o) (h:κ id = some (.at b base cap sz nn)) (hl:cap = off) (ho:o ≤ (base + cap) * sz) : RV I κ (.ref id off 0) (.slice (some ⟨b,o,none⟩) 0 0)
 | ptr (id j k b base cap sz nn) (h:κ id = some (.at b base cap sz nn)) : RV I κ (.ptr id j k) (.pointer (some ⟨b,(base + j) * sz + k,none⟩))
 | mp (id b base cap sz nn) (h:κ id = some (.at b base cap sz nn)) : RV I κ (.mp id) (.map (some b))
 | pe (d k b off c vs) (hI:I b = some c) (hv:RDs I d.cells vs) (hc:∀ i x,vs[i]? = some x → c[off + i]? = some x) : RV I κ (.pe d k) (.pointer (some ⟨b,off + k,none⟩))
 | agg (cs vs) (h:RVs I κ cs vs) : RV I κ (.agg cs) (.agg vs.toArray)
 | fn (f a c va vc) (ha:RVs I κ a va) (hc:RVs I κ c vc) : RV I κ (.fn f a c) (.func f va.toArray vc.toArray)
 | ifc (t x v) (h:RV I κ x v) : RV I κ (.ifc t x) (.iface t v)
 | tup (vs ws) (h:RVs I κ vs ws) : RV I κ (.tup vs) (.tuple ws.toArray)
 | bad (v) : RV I κ .bad v
inductive RVs (I:Nat → Option (Array Value)) (κ:Nat → Option Loc) : List AV → List Value → Prop
 | nil : RVs I κ [] []
 | cons (x xs v vs) (h:RV I κ x v) (hs:RVs I κ xs vs) : RVs I κ (x :: xs) (v :: vs)
end
section lists
variable {I:Nat → Option (Array Value)} {κ:Nat → Option Loc}
theorem RDs.length {ds vs} (h:RDs I ds vs) : vs.length = ds.length:=by
 induction ds generalizing vs with
 | nil=>cases h; rfl
 | cons d ds ih=>cases h with | cons _ _ _ _ h hs=>simp [ih hs]
theorem RVs.length {ds vs} (h:RVs I κ ds vs) : vs.length = ds.length:=by
 induction ds generalizing vs with
 | nil=>cases h; rfl
 | cons d ds ih=>cases h with | cons _ _ _ _ h hs=>simp [ih hs]
theorem RDs.get {ds vs} (h:RDs I ds vs) {i:Nat} {d:D} (hd:ds[i]? = some d) : ∃ v,vs[i]? = some v ∧ RD I d v:=by
 induction ds generalizing vs i with
 | nil=>simp at hd
 | cons e ds ih =>
  cases h with
  | cons _ _ v vs h hs =>
   cases i with
   | zero=>simp at hd; subst hd; exact ⟨v,by simp,h⟩
   | succ i=>simp at hd; simpa using ih hs hd
theorem RVs.get {ds vs} (h:RVs I κ ds vs) {i:Nat} {d:AV} (hd:ds[i]? = some d) : ∃ v,vs[i]? = some v ∧ RV I κ d v:=by
 induction ds generalizing vs i with
 | nil=>simp at hd
 | cons e ds ih =>
  cases h with
  | cons _ _ v vs h hs =>
   cases i with
   | zero=>simp at hd; subst hd; exact ⟨v,by simp,h⟩
   | succ i=>simp at hd; simpa using ih hs hd
theorem RDs.append {a b va vb} (h:RDs I a va) (h' : RDs I b vb) : RDs I (a ++ b) (va ++ vb):=by
 induction a generalizing va with
 | nil=>cases h; exact h'
 | cons d ds ih=>cases h with | cons _ _ _ _ h hs=>exact .cons _ _ _ _ h (ih hs)
theorem RVs.append {a b va vb} (h:RVs I κ a va) (h' : RVs I κ b vb) : RVs I κ (a ++ b) (va ++ vb):=by
 induction a generalizing va with
 | nil=>cases h; exact h'
 | cons d ds ih=>cases h with | cons _ _ _ _ h hs=>exact .cons _ _ _ _ h (ih hs)
theorem RVs.take {a va} (h:RVs I κ a va) (n:Nat) : RVs I κ (a.take n) (va.take n):=by
 induction a generalizing va n with
 | nil=>cases h; simp; exact .nil
 | cons d ds ih =>
  cases h with
  | cons _ _ _ _ h hs=>cases n with
   | zero=>simp; exact .nil
   | succ n=>exact .cons _ _ _ _ h (ih hs n)
theorem RVs.drop {a va} (h:RVs I κ a va) (n:Nat) : RVs I κ (a.drop n) (va.drop n):=by
 induction a generalizing va n with
 | nil=>cases h; simp; exact .nil
 | cons d ds ih =>
  cases h with
  | cons _ _ _ _ h hs=>cases n with
   | zero=>simp; exact .cons _ _ _ _ h hs
   | succ n=>simpa using ih hs n
theorem RDs.take {a va} (h:RDs I a va) (n:Nat) : RDs I (a.take n) (va.take n):=by
 induction a generalizing va n with
 | nil=>cases h; simp; exact .nil
 | cons d ds ih =>
  cases h with
  | cons _ _ _ _ h hs=>cases n with
   | zero=>simp; exact .nil
   | succ n=>exact .cons _ _ _ _ h (ih hs n)
theorem RDs.drop {a va} (h:RDs I a va) (n:Nat) : RDs I (a.drop n) (va.drop n):=by
 induction a generalizing va n with
 | nil=>cases h; simp; exact .nil
 | cons d ds ih =>
  cases h with
  | cons _ _ _ _ h hs=>cases n with
   | zero=>simp; exact .cons _ _ _ _ h hs
   | succ n=>simpa using ih hs n
theorem RDs.toRVs {ds vs} (h:RDs I ds vs) : RVs I κ (ds.map .im) vs:=by
 induction ds generalizing vs with
 | nil=>cases h; exact .nil
 | cons d ds ih=>cases h with | cons _ _ _ _ h hs=>exact .cons _ _ _ _ (.im _ _ h) (ih hs)
theorem RVs.toRDs {ds vs} (h:RVs I κ (ds.map .im) vs) : RDs I ds vs:=by
 induction ds generalizing vs with
 | nil=>cases h; exact .nil
 | cons d ds ih =>
  cases h with
  | cons _ _ _ _ h hs=>cases h with | im _ _ h=>exact .cons _ _ _ _ h (ih hs)
theorem RVs.set {a va} (h:RVs I κ a va) (i:Nat) {x:AV} {v:Value} (hx:RV I κ x v) : RVs I κ (a.set i x) (va.set i v):=by
 induction a generalizing va i with
 | nil=>cases h; simp; exact .nil
 | cons d ds ih =>
  cases h with
  | cons _ _ _ _ h hs=>cases i with
   | zero=>exact .cons _ _ _ _ hx hs
   | succ i=>exact .cons _ _ _ _ h (ih hs i)
end lists
section mono
variable {I I' : Nat → Option (Array Value)} {κ κ' : Nat → Option Loc}
mutual
theorem RD.mono (hI:∀ b c,I b = some c → I' b = some c) : ∀ {d v},RD I d v → RD I' d v
 | _,_,.int k n=>.int k n
 | _,_,.bool b=>.bool b
 | _,_,.str s=>.str s
 | _,_,.nilp=>.nilp
 | _,_,.nili=>.nili
 | _,_,.nilf=>.nilf
 | _,_,.nilm=>.nilm
 | _,_,.slnil t sz=>.slnil t sz
 | _,_,.slz t sz a h=>.slz t sz a h
 | _,_,.sle sz A n h=>.sle sz A n h
 | _,_,.sl t sz es b off cap c vs h0 h1 h2 h3 h4 h5 h6=>.sl t sz es b off cap c vs h0 (hI _ _ h1) (RDs.mono hI h2) h3 h4 h5 h6
 | _,_,.agg cs vs h=>.agg cs vs (RDs.mono hI h)
 | _,_,.fn f a c va vc h h'=>.fn f a c va vc (RDs.mono hI h) (RDs.mono hI h')
 | _,_,.ifc t x v h=>.ifc t x v (RD.mono hI h)
theorem RDs.mono (hI:∀ b c,I b = some c → I' b = some c) : ∀ {d v},RDs I d v → RDs I' d v
 | _,_,.nil=>.nil
 | _,_,.cons _ _ _ _ h hs=>.cons _ _ _ _ (RD.mono hI h) (RDs.mono hI hs)
end
mutual
theorem RV.mono (hI:∀ b c,I b = some c → I' b = some c) (hκ:∀ i l,κ i = some l → κ' i = some l) : ∀ {d v},RV I κ d v → RV I' κ' d v
 | _,_,.im d v h=>.im d v (h.mono hI)
 | _,_,.refnil id h=>.refnil id (hκ _ _ h)
 | _,_,.ref id off len b base cap sz nn h hl=>.ref id off len b base cap sz nn (hκ _ _ h) hl
 | _,_,.refend id off b base cap sz nn o h hl ho=>.refend id off b base cap sz nn o (hκ _ _ h) hl ho
 | _,_,.ptr id j k b base cap sz nn h=>.ptr id j k b base cap sz nn (hκ _ _ h)
 | _,_,.mp id b base cap sz nn h=>.mp id b base cap sz nn (hκ _ _ h)
 | _,_,.pe d k b off c vs h hv hc=>.pe d k b off c vs (hI _ _ h) (hv.mono hI) hc
 | _,_,.agg cs vs h=>.agg cs vs (RVs.mono hI hκ h)
 | _,_,.fn f a c va vc h h'=>.fn f a c va vc (RVs.mono hI hκ h) (RVs.mono hI hκ h')
 | _,_,.ifc t x v h=>.ifc t x v (RV.mono hI hκ h)
 | _,_,.tup vs ws h=>.tup vs ws (RVs.mono hI hκ h)
 | _,_,.bad v=>.bad v
theorem RVs.mono (hI:∀ b c,I b = some c → I' b = some c) (hκ:∀ i l,κ i = some l → κ' i = some l) : ∀ {d v},RVs I κ d v → RVs I' κ' d v
 | _,_,.nil=>.nil
 | _,_,.cons _ _ _ _ h hs=>.cons _ _ _ _ (RV.mono hI hκ h) (RVs.mono hI hκ hs)
end
end mono
section cells
variable {I:Nat → Option (Array Value)} {κ:Nat → Option Loc}
theorem RD.cells {d v} (h:RD I d v) : RDs I d.cells v.cells.toList:=by
 cases d with
 | agg cs=>cases h with | agg _ vs h=>simpa [D.cells,Value.cells] using h
 | _=>cases h <;> exact .cons _ _ _ _ (by first | (constructor; done) | (constructor <;> assumption)) .nil
theorem RV.cells {x v} (h:RV I κ x v) (hb:x.cells ≠ []) : RVs I κ x.cells v.cells.toList:=by
 cases x with
 | agg cs=>cases h with | agg _ vs h=>simpa [AV.cells,Value.cells] using h
 | tup vs=>exact absurd rfl hb
 | bad=>exact absurd rfl hb
 | im d =>
  cases h with
  | im _ _ h =>
   have hc:=h.cells
   cases d with
   | agg cs=>simpa [AV.cells,D.cells] using hc.toRVs
   | _=>simpa [AV.cells,D.cells] using hc.toRVs (κ:=κ)
 | _=>cases h <;> exact .cons _ _ _ _ (by first | (constructor; done) | (constructor <;> assumption)) .nil
end cells
end Go.AM
/- The abstract machine,part 1: what single operations come to,on abstract values; the operations that change no own block. -/
namespace Go.AM
structure Tyi where
 desc : TypeDesc
 size : Nat
 bytes : Nat
 zero : Value
 deriving Inhabited
structure Tyi.ok (P:Program) (t:TypeId) (i:Tyi) : Prop where
 desc : P.underlying t = some i.desc
 info : ∃ f,P.info? t = some f ∧ f.size = i.size ∧ f.bytes = i.bytes ∧ f.zero = some i.zero
def isAggD : TypeDesc → Bool
 | .struct _=>true
 | .array _ _=>true
 | _=>false
def scalarD : Value → Option D
 | .int k n=>some (.int k n)
 | .bool b=>some (.bool b)
 | .string s=>some (.str s.data.toList)
 | .pointer none=>some .nilp
 | .slice none 0 0=>some (.sl true 0 [])
 | .nilIface=>some .nili
 | .nilFunc=>some .nilf
 | .map none=>some .nilm
 | _=>none
def scalarDs : List Value → Option (List D)
 | []=>some []
 | v :: vs=>match scalarD v,scalarDs vs with
  | some d,some ds=>some (d :: ds)
  | _,_=>none
def constD : Value → Option D
 | .agg cs=>(scalarDs cs.toList).map .agg
 | v=>scalarD v
def opd (env:Env) : Operand → Option AV
 | .tmp t=>env[t]?
 | .const v=>(constD v).map .im
 | .func f=>some (.im (.fn (.func f) [] []))
 | .global _=>none
def opds (env:Env) : List Operand → Option (List AV)
 | []=>some []
 | x :: xs=>match opd env x,opds env xs with
  | some v,some vs=>some (v :: vs)
  | _,_=>none
def clo : AV → Option D
 | .im d=>some d
 | _=>none
def clos : List AV → Option (List D)
 | []=>some []
 | x :: xs=>match clo x,clos xs with
  | some d,some ds=>some (d :: ds)
  | _,_=>none
def mkAgg (cs:List AV) : AV:=match clos cs with
 | some ds=>.im (.agg ds)
 | none=>.agg cs
def mkFn (f:Fn) (a c:List AV) : AV:=match clos a,clos c with
 | some da,some dc=>.im (.fn f da dc)
 | _,_=>.fn f a c
def mkIfc (t:TypeId) (x:AV) : AV:=match clo x with
 | some d=>.im (.ifc t d)
 | none=>.ifc t x
def part' (agg:Bool) (sz:Nat) (cs:List AV) (k:Nat) : Option AV :=
 if agg then (if k + sz ≤ cs.length then some (mkAgg ((cs.drop k).take sz)) else none) else cs[k]?
def elem (H:Heap) (id j:Nat) : Option AV:=match H[id]? with
 | some (some b)=>b.get j
 | _=>none
def fieldOff (d:TypeDesc) (f:Nat) : Option (Nat × TypeId):=match d with
 | .struct fs=>(fs[f]?).map fun x=>(x.offset,x.type)
 | _=>none
def binInt (op:BinOp) (k:IntKind) (a:Int) (k' : IntKind) (b:Int) : Option D :=
 match op with
 | .shl=>if b < 0 then none else some (.int k (k.wrap (a * 2 ^ (min b.toNat k.bits))))
 | .shr=>if b < 0 then none else some (.int k (a.fdiv (2 ^ (min b.toNat k.bits))))
 | _=>if k = k' then match op with
  | .add=>some (.int k (k.wrap (a + b)))
  | .sub=>some (.int k (k.wrap (a - b)))
  | .mul=>some (.int k (k.wrap (a * b)))
  | .quo=>if b = 0 then none else some (.int k (k.wrap (a.tdiv b)))
  | .rem=>if b = 0 then none else some (.int k (a.tmod b))
  | .and=>some (.int k (k.wrap (BitVec.ofInt k.bits a &&& BitVec.ofInt k.bits b).toNat))
  | .or=>some (.int k (k.wrap (BitVec.ofInt k.bits a ||| BitVec.ofInt k.bits b).toNat))
  | .xor=>some (.int k (k.wrap (BitVec.ofInt k.bits a ^^^ BitVec.ofInt k.bits b).toNat))
  | .andNot=>some (.int k (k.wrap (BitVec.ofInt k.bits a &&& ~~~BitVec.ofInt k.bits b).toNat))
  | .eql=>some (.bool (a == b))
  | .neq=>some (.bool (a != b))
  | .lss=>some (.bool (decide (a < b)))
  | .leq=>some (.bool (decide (a ≤ b)))
  | .gtr=>some (.bool (decide (a > b)))
  | .geq=>some (.bool (decide (a ≥ b)))
  | _=>none
  else none
def strLess : List UInt8 → List UInt8 → Bool
 | _,[]=>false
 | [],_ :: _=>true
 | a :: x,b :: y=>decide (a < b) || (a == b && strLess x y)
def binStr (op:BinOp) (a b:List UInt8) : Option D :=
 match op with
 | .add=>if a.length + b.length ≤ 9223372036854775807 then some (.str (a ++ b)) else none
 | .eql=>some (.bool (a == b))
 | .neq=>some (.bool (!(a == b)))
 | .lss=>some (.bool (strLess a b))
 | .leq=>some (.bool (strLess a b || a == b))
 | .gtr=>some (.bool (!(strLess a b || a == b)))
 | .geq=>some (.bool (!strLess a b))
 | _=>none
def eqCell : D → D → Option Bool
 | .int k a,.int k' b=>if k = k' then some (a == b) else none
 | .bool a,.bool b=>some (a == b)
 | .str a,.str b=>some (a == b)
 | _,_=>none
def eqCells : List D → List D → Option Bool
 | [],[]=>some true
 | a :: as,b :: bs=>match eqCell a b with
  | some true=>eqCells as bs
  | some false=>some false
  | none=>none
 | _,_=>none
def unInt (op:UnOp) (k:IntKind) (n:Int) : Option D :=
 match op with
 | .neg=>some (.int k (k.wrap (0 - n)))
 | .xor=>some (.int k (k.wrap (BitVec.ofInt k.bits (if k.signed then -1 else k.max) ^^^ BitVec.ofInt k.bits n).toNat))
 | _=>none
section
variable {I:Nat → Option (Array Value)} {κ:Nat → Option Loc}
theorem scalarD_rd {v d} (h:scalarD v = some d) : RD I d v:=by
 unfold scalarD at h
 split at h <;> simp at h <;> subst h <;> constructor
theorem scalarDs_rd {vs ds} (h:scalarDs vs = some ds) : RDs I ds vs:=by
 induction vs generalizing ds with
 | nil=>simp [scalarDs] at h; subst h; exact .nil
 | cons v vs ih =>
  unfold scalarDs at h
  split at h
  ·
   rename_i d ds' h1 h2; simp at h; subst h; exact .cons _ _ _ _ (scalarD_rd h1) (ih h2)
  ·
   simp at h
theorem constD_rd {v d} (h:constD v = some d) : RD I d v:=by
 unfold constD at h
 split at h
 ·
  rename_i cs
  simp only [Option.map_eq_some_iff] at h
  obtain ⟨ds,h,rfl⟩:=h
  simpa using RD.agg _ _ (scalarDs_rd (I:=I) h)
 ·
  exact scalarD_rd h
theorem opd_rv {env:Env} {a:Act} (he:RVs I κ env a.tmps.toList) {x v} (h:opd env x = some v) : RV I κ v (a.eval x):=by
 cases x with
 | tmp t =>
  obtain ⟨y,hy,hr⟩:=he.get (h:env[t]? = some v)
  simp at hy
  simpa [Act.eval,hy] using hr
 | const c =>
  simp only [opd,Option.map_eq_some_iff] at h
  obtain ⟨d,h,rfl⟩:=h
  exact .im _ _ (constD_rd h)
 | global g=>simp [opd] at h
 | func f=>simp [opd] at h; subst h; exact .im _ _ (.fn _ [] [] [] [] .nil .nil)
theorem opds_rvs {env:Env} {a:Act} (he:RVs I κ env a.tmps.toList) {xs vs} (h:opds env xs = some vs) : RVs I κ vs (xs.map a.eval):=by
 induction xs generalizing vs with
 | nil=>simp [opds] at h; subst h; exact .nil
 | cons x xs ih =>
  unfold opds at h
  split at h
  ·
   rename_i v vs' h1 h2; simp at h; subst h; exact .cons _ _ _ _ (opd_rv he h1) (ih h2)
  ·
   simp at h
theorem clo_rd {x d v} (h:clo x = some d) (hr:RV I κ x v) : RD I d v:=by
 cases x <;> simp [clo] at h
 subst h
 cases hr; assumption
theorem clos_rd {xs ds vs} (h:clos xs = some ds) (hr:RVs I κ xs vs) : RDs I ds vs:=by
 induction xs generalizing ds vs with
 | nil=>simp [clos] at h; subst h; cases hr; exact .nil
 | cons x xs ih =>
  unfold clos at h
  split at h
  ·
   rename_i d ds' h1 h2; simp at h; subst h
   cases hr with | cons _ _ _ _ hr hs=>exact .cons _ _ _ _ (clo_rd h1 hr) (ih h2 hs)
  ·
   simp at h
theorem mkAgg_rv {cs vs} (hr:RVs I κ cs vs) : RV I κ (mkAgg cs) (.agg vs.toArray):=by
 unfold mkAgg
 split
 ·
  rename_i ds h; exact .im _ _ (.agg _ _ (clos_rd h hr))
 ·
  exact .agg _ _ hr
theorem mkFn_rv {f a c va vc} (ha:RVs I κ a va) (hc:RVs I κ c vc) : RV I κ (mkFn f a c) (.func f va.toArray vc.toArray):=by
 unfold mkFn
 split
 ·
  rename_i da dc h1 h2; exact .im _ _ (.fn _ _ _ _ _ (clos_rd h1 ha) (clos_rd h2 hc))
 ·
  exact .fn _ _ _ _ _ ha hc
theorem mkIfc_rv {t x v} (h:RV I κ x v) : RV I κ (mkIfc t x) (.iface t v):=by
 unfold mkIfc
 split
 ·
  rename_i d h1; exact .im _ _ (.ifc _ _ _ (clo_rd h1 h))
 ·
  exact .ifc _ _ _ h
inductive MapEs : List D → List MapEntry → Prop
 | nil : MapEs [] []
 | cons (k v:D) (e:MapEntry) (ds es) (hk:RD (fun _=>none) k e.key) (hv:RD (fun _=>none) v e.val) (hs:MapEs ds es) : MapEs (.agg [k,v,.int .i64 e.born] :: ds) (e :: es)
def MapAt (w:World) (b:Nat) : Blk → Prop
 | .o ds => ∃ es clock ds', ds = .int .i64 (clock : Nat) :: ds' ∧ w.heap[b]? = some (.map es clock) ∧ MapEs ds' es.toList
 | _=>False
def Lies (I:Nat → Option (Array Value)) (κ:Nat → Option Loc) (w:World) (blk:Blk) : Loc → Prop
 | .nil=>blk.es = []
 | .at b base cap sz nn=>(blk.isO = true ∧ MapAt w b blk ∧ sz = 0 ∧ nn = 0) ∨ (blk.sz = sz ∧ blk.es.length = nn) ∧ 0 < sz ∧ ∃ c T vs,w.heap[b]? = some (.cells c T (0,0)) ∧ (base + cap) * sz ≤ c.size ∧ RVs I κ (blk.es.flatMap AV.cells) vs ∧
   (∀ e ∈ blk.es,e.cells.length = sz) ∧ ∀ i x,vs[i]? = some x → c[base * sz + i]? = some x
theorem Lies.cell {I:Nat → Option (Array Value)} {κ:Nat → Option Loc} {w:World} {blk:Blk} {b base cap sz nn:Nat} (h:Lies I κ w blk (.at b base cap sz nn)) (ho:blk.isO = false) :
  (blk.sz = sz ∧ blk.es.length = nn) ∧ 0 < sz ∧ ∃ c T vs,w.heap[b]? = some (.cells c T (0,0)) ∧ (base + cap) * sz ≤ c.size ∧ RVs I κ (blk.es.flatMap AV.cells) vs ∧
   (∀ e ∈ blk.es,e.cells.length = sz) ∧ ∀ i x,vs[i]? = some x → c[base * sz + i]? = some x:=by
 rcases h with h | h
 ·
  rw [ho] at h; cases h.1
 ·
  exact h
theorem Lies.sz_eq {I:Nat → Option (Array Value)} {κ:Nat → Option Loc} {w:World} {blk:Blk} {b base cap sz nn:Nat} (h:Lies I κ w blk (.at b base cap sz nn)) : blk.sz = sz:=by
 rcases h with ⟨h,_,h0,_⟩ | h
 ·
  cases blk with
  | o ds=>exact h0.symm
  | _=>cases h
 ·
  exact h.1.1
theorem isO_es {blk:Blk} {j:Nat} {e:AV} (h:blk.es[j]? = some e) : blk.isO = false:=by
 cases blk with
 | o ds=>simp [Blk.es] at h
 | _=>rfl
theorem isO_lt {blk:Blk} {j:Nat} (h:j < blk.es.length) : blk.isO = false:=isO_es (List.getElem?_eq_getElem h)
theorem isO_sz {blk:Blk} (h:0 < blk.sz) : blk.isO = false:=by
 cases blk with
 | o ds=>simp [Blk.sz] at h
 | _=>rfl
theorem MapAt.at {w w' : World} {b:Nat} {blk:Blk} (h:MapAt w b blk) (hb:w'.heap[b]? = w.heap[b]?) : MapAt w' b blk:=by
 cases blk with
 | o ds =>
  obtain ⟨es, clock, ds', h1, h2, h3⟩ := h
  exact ⟨es, clock, ds', h1, hb.trans h2, h3⟩
 | _=>exact h
theorem MapAt.lt {w:World} {b:Nat} {blk:Blk} (h:MapAt w b blk) : b < w.heap.size:=by
 cases blk with
 | o ds =>
  obtain ⟨es, clock, ds', h1, h2, h3⟩ := h
  exact (Array.getElem?_eq_some_iff.1 h2).1
 | _=>exact h.elim
structure WR (I:Nat → Option (Array Value)) (κ:Nat → Option Loc) (H:Heap) (w:World) : Prop where
 im : ∀ b c,I b = some c → ∃ T fr,w.heap[b]? = some (.cells c T fr)
 own : ∀ id l,κ id = some l → ∃ blk,H[id]? = some (some blk) ∧ Lies I κ w blk l
 inj : ∀ id id' b base cap sz nn base' cap' sz' nn', κ id = some (.at b base cap sz nn) → κ id' = some (.at b base' cap' sz' nn') → id = id'
 apart : ∀ id b base cap sz nn,κ id = some (.at b base cap sz nn) → I b = none
end
end Go.AM
/- The abstract machine,part 2: operations that leave the world alone: what they come to,and that the model's come to the same. -/
namespace Go.AM
def bnd (x:AV) (y:Nat) : Option Nat:=match x with
 | .im (.int _ i)=>if 0 ≤ i then (if i ≤ (y:Int) then some i.toNat else none) else none
 | _=>none
def bndO (env:Env) (x:Option Operand) (y d:Nat) : Option Nat:=match x with
 | some x=>match opd env x with
  | some v=>bnd v y
  | none=>none
 | none=>some d
def eqOp (op:BinOp) (b:Bool) : Option D:=match op with
 | .eql=>some (.bool b)
 | .neq=>some (.bool (!b))
 | _=>none
inductive Ck where
 | int (k:IntKind)
 | bool
 | str
def isK : Ck → D → Bool
 | .int k,.int k' _=>decide (k' = k)
 | .bool,.bool _=>true
 | .str,.str _=>true
 | _,_=>false
def areK : List Ck → List D → Bool
 | [],[]=>true
 | k :: ks,d :: ds=>isK k d && areK ks ds
 | _,_=>false
structure Tab where
 ty : TypeId → Option Tyi
 eqt : TypeId → Option (List Ck)
def eqOn (T:Tab) (t:TypeId) (a b:List D) : Bool:=match T.eqt t with
 | some ks=>areK ks a && areK ks b
 | none=>false
def EqOK (P:Program) (t:TypeId) (a b:List D) : Prop:=∀ (I:Nat → Option (Array Value)) (w:World) (x y:Operand) (op:BinOp) (va vb:List Value) (r:Bool) (d:D),
 RDs I a va → RDs I b vb → eqCells a b = some r → eqOp op r = some d → ∃ v,(do eqGuard op t x y (.agg va.toArray) (.agg vb.toArray); binOp op t (.agg va.toArray) (.agg vb.toArray)).run P w = .ok v w ∧ RD I d v
structure Tab.ok (T:Tab) (P:Program) : Prop where
 ty : ∀ t i,T.ty t = some i → Tyi.ok P t i
 eqt : ∀ t a b,eqOn T t a b = true → EqOK P t a b
def bytesOf : List D → Option (List UInt8)
 | []=>some []
 | .int .u8 n :: ds=>match bytesOf ds with
  | some bs=>some (UInt8.ofNat n.toNat :: bs)
  | none=>none
 | _=>none
def ev0 (T:Tab) (env:Env) (H:Heap) (o:Oper) : Option AV :=
 match o.op with
 | .move x=>opd env x
 | .assign x=>opd env x
 | .pick c a b=>match opd env c with
  | some (.im (.bool t))=>if t then opd env a else opd env b
  | _=>none
 | .load t a=>match T.ty t with
  | some i=>match opd env a with
   | some (.ptr id j k)=>match elem H id j with
    | some e=>part' (isAggD i.desc) i.size e.cells k
    | none=>none
   | some (.pe d k)=>part' (isAggD i.desc) i.size (d.cells.map .im) k
   | _=>none
  | none=>none
 | .nilCheck x=>match opd env x with
  | some (.ptr id j k)=>some (.ptr id j k)
  | some (.pe d k)=>some (.pe d k)
  | _=>none
 | .binOp op t x y _=>match opd env x,opd env y with
  | some (.im (.int k a)),some (.im (.int k' b))=>(binInt op k a k' b).map .im
  | some (.im (.str a)),some (.im (.str b))=>(binStr op a b).map .im
  | some (.im (.bool a)),some (.im (.bool b))=>match T.ty t with
   | some ⟨.bool,_,_,_⟩=>(eqOp op (a == b)).map .im
   | _=>none
  | some (.im (.agg a)),some (.im (.agg b))=>if eqOn T t a b then match eqCells a b with
   | some r=>(eqOp op r).map .im
   | none=>none
   else none
  | some (.im .nilp),some (.im .nilp)=>match T.ty t with
   | some ⟨.pointer _,_,_,_⟩=>(eqOp op true).map .im
   | _=>none
  | some (.ptr _ _ _),some (.im .nilp)=>match T.ty t with
   | some ⟨.pointer _,_,_,_⟩=>(eqOp op false).map .im
   | _=>none
  | some (.pe _ _),some (.im .nilp)=>match T.ty t with
   | some ⟨.pointer _,_,_,_⟩=>(eqOp op false).map .im
   | _=>none
  | _,_=>none
 | .unOp op _ x=>match opd env x with
  | some (.im (.int k n))=>(unInt op k n).map .im
  | some (.im (.bool b))=>match op with
   | .not=>some (.im (.bool (!b)))
   | _=>none
  | _=>none
 | .convert src dst x=>match T.ty src,T.ty dst,opd env x with
  | some _,some ⟨.int k,_,_,_⟩,some (.im (.int _ n))=>some (.im (.int k (k.wrap n)))
  | some ⟨.string,_,_,_⟩,some ⟨.string,_,_,_⟩,some (.im (.str s))=>some (.im (.str s))
  | some ⟨.slice e,_,_,_⟩,some ⟨.string,_,_,_⟩,some (.im (.sl _ _ (d :: es)))=>match T.ty e with
   | some ⟨.int .u8,_,_,_⟩=>match bytesOf (d :: es) with
    | some bs=>some (.im (.str bs))
    | none=>none
   | _=>none
  | _,_,_=>none
 | .makeInterface t x=>match T.ty t,opd env x with
  | some ⟨.interface _,_,_,_⟩,_=>none
  | some _,some v=>some (mkIfc t v)
  | _,_=>none
 | .makeFunc f a c=>match opds env a.toList,opds env c.toList with
  | some va,some vc=>some (mkFn f va vc)
  | _,_=>none
 | .slice t x lo hi none=>match T.ty t with
  | some ⟨.string,_,_,_⟩=>match opd env x with
   | some (.im (.str s))=>match bndO env hi s.length s.length with
    | some h=>match bndO env lo h 0 with
     | some l=>some (.im (.str ((s.take h).drop l)))
     | none=>none
    | none=>none
   | _=>none
  | some ⟨.slice e,_,_,_⟩=>match T.ty e with
   | some i=>match opd env x with
    | some (.im (.sl _ sz es))=>if sz == i.size then match bndO env hi es.length es.length with
      | some h=>match bndO env lo h 0 with
       | some l=>some (.im (.sl false sz ((es.take h).drop l)))
       | none=>none
      | none=>none
     else none
    | some (.ref id off len)=>match H[id]? with
     | some (some b)=>if b.sz == i.size then match bndO env hi len len with
      | some h=>match bndO env lo h 0 with
       | some l=>some (.ref id (off + l) (h - l))
       | none=>none
      | none=>none
      else none
     | _=>none
    | _=>none
   | none=>none
  | _=>none
 | .fieldAddr s x f=>match T.ty s with
  | some i=>match fieldOff i.desc f with
   | some (off,ft)=>match T.ty ft with
    | some j=>if j.size == 0 then none else match opd env x with
     | some (.ptr id e k)=>some (.ptr id e (k + off))
     | some (.pe d k)=>some (.pe d (k + off))
     | _=>none
    | none=>none
   | none=>none
  | none=>none
 | .field s x f=>match T.ty s with
  | some i=>match fieldOff i.desc f with
   | some (off,ft)=>match T.ty ft with
    | some j=>match opd env x with
     | some (.im (.agg cs))=>part' (isAggD j.desc) j.size (cs.map .im) off
     | some (.agg cs)=>part' (isAggD j.desc) j.size cs off
     | _=>none
    | none=>none
   | none=>none
  | none=>none
 | .indexAddr t x i=>match T.ty t with
  | some ⟨.slice e,_,_,_⟩=>match T.ty e with
   | some ie=>match opd env i with
    | some (.im (.int _ n))=>if 0 ≤ n then match opd env x with
     | some (.im (.sl _ sz es))=>if sz == ie.size then match es[n.toNat]? with
       | some d=>some (.pe d 0)
       | none=>none
      else none
     | some (.ref id off len)=>match H[id]? with
      | some (some b)=>if b.sz == ie.size then (if n.toNat < len then some (.ptr id (off + n.toNat) 0) else none) else none
      | _=>none
     | _=>none
     else none
    | _=>none
   | none=>none
  | _=>none
 | .index t x i=>match T.ty t with
  | some ⟨.string,_,_,_⟩=>match opd env i with
   | some (.im (.int _ n))=>if 0 ≤ n then match opd env x with
    | some (.im (.str s))=>match s[n.toNat]? with
     | some c=>some (.im (.int .u8 c.toNat))
     | none=>none
    | _=>none
    else none
   | _=>none
  | some ⟨.array len e,_,_,_⟩=>match T.ty e with
   | some ie=>match opd env i with
    | some (.im (.int _ n))=>if 0 ≤ n then (if n.toNat < len then match opd env x with
     | some (.im (.agg cs))=>part' (isAggD ie.desc) ie.size (cs.map .im) (n.toNat * ie.size)
     | some (.agg cs)=>part' (isAggD ie.desc) ie.size cs (n.toNat * ie.size)
     | _=>none
     else none) else none
    | _=>none
   | none=>none
  | _=>none
 | .extract x i=>match opd env x with
  | some (.tup vs)=>vs[i]?
  | _=>none
 | .call { callee:=.builtin b,args,argTypes }=>match b with
  | .len=>match argTypes.toList,opds env args.toList with
   | [t],some [x]=>match T.ty t with
    | some ⟨.string,_,_,_⟩=>match x with
     | .im (.str s)=>some (.im (.int .i64 s.length))
     | _=>none
    | some ⟨.slice _,_,_,_⟩=>match x with
     | .im (.sl _ _ es)=>some (.im (.int .i64 es.length))
     | .ref _ _ len=>some (.im (.int .i64 len))
     | _=>none
    | _=>none
   | _,_=>none
  | .min=>match opds env args.toList with
   | some [.im (.int k x),.im (.int k' y)]=>some (.im (.int k (if y < x then y else x)))
   | _=>none
  | .max=>match opds env args.toList with
   | some [.im (.int k x),.im (.int k' y)]=>some (.im (.int k (if y > x then y else x)))
   | _=>none
  | _=>none
 | _=>none
end Go.AM
/- The abstract machine,part 3: the operations that leave the world alone come to what `ev0` says. -/
namespace Go.AM
theorem flat_get {α β:Type} (f:α → List β) (sz:Nat) : ∀ (es:List α),(∀ e ∈ es,(f e).length = sz) → ∀ (j k:Nat) (e:α),es[j]? = some e → k < sz → (es.flatMap f)[j * sz + k]? = (f e)[k]?
 | [],_,j,k,e,h,_=>by simp at h
 | x :: xs,hl,0,k,e,h,hk=>by
  simp at h
  subst h
  have:=hl x (by simp)
  simp [List.flatMap_cons,List.getElem?_append,this,hk]
 | x :: xs,hl,j + 1,k,e,h,hk=>by
  have hx:=hl x (by simp)
  have ih:=flat_get f sz xs (fun e he=>hl e (by simp [he])) j k e (by simpa using h) hk
  rw [List.flatMap_cons,List.getElem?_append,if_neg (by rw [hx]; rw [Nat.succ_mul]; omega),hx,← ih]
  congr 1
  rw [Nat.succ_mul]
  omega
theorem flat_len {α β:Type} (f:α → List β) (sz:Nat) : ∀ (es:List α),(∀ e ∈ es,(f e).length = sz) → (es.flatMap f).length = es.length * sz
 | [],_=>by simp
 | x :: xs,hl=>by
  have ih:=flat_len f sz xs (fun e he=>hl e (by simp [he]))
  rw [List.flatMap_cons,List.length_append,ih,hl x (by simp),List.length_cons,Nat.succ_mul]
  omega
section
variable {P:Program} {I:Nat → Option (Array Value)} {κ:Nat → Option Loc} {w:World}
theorem run_isAgg {t:TypeId} {i:Tyi} (h:Tyi.ok P t i) (w:World) : (isAgg t).run P w = .ok (isAggD i.desc) w:=by
 unfold isAgg
 rw [Sem.run_bind,run_underlying h.desc w]
 cases i.desc <;> rfl
theorem run_size {t:TypeId} {i:Tyi} (h:Tyi.ok P t i) (w:World) : (sizeOf t).run P w = .ok i.size w:=by
 obtain ⟨f,hf,hs,_⟩:=h.info
 simp [sizeOf,typeInfo,hf,hs]
theorem run_zero {t:TypeId} {i:Tyi} (h:Tyi.ok P t i) (w:World) : (zeroValue t).run P w = .ok i.zero w:=by
 obtain ⟨f,hf,_,_,hz⟩:=h.info
 simp [zeroValue,typeInfo,hf,hz]
theorem addr_add (b o n:Nat) : (⟨b,o,none⟩ : Addr).add n = ⟨b,o + n,none⟩:=Addr.add_lit b o n
theorem loadVar_part {t:TypeId} {i:Tyi} (ht:Tyi.ok P t i) {cs:List AV} {vs:List Value} (hv:RVs I κ cs vs) {b off:Nat}
  (hc:∀ j x,vs[j]? = some x → w.cell? ⟨b,off + j,none⟩ = some x) {k:Nat} {v:AV} (h:part' (isAggD i.desc) i.size cs k = some v) :
  ∃ x,(loadVar t ⟨b,off + k,none⟩).run P w = .ok x w ∧ RV I κ v x:=by
 unfold loadVar
 rw [Sem.run_bind,run_isAgg ht]
 simp only [Result.andThen_ok]
 unfold part' at h
 split at h
 ·
  rename_i hagg
  split at h
  ·
   rename_i hlen
   simp only [Option.some.injEq] at h
   subst h
   have hr:=(hv.drop k).take i.size
   have hn : ((vs.drop k).take i.size).length = i.size:=by have:=hv.length; simp; omega
   have hl:=run_loadCells_list (P:=P) w ⟨b,off + k,none⟩ ((vs.drop k).take i.size) (fun j x hx=>by
    rw [addr_add]
    have hj : j < i.size:=by
     rcases Nat.lt_or_ge j i.size with hj | hj
     ·
      exact hj
     ·
      simp [List.getElem?_eq_none (show ((vs.drop k).take i.size).length ≤ j by omega)] at hx
    simp [List.getElem?_take,hj] at hx
    have:=hc _ _ hx
    rwa [← Nat.add_assoc] at this)
   rw [hn] at hl
   refine ⟨_,?_,mkAgg_rv hr⟩
   simp [hagg,run_size ht,hl]
  ·
   simp at h
 ·
  rename_i hagg
  obtain ⟨y,hy,hr⟩:=hv.get h
  exact ⟨y,by simp [hagg,hc _ _ hy],hr⟩
theorem part_part {t:TypeId} {i:Tyi} (ht:Tyi.ok P t i) {cs:List AV} {vs:List Value} (hv:RVs I κ cs vs) {k:Nat} {v:AV} (h:part' (isAggD i.desc) i.size cs k = some v) :
  ∃ x,(part t vs.toArray k).run P w = .ok x w ∧ RV I κ v x:=by
 unfold part
 rw [Sem.run_bind,run_isAgg ht]
 simp only [Result.andThen_ok]
 unfold part' at h
 split at h
 ·
  rename_i hagg
  split at h
  ·
   rename_i hlen
   simp only [Option.some.injEq] at h
   subst h
   have hr:=(hv.drop k).take i.size
   refine ⟨_,?_,mkAgg_rv hr⟩
   have e : vs.toArray.extract k (k + i.size) = ((vs.drop k).take i.size).toArray:=by
    simp [List.extract_toArray,List.extract_eq_take_drop]
   simp only [hagg,if_true,Sem.run_bind,run_size ht,Result.andThen_ok,Sem.run_pure,e]
  ·
   simp at h
 ·
  rename_i hagg
  obtain ⟨y,hy,hr⟩:=hv.get h
  exact ⟨y,by simp [hagg,hy],hr⟩
theorem Lies.elem {blk:Blk} {b base cap sz nn:Nat} (hl:Lies I κ w blk (.at b base cap sz nn)) {j:Nat} {e:AV} (he:blk.es[j]? = some e) :
  e.cells.length = sz ∧ ∃ vs,RVs I κ e.cells vs ∧ ∀ k x,vs[k]? = some x → w.cell? ⟨b,(base + j) * sz + k,none⟩ = some x:=by
 obtain ⟨_,h0,c,T,vs,hb,hcap,hv,hsz,hc⟩:=hl.cell (isO_es he)
 have hlen:=hsz e (List.mem_of_getElem? he)
 refine ⟨hlen,(vs.drop (j * sz)).take sz,?_,?_⟩
 ·
  have hr:=(hv.drop (j * sz)).take sz
  have : ((blk.es.flatMap AV.cells).drop (j * sz)).take sz = e.cells:=by
   apply List.ext_getElem?
   intro k
   rcases Nat.lt_or_ge k sz with hk | hk
   ·
    rw [List.getElem?_take,if_pos hk,List.getElem?_drop,flat_get _ sz _ hsz j k e he hk]
   ·
    rw [List.getElem?_take,if_neg (by omega),List.getElem?_eq_none (by omega)]
  rwa [this] at hr
 ·
  intro k x hx
  have hk : k < sz:=by
   rcases Nat.lt_or_ge k sz with hk | hk
   ·
    exact hk
   ·
    simp [List.getElem?_take,show ¬ k < sz by omega] at hx
  simp [List.getElem?_take,hk] at hx
  have:=hc _ _ hx
  simp only [World.cell?,hb]
  rw [show (base + j) * sz + k = base * sz + (j * sz + k) by rw [Nat.add_mul]; omega]
  simpa using this
end
end Go.AM
/- The abstract machine,part 4: what `ev0` says of an operation the model's does. -/
namespace Go.AM
section
variable {P:Program} {I:Nat → Option (Array Value)} {κ:Nat → Option Loc} {w:World}
theorem binInt_run (op:BinOp) (t:TypeId) (k k' : IntKind) (a b:Int) {d:D} (h:binInt op k a k' b = some d) :
  ∃ x,(binOp op t (.int k a) (.int k' b)).run P w = .ok x w ∧ RD I d x:=by
 cases op <;> simp only [binInt] at h
 case shl =>
  split at h <;> simp at h
  subst h
  rename_i hb
  exact ⟨.int k (k.wrap (a * 2 ^ (min b.toNat k.bits))),by simp [binOp,Op.shift,hb],.int _ _⟩
 case shr =>
  split at h <;> simp at h
  subst h
  rename_i hb
  exact ⟨.int k (a.fdiv (2 ^ (min b.toNat k.bits))),by simp [binOp,Op.shift,hb],.int _ _⟩
 all_goals
  by_cases hk : k = k'
  case neg=>simp [hk] at h
  subst hk
  simp only [if_true] at h
  first
   | (simp only [Option.some.injEq] at h; subst h; exact ⟨.int _ _,by simp only [binOp,ne_eq,not_true_eq_false,if_false,Op.intArith,Op.intBits]; rfl,.int _ _⟩)
   | (simp only [Option.some.injEq] at h; subst h; exact ⟨.bool _,by simp only [binOp,ne_eq,not_true_eq_false,if_false,Op.intCmp]; rfl,.bool _⟩)
   | (split at h <;> simp at h; subst h; rename_i hb; exact ⟨.int k (k.wrap (a.tdiv b)),by simp [binOp,Op.intDiv,hb],.int _ _⟩)
   | (split at h <;> simp at h; subst h; rename_i hb; exact ⟨.int k (a.tmod b),by simp [binOp,Op.intDiv,hb],.int _ _⟩)
theorem strLess_eq : ∀ a b : List UInt8,strLess a b = Op.bytesLess a b
 | _,[]=>by simp [strLess,Op.bytesLess]
 | [],_ :: _=>by simp [strLess,Op.bytesLess]
 | a :: x,b :: y=>by simp [strLess,Op.bytesLess,strLess_eq x y]
theorem binStr_run (op:BinOp) (t:TypeId) (a b:List UInt8) {d:D} (h:binStr op a b = some d) :
  ∃ x,(binOp op t (.string ⟨a.toArray⟩) (.string ⟨b.toArray⟩)).run P w = .ok x w ∧ RD I d x:=by
 have ha : (⟨a.toArray⟩ : ByteArray).toList = a:=by simp
 have hb : (⟨b.toArray⟩ : ByteArray).toList = b:=by simp
 have hsa : (⟨a.toArray⟩ : ByteArray).size = a.length:=rfl
 have hsb : (⟨b.toArray⟩ : ByteArray).size = b.length:=rfl
 have happ : (⟨a.toArray⟩ : ByteArray) ++ ⟨b.toArray⟩ = ⟨(a ++ b).toArray⟩:=by
  apply ByteArray.ext
  simp
 cases op <;> simp only [binStr] at h
 case add =>
  split at h <;> simp at h
  subst h
  rename_i hl
  refine ⟨_,?_,.str (a ++ b)⟩
  have : ¬ ((a.length : Int) + (b.length : Int) > 9223372036854775807):=by omega
  simp only [binOp,Op.stringOp,hsa,hsb,happ]
  simp [this]
 all_goals first
  | (simp only [Option.some.injEq] at h; subst h; refine ⟨.bool _,by simp only [binOp,Op.stringOp,ha,hb]; rfl,?_⟩; (try simp only [strLess_eq]); exact .bool _)
  | simp at h
theorem eqOp_run {op:BinOp} {b:Bool} {d:D} (h:eqOp op b = some d) : (op = .eql ∧ d = .bool b) ∨ (op = .neq ∧ d = .bool (!b)):=by
 cases op <;> simp [eqOp] at h <;> subst h <;> simp
theorem bnd_run {v:AV} {x:Value} (hr:RV I κ v x) {y n:Nat} (code:BoundsCode) (h:bnd v y = some n) : (Instr.sliceBound x y code).run P w = .ok n w ∧ n ≤ y:=by
 unfold bnd at h
 split at h
 ·
  rename_i k i
  split at h
  ·
   rename_i h0
   split at h
   ·
    rename_i h1
    simp at h
    subst h
    cases hr with
    | im _ _ hr =>
     cases hr
     exact ⟨run_sliceBound w k i y code h0 h1,by omega⟩
   ·
    simp at h
  ·
   simp at h
 ·
  simp at h
theorem bnd_mono {v:AV} {y z n:Nat} (h:bnd v y = some n) (hyz:y ≤ z) : bnd v z = some n:=by
 unfold bnd at *
 split at h
 ·
  by_cases h0 : 0 ≤ ‹Int›
  ·
   simp only [h0,if_true] at h ⊢
   split at h
   ·
    rename_i h1
    rw [if_pos (by omega)]
    exact h
   ·
    simp at h
  ·
   simp [h0] at h
 ·
  simp at h
theorem sliceBounds_run {env:Env} {a:Act} (he:RVs I κ env a.tmps.toList) {lo hi:Option Operand} (isS:Bool) (len cap:Nat) (hlc:len ≤ cap) {l h:Nat}
  (hh:bndO env hi len len = some h) (hl:bndO env lo h 0 = some l) :
  (Instr.sliceBounds isS len cap (lo.map a.eval) (hi.map a.eval) none).run P w = .ok (l,h,cap) w ∧ l ≤ h ∧ h ≤ len:=by
 have h1 : h ≤ len ∧ ((match hi.map a.eval,(none:Option Value) with
   | some v,some _=>Instr.sliceBound v cap .slice3B
   | some v,none=>Instr.sliceBound v cap (if isS then .sliceAcap else .sliceAlen)
   | none,none=>pure len
   | none, some _ => stuck "Slice: max without high") : Sem Nat).run P w = .ok h w := by
  cases hi with
  | none=>simp [bndO] at hh; subst hh; simp
  | some x =>
   simp only [bndO] at hh
   split at hh
   ·
    rename_i v hv
    have hr:=opd_rv he hv
    have hle:=(bnd_run (P:=P) (w:=w) hr (if isS then .sliceAcap else .sliceAlen) hh).2
    refine ⟨hle,?_⟩
    have hb : bnd v cap = some h:=bnd_mono hh hlc
    simpa using (bnd_run (P:=P) (w:=w) hr (if isS then .sliceAcap else .sliceAlen) hb).1
   ·
    simp at hh
 have h2 : l ≤ h ∧ ((match lo.map a.eval with
   | some v=>Instr.sliceBound v h .sliceB
   | none=>pure 0) : Sem Nat).run P w = .ok l w:=by
  cases lo with
  | none=>simp [bndO] at hl; subst hl; simp
  | some x =>
   simp only [bndO] at hl
   split at hl
   ·
    rename_i v hv
    have hr:=opd_rv he hv
    have hb:=bnd_run (P:=P) (w:=w) hr .sliceB hl
    exact ⟨hb.2,by simpa using hb.1⟩
   ·
    simp at hl
 refine ⟨?_,h2.1,h1.1⟩
 unfold Instr.sliceBounds
 simp only [Sem.run_bind,Sem.run_pure,Result.andThen_ok]
 have e1:=h1.2
 have e2:=h2.2
 cases hi <;> cases lo <;> simp_all
end
end Go.AM
/- The abstract machine,part 5: the operations that leave the world alone: all of them. -/
namespace Go.AM
theorem foldl_push : ∀ (ns:List Int) (r:ByteArray),ns.foldl (fun r n=>r.push (UInt8.ofNat n.toNat)) r = ⟨r.data ++ (ns.map fun n=>UInt8.ofNat n.toNat).toArray⟩
 | [],r=>by simp
 | n :: ns,r=>by
  rw [List.foldl_cons,foldl_push ns]
  simp [ByteArray.push]
theorem bytesOf_rd {I:Nat → Option (Array Value)} : ∀ {ds:List D} {bs:List UInt8} {vs:List Value},bytesOf ds = some bs → RDs I (ds.flatMap D.cells) vs → ∃ ns : List Int,ns.length = ds.length ∧ ns.map (fun n=>UInt8.ofNat n.toNat) = bs ∧ vs = ns.map (Value.int .u8)
 | [],bs,vs,h,hr=>by
  simp [bytesOf] at h
  subst h
  simp at hr
  cases hr
  exact ⟨[],rfl,rfl,rfl⟩
 | d :: ds,bs,vs,h,hr=>by
  cases d with
  | int k n =>
   cases k <;> simp only [bytesOf] at h <;> first | (simp at h; done) | skip
   split at h
   ·
    rename_i bs' hb
    simp at h
    subst h
    rw [List.flatMap_cons] at hr
    cases hr with
    | cons _ _ v vs' h1 h2 =>
     cases h1
     obtain ⟨ns,e1,e2,e3⟩:=bytesOf_rd hb h2
     exact ⟨n :: ns,by simp [e1],by simp [e2],by simp [e3]⟩
   ·
    simp at h
  | _=>simp [bytesOf] at h
section
variable {P:Program} {I:Nat → Option (Array Value)} {κ:Nat → Option Loc} {w:World}
theorem fieldOff_eq {d:TypeDesc} {f off ft:Nat} (h:fieldOff d f = some (off,ft)) : ∃ fs x,d = .struct fs ∧ fs[f]? = some x ∧ x.offset = off ∧ x.type = ft:=by
 unfold fieldOff at h
 split at h
 ·
  rename_i fs
  simp only [Option.map_eq_some_iff] at h
  obtain ⟨x,hx,e⟩:=h
  simp at e
  exact ⟨fs,x,rfl,hx,e.1,e.2⟩
 ·
  simp at h
theorem elem_eq {H:Heap} {id j:Nat} {e:AV} (h:elem H id j = some e) : ∃ b,H[id]? = some (some b) ∧ b.es[j]? = some e:=by
 unfold elem at h
 split at h
 ·
  rename_i b hb; exact ⟨b,hb,by rw [← Blk.get_eq]; exact h⟩
 ·
  simp at h
theorem own_elem {H:Heap} (hw:WR I κ H w) {id j:Nat} {e:AV} (he:elem H id j = some e) {b base cap sz nn:Nat} (hk:κ id = some (.at b base cap sz nn)) :
  e.cells.length = sz ∧ ∃ vs,RVs I κ e.cells vs ∧ ∀ k x,vs[k]? = some x → w.cell? ⟨b,(base + j) * sz + k,none⟩ = some x:=by
 obtain ⟨blk,hb,hl⟩:=hw.own _ _ hk
 obtain ⟨blk', hb', hj⟩ := elem_eq he
 rw [hb] at hb'
 simp at hb'
 subst hb'
 exact hl.elem hj
theorem pe_cells {H:Heap} (hw:WR I κ H w) {b off:Nat} {c:Array Value} {vs:List Value} (hI:I b = some c) (hc:∀ i x,vs[i]? = some x → c[off + i]? = some x) :
  ∀ k x,vs[k]? = some x → w.cell? ⟨b,off + k,none⟩ = some x:=by
 intro k x hx
 obtain ⟨T,fr,hb⟩:=hw.im _ _ hI
 simp [World.cell?,hb,hc k x hx]
def Val (P:Program) (I:Nat → Option (Array Value)) (κ:Nat → Option Loc) (w:World) (a:Act) (o:Oper) (v:AV) : Prop :=
 ∃ x,(execOp a.eval o).run P w = .ok (.value x) w ∧ RV I κ v x
theorem ev0_load {T:Tab} (hT:T.ok P) {H:Heap} {env:Env} {a:Act} (hw:WR I κ H w) (he:RVs I κ env a.tmps.toList) {o:Oper} {t:TypeId} {x:Operand} (ho:o.op = .load t x) {v:AV}
  (h:ev0 T env H o = some v) : Val P I κ w a o v:=by
 unfold ev0 at h
 rw [ho] at h
 simp only at h
 unfold Val execOp
 rw [ho]
 simp only
 split at h
 ·
  rename_i i hi
  have ht:=hT.ty _ _ hi
  split at h
  ·
   rename_i id j k hx
   have hr:=opd_rv he hx
   generalize hxe : a.eval x = xe at hr ⊢
   split at h
   ·
    rename_i e hel
    cases hr with
    | ptr _ _ _ b base cap sz nn hk =>
     obtain ⟨hlen,vs,hvs,hc⟩:=own_elem hw hel hk
     obtain ⟨y,hy,hr⟩:=loadVar_part ht hvs hc h
     exact ⟨y,by simp [Instr.loadAt,Instr.sureAddr,hy],hr⟩
   ·
    simp at h
  ·
   rename_i d k hx
   have hr:=opd_rv he hx
   generalize hxe : a.eval x = xe at hr ⊢
   cases hr with
   | pe _ _ b off c vs hI hv hc =>
    obtain ⟨y,hy,hr⟩:=loadVar_part (κ:=κ) ht hv.toRVs (pe_cells hw hI hc) h
    exact ⟨y,by simp [Instr.loadAt,Instr.sureAddr,hy],hr⟩
  ·
   simp at h
 ·
  simp at h
theorem ev0_move {T:Tab} {H:Heap} {env:Env} {a:Act} (he:RVs I κ env a.tmps.toList) {o:Oper} {x:Operand} (ho:o.op = .move x ∨ o.op = .assign x) {v:AV}
  (h:ev0 T env H o = some v) : Val P I κ w a o v:=by
 unfold ev0 at h
 unfold Val execOp
 rcases ho with ho | ho <;> (rw [ho] at h ⊢; simp only at h ⊢; exact ⟨_,rfl,opd_rv he h⟩)
theorem ev0_pick {T:Tab} {H:Heap} {env:Env} {a:Act} (he:RVs I κ env a.tmps.toList) {o:Oper} {c x y:Operand} (ho:o.op = .pick c x y) {v:AV}
  (h:ev0 T env H o = some v) : Val P I κ w a o v:=by
 unfold ev0 at h
 unfold Val execOp
 rw [ho] at h ⊢
 simp only at h ⊢
 split at h
 ·
  rename_i t hc
  have hr:=opd_rv he hc
  generalize hce : a.eval c = ce at hr ⊢
  cases hr with
  | im _ _ hr =>
   cases hr
   cases t with
   | true=>exact ⟨a.eval x,by simp [asBool],opd_rv he (by simpa using h)⟩
   | false=>exact ⟨a.eval y,by simp [asBool],opd_rv he (by simpa using h)⟩
 ·
  simp at h
theorem ev0_nilCheck {T:Tab} {H:Heap} {env:Env} {a:Act} (he:RVs I κ env a.tmps.toList) {o:Oper} {x:Operand} (ho:o.op = .nilCheck x) {v:AV}
  (h:ev0 T env H o = some v) : Val P I κ w a o v:=by
 unfold ev0 at h
 unfold Val execOp
 rw [ho] at h ⊢
 simp only at h ⊢
 split at h
 ·
  rename_i id j k hx
  have hr:=opd_rv he hx
  simp at h
  subst h
  generalize hxe : a.eval x = xe at hr ⊢
  have hr':=hr
  cases hr' with
  | ptr _ _ _ b base cap sz nn hk=>exact ⟨_,rfl,hr⟩
 ·
  rename_i d k hx
  have hr:=opd_rv he hx
  simp at h
  subst h
  generalize hxe : a.eval x = xe at hr ⊢
  have hr':=hr
  cases hr' with
  | pe _ _ b off c vs hI hv hc=>exact ⟨_,rfl,hr⟩
 ·
  simp at h
theorem ev0_unOp {T:Tab} {H:Heap} {env:Env} {a:Act} (he:RVs I κ env a.tmps.toList) {o:Oper} {op:UnOp} {t:TypeId} {x:Operand} (ho:o.op = .unOp op t x) {v:AV}
  (h:ev0 T env H o = some v) : Val P I κ w a o v:=by
 unfold ev0 at h
 unfold Val execOp
 rw [ho] at h ⊢
 simp only at h ⊢
 split at h
 ·
  rename_i k n hx
  have hr:=opd_rv he hx
  simp only [Option.map_eq_some_iff] at h
  obtain ⟨d,h,rfl⟩:=h
  generalize hxe : a.eval x = xe at hr ⊢
  cases hr with
  | im _ _ hr =>
   cases hr
   cases op <;> simp [unInt] at h
   ·
    subst h; exact ⟨.int k (k.wrap (-n)),by simp [Op.unary,Op.intArith],.im _ _ (.int _ _)⟩
   ·
    subst h; exact ⟨_,by simp only [Op.unary,Op.intBits]; rfl,.im _ _ (.int _ _)⟩
 ·
  rename_i b hx
  have hr:=opd_rv he hx
  generalize hxe : a.eval x = xe at hr ⊢
  cases hr with
  | im _ _ hr =>
   cases hr
   cases op <;> simp at h
   subst h
   exact ⟨.bool (!b),by simp [Op.unary],.im _ _ (.bool _)⟩
 ·
  simp at h
theorem ev0_makeInterface {T:Tab} (hT:T.ok P) {H:Heap} {env:Env} {a:Act} (he:RVs I κ env a.tmps.toList) {o:Oper} {t:TypeId} {x:Operand} (ho:o.op = .makeInterface t x) {v:AV}
  (h:ev0 T env H o = some v) : Val P I κ w a o v:=by
 unfold ev0 at h
 unfold Val execOp
 rw [ho] at h ⊢
 simp only at h ⊢
 split at h
 ·
  simp at h
 ·
  rename_i i v' hx hi hn
  simp at h
  subst h
  refine ⟨.iface t (a.eval x),?_,mkIfc_rv (opd_rv he hn)⟩
  have ht:=(hT.ty _ _ hi).desc
  simp only [Instr.makeInterface,Sem.run_bind,run_underlying ht,Result.andThen_ok]
  cases hd : i.desc <;> simp
  obtain ⟨dd,s,b,z⟩:=i
  simp at hd
  subst hd
  exact absurd rfl (hx _ _ _ _)
 ·
  simp at h
theorem ev0_makeFunc {T:Tab} {H:Heap} {env:Env} {a:Act} (he:RVs I κ env a.tmps.toList) {o:Oper} {f:Fn} {x y:Array Operand} (ho:o.op = .makeFunc f x y) {v:AV}
  (h:ev0 T env H o = some v) : Val P I κ w a o v:=by
 unfold ev0 at h
 unfold Val execOp
 rw [ho] at h ⊢
 simp only at h ⊢
 split at h
 ·
  rename_i va vc h1 h2
  simp at h
  subst h
  have r1:=opds_rvs he h1
  have r2:=opds_rvs he h2
  refine ⟨.func f (x.map a.eval) (y.map a.eval),by simp [Instr.makeFunc],?_⟩
  have:=mkFn_rv (f:=f) r1 r2
  have e : ∀ z : Array Operand,(z.toList.map a.eval).toArray = z.map a.eval:=fun z=>by cases z; simp
  rwa [e,e] at this
 ·
  simp at h
theorem ev0_extract {T:Tab} {H:Heap} {env:Env} {a:Act} (he:RVs I κ env a.tmps.toList) {o:Oper} {x:Operand} {i:Nat} (ho:o.op = .extract x i) {v:AV}
  (h:ev0 T env H o = some v) : Val P I κ w a o v:=by
 unfold ev0 at h
 unfold Val execOp
 rw [ho] at h ⊢
 simp only at h ⊢
 split at h
 ·
  rename_i vs hx
  have hr:=opd_rv he hx
  generalize hxe : a.eval x = xe at hr ⊢
  cases hr with
  | tup _ ws hr =>
   obtain ⟨y,hy,hr⟩:=hr.get h
   exact ⟨y,by simp [Instr.extract,hy],hr⟩
 ·
  simp at h
theorem ev0_convert {T:Tab} (hT:T.ok P) {H:Heap} {env:Env} {a:Act} (hw:WR I κ H w) (he:RVs I κ env a.tmps.toList) {o:Oper} {t u:TypeId} {x:Operand} (ho:o.op = .convert t u x) {v:AV}
  (h:ev0 T env H o = some v) : Val P I κ w a o v:=by
 unfold ev0 at h
 unfold Val execOp
 rw [ho] at h ⊢
 simp only at h ⊢
 split at h
 ·
  rename_i i k _ _ _ _ n hi hj hx
  simp at h
  subst h
  have hr:=opd_rv he hx
  generalize hxe : a.eval x = xe at hr ⊢
  cases hr with
  | im _ _ hr =>
   cases hr
   have h1:=(hT.ty _ _ hi).desc
   have h2:=(hT.ty _ _ hj).desc
   refine ⟨.int k (k.wrap n),?_,.im _ _ (.int _ _)⟩
   simp only [convert,Sem.run_bind,run_underlying h1,run_underlying h2,Result.andThen_ok]
   cases i.desc <;> simp [Conv.intToInt]
 ·
  rename_i s hi hj hx
  simp at h
  subst h
  have hr:=opd_rv he hx
  generalize hxe : a.eval x = xe at hr ⊢
  cases hr with
  | im _ _ hr =>
   cases hr
   have h1:=(hT.ty _ _ hi).desc
   have h2:=(hT.ty _ _ hj).desc
   refine ⟨.string ⟨s.toArray⟩,?_,.im _ _ (.str _)⟩
   simp only [convert,Sem.run_bind,run_underlying h1,run_underlying h2,Result.andThen_ok]
   simp
 ·
  rename_i e _ _ _ _ _ _ _ _ d es hi hj hx
  split at h
  ·
   rename_i _ _ _ hte
   split at h
   ·
    rename_i bs hbs
    simp at h
    subst h
    have hr:=opd_rv he hx
    generalize hxe : a.eval x = xe at hr ⊢
    cases hr with
    | im _ _ hr =>
     cases hr with
     | sl _ _ _ b off cap c vs hs0 hI hv hc hsz ht hle =>
      have h1:=(hT.ty _ _ hi).desc
      have h2:=(hT.ty _ _ hj).desc
      have h3:=(hT.ty _ _ hte).desc
      simp only at h1 h2 h3
      obtain ⟨ns,hns,hbn,hvn⟩:=bytesOf_rd hbs hv
      have hlen : ns.length = (d :: es).length:=hns
      have hcell : ∀ j v,(ns.map (Value.int .u8))[j]? = some v → w.cell? ((⟨b,off,none⟩ : Addr).add j) = some v:=fun j v hj'=>by
       rw [← hvn] at hj'
       have:=hc j v hj'
       obtain ⟨T', fz, hb⟩ := hw.im _ _ hI
       unfold World.cell?
       rw [Addr.add_lit]
       simp only [hb]
       simpa using this
      have hl:=run_loadCells_list (P:=P) w ⟨b,off,none⟩ (ns.map (Value.int .u8)) hcell
      rw [List.length_map,hlen] at hl
      refine ⟨.string ⟨bs.toArray⟩,?_,.im _ _ (.str _)⟩
      have hconv:=run_convert_bytes_string (P:=P) w t u e (some ⟨b,off,none⟩) (d :: es).length cap h1 h3 h2
      rw [run_bytesToString w ⟨b,off,none⟩ _ cap ns hl] at hconv
      have hfin : (convert t u (.slice (some ⟨b,off,none⟩) (d :: es).length cap)).run P w = .ok (.string ⟨bs.toArray⟩) w:=by
       rw [hconv,foldl_push,hbn]
       have he0 : ByteArray.empty.data = #[]:=rfl
       rw [he0]
       simp
      simp only [Sem.run_bind,hfin,Result.andThen_ok,Sem.run_pure]
   ·
    simp at h
  ·
   simp at h
 ·
  simp at h
end
end Go.AM
/- The abstract machine,part 6: addresses,indexes,cuts,comparisons,lengths; then all operations that leave the world alone in one theorem. -/
namespace Go.AM
section
variable {P:Program} {I:Nat → Option (Array Value)} {κ:Nat → Option Loc} {w:World}
theorem ev0_fieldAddr {T:Tab} (hT:T.ok P) {H:Heap} {env:Env} {a:Act} (he:RVs I κ env a.tmps.toList) {o:Oper} {s:TypeId} {x:Operand} {f:Nat} (ho:o.op = .fieldAddr s x f) {v:AV}
  (h:ev0 T env H o = some v) : Val P I κ w a o v:=by
 unfold ev0 at h
 unfold Val execOp
 rw [ho] at h ⊢
 simp only at h ⊢
 split at h
 ·
  rename_i i hi
  split at h
  ·
   rename_i off ft hf
   split at h
   ·
    rename_i j hj
    split at h
    ·
     simp at h
    ·
     rename_i hj0
     obtain ⟨fs,fl,hd,hfl,rfl,rfl⟩:=fieldOff_eq hf
     have h1:=(hT.ty _ _ hi).desc
     rw [hd] at h1
     have hz:=run_size (hT.ty _ _ hj) w
     have hj1 : ¬ j.size = 0:=by simpa using hj0
     split at h
     ·
      rename_i id e k hx
      have hr:=opd_rv he hx
      generalize hxe : a.eval x = xe at hr ⊢
      simp at h
      subst h
      cases hr with
      | ptr _ _ _ b base cap sz nn hk =>
       refine ⟨.pointer (some ⟨b,(base + e) * sz + (k + fl.offset),none⟩),?_,.ptr _ _ _ _ _ _ _ _ hk⟩
       simp [Instr.fieldAt,run_underlying h1,hfl,Instr.sureAddr,fieldPlace,hz,hj1,addr_add,Nat.add_assoc]
     ·
      rename_i d k hx
      have hr:=opd_rv he hx
      generalize hxe : a.eval x = xe at hr ⊢
      simp at h
      subst h
      cases hr with
      | pe _ _ b off c vs hI hv hc =>
       refine ⟨.pointer (some ⟨b,off + (k + fl.offset),none⟩),?_,.pe _ _ _ _ _ _ hI hv hc⟩
       simp [Instr.fieldAt,run_underlying h1,hfl,Instr.sureAddr,fieldPlace,hz,hj1,addr_add,Nat.add_assoc]
     ·
      simp at h
   ·
    simp at h
  ·
   simp at h
 ·
  simp at h
theorem ev0_field {T:Tab} (hT:T.ok P) {H:Heap} {env:Env} {a:Act} (he:RVs I κ env a.tmps.toList) {o:Oper} {s:TypeId} {x:Operand} {f:Nat} (ho:o.op = .field s x f) {v:AV}
  (h:ev0 T env H o = some v) : Val P I κ w a o v:=by
 unfold ev0 at h
 unfold Val execOp
 rw [ho] at h ⊢
 simp only at h ⊢
 split at h
 ·
  rename_i i hi
  split at h
  ·
   rename_i off ft hf
   split at h
   ·
    rename_i j hj
    obtain ⟨fs,fl,hd,hfl,rfl,rfl⟩:=fieldOff_eq hf
    have h1:=(hT.ty _ _ hi).desc
    rw [hd] at h1
    split at h
    ·
     rename_i cs hx
     have hr:=opd_rv he hx
     generalize hxe : a.eval x = xe at hr ⊢
     cases hr with
     | im _ _ hr =>
      cases hr with
      | agg _ vs hr =>
       obtain ⟨y,hy,hr⟩:=part_part (w:=w) (hT.ty _ _ hj) (hr.toRVs (κ:=κ)) h
       exact ⟨y,by simp [Instr.field,run_underlying h1,hfl,asAgg,hy],hr⟩
    ·
     rename_i cs hx
     have hr:=opd_rv he hx
     generalize hxe : a.eval x = xe at hr ⊢
     cases hr with
     | agg _ vs hr =>
      obtain ⟨y,hy,hr⟩:=part_part (w:=w) (hT.ty _ _ hj) hr h
      exact ⟨y,by simp [Instr.field,run_underlying h1,hfl,asAgg,hy],hr⟩
    ·
     simp at h
   ·
    simp at h
  ·
   simp at h
 ·
  simp at h
theorem ev0_indexAddr {T:Tab} (hT:T.ok P) {H:Heap} {env:Env} {a:Act} (hw:WR I κ H w) (he:RVs I κ env a.tmps.toList) {o:Oper} {t:TypeId} {x i:Operand} (ho:o.op = .indexAddr t x i) {v:AV}
  (h:ev0 T env H o = some v) : Val P I κ w a o v:=by
 unfold ev0 at h
 unfold Val execOp
 rw [ho] at h ⊢
 simp only at h ⊢
 split at h
 ·
  rename_i e _ _ _ ht
  have h1:=(hT.ty _ _ ht).desc
  simp only at h1
  split at h
  ·
   rename_i ie hie
   have hz:=run_size (hT.ty _ _ hie) w
   split at h
   ·
    rename_i k n hn
    have hrn:=opd_rv he hn
    split at h
    ·
     rename_i h0
     split at h
     ·
      rename_i tt sz es hx
      split at h
      ·
       rename_i hsz
       split at h
       ·
        rename_i d hd
        simp at h
        subst h
        have hr:=opd_rv he hx
        generalize hxe : a.eval x = xe at hr ⊢
        generalize hne : a.eval i = ne at hrn ⊢
        cases hrn with
        | im _ _ hrn =>
        cases hrn
        cases hr with
        | im _ _ hr =>
        cases hr with
        | slnil=>simp at hd
        | slz=>simp at hd
        | sle=>simp at hd
        | sl _ _ _ b off cap c vs hs0 hI hv hc hsz' ht' hle =>
         have hlt : n.toNat < es.length:=by
          rcases Nat.lt_or_ge n.toNat es.length with hlt | hge
          ·
           exact hlt
          ·
           simp [List.getElem?_eq_none hge] at hd
         have hsz'' : sz = ie.size:=by simpa using hsz
         refine ⟨.pointer (some ⟨b,off + n.toNat * sz + 0,none⟩),?_,.pe d 0 b (off + n.toNat * sz) c ((vs.drop (n.toNat * sz)).take sz) hI ?_ ?_⟩
         ·
          have hlt' : n < (es.length : Int):=by omega
          simp only [Instr.indexAt,asIntOf,Sem.run_bind,Sem.run_pure,Result.andThen_ok,run_underlying h1]
          simp [h0, hlt', hz, addr_add, hsz'']
         ·
          have hr:=(hv.drop (n.toNat * sz)).take sz
          have hdl:=hsz' d (List.mem_of_getElem? hd)
          have : ((es.flatMap D.cells).drop (n.toNat * sz)).take sz = d.cells:=by
           apply List.ext_getElem?
           intro k
           rcases Nat.lt_or_ge k sz with hk | hk
           ·
            rw [List.getElem?_take,if_pos hk,List.getElem?_drop,flat_get _ sz _ hsz' _ k d hd hk]
           ·
            rw [List.getElem?_take,if_neg (by omega),List.getElem?_eq_none (by omega)]
          rwa [this] at hr
         ·
          intro k y hy
          have hk : k < sz:=by
           rcases Nat.lt_or_ge k sz with hk | hk
           ·
            exact hk
           ·
            simp [List.getElem?_take,show ¬ k < sz by omega] at hy
          simp [List.getElem?_take,hk] at hy
          have:=hc _ _ hy
          rwa [← Nat.add_assoc] at this
       ·
        simp at h
      ·
       simp at h
     ·
      rename_i id off len hx
      split at h
      ·
       rename_i blk hb
       split at h
       ·
        rename_i hsz
        split at h
        ·
         rename_i hlt
         simp at h
         subst h
         have hr:=opd_rv he hx
         generalize hxe : a.eval x = xe at hr ⊢
         generalize hne : a.eval i = ne at hrn ⊢
         cases hrn with
         | im _ _ hrn =>
         cases hrn
         cases hr with
         | refnil _ hk=>simp at hlt
         | refend=>simp at hlt
         | ref _ _ _ b base cap sz nn hk hl =>
          obtain ⟨blk', hb', hlies⟩ := hw.own _ _ hk
          rw [hb] at hb'
          simp at hb'
          subst hb'
          have hsz' : sz = ie.size:=by rw [← hlies.sz_eq]; simpa using hsz
          refine ⟨.pointer (some ⟨b,(base + (off + n.toNat)) * sz + 0,none⟩),?_,.ptr _ _ _ _ _ _ _ _ hk⟩
          have hlt' : n < (len:Int):=by omega
          simp only [Instr.indexAt,asIntOf,Sem.run_bind,Sem.run_pure,Result.andThen_ok,run_underlying h1]
          have e1 : (base + off) * sz + n.toNat * sz = (base + (off + n.toNat)) * sz:=by rw [← Nat.add_mul,Nat.add_assoc]
          simp [h0, hlt', hz, addr_add, hsz'] at e1 ⊢
          rw [← hsz'] at e1 ⊢
          exact e1
        ·
         simp at h
       ·
        simp at h
      ·
       simp at h
     ·
      simp at h
    ·
     simp at h
   ·
    simp at h
  ·
   simp at h
 ·
  simp at h
end
end Go.AM
/- The abstract machine,part 7: indexes of values,cuts,comparisons,lengths; then all operations that leave the world alone in one theorem. -/
namespace Go.AM
section
variable {P:Program} {I:Nat → Option (Array Value)} {κ:Nat → Option Loc} {w:World}
theorem ev0_index {T:Tab} (hT:T.ok P) {H:Heap} {env:Env} {a:Act} (he:RVs I κ env a.tmps.toList) {o:Oper} {t:TypeId} {x i:Operand} (ho:o.op = .index t x i) {v:AV}
  (h:ev0 T env H o = some v) : Val P I κ w a o v:=by
 unfold ev0 at h
 unfold Val execOp
 rw [ho] at h ⊢
 simp only at h ⊢
 split at h
 ·
  rename_i _ _ _ ht
  have h1:=(hT.ty _ _ ht).desc
  simp only at h1
  split at h
  ·
   rename_i k n hn
   have hrn:=opd_rv he hn
   split at h
   ·
    rename_i h0
    split at h
    ·
     rename_i s hx
     have hr:=opd_rv he hx
     split at h
     ·
      rename_i c hc
      simp at h
      subst h
      generalize hxe : a.eval x = xe at hr ⊢
      generalize hne : a.eval i = ne at hrn ⊢
      cases hrn with
      | im _ _ hrn =>
      cases hrn
      cases hr with
      | im _ _ hr =>
      cases hr
      refine ⟨.int .u8 c.toNat,?_,.im _ _ (.int _ _)⟩
      have hlt : n.toNat < s.length:=by
       rcases Nat.lt_or_ge n.toNat s.length with hlt | hge
       ·
        exact hlt
       ·
        simp [List.getElem?_eq_none hge] at hc
      have hb : (⟨s.toArray⟩ : ByteArray)[n.toNat]? = some c:=by
       have hsz : n.toNat < (⟨s.toArray⟩ : ByteArray).size:=hlt
       rw [getElem?_pos (⟨s.toArray⟩ : ByteArray) n.toNat hsz]
       have : (⟨s.toArray⟩ : ByteArray)[n.toNat] = s[n.toNat]:=rfl
       rw [this]
       rw [List.getElem?_eq_getElem hlt] at hc
       exact hc
      simp only [Instr.index,asIntOf,Sem.run_bind,Sem.run_pure,Result.andThen_ok,run_underlying h1]
      simp [h0,hb]
     ·
      simp at h
    ·
     simp at h
   ·
    simp at h
  ·
   simp at h
 ·
  rename_i len e _ _ _ ht
  have h1:=(hT.ty _ _ ht).desc
  simp only at h1
  split at h
  ·
   rename_i ie hie
   split at h
   ·
    rename_i k n hn
    have hrn:=opd_rv he hn
    split at h
    ·
     rename_i h0
     split at h
     ·
      rename_i hlt
      have hlt' : n < (len:Int):=by omega
      split at h
      ·
       rename_i cs hx
       have hr:=opd_rv he hx
       generalize hxe : a.eval x = xe at hr ⊢
       generalize hne : a.eval i = ne at hrn ⊢
       cases hrn with
       | im _ _ hrn =>
       cases hrn
       cases hr with
       | im _ _ hr =>
       cases hr with
       | agg _ vs hr =>
        obtain ⟨y,hy,hr⟩:=part_part (w:=w) (hT.ty _ _ hie) (hr.toRVs (κ:=κ)) h
        refine ⟨y,?_,hr⟩
        simp only [Instr.index,asIntOf,Sem.run_bind,Sem.run_pure,Result.andThen_ok,run_underlying h1]
        simp [h0, hlt', run_size (hT.ty _ _ hie), hy]
      ·
       rename_i cs hx
       have hr:=opd_rv he hx
       generalize hxe : a.eval x = xe at hr ⊢
       generalize hne : a.eval i = ne at hrn ⊢
       cases hrn with
       | im _ _ hrn =>
       cases hrn
       cases hr with
       | agg _ vs hr =>
        obtain ⟨y,hy,hr⟩:=part_part (w:=w) (hT.ty _ _ hie) hr h
        refine ⟨y,?_,hr⟩
        simp only [Instr.index,asIntOf,Sem.run_bind,Sem.run_pure,Result.andThen_ok,run_underlying h1]
        simp [h0, hlt', run_size (hT.ty _ _ hie), hy]
      ·
       simp at h
     ·
      simp at h
    ·
     simp at h
   ·
    simp at h
  ·
   simp at h
 ·
  simp at h
theorem extract_bytes (s:List UInt8) (l h:Nat) (hl:l ≤ h) (hh:h ≤ s.length) : (⟨s.toArray⟩ : ByteArray).extract l h = ⟨((s.take h).drop l).toArray⟩:=by
 apply ByteArray.ext
 rw [ByteArray.data_extract]
 simp [List.extract_eq_take_drop,List.drop_take]
theorem ev0_slice {T:Tab} (hT:T.ok P) {H:Heap} {env:Env} {a:Act} (hw:WR I κ H w) (he:RVs I κ env a.tmps.toList) {o:Oper} {t:TypeId} {x:Operand} {lo hi mx:Option Operand} (ho:o.op = .slice t x lo hi mx) {v:AV}
  (h:ev0 T env H o = some v) : Val P I κ w a o v:=by
 unfold ev0 at h
 unfold Val execOp
 rw [ho] at h ⊢
 cases mx with
 | some m=>simp at h
 | none =>
 simp only at h ⊢
 split at h
 ·
  rename_i _ _ _ ht
  have h1:=(hT.ty _ _ ht).desc
  simp only at h1
  split at h
  ·
   rename_i s hx
   have hr:=opd_rv he hx
   split at h
   ·
    rename_i hh heh
    split at h
    ·
     rename_i ll hel
     simp at h
     subst h
     obtain ⟨hb,hlh,hhl⟩:=sliceBounds_run (P:=P) (w:=w) he false s.length s.length (Nat.le_refl _) heh hel
     generalize hxe : a.eval x = xe at hr ⊢
     cases hr with
     | im _ _ hr =>
     cases hr
     refine ⟨.string ⟨((s.take hh).drop ll).toArray⟩,?_,.im _ _ (.str _)⟩
     have hsz : (⟨s.toArray⟩ : ByteArray).size = s.length:=rfl
     rw [← extract_bytes s ll hh hlh hhl]
     simp only [Instr.sliceAt,Instr.slice,Sem.run_bind,run_underlying h1,Result.andThen_ok,Option.map_none,Option.isSome_none,Bool.false_eq_true,if_false,hsz,hb,Sem.run_pure]
    ·
     simp at h
   ·
    simp at h
  ·
   simp at h
 ·
  rename_i e _ _ _ ht
  have h1:=(hT.ty _ _ ht).desc
  simp only at h1
  split at h
  ·
   rename_i ie hie
   have hz:=run_size (hT.ty _ _ hie) w
   split at h
   ·
    rename_i tt sz es hx
    have hr:=opd_rv he hx
    split at h
    ·
     rename_i hsz
     have hsz' : sz = ie.size:=by simpa using hsz
     split at h
     ·
      rename_i hh heh
      split at h
      ·
       rename_i ll hel
       simp at h
       subst h
       generalize hxe : a.eval x = xe at hr ⊢
       cases hr with
       | im _ _ hr =>
       cases hr with
       | slnil =>
        obtain ⟨hb,hlh,hhl⟩:=sliceBounds_run (P:=P) (w:=w) he true 0 0 (Nat.le_refl _) (by simpa using heh) hel
        simp at hhl
        subst hhl
        simp at hlh
        subst hlh
        refine ⟨.slice none 0 0,?_,.im _ _ ?_⟩
        ·
         simp only [Instr.sliceAt,Instr.slice,Sem.run_bind,run_underlying h1,Result.andThen_ok,Option.map_none,hb,hz,Sem.run_pure]
         simp
        ·
         simpa using RD.slnil (I:=I) false sz
       | slz _ _ aa hz0 =>
        obtain ⟨hb,hlh,hhl⟩:=sliceBounds_run (P:=P) (w:=w) he true 0 0 (Nat.le_refl _) (by simpa using heh) hel
        simp at hhl
        subst hhl
        simp at hlh
        subst hlh
        refine ⟨.slice (some aa) 0 0,?_,.im _ _ ?_⟩
        ·
         simp only [Instr.sliceAt,Instr.slice,Sem.run_bind,run_underlying h1,Result.andThen_ok,Option.map_none,hb,hz,Sem.run_pure]
         simp
        ·
         simpa using RD.slz (I:=I) false sz aa hz0
       | sle _ A n hz0 =>
        obtain ⟨hb,hlh,hhl⟩:=sliceBounds_run (P:=P) (w:=w) he true 0 n (Nat.zero_le _) (by simpa using heh) hel
        simp at hhl
        subst hhl
        simp at hlh
        subst hlh
        refine ⟨.slice A 0 n,?_,.im _ _ ?_⟩
        ·
         simp only [Instr.sliceAt,Instr.slice,Sem.run_bind,run_underlying h1,Result.andThen_ok,Option.map_none,hb,hz,Sem.run_pure]
         cases A <;> simp [Addr.add]
        ·
         simpa using RD.sle (I:=I) sz A n hz0
       | sl _ _ _ b off cap c vs hs0 hI hv hc hsz2 ht2 hle =>
        obtain ⟨hb,hlh,hhl⟩:=sliceBounds_run (P:=P) (w:=w) he true es.length cap hle heh hel
        refine ⟨.slice (some ⟨b,if cap = ll then off else off + ll * sz,none⟩) (hh - ll) (cap - ll),?_,.im _ _ ?_⟩
        ·
         simp only [Instr.sliceAt,Instr.slice,Sem.run_bind,run_underlying h1,Result.andThen_ok,Option.map_none,hb,hz,Sem.run_pure]
         by_cases hcl : cap = ll
         ·
          simp [hcl]
         ·
          simp [hcl,addr_add,hsz']
        ·
         have hlen : ((es.take hh).drop ll).length = hh - ll:=by simp; omega
         rw [← hlen]
         by_cases hcl : cap = ll
         ·
          have : (es.take hh).drop ll = []:=by apply List.eq_nil_of_length_eq_zero; omega
          rw [this]
          exact .sl _ _ _ b _ _ c [] hs0 hI .nil (by simp) (by simp) (by simp) (by simp)
         ·
          refine .sl _ _ _ b _ _ c (((vs.take (hh * sz)).drop (ll * sz))) hs0 hI ?_ ?_ ?_ (by simp) (by omega)
          ·
           have hr:=(hv.take (hh * sz)).drop (ll * sz)
           have hfl : ∀ (l:List D) (n:Nat),(∀ d ∈ l,d.cells.length = sz) → (l.flatMap D.cells).take (n * sz) = (l.take n).flatMap D.cells:=by
            intro l
            induction l with
            | nil=>intro n _; simp
            | cons d l ih =>
             intro n hl
             cases n with
             | zero=>simp
             | succ n =>
              have hd:=hl d (by simp)
              rw [List.flatMap_cons,List.take_append,Nat.succ_mul,List.take_of_length_le (by omega),hd]
              rw [show n * sz + sz - sz = n * sz by omega,ih n (fun d hd=>hl d (by simp [hd]))]
              simp
           have hfd : ∀ (l:List D) (n:Nat),(∀ d ∈ l,d.cells.length = sz) → (l.flatMap D.cells).drop (n * sz) = (l.drop n).flatMap D.cells:=by
            intro l
            induction l with
            | nil=>intro n _; simp
            | cons d l ih =>
             intro n hl
             cases n with
             | zero=>simp
             | succ n =>
              have hd:=hl d (by simp)
              rw [List.flatMap_cons,List.drop_append,Nat.succ_mul,List.drop_of_length_le (by omega),hd]
              rw [show n * sz + sz - sz = n * sz by omega,ih n (fun d hd=>hl d (by simp [hd]))]
              simp
           rw [hfl es hh hsz2,hfd _ ll (fun d hd=>hsz2 d (List.mem_of_mem_take hd))] at hr
           exact hr
          ·
           intro i y hy
           simp only [hcl,if_false]
           simp at hy
           have hi : vs[ll * sz + i]? = some y:=by
            rw [List.getElem?_take] at hy
            split at hy
            ·
             exact hy
            ·
             simp at hy
           have:=hc _ _ hi
           rwa [← Nat.add_assoc] at this
          ·
           intro d hd
           exact hsz2 d (List.mem_of_mem_take (List.mem_of_mem_drop hd))
      ·
       simp at h
     ·
      simp at h
    ·
     simp at h
   ·
    rename_i id off len hx
    have hr:=opd_rv he hx
    split at h
    ·
     rename_i blk hbk
     split at h
     ·
      rename_i hsz
      split at h
      ·
       rename_i hh heh
       split at h
       ·
        rename_i ll hel
        simp at h
        subst h
        generalize hxe : a.eval x = xe at hr ⊢
        have hr':=hr
        cases hr with
        | refnil _ hk =>
         obtain ⟨hb,hlh,hhl⟩:=sliceBounds_run (P:=P) (w:=w) he true 0 0 (Nat.le_refl _) heh hel
         simp at hhl
         subst hhl
         simp at hlh
         subst hlh
         refine ⟨.slice none 0 0,?_,by simpa using hr'⟩
         simp only [Instr.sliceAt,Instr.slice,Sem.run_bind,run_underlying h1,Result.andThen_ok,Option.map_none,hb,hz,Sem.run_pure]
         simp
        | refend _ _ b base cap sz nn oo hk hl hoo =>
         obtain ⟨hb,hlh,hhl⟩:=sliceBounds_run (P:=P) (w:=w) he true 0 0 (Nat.le_refl _) heh hel
         simp at hhl
         subst hhl
         simp at hlh
         subst hlh
         refine ⟨.slice (some ⟨b,oo,none⟩) 0 0,?_,by simpa using hr'⟩
         simp only [Instr.sliceAt,Instr.slice,Sem.run_bind,run_underlying h1,Result.andThen_ok,Option.map_none,hb,hz,Sem.run_pure]
         simp
        | ref _ _ _ b base cap sz nn hk hl =>
         obtain ⟨blk', hb', hlies⟩ := hw.own _ _ hk
         rw [hbk] at hb'
         simp at hb'
         subst hb'
         have hsz' : sz = ie.size:=by rw [← hlies.sz_eq]; simpa using hsz
         obtain ⟨hb,hlh,hhl⟩:=sliceBounds_run (P:=P) (w:=w) he true len (cap - off) (by omega) heh hel
         by_cases hcl : cap - off = ll
         ·
          have h0 : hh - ll = 0:=by omega
          refine ⟨.slice (some ⟨b,(base + off) * sz,none⟩) 0 0,?_,?_⟩
          ·
           simp only [Instr.sliceAt,Instr.slice,Sem.run_bind,run_underlying h1,Result.andThen_ok,Option.map_none,hb,hz,Sem.run_pure]
           simp [hcl,h0]
          ·
           rw [h0]
           exact .refend _ _ _ _ _ _ _ _ hk (by omega) (Nat.mul_le_mul_right _ (by omega))
         ·
          refine ⟨.slice (some ⟨b,(base + (off + ll)) * sz,none⟩) (hh - ll) (cap - (off + ll)),?_,.ref _ _ _ _ _ _ _ _ hk (by omega)⟩
          simp only [Instr.sliceAt,Instr.slice,Sem.run_bind,run_underlying h1,Result.andThen_ok,Option.map_none,hb,hz,Sem.run_pure]
          have e1 : (base + off) * sz + ll * sz = (base + (off + ll)) * sz:=by rw [← Nat.add_mul,Nat.add_assoc]
          simp [hcl, addr_add, ← hsz', e1]
          omega
       ·
        simp at h
      ·
       simp at h
     ·
      simp at h
    ·
     simp at h
   ·
    simp at h
  ·
   simp at h
 ·
  simp at h
end
end Go.AM
/- The abstract machine,part 8: comparisons,lengths; all operations that leave the world alone in one theorem. -/
namespace Go.AM
section
variable {P:Program} {I:Nat → Option (Array Value)} {κ:Nat → Option Loc} {w:World}
theorem map_im {o:Option D} {v:AV} (h:o.map AV.im = some v) : ∃ d,o = some d ∧ v = .im d:=by
 simp only [Option.map_eq_some_iff] at h
 obtain ⟨d,h,rfl⟩:=h
 exact ⟨d,h,rfl⟩
theorem equalIn_ptr (d:Nat) {t e:TypeId} (x:Option Addr) (h:P.underlying t = some (.pointer e)) : (Op.equalIn (d + 1) t (.pointer x) (.pointer none)).run P w = .ok x.isNone w:=by
 cases x <;> simp only [Op.equalIn,Sem.run_bind,run_underlying h,Result.andThen_ok,Sem.run_pure,Option.isNone_none,Option.isNone_some]
theorem equal_ptr {t e:TypeId} (x:Option Addr) (h:P.underlying t = some (.pointer e)) (op:BinOp) {d:D} (hd:eqOp op x.isNone = some d) :
  ∃ z,(binOp op t (.pointer x) (.pointer none)).run P w = .ok z w ∧ RD I d z:=by
 have he : (Op.equal t (.pointer x) (.pointer none)).run P w = .ok x.isNone w:=equalIn_ptr 9999 x h
 rcases eqOp_run hd with ⟨rfl,rfl⟩ | ⟨rfl,rfl⟩
 ·
  refine ⟨.bool x.isNone,?_,.bool _⟩
  show (do pure (.bool (← Op.equal t (.pointer x) (.pointer none))) : Sem Value).run P w = _
  rw [Sem.run_bind,he]
  rfl
 ·
  refine ⟨.bool (!x.isNone),?_,.bool _⟩
  show (do pure (.bool (!(← Op.equal t (.pointer x) (.pointer none)))) : Sem Value).run P w = _
  rw [Sem.run_bind,he]
  rfl
theorem ev0_binOp {T:Tab} (hT:T.ok P) {H:Heap} {env:Env} {a:Act} (he:RVs I κ env a.tmps.toList) {o:Oper} {op:BinOp} {t u:TypeId} {x y:Operand} (ho:o.op = .binOp op t x y u) {v:AV}
  (h:ev0 T env H o = some v) : Val P I κ w a o v:=by
 unfold ev0 at h
 unfold Val execOp
 rw [ho] at h ⊢
 simp only at h ⊢
 split at h
 ·
  rename_i k m k' n hx hy
  replace h:=map_im h; obtain ⟨d,h,rfl⟩:=h
  have r1:=opd_rv he hx
  have r2:=opd_rv he hy
  generalize hxe : a.eval x = xe at r1 ⊢
  generalize hye : a.eval y = ye at r2 ⊢
  cases r1 with
  | im _ _ r1=>cases r2 with
  | im _ _ r2 =>
   cases r1
   cases r2
   obtain ⟨z,hz,hr⟩:=binInt_run (P:=P) (I:=I) (w:=w) op t k k' m n h
   exact ⟨z,by simp [eqGuard_at_int,hz],.im _ _ hr⟩
 ·
  rename_i s s' hx hy
  replace h:=map_im h; obtain ⟨d,h,rfl⟩:=h
  have r1:=opd_rv he hx
  have r2:=opd_rv he hy
  generalize hxe : a.eval x = xe at r1 ⊢
  generalize hye : a.eval y = ye at r2 ⊢
  cases r1 with
  | im _ _ r1=>cases r2 with
  | im _ _ r2 =>
   cases r1
   cases r2
   obtain ⟨z,hz,hr⟩:=binStr_run (P:=P) (I:=I) (w:=w) op t s s' h
   exact ⟨z,by simp [eqGuard_at_string,hz],.im _ _ hr⟩
 ·
  rename_i b b' hx hy
  split at h
  ·
   rename_i _ _ _ ht
   have h1:=(hT.ty _ _ ht).desc
   simp only at h1
   replace h:=map_im h; obtain ⟨d,h,rfl⟩:=h
   have r1:=opd_rv he hx
   have r2:=opd_rv he hy
   generalize hxe : a.eval x = xe at r1 ⊢
   generalize hye : a.eval y = ye at r2 ⊢
   cases r1 with
   | im _ _ r1=>cases r2 with
   | im _ _ r2 =>
    cases r1
    cases r2
    rcases eqOp_run h with ⟨rfl,rfl⟩ | ⟨rfl,rfl⟩
    ·
     exact ⟨.bool (b == b'),by simp [eqGuard_at_bool,binOp,Op.equal,Op.maxDepth,run_equalIn_bool' w _ t b b' h1],.im _ _ (.bool _)⟩
    ·
     exact ⟨.bool (!(b == b')),by simp [eqGuard_at_bool,binOp,Op.equal,Op.maxDepth,run_equalIn_bool' w _ t b b' h1],.im _ _ (.bool _)⟩
  ·
   simp at h
 ·
  rename_i cs cs' hx hy
  split at h
  ·
   rename_i ht
   split at h
   ·
    rename_i r hr
    replace h:=map_im h; obtain ⟨d,h,rfl⟩:=h
    have r1:=opd_rv he hx
    have r2:=opd_rv he hy
    generalize hxe : a.eval x = xe at r1 ⊢
    generalize hye : a.eval y = ye at r2 ⊢
    cases r1 with
    | im _ _ r1=>cases r2 with
    | im _ _ r2 =>
     cases r1 with
     | agg _ va r1=>cases r2 with
     | agg _ vb r2 =>
      obtain ⟨z,hz,hrz⟩:=hT.eqt t _ _ ht I w x y op va vb r d r1 r2 hr h
      exact ⟨z,by simp only [Sem.run_bind,Sem.run_pure] at hz ⊢; rw [hz]; rfl,.im _ _ hrz⟩
   ·
    simp at h
  ·
   simp at h
 ·
  rename_i hx hy
  split at h
  ·
   rename_i _ _ _ _ ht
   have h1:=(hT.ty _ _ ht).desc
   simp only at h1
   replace h:=map_im h; obtain ⟨d,h,rfl⟩:=h
   have r1:=opd_rv he hx
   have r2:=opd_rv he hy
   generalize hxe : a.eval x = xe at r1 ⊢
   generalize hye : a.eval y = ye at r2 ⊢
   cases r1 with
   | im _ _ r1=>cases r2 with
   | im _ _ r2 =>
    cases r1
    cases r2
    obtain ⟨z,hz,hr⟩:=equal_ptr (P:=P) (I:=I) (w:=w) none h1 op h
    exact ⟨z,by simp only [eqGuard_at_pointer,Sem.run_bind,Sem.run_pure,Result.andThen_ok,hz],.im _ _ hr⟩
  ·
   simp at h
 ·
  rename_i ii jj kk hx hy
  split at h
  ·
   rename_i _ _ _ _ ht
   have h1:=(hT.ty _ _ ht).desc
   simp only at h1
   replace h:=map_im h; obtain ⟨d,h,rfl⟩:=h
   have r1:=opd_rv he hx
   have r2:=opd_rv he hy
   generalize hxe : a.eval x = xe at r1 ⊢
   generalize hye : a.eval y = ye at r2 ⊢
   cases r1 with
   | ptr _ _ _ b base cap sz nn hk=>cases r2 with
   | im _ _ r2 =>
    cases r2
    obtain ⟨z,hz,hr⟩:=equal_ptr (P:=P) (I:=I) (w:=w) (some ⟨b,(base + jj) * sz + kk,none⟩) h1 op h
    exact ⟨z,by simp only [eqGuard_at_pointer,Sem.run_bind,Sem.run_pure,Result.andThen_ok,hz],.im _ _ hr⟩
  ·
   simp at h
 ·
  rename_i dd kk hx hy
  split at h
  ·
   rename_i _ _ _ _ ht
   have h1:=(hT.ty _ _ ht).desc
   simp only at h1
   replace h:=map_im h; obtain ⟨d,h,rfl⟩:=h
   have r1:=opd_rv he hx
   have r2:=opd_rv he hy
   generalize hxe : a.eval x = xe at r1 ⊢
   generalize hye : a.eval y = ye at r2 ⊢
   cases r1 with
   | pe _ _ b off c vs hI hv hc=>cases r2 with
   | im _ _ r2 =>
    cases r2
    obtain ⟨z,hz,hr⟩:=equal_ptr (P:=P) (I:=I) (w:=w) (some ⟨b,off + kk,none⟩) h1 op h
    exact ⟨z,by simp only [eqGuard_at_pointer,Sem.run_bind,Sem.run_pure,Result.andThen_ok,hz],.im _ _ hr⟩
  ·
   simp at h
 ·
  simp at h
theorem opds_toList {env:Env} {a:Act} (he:RVs I κ env a.tmps.toList) {xs:Array Operand} {vs:List AV} (h:opds env xs.toList = some vs) : ∃ ws,(xs.map a.eval) = ws.toArray ∧ RVs I κ vs ws:=by
 refine ⟨xs.toList.map a.eval,?_,opds_rvs he h⟩
 cases xs
 simp
theorem ev0_call {T:Tab} (hT:T.ok P) {H:Heap} {env:Env} {a:Act} (he:RVs I κ env a.tmps.toList) {o:Oper} {c:Call} (ho:o.op = .call c) {v:AV}
  (h:ev0 T env H o = some v) : Val P I κ w a o v:=by
 obtain ⟨callee,args,argTypes⟩:=c
 unfold ev0 at h
 unfold Val execOp
 rw [ho] at h ⊢
 cases callee with
 | value f=>simp at h
 | invoke r m=>simp at h
 | builtin b =>
  simp only at h ⊢
  cases b <;> simp only at h <;> try (simp at h; done)
  case len =>
   split at h
   ·
    rename_i t x hat hop
    obtain ⟨ws,hws,hr⟩:=opds_toList he hop
    obtain ⟨v0,vs0⟩:=ws
    ·
     cases hr
    ·
     cases hr with
     | cons _ _ _ _ hr hn =>
     cases hn
     have hta : argTypes = #[t]:=by cases argTypes; simp_all
     subst hta
     split at h
     ·
      rename_i _ _ _ ht
      have h1:=(hT.ty _ _ ht).desc
      simp only at h1
      split at h
      ·
       rename_i s
       simp at h
       subst h
       cases hr with
       | im _ _ hr =>
       cases hr
       refine ⟨.int .i64 s.length,?_,.im _ _ (.int _ _)⟩
       simp [resolve,invoke,builtin,hws,Builtin.len_,run_underlying h1,goInt]
       rfl
      ·
       simp at h
     ·
      rename_i _ _ _ _ ht
      have h1:=(hT.ty _ _ ht).desc
      simp only at h1
      split at h
      ·
       rename_i tt sz es
       simp at h
       subst h
       cases hr with
       | im _ _ hr =>
       refine ⟨.int .i64 es.length,?_,.im _ _ (.int _ _)⟩
       cases hr <;> simp [resolve,invoke,builtin,hws,Builtin.len_,run_underlying h1,goInt]
      ·
       rename_i id off len
       simp at h
       subst h
       refine ⟨.int .i64 len,?_,.im _ _ (.int _ _)⟩
       cases hr <;> simp [resolve,invoke,builtin,hws,Builtin.len_,run_underlying h1,goInt]
      ·
       simp at h
     ·
      simp at h
   ·
    simp at h
  case min =>
   split at h
   ·
    rename_i k x k' y hop
    obtain ⟨ws,hws,hr⟩:=opds_toList he hop
    simp at h
    subst h
    cases hr with
    | cons _ _ _ _ h1 hn=>cases hn with
    | cons _ _ _ _ h2 hn =>
    cases hn
    cases h1 with
    | im _ _ h1=>cases h2 with
    | im _ _ h2 =>
    cases h1
    cases h2
    exact ⟨.int k (if y < x then y else x),by simp [resolve,invoke,builtin,hws,Builtin.min_,Builtin.min2],.im _ _ (.int _ _)⟩
   ·
    simp at h
  case max =>
   split at h
   ·
    rename_i k x k' y hop
    obtain ⟨ws,hws,hr⟩:=opds_toList he hop
    simp at h
    subst h
    cases hr with
    | cons _ _ _ _ h1 hn=>cases hn with
    | cons _ _ _ _ h2 hn =>
    cases hn
    cases h1 with
    | im _ _ h1=>cases h2 with
    | im _ _ h2 =>
    cases h1
    cases h2
    exact ⟨.int k (if y > x then y else x),by simp [resolve,invoke,builtin,hws,Builtin.max_,Builtin.max2],.im _ _ (.int _ _)⟩
   ·
    simp at h
theorem ev0_sound {T:Tab} (hT:T.ok P) {H:Heap} {env:Env} {a:Act} (hw:WR I κ H w) (he:RVs I κ env a.tmps.toList) {o:Oper} {v:AV}
  (h:ev0 T env H o = some v) : Val P I κ w a o v:=by
 cases ho : o.op with
 | move x=>exact ev0_move he (.inl ho) h
 | assign x=>exact ev0_move he (.inr ho) h
 | pick c x y=>exact ev0_pick he ho h
 | load t x=>exact ev0_load hT hw he ho h
 | nilCheck x=>exact ev0_nilCheck he ho h
 | binOp op t x y u=>exact ev0_binOp hT he ho h
 | unOp op t x=>exact ev0_unOp he ho h
 | convert s d x=>exact ev0_convert hT hw he ho h
 | makeInterface t x=>exact ev0_makeInterface hT he ho h
 | makeFunc f x y=>exact ev0_makeFunc he ho h
 | slice t x lo hi mx=>exact ev0_slice hT hw he ho h
 | fieldAddr s x f=>exact ev0_fieldAddr hT he ho h
 | field s x f=>exact ev0_field hT he ho h
 | indexAddr t x i=>exact ev0_indexAddr hT hw he ho h
 | index t x i=>exact ev0_index hT he ho h
 | extract x i=>exact ev0_extract he ho h
 | call c=>exact ev0_call hT he ho h
 | _=>unfold ev0 at h; rw [ho] at h; simp at h
end
end Go.AM
/- The abstract machine,part 9: operations that make memory. -/
namespace Go.AM
structure Grow (I:Nat → Option (Array Value)) (κ:Nat → Option Loc) (w:World) (I' : Nat → Option (Array Value)) (κ' : Nat → Option Loc) (w' : World) : Prop where
 below : RowKit.Below w.heap.size w w'
 im : ∀ b c,I b = some c → I' b = some c
 inew : ∀ b c,I' b = some c → I b = some c ∨ w.heap.size ≤ b
 loc : ∀ i l,κ i = some l → κ' i = some l
 lnew : ∀ i b base cap sz nn,κ' i = some (.at b base cap sz nn) → κ i = some (.at b base cap sz nn) ∨ w.heap.size ≤ b
section
variable {P:Program} {I I' : Nat → Option (Array Value)} {κ κ' : Nat → Option Loc} {w w' : World} {H:Heap}
theorem Grow.refl : Grow I κ w I κ w:=⟨.refl _ _,fun _ _ h=>h,fun _ _ h=>.inl h,fun _ _ h=>h,fun _ _ _ _ _ _ h=>.inl h⟩
theorem WR.lt_own (hw:WR I κ H w) {i b base cap sz nn} (h:κ i = some (.at b base cap sz nn)) : b < w.heap.size:=by
 obtain ⟨blk,_,hl⟩:=hw.own _ _ h
 rcases hl with ⟨_,hl,_⟩ | ⟨_,_,c,T,vs,hb,_⟩
 ·
  exact hl.lt
 ·
  exact (Array.getElem?_eq_some_iff.1 hb).1
theorem WR.lt_im (hw:WR I κ H w) {b c} (h:I b = some c) : b < w.heap.size:=by
 obtain ⟨T,fr,hb⟩:=hw.im _ _ h
 exact (Array.getElem?_eq_some_iff.1 hb).1
theorem Lies.grow {blk:Blk} {l:Loc} (hl:Lies I κ w blk l) (g:Grow I κ w I' κ' w') : Lies I' κ' w' blk l:=by
 cases l with
 | nil=>exact hl
 | «at» b base cap sz nn =>
  rcases hl with ⟨h1,h2,h3⟩ | ⟨h1,h0,c,T,vs,hb,hcap,hv,hsz,hc⟩
  ·
   exact .inl ⟨h1,h2.at (g.below.block _ h2.lt),h3⟩
  have hlt:=(Array.getElem?_eq_some_iff.1 hb).1
  exact .inr ⟨h1,h0,c,T,vs,(g.below.block _ hlt).trans hb,hcap,hv.mono g.im g.loc,hsz,hc⟩
theorem WR.lit (hw:WR I κ H w) (cells:Array Value) (T:TypeId) :
  let I':=fun b=>if b = w.heap.size then some cells else I b
  Grow I κ w I' κ (w.alloc (.cells cells T)) ∧ WR I' κ H (w.alloc (.cells cells T)):=by
 intro I'
 have hI : ∀ b c,I b = some c → I' b = some c:=fun b c h=>by
  have:=hw.lt_im h
  simp only [I']
  rw [if_neg (by omega)]
  exact h
 have g : Grow I κ w I' κ (w.alloc (.cells cells T)):=by
  refine ⟨(RowKit.Below.refl _ _).alloc (Nat.le_refl _) _,hI,fun b c h=>?_,fun _ _ h=>h,fun _ _ _ _ _ _ h=>.inl h⟩
  simp only [I'] at h
  split at h
  ·
   right; omega
  ·
   exact .inl h
 refine ⟨g,?_,fun id l h=>?_,hw.inj,fun id b base cap sz nn h=>?_⟩
 ·
  intro b c h
  simp only [I'] at h
  split at h
  ·
   rename_i hb
   simp at h
   subst hb h
   exact ⟨T,(0,0),heap_alloc_new w _⟩
  ·
   obtain ⟨T', fr, hb⟩ := hw.im _ _ h
   exact ⟨T', fr, (g.below.block _ (hw.lt_im h)).trans hb⟩
 ·
  obtain ⟨blk,hb,hl⟩:=hw.own _ _ h
  exact ⟨blk,hb,hl.grow g⟩
 ·
  have:=hw.lt_own h
  simp only [I']
  rw [if_neg (by omega)]
  exact hw.apart _ _ _ _ _ _ h
theorem WR.new (hw:WR I κ H w) {id:Nat} (hid:κ id = none) {blk:Blk} (hb:H[id]? = some (some blk)) (cells:Array Value) (T:TypeId) (cap:Nat) (h0:0 < blk.sz) (hcap:cap * blk.sz ≤ cells.size)
  {vs:List Value} (hv:RVs I κ (blk.es.flatMap AV.cells) vs) (hsz:∀ e ∈ blk.es,e.cells.length = blk.sz) (hc:∀ (i:Nat) (x:Value),vs[i]? = some x → cells[i]? = some x) :
  let κ':=fun i=>if i = id then some (.at w.heap.size 0 cap blk.sz blk.es.length) else κ i
  Grow I κ w I κ' (w.alloc (.cells cells T)) ∧ WR I κ' H (w.alloc (.cells cells T)):=by
 intro κ'
 have hκ : ∀ i l,κ i = some l → κ' i = some l:=fun i l h=>by
  simp only [κ']
  rw [if_neg (fun e=>by subst e; rw [hid] at h; cases h)]
  exact h
 have g : Grow I κ w I κ' (w.alloc (.cells cells T)):=by
  refine ⟨(RowKit.Below.refl _ _).alloc (Nat.le_refl _) _,fun _ _ h=>h,fun _ _ h=>.inl h,hκ,fun i b base cap sz nn h=>?_⟩
  simp only [κ'] at h
  split at h
  ·
   simp at h; right; omega
  ·
   exact .inl h
 refine ⟨g,fun b c h=>?_,fun i l h=>?_,fun i j b base cap sz nn base' cap' sz' nn' h1 h2=>?_,fun i b base cap sz nn h=>?_⟩
 ·
  obtain ⟨T', fr, hb⟩ := hw.im _ _ h
  exact ⟨T', fr, (g.below.block _ (hw.lt_im h)).trans hb⟩
 ·
  simp only [κ'] at h
  split at h
  ·
   rename_i hi
   subst hi
   simp at h
   subst h
   refine ⟨blk,hb,.inr ⟨⟨rfl,rfl⟩,h0,cells,T,vs,heap_alloc_new w _,by simpa using hcap,hv.mono g.im g.loc,hsz,by simpa using hc⟩⟩
  ·
   obtain ⟨blk', hb', hl⟩ := hw.own _ _ h
   exact ⟨blk', hb', hl.grow g⟩
 ·
  simp only [κ'] at h1 h2
  split at h1 <;> split at h2
  ·
   omega
  ·
   simp at h1
   have:=hw.lt_own h2
   omega
  ·
   simp at h2
   have:=hw.lt_own h1
   omega
  ·
   exact hw.inj _ _ _ _ _ _ _ _ _ _ _ h1 h2
 ·
  simp only [κ'] at h
  split at h
  ·
   simp at h
   cases hI : I b with
   | none=>rfl
   | some c=>have:=hw.lt_im hI; omega
  ·
   exact hw.apart _ _ _ _ _ _ h
theorem WR.newnil (hw:WR I κ H w) {id:Nat} (hid:κ id = none) {blk:Blk} (hb:H[id]? = some (some blk)) (hes:blk.es = []) :
  let κ':=fun i=>if i = id then some .nil else κ i
  Grow I κ w I κ' w ∧ WR I κ' H w:=by
 intro κ'
 have hκ : ∀ i l,κ i = some l → κ' i = some l:=fun i l h=>by
  simp only [κ']
  rw [if_neg (fun e=>by subst e; rw [hid] at h; cases h)]
  exact h
 have g : Grow I κ w I κ' w:=by
  refine ⟨.refl _ _,fun _ _ h=>h,fun _ _ h=>.inl h,hκ,fun i b base cap sz nn h=>?_⟩
  simp only [κ'] at h
  split at h
  ·
   simp at h
  ·
   exact .inl h
 refine ⟨g,hw.im,fun i l h=>?_,fun i j b base cap sz nn base' cap' sz' nn' h1 h2=>?_,fun i b base cap sz nn h=>?_⟩
 ·
  simp only [κ'] at h
  split at h
  ·
   rename_i hi
   subst hi
   simp at h
   subst h
   exact ⟨blk,hb,hes⟩
  ·
   obtain ⟨blk', hb', hl⟩ := hw.own _ _ h
   exact ⟨blk', hb', hl.grow g⟩
 ·
  simp only [κ'] at h1 h2
  split at h1
  ·
   simp at h1
  ·
   split at h2
   ·
    simp at h2
   ·
    exact hw.inj _ _ _ _ _ _ _ _ _ _ _ h1 h2
 ·
  simp only [κ'] at h
  split at h
  ·
   simp at h
  ·
   exact hw.apart _ _ _ _ _ _ h
def spl : List AV → Nat → List AV → List AV
 | acs,_,[]=>acs
 | acs,o,x :: xs=>spl (acs.set o x) (o + 1) xs
def fillA (place:Nat → Option (Nat × Nat)) (acs:List AV) : List (Nat × AV) → Option (List AV)
 | []=>some acs
 | (i,v) :: rest=>match place i with
  | some (off,size)=>if v.cells.length == size && size != 0 && off + size ≤ acs.length then fillA place (spl acs off v.cells) rest else none
  | none=>none
def opdsI (env:Env) : List (Nat × Operand) → Option (List (Nat × AV))
 | []=>some []
 | (i,x) :: xs=>match opd env x,opdsI env xs with
  | some v,some vs=>some ((i,v) :: vs)
  | _,_=>none
theorem spl_len : ∀ (xs acs:List AV) (o:Nat),(spl acs o xs).length = acs.length
 | [],acs,o=>rfl
 | x :: xs,acs,o=>by rw [spl,spl_len xs]; simp
theorem spl_rv : ∀ (xs acs:List AV) (o:Nat) (cells:Array Value) (vs:List Value) (k:Nat),RVs I κ acs cells.toList → RVs I κ xs vs → ∀ off,o = off + k →
  RVs I κ (spl acs o xs) ((vs.zipIdx k).foldl (fun cs (c,j)=>cs.setIfInBounds (off + j) c) cells).toList
 | [],acs,o,cells,vs,k,hc,hv,off,ho=>by cases hv; exact hc
 | x :: xs,acs,o,cells,vs,k,hc,hv,off,ho=>by
  cases hv with
  | cons _ _ v vs h hs =>
   rw [spl,List.zipIdx_cons,List.foldl_cons]
   refine spl_rv xs _ (o + 1) _ vs (k + 1) ?_ hs off (by omega)
   have:=hc.set o h
   subst ho
   simpa using this
theorem fill_rv (place:Nat → Option (Nat × Nat)) : ∀ (ps:List (Nat × AV)) (vs:List (Nat × Value)) (acs acs' : List AV) (cells:Array Value),RVs I κ acs cells.toList →
  ps.map (·.1) = vs.map (·.1) → RVs I κ (ps.map (·.2)) (vs.map (·.2)) → fillA place acs ps = some acs' → ∃ cells', Instr.fill place cells vs = some cells' ∧ RVs I κ acs' cells'.toList
 | [], vs, acs, acs', cells, hc, hk, hv, h => by
  cases vs with
  | nil=>simp [fillA] at h; subst h; exact ⟨cells,rfl,hc⟩
  | cons _ _=>simp at hk
 | (i, x) :: ps, vs, acs, acs', cells, hc, hk, hv, h => by
  cases vs with
  | nil=>simp at hk
  | cons jv vs =>
   obtain ⟨j,v⟩:=jv
   simp at hk
   obtain ⟨rfl,hk⟩:=hk
   simp only [List.map_cons] at hv
   cases hv with
   | cons _ _ _ _ hx hv =>
    unfold fillA at h
    split at h
    ·
     rename_i off size hp
     split at h
     ·
      rename_i hcond
      simp at hcond
      obtain ⟨⟨hl,hs⟩,ho⟩:=hcond
      have hxc:=hx.cells (by intro e; rw [e] at hl; simp at hl; omega)
      have hlen:=hxc.length
      have hlc:=hc.length
      simp at hlen hlc
      have:=spl_rv x.cells acs off cells v.cells.toList 0 hc hxc off rfl
      obtain ⟨cells', hf, hr⟩ := fill_rv place ps vs _ acs' _ this hk hv h
      refine ⟨cells', ?_, hr⟩
      unfold Instr.fill
      rw [hp]
      simp only
      rw [if_neg (by simp; omega)]
      have e : v.cells.zipIdx.foldl (fun cs (x:Value × Nat)=>cs.setIfInBounds (off + x.2) x.1) cells = (v.cells.toList.zipIdx 0).foldl (fun cs (x:Value × Nat)=>cs.setIfInBounds (off + x.2) x.1) cells:=by
       rw [← Array.foldl_toList,Array.toList_zipIdx]
      show Instr.fill place (v.cells.zipIdx.foldl (fun cs (x:Value × Nat)=>cs.setIfInBounds (off + x.2) x.1) cells) vs = some cells'
      rw [e]
      exact hf
     ·
      simp at h
    ·
     simp at h
theorem opdsI_rv {env:Env} {a:Act} (he:RVs I κ env a.tmps.toList) : ∀ {xs:List (Nat × Operand)} {vs},opdsI env xs = some vs →
  vs.map (·.1) = (xs.map fun (i,x)=>(i,a.eval x)).map (·.1) ∧ RVs I κ (vs.map (·.2)) ((xs.map fun (i,x)=>(i,a.eval x)).map (·.2))
 | [],vs,h=>by simp [opdsI] at h; subst h; exact ⟨rfl,.nil⟩
 | (i,x) :: xs,vs,h=>by
  unfold opdsI at h
  split at h
  ·
   rename_i v vs' h1 h2
   simp at h
   subst h
   obtain ⟨e,r⟩:=opdsI_rv he h2
   exact ⟨by simp [e],.cons _ _ _ _ (opd_rv he h1) r⟩
  ·
   simp at h
end
end Go.AM
/- The abstract machine,part 10: operations that make memory: what they come to. -/
namespace Go.AM
inductive Ans where
 | val (v:AV)
 | lit (ds:List D) (sz:Nat)
 | var (b:Blk)
 | row (b:Blk)
 | nilrow (sz:Nat)
def Ans.av (id:Nat) : Ans → AV
 | .val v=>v
 | .lit ds sz=>.im (.sl true sz ds)
 | .var _=>.ptr id 0 0
 | .row b=>.ref id 0 b.len
 | .nilrow _=>.ref id 0 0
def Ans.blk : Ans → Option Blk
 | .val _=>none
 | .lit _ _=>none
 | .var b=>some b
 | .row b=>some b
 | .nilrow sz=>some (.c sz [])
def one (sz:Nat) (v:AV) : Blk:=match v with
 | .im d=>.c sz [d]
 | v=>.m sz [v]
def many (sz:Nat) (es:List AV) : Blk:=match clos es with
 | some ds=>.c sz ds
 | none=>.m sz es
def places (T:Tab) : List Field → Option (List (Nat × Nat))
 | []=>some []
 | f :: fs=>match T.ty f.type,places T fs with
  | some i,some l=>some ((f.offset,i.size) :: l)
  | _,_=>none
def putEs (sz:Nat) : List AV → List (Nat × AV) → Option (List AV)
 | es,[]=>some es
 | es,(i,v) :: rest=>if v.cells.length == sz && Nat.blt i es.length then putEs sz (es.set i v) rest else none
def rep {α:Type} : Nat → α → List α
 | 0,_=>[]
 | n + 1,x=>x :: rep n x
def ev1 (T:Tab) (own:Nat → Bool) (env:Env) (o:Oper) : Option Ans :=
 match o.op with
 | .alloc t=>match T.ty t with
  | some i=>match constD i.zero with
   | some d=>if d.cells.length == i.size && i.size != 0 then some (.var (.c i.size [d])) else none
   | none=>none
  | none=>none
 | .box t x=>match T.ty t,opd env x with
  | some i,some v=>if v.cells.length == i.size && i.size != 0 then some (.var (one i.size v)) else none
  | _,_=>none
 | .build t parts=>match T.ty t with
  | some i=>match i.desc,constD i.zero,opdsI env parts.toList with
   | .struct fs,some d,some ps=>match places T fs.toList with
    | some pl=>match fillA (fun j=>pl[j]?) (d.cells.map .im) ps with
     | some cs=>some (.val (mkAgg cs))
     | none=>none
    | none=>none
   | .array _ e,some d,some ps=>match T.ty e with
    | some ie=>match fillA (fun j=>some (j * ie.size,ie.size)) (d.cells.map .im) ps with
     | some cs=>some (.val (mkAgg cs))
     | none=>none
    | none=>none
   | _,_,_=>none
  | none=>none
 | .buildSlice t len parts=>match T.ty t with
  | some ⟨.slice e,_,_,_⟩=>match T.ty e with
   | some ie=>match constD ie.zero,opdsI env parts.toList with
    | some z,some ps=>if z.cells.length == ie.size && ie.size != 0 && Nat.ble (len * ie.size) 16777216 then match putEs ie.size (rep len (.im z)) ps with
      | some es=>if own (o.dst.getD 0) then some (.row (many ie.size es)) else match clos es with
       | some ds=>some (.lit ds ie.size)
       | none=>none
      | none=>none
     else none
    | _,_=>none
   | none=>none
  | _=>none
 | .makeSlice t l c=>match T.ty t with
  | some ⟨.slice e,_,_,_⟩=>match T.ty e with
   | some ie=>match constD ie.zero,opd env l,opd env c with
    | some z,some (.im (.int _ n)),some (.im (.int _ m)) =>
     if z.cells.length == ie.size && ie.size != 0 && n == m && decide (0 ≤ n) && decide (n * ie.bytes ≤ 140737488355328) && decide (n ≤ 140737488355328) then some (.row (.c ie.size (rep n.toNat z))) else none
    | _,_,_=>none
   | none=>none
  | _=>none
 | .assign x=>if own (o.dst.getD 0) then match opd env x,T.ty o.type with
   | some (.im (.sl _ 0 [])),some ⟨.slice e,_,_,_⟩=>match T.ty e with
    | some ie=>some (.nilrow ie.size)
    | none=>none
   | _,_=>none
   else none
 | _=>none
theorem clos_map {es:List AV} {ds:List D} (h:clos es = some ds) : es = ds.map .im:=by
 induction es generalizing ds with
 | nil=>simp [clos] at h; subst h; rfl
 | cons x xs ih =>
  unfold clos at h
  split at h
  ·
   rename_i d ds' h1 h2
   simp at h
   subst h
   have : x = .im d:=by cases x <;> simp [clo] at h1; rw [h1]
   rw [this,ih h2]
   rfl
  ·
   simp at h
theorem one_es (sz:Nat) (v:AV) : (one sz v).es = [v]:=by cases v <;> rfl
theorem one_sz (sz:Nat) (v:AV) : (one sz v).sz = sz:=by cases v <;> rfl
theorem many_es (sz:Nat) (es:List AV) : (many sz es).es = es:=by
 unfold many
 split
 ·
  rename_i ds h; exact (clos_map h).symm
 ·
  rfl
theorem many_sz (sz:Nat) (es:List AV) : (many sz es).sz = sz:=by unfold many; split <;> rfl
theorem rep_map {α β:Type} (f:α → β) (n:Nat) (x:α) : (rep n x).map f = rep n (f x):=by
 induction n with
 | zero=>rfl
 | succ n ih=>simp [rep,ih]
theorem rep_eq {α:Type} (n:Nat) (x:α) : rep n x = List.replicate n x:=by
 induction n with
 | zero=>rfl
 | succ n ih=>simp [rep,ih,List.replicate_succ]
theorem spl_eq : ∀ (xs acs:List AV) (o:Nat),o + xs.length ≤ acs.length → spl acs o xs = acs.take o ++ xs ++ acs.drop (o + xs.length)
 | [],acs,o,h=>by simp [spl]
 | x :: xs,acs,o,h=>by
  simp at h
  rw [spl,spl_eq xs _ (o + 1) (by simp; omega)]
  apply List.ext_getElem?
  intro i
  simp only [List.getElem?_append,List.length_append,List.length_take,List.length_set,List.length_cons,List.getElem?_take,List.getElem?_set,List.getElem?_drop]
  rcases Nat.lt_trichotomy i o with hi | hi | hi
  ·
   have : i < min (o + 1) acs.length:=by omega
   have h2 : i < min o acs.length:=by omega
   simp [show i < o + 1 by omega,show ¬ o = i by omega,hi,show i < min (o + 1) acs.length + xs.length by omega,this,h2,show i < min o acs.length + (xs.length + 1) by omega]
  ·
   subst hi
   have : i < min (i + 1) acs.length:=by omega
   simp [show i < min (i + 1) acs.length + xs.length by omega,this,show ¬ i < min i acs.length by omega,show i < min i acs.length + (xs.length + 1) by omega,show i - min i acs.length = 0 by omega]
   omega
  ·
   have e1 : min (o + 1) acs.length = o + 1:=by omega
   have e2 : min o acs.length = o:=by omega
   rw [e1,e2]
   by_cases h3 : i < o + 1 + xs.length
   ·
    simp [h3,show ¬ i < o + 1 by omega,show ¬ i < o by omega,show i < o + (xs.length + 1) by omega]
    rw [show i - o = (i - (o + 1)) + 1 by omega,List.getElem?_cons_succ]
   ·
    simp [h3,show ¬ i < o + (xs.length + 1) by omega,show ¬ o = o + 1 + xs.length + (i - (o + 1 + xs.length)) by omega]
    congr 1
    omega
theorem spl_flat (sz:Nat) (h0:0 < sz) (v:AV) (hv:v.cells.length = sz) : ∀ (es:List AV) (i:Nat),(∀ e ∈ es,e.cells.length = sz) → i < es.length →
  spl (es.flatMap AV.cells) (i * sz) v.cells = (es.set i v).flatMap AV.cells
 | [],i,_,hi=>by simp at hi
 | e :: es,0,hl,hi=>by
  have he:=hl e (by simp)
  rw [spl_eq _ _ _ (by simp [flat_len AV.cells sz es (fun x hx=>hl x (by simp [hx]))]; omega)]
  simp only [List.flatMap_cons,Nat.zero_mul,List.take_zero,List.nil_append,Nat.zero_add,List.set_cons_zero,hv]
  rw [List.drop_append,List.drop_of_length_le (by omega),he]
  simp
 | e :: es,i + 1,hl,hi=>by
  have he:=hl e (by simp)
  have hl' : ∀ x ∈ es,x.cells.length = sz:=fun x hx=>hl x (by simp [hx])
  have hi' : i < es.length:=by simpa using hi
  have ih:=spl_flat sz h0 v hv es i hl' hi'
  have hb : i * sz + sz ≤ es.length * sz:=by rw [← Nat.succ_mul]; exact Nat.mul_le_mul_right _ hi'
  rw [spl_eq _ _ _ (by rw [flat_len AV.cells sz es hl', hv]; exact hb)] at ih
  rw [spl_eq _ _ _ (by rw [List.flatMap_cons, List.length_append, flat_len AV.cells sz es hl', hv, he, Nat.succ_mul]; omega)]
  simp only [List.flatMap_cons,List.set_cons_succ,← ih,hv,Nat.succ_mul]
  rw [List.take_append,List.take_of_length_le (by omega),he,show i * sz + sz - sz = i * sz by omega]
  rw [List.drop_append,List.drop_of_length_le (by omega),he,show i * sz + sz + sz - sz = i * sz + sz by omega]
  simp
theorem putEs_fill (sz:Nat) (h0:0 < sz) : ∀ (ps:List (Nat × AV)) (es es' : List AV),(∀ e ∈ es,e.cells.length = sz) → putEs sz es ps = some es' →
  fillA (fun j => some (j * sz, sz)) (es.flatMap AV.cells) ps = some (es'.flatMap AV.cells) ∧ (∀ e ∈ es', e.cells.length = sz) ∧ es'.length = es.length
 | [], es, es', hl, h => by simp [putEs] at h; subst h; exact ⟨rfl, hl, rfl⟩
 | (i, v) :: ps, es, es', hl, h => by
  unfold putEs at h
  split at h
  ·
   rename_i hc
   simp only [Bool.and_eq_true,beq_iff_eq,Nat.blt_eq] at hc
   obtain ⟨hv,hi⟩:=hc
   have hl' : ∀ e ∈ es.set i v,e.cells.length = sz:=fun e he=>by
    rcases List.mem_or_eq_of_mem_set he with h | h
    ·
     exact hl e h
    ·
     subst h; exact hv
   obtain ⟨h1,h2,h3⟩:=putEs_fill sz h0 ps (es.set i v) es' hl' h
   refine ⟨?_,h2,by simpa using h3⟩
   unfold fillA
   have hb : i * sz + sz ≤ es.length * sz:=by rw [← Nat.succ_mul]; exact Nat.mul_le_mul_right _ hi
   simp only
   rw [if_pos (by simp only [Bool.and_eq_true,beq_iff_eq,bne_iff_ne,decide_eq_true_eq,flat_len AV.cells sz es hl]; exact ⟨⟨hv,by omega⟩,hb⟩),spl_flat sz h0 v hv es i hl hi]
   exact h1
  ·
   simp at h
section
variable {P:Program} {I:Nat → Option (Array Value)} {κ:Nat → Option Loc} {w:World}
theorem made_toList (c:Array Value) (sz:Nat) (h0:0 < sz) (hzs:c.size = sz) (n:Nat) : (madeCells c (n * sz)).toList = (List.replicate n c.toList).flatMap id:=by
 apply List.ext_getElem?
 intro i
 have hfl : ((List.replicate n c.toList).flatMap id).length = n * sz:=by
  rw [flat_len id sz _ (fun e he=>by simp at he; rw [he.2]; simpa using hzs)]
  simp
 rcases Nat.lt_or_ge i (n * sz) with hi | hi
 ·
  have hj : i / sz < n:=Nat.div_lt_of_lt_mul (by rw [Nat.mul_comm]; exact hi)
  have hm : i % sz < sz:=Nat.mod_lt _ h0
  have hi' : i / sz * sz + i % sz = i:=by rw [Nat.mul_comm]; exact Nat.div_add_mod i sz
  have:=flat_get id sz (List.replicate n c.toList) (fun e he=>by simp at he; rw [he.2]; simpa using hzs) (i / sz) (i % sz) c.toList (by simp [hj]) hm
  rw [hi'] at this
  rw [this]
  have hlt : i % sz < c.size:=by omega
  simp [madeCells,hi,hzs]
  rw [getElem!_pos c _ hlt,Array.getElem?_eq_getElem hlt]
 ·
  rw [List.getElem?_eq_none (by simp [size_madeCells]; exact hi),List.getElem?_eq_none (by omega)]
theorem rep_rvs {z:D} {zv:Value} (hz:RD I z zv) (n sz:Nat) (h0:0 < sz) (hl:z.cells.length = sz) :
  RVs I κ ((rep n (.im z)).flatMap AV.cells) (madeCells zv.cells (n * sz)).toList:=by
 have hc:=hz.cells.toRVs (κ:=κ)
 have hzs : zv.cells.size = sz:=by have:=hz.cells.length; simp at this; omega
 have hcells : (AV.im z).cells = z.cells.map .im:=by cases z <;> rfl
 rw [made_toList _ sz h0 hzs,rep_eq]
 clear hl hzs h0
 induction n with
 | zero=>exact .nil
 | succ n ih =>
  simp only [List.replicate_succ,List.flatMap_cons]
  exact RVs.append (by rw [hcells]; exact hc) ih
end
end Go.AM
/- The abstract machine,part 11: what `ev1` says of an operation that makes memory the model's does. -/
namespace Go.AM
section
variable {P:Program} {I:Nat → Option (Array Value)} {κ:Nat → Option Loc} {w:World} {H:Heap}
def Made (P:Program) (I:Nat → Option (Array Value)) (κ:Nat → Option Loc) (H:Heap) (w:World) (a:Act) (o:Oper) (id:Nat) (v:AV) (b:Option Blk) : Prop :=
 ∃ x w' I' κ', (execOp a.eval o).run P w = .ok (.value x) w' ∧ Grow I κ w I' κ' w' ∧ WR I' κ' H w' ∧ RV I' κ' v x ∧ (∀ i, i ≠ id → κ' i = κ i) ∧ (b = none → κ' id = none) ∧ (b ≠ none → κ' id ≠ none)
theorem im_cells (d:D) : (AV.im d).cells = d.cells.map .im:=by cases d <;> rfl
theorem flat_im (ds:List D) : (ds.map AV.im).flatMap AV.cells = (ds.flatMap D.cells).map .im:=by
 induction ds with
 | nil=>rfl
 | cons d ds ih=>simp only [List.map_cons,List.flatMap_cons,List.map_append,ih,im_cells]
theorem made_val (hw:WR I κ H w) {a:Act} {o:Oper} {id:Nat} (hid:κ id = none) {v:AV} (h:Val P I κ w a o v) : Made P I κ H w a o id v none:=by
 obtain ⟨x,hr,hv⟩:=h
 exact ⟨x,w,I,κ,hr,.refl,hw,hv,fun _ _=>rfl,fun _=>hid,fun h=>absurd rfl h⟩
theorem made_new (hw:WR I κ H w) {a:Act} {o:Oper} {id:Nat} (hid:κ id = none) {blk:Blk} (hb:H[id]? = some (some blk)) (cells:Array Value) (T:TypeId) (cap:Nat) (h0:0 < blk.sz)
  (hcap:cap * blk.sz ≤ cells.size) {vs:List Value} (hv:RVs I κ (blk.es.flatMap AV.cells) vs) (hsz:∀ e ∈ blk.es,e.cells.length = blk.sz) (hc:∀ (i:Nat) (x:Value),vs[i]? = some x → cells[i]? = some x)
  {x:Value} {v:AV} (hrun:(execOp a.eval o).run P w = .ok (.value x) (w.alloc (.cells cells T)))
  (hx:∀ κ' : Nat → Option Loc,κ' id = some (.at w.heap.size 0 cap blk.sz blk.es.length) → RV I κ' v x) : Made P I κ H w a o id v (some blk):=by
 obtain ⟨g,hw'⟩:=hw.new hid hb cells T cap h0 hcap hv hsz hc
 refine ⟨x, _, I, _, hrun, g, hw', hx _ (by simp), fun i hi => by simp [hi], fun h => by simp at h, fun _ => by simp⟩
theorem ev1_alloc {T:Tab} (hT:T.ok P) {own:Nat → Bool} {env:Env} {a:Act} (hw:WR I κ H w) (he:RVs I κ env a.tmps.toList) {o:Oper} {t:TypeId} (ho:o.op = .alloc t) {ans:Ans} {id:Nat}
  (hid:κ id = none) (hH:∀ b,ans.blk = some b → H[id]? = some (some b)) (h:ev1 T own env o = some ans) : Made P I κ H w a o id (ans.av id) ans.blk:=by
 unfold ev1 at h
 rw [ho] at h
 simp only at h
 split at h
 ·
  rename_i i hi
  split at h
  ·
   rename_i d hd
   split at h
   ·
    rename_i hc
    simp at h
    subst h
    simp at hc
    have hr : RD I d i.zero:=constD_rd hd
    refine made_new (x:=.pointer (some ⟨w.heap.size,0,none⟩)) hw hid (hH _ rfl) i.zero.cells t 1 (by simp [Blk.sz]; omega) ?_ (vs:=i.zero.cells.toList) ?_ ?_ (by simp) ?_ (fun κ' hk=>?_)
    ·
     have:=hr.cells.length; simp [Blk.sz] at this ⊢; omega
    ·
     simpa [Blk.es,im_cells] using hr.cells.toRVs
    ·
     simp [Blk.es,im_cells,hc.1,Blk.sz]
    ·
     unfold execOp
     rw [ho]
     simp [Instr.alloc,run_zero (hT.ty _ _ hi),newVar,newRow]
    ·
     simpa [Ans.av] using RV.ptr (I:=I) id 0 0 _ _ _ _ _ hk
   ·
    simp at h
  ·
   simp at h
 ·
  simp at h
theorem ev1_box {T:Tab} (hT:T.ok P) {own:Nat → Bool} {env:Env} {a:Act} (hw:WR I κ H w) (he:RVs I κ env a.tmps.toList) {o:Oper} {t:TypeId} {x:Operand} (ho:o.op = .box t x) {ans:Ans} {id:Nat}
  (hid:κ id = none) (hH:∀ b,ans.blk = some b → H[id]? = some (some b)) (h:ev1 T own env o = some ans) : Made P I κ H w a o id (ans.av id) ans.blk:=by
 unfold ev1 at h
 rw [ho] at h
 simp only at h
 split at h
 ·
  rename_i i v hi hx
  split at h
  ·
   rename_i hc
   simp at h
   subst h
   simp at hc
   have hr:=opd_rv he hx
   have hrc:=hr.cells (by intro e; rw [e] at hc; simp at hc; omega)
   refine made_new (x:=.pointer (some ⟨w.heap.size,0,none⟩)) hw hid (hH _ rfl) (a.eval x).cells t 1 (by simp [one_sz]; omega) ?_ (vs:=(a.eval x).cells.toList) ?_ ?_ (by simp) ?_ (fun κ' hk=>?_)
   ·
    have:=hrc.length; simp [one_sz] at this ⊢; omega
   ·
    simpa [one_es] using hrc
   ·
    simp [one_es,one_sz,hc.1]
   ·
    unfold execOp
    rw [ho]
    simp [Instr.box,newVar,newRow]
   ·
    simpa [Ans.av] using RV.ptr (I:=I) id 0 0 _ _ _ _ _ hk
  ·
   simp at h
 ·
  simp at h
theorem places_run {T:Tab} (hT:T.ok P) : ∀ (fs:List Field) (pl:List (Nat × Nat)),places T fs = some pl → fs.mapM (fun f=>(P.info? f.type).map fun i=>(f.offset,i.size)) = some pl
 | [],pl,h=>by simp [places] at h; subst h; rfl
 | f :: fs,pl,h=>by
  unfold places at h
  split at h
  ·
   rename_i i l h1 h2
   simp at h
   subst h
   obtain ⟨g,hg,hs,_⟩:=(hT.ty _ _ h1).info
   simp [List.mapM_cons,hg,hs,places_run hT fs l h2]
  ·
   simp at h
theorem ev1_build {T:Tab} (hT:T.ok P) {own:Nat → Bool} {env:Env} {a:Act} (hw:WR I κ H w) (he:RVs I κ env a.tmps.toList) {o:Oper} {t:TypeId} {ps:Array (Nat × Operand)} (ho:o.op = .build t ps) {ans:Ans} {id:Nat}
  (hid:κ id = none) (hH:∀ b,ans.blk = some b → H[id]? = some (some b)) (h:ev1 T own env o = some ans) : Made P I κ H w a o id (ans.av id) ans.blk:=by
 unfold ev1 at h
 rw [ho] at h
 simp only at h
 have hps : ∀ {qs},opdsI env ps.toList = some qs → qs.map (·.1) = (ps.map fun (i,x)=>(i,a.eval x)).toList.map (·.1) ∧ RVs I κ (qs.map (·.2)) ((ps.map fun (i,x)=>(i,a.eval x)).toList.map (·.2)):=by
  intro qs hq
  have:=opdsI_rv (a:=a) he hq
  simpa using this
 split at h
 ·
  rename_i i hi
  split at h
  ·
   rename_i fs d qs hd hz hq
   split at h
   ·
    rename_i pl hpl
    split at h
    ·
     rename_i cs hcs
     simp at h
     subst h
     obtain ⟨e1,e2⟩:=hps hq
     have hr : RD I d i.zero:=constD_rd hz
     obtain ⟨cells', hf, hr'⟩ := fill_rv (fun j => pl[j]?) qs _ (d.cells.map .im) cs i.zero.cells (hr.cells.toRVs (κ := κ)) e1 e2 hcs
     refine made_val hw hid ⟨.agg cells', ?_, ?_⟩
     ·
      unfold execOp
      rw [ho]
      obtain ⟨g,hg,hs,hb,hzz⟩:=(hT.ty _ _ hi).info
      have hu:=(hT.ty _ _ hi).desc
      rw [hd] at hu
      have:=run_build (P:=P) w t (ps.map fun (i,x)=>(i,a.eval x)) cells' (by
       unfold Program.built
       simp only [hg,hu,hzz,places_run hT _ _ hpl]
       simpa using hf)
      simp [this]
     ·
      have:=mkAgg_rv hr'
      simpa [Ans.av] using this
    ·
     simp at h
   ·
    simp at h
  ·
   rename_i n e d qs hd hz hq
   split at h
   ·
    rename_i ie hie
    split at h
    ·
     rename_i cs hcs
     simp at h
     subst h
     obtain ⟨e1,e2⟩:=hps hq
     have hr : RD I d i.zero:=constD_rd hz
     obtain ⟨cells', hf, hr'⟩ := fill_rv (fun j => some (j * ie.size, ie.size)) qs _ (d.cells.map .im) cs i.zero.cells (hr.cells.toRVs (κ := κ)) e1 e2 hcs
     refine made_val hw hid ⟨.agg cells', ?_, ?_⟩
     ·
      unfold execOp
      rw [ho]
      obtain ⟨g,hg,hs,hb,hzz⟩:=(hT.ty _ _ hi).info
      obtain ⟨g', hg', hs', _⟩ := (hT.ty _ _ hie).info
      have hu:=(hT.ty _ _ hi).desc
      rw [hd] at hu
      have:=run_build (P:=P) w t (ps.map fun (i,x)=>(i,a.eval x)) cells' (by
       unfold Program.built
       simp only [hg, hu, hzz, hg', hs']
       simpa using hf)
      simp [this]
     ·
      have:=mkAgg_rv hr'
      simpa [Ans.av] using this
    ·
     simp at h
   ·
    simp at h
  ·
   simp at h
 ·
  simp at h
theorem ev1_buildSlice {T:Tab} (hT:T.ok P) {own:Nat → Bool} {env:Env} {a:Act} (hw:WR I κ H w) (he:RVs I κ env a.tmps.toList) {o:Oper} {t:TypeId} {len:Nat} {ps:Array (Nat × Operand)} (ho:o.op = .buildSlice t len ps) {ans:Ans} {id:Nat}
  (hid:κ id = none) (hH:∀ b,ans.blk = some b → H[id]? = some (some b)) (h:ev1 T own env o = some ans) : Made P I κ H w a o id (ans.av id) ans.blk:=by
 unfold ev1 at h
 rw [ho] at h
 simp only at h
 have hps : ∀ {qs},opdsI env ps.toList = some qs → qs.map (·.1) = (ps.map fun (i,x)=>(i,a.eval x)).toList.map (·.1) ∧ RVs I κ (qs.map (·.2)) ((ps.map fun (i,x)=>(i,a.eval x)).toList.map (·.2)):=by
  intro qs hq
  have:=opdsI_rv (a:=a) he hq
  simpa using this
 split at h
 ·
  rename_i e _ _ _ ht
  have h1:=(hT.ty _ _ ht).desc
  simp only at h1
  split at h
  ·
   rename_i ie hie
   obtain ⟨g,hg,hs,hb,hzz⟩:=(hT.ty _ _ hie).info
   split at h
   ·
    rename_i z qs hz hq
    split at h
    ·
     rename_i hc
     simp only [Bool.and_eq_true,beq_iff_eq,bne_iff_ne,Nat.ble_eq] at hc
     obtain ⟨⟨hzl,hs0⟩,hsmall⟩:=hc
     have h0 : 0 < ie.size:=by omega
     split at h
     ·
      rename_i es hes
      obtain ⟨e1,e2⟩:=hps hq
      have hr : RD I z ie.zero:=constD_rd hz
      have hlen0 : ∀ e ∈ rep len (AV.im z),e.cells.length = ie.size:=by
       intro e he
       rw [rep_eq] at he
       simp at he
       rw [he.2,im_cells]
       simpa using hzl
      obtain ⟨hf,hlen,hl⟩:=putEs_fill ie.size h0 qs _ es hlen0 hes
      obtain ⟨cells', hf', hr'⟩ := fill_rv (fun j => some (j * ie.size, ie.size)) qs _ _ _ (madeCells ie.zero.cells (len * ie.size)) (rep_rvs (κ := κ) hr len ie.size h0 hzl) e1 e2 hf
      have hl' : es.length = len:=by rw [hl,rep_eq]; simp
      have hrun : (execOp a.eval o).run P w = .ok (.value (.slice (some ⟨w.heap.size,0,none⟩) len len)) (w.alloc (.cells cells' e)):=by
       unfold execOp
       rw [ho]
       have : (Instr.buildSlice t len (ps.map fun (i,x)=>(i,a.eval x))).run P w = .ok (.slice (some ⟨w.heap.size,0,none⟩) len len) (w.alloc (.cells cells' e)):=by
        rw [← hs] at hf' hsmall h0
        have hle : ¬ len * g.size > 2 ^ 24:=by omega
        by_cases hpos : len * g.size = 0
        ·
         have : len = 0:=by
          rcases Nat.mul_eq_zero.1 hpos with h | h
          ·
           exact h
          ·
           omega
         subst this
         simp only [Instr.buildSlice,Sem.run_bind,run_underlying h1,Result.andThen_ok,sizeOf,typeInfo,run_program,hg,Sem.run_pure]
         simp only [Nat.zero_mul,Nat.not_lt_zero,gt_iff_lt,if_false,if_true,Sem.run_bind,Sem.run_pure,Result.andThen_ok]
         simp only [Nat.zero_mul, madeCells, Array.range_zero', Array.map_empty] at hf'
         simp only [Array.range_zero', Array.map_empty, hf', Sem.run_bind, newRow, Sem.run_pure, Result.andThen_ok]
         rfl
        ·
         exact run_buildSlice w t e len _ cells' g ie.zero h1 hg hzz hle hpos hf'
       simp [this]
      split at h
      ·
       simp at h
       subst h
       refine made_new hw hid (hH _ rfl) cells' e len (by rw [many_sz]; exact h0) ?_ (by rw [many_es]; exact hr') (by rw [many_es,many_sz]; exact hlen) (by simp) hrun (fun κ' hk=>?_)
       ·
        have:=hr'.length
        rw [flat_len AV.cells ie.size es hlen,hl'] at this
        simp [many_sz] at this ⊢
        omega
       ·
        have:=RV.ref (I:=I) id 0 len _ _ _ _ _ hk (by rw [many_es]; omega)
        simp [Ans.av,Blk.len_eq,many_es,hl'] at this ⊢
        exact this
      ·
       split at h
       ·
        rename_i ds hds
        simp at h
        subst h
        obtain ⟨g', hw'⟩ := hw.lit cells' e
        refine ⟨_, _, _, κ, hrun, g', hw', .im _ _ ?_, fun _ _ => rfl, fun _ => hid, fun h => absurd rfl h⟩
        have hem:=clos_map hds
        rw [hem,flat_im] at hr'
        have hdl : ds.length = len := by rw [← hl', hem]; simp
        rw [← hdl]
        refine .sl true ie.size ds w.heap.size 0 ds.length cells' cells'.toList h0 (by simp) (hr'.toRDs.mono g'.im) (by simp) ?_ (fun _=>rfl) (Nat.le_refl _)
        ·
         intro d hd
         have:=hlen (.im d) (by rw [hem]; simp [hd])
         rw [im_cells] at this
         simpa using this
       ·
        simp at h
     ·
      simp at h
    ·
     simp at h
   ·
    simp at h
  ·
   simp at h
 ·
  simp at h
theorem ev1_makeSlice {T:Tab} (hT:T.ok P) {own:Nat → Bool} {env:Env} {a:Act} (hw:WR I κ H w) (he:RVs I κ env a.tmps.toList) {o:Oper} {t:TypeId} {l c:Operand} (ho:o.op = .makeSlice t l c) {ans:Ans} {id:Nat}
  (hid:κ id = none) (hH:∀ b,ans.blk = some b → H[id]? = some (some b)) (h:ev1 T own env o = some ans) : Made P I κ H w a o id (ans.av id) ans.blk:=by
 unfold ev1 at h
 rw [ho] at h
 simp only at h
 split at h
 ·
  rename_i e _ _ _ ht
  have h1:=(hT.ty _ _ ht).desc
  simp only at h1
  split at h
  ·
   rename_i ie hie
   obtain ⟨g,hg,hs,hb,hzz⟩:=(hT.ty _ _ hie).info
   split at h
   ·
    rename_i z kl n kc m hz hl hc
    split at h
    ·
     rename_i hcond
     simp only [Bool.and_eq_true,beq_iff_eq,bne_iff_ne,decide_eq_true_eq] at hcond
     obtain ⟨⟨⟨⟨⟨hzl,hs0⟩,hnm⟩,hn0⟩,hby⟩,hn1⟩:=hcond
     subst hnm
     simp at h
     subst h
     have h0 : 0 < ie.size:=by omega
     have hr : RD I z ie.zero:=constD_rd hz
     have r1:=opd_rv he hl
     have r2:=opd_rv he hc
     generalize hle : a.eval l = lv at r1
     generalize hce : a.eval c = cv at r2
     cases r1 with
     | im _ _ r1=>cases r2 with
     | im _ _ r2 =>
     cases r1
     cases r2
     have hrun:=run_make (P:=P) w t e g ie.zero h1 hg hzz kl kc n n hn0 (Int.le_refl _) (by rw [hb,Int.mul_comm]; omega) (by omega)
     have hlen0 : ∀ e ∈ rep n.toNat (AV.im z),e.cells.length = ie.size:=by
      intro e he
      rw [rep_eq] at he
      simp at he
      rw [he.2,im_cells]
      simpa using hzl
     refine made_new (x:=.slice (some ⟨w.heap.size,0,none⟩) n.toNat n.toNat) hw hid (hH _ rfl) (madeCells ie.zero.cells (n.toNat * ie.size)) e n.toNat h0 (by simp [size_madeCells,Blk.sz]) (by simp only [Blk.es,rep_map]; exact rep_rvs (κ:=κ) hr n.toNat ie.size h0 hzl) (by simp only [Blk.es,rep_map]; exact hlen0) (by simp) ?_ (fun κ' hk=>?_)
     ·
      unfold execOp
      rw [ho]
      rw [hs] at hrun
      simp [hle,hce,hrun]
     ·
      have:=RV.ref (I:=I) id 0 n.toNat _ _ _ _ _ hk (by simp [Blk.es,rep_eq])
      simp [Ans.av,Blk.len,rep_eq] at this ⊢
      exact this
    ·
     simp at h
   ·
    simp at h
  ·
   simp at h
 ·
  simp at h
theorem ev1_assign {T:Tab} (hT:T.ok P) {own:Nat → Bool} {env:Env} {a:Act} (hw:WR I κ H w) (he:RVs I κ env a.tmps.toList) {o:Oper} {x:Operand} (ho:o.op = .assign x) {ans:Ans} {id:Nat}
  (hid:κ id = none) (hH:∀ b,ans.blk = some b → H[id]? = some (some b)) (h:ev1 T own env o = some ans) : Made P I κ H w a o id (ans.av id) ans.blk:=by
 unfold ev1 at h
 rw [ho] at h
 simp only at h
 split at h
 ·
  split at h
  ·
   rename_i tt e _ _ _ hx ht
   split at h
   ·
    rename_i ie hie
    simp at h
    subst h
    have hr:=opd_rv he hx
    obtain ⟨g,hw'⟩:=hw.newnil hid (hH _ rfl) rfl
    generalize hxe : a.eval x = xe at hr
    cases hr with
    | im _ _ hr =>
    cases hr with
    | slnil =>
     refine ⟨.slice none 0 0, w, I, _, ?_, g, hw', ?_, fun i hi => by simp [hi], fun h => by simp [Ans.blk] at h, fun _ => by simp⟩
     ·
      unfold execOp
      rw [ho]
      simp [hxe]
     ·
      exact .refnil _ (by simp)
    | slz _ _ _ hh=>omega
    | sle _ _ _ hh=>omega
    | sl _ _ _ _ _ _ _ _ h0=>omega
   ·
    simp at h
  ·
   simp at h
 ·
  simp at h
theorem ev1_sound {T:Tab} (hT:T.ok P) {own:Nat → Bool} {env:Env} {a:Act} (hw:WR I κ H w) (he:RVs I κ env a.tmps.toList) {o:Oper} {ans:Ans} {id:Nat}
  (hid:κ id = none) (hH:∀ b,ans.blk = some b → H[id]? = some (some b)) (h:ev1 T own env o = some ans) : Made P I κ H w a o id (ans.av id) ans.blk:=by
 cases ho : o.op with
 | alloc t=>exact ev1_alloc hT hw he ho hid hH h
 | box t x=>exact ev1_box hT hw he ho hid hH h
 | build t ps=>exact ev1_build hT hw he ho hid hH h
 | buildSlice t n ps=>exact ev1_buildSlice hT hw he ho hid hH h
 | makeSlice t l c=>exact ev1_makeSlice hT hw he ho hid hH h
 | assign x=>exact ev1_assign hT hw he ho hid hH h
 | _=>unfold ev1 at h; rw [ho] at h; simp at h
end
end Go.AM
/- The abstract machine,part 12: what becomes of values where an own block turns into another,or into an immutable one; where a function stands. -/
namespace Go.AM
mutual
def AV.sub (id:Nat) (fr:Nat → Nat → AV) : AV → AV
 | .ref i o l=>if i == id then fr o l else .ref i o l
 | .ptr i j k=>if i == id then .bad else .ptr i j k
 | .agg cs=>mkAgg (AV.subs id fr cs)
 | .fn f a c=>mkFn f (AV.subs id fr a) (AV.subs id fr c)
 | .ifc t x=>mkIfc t (AV.sub id fr x)
 | .tup vs=>.tup (AV.subs id fr vs)
 | .im d=>.im d
 | .pe d k=>.pe d k
 | .mp i=>if i == id then .bad else .mp i
 | .bad=>.bad
def AV.subs (id:Nat) (fr:Nat → Nat → AV) : List AV → List AV
 | []=>[]
 | x :: xs=>AV.sub id fr x :: AV.subs id fr xs
end
def el (x:AV) : AV:=match x with
 | .bad=>.agg [.bad]
 | x=>x
def Blk.sub (id:Nat) (fr:Nat → Nat → AV) : Blk → Blk
 | .c sz ds=>.c sz ds
 | .m sz es=>many sz (es.map fun e=>el (AV.sub id fr e))
 | .o ds=>.o ds
def Heap.sub (id:Nat) (fr:Nat → Nat → AV) (H:Heap) : Heap:=H.map fun b=>b.map (Blk.sub id fr)
theorem subs_eq (id:Nat) (fr:Nat → Nat → AV) (xs:List AV) : AV.subs id fr xs = xs.map (AV.sub id fr):=by
 induction xs with
 | nil=>rfl
 | cons x xs ih=>simp [AV.subs,ih]
theorem mkAgg_cells (cs:List AV) : (mkAgg cs).cells = cs:=by
 unfold mkAgg
 split
 ·
  rename_i ds h; simp [AV.cells,clos_map h]
 ·
  rfl
def fine (fr:Nat → Nat → AV) : Prop:=∀ o l,fr o l = .bad ∨ ∃ t sz es,fr o l = .im (.sl t sz es)
theorem sub_cells {id:Nat} {fr:Nat → Nat → AV} (hf:fine fr) {e:AV} (he:e.cells ≠ []) : (el (AV.sub id fr e)).cells = e.cells.map (AV.sub id fr):=by
 cases e with
 | im d =>
  have h1 : AV.sub id fr (.im d) = .im d:=by simp [AV.sub]
  have h2 : ∀ ds : List D,(ds.map AV.im).map (AV.sub id fr) = ds.map .im:=by
   intro ds
   induction ds with
   | nil=>rfl
   | cons d ds ih=>simp only [List.map_cons,ih,AV.sub]
  rw [h1,im_cells,h2]
  exact im_cells d
 | ref i o l =>
  cases hi : (i == id) with
  | true=>rcases hf o l with h | ⟨t,sz,es,h⟩ <;> simp [AV.cells,AV.sub,hi,h,el]
  | false=>simp [AV.cells,AV.sub,hi,el]
 | ptr i j k =>
  cases hi : (i == id) <;> simp [AV.cells,AV.sub,hi,el]
 | mp i =>
  cases hi : (i == id) <;> simp [AV.cells,AV.sub,hi,el]
 | pe d k=>simp [AV.cells,AV.sub,el]
 | agg cs =>
  have e1 : AV.sub id fr (.agg cs) = mkAgg (cs.map (AV.sub id fr)):=by simp only [AV.sub,subs_eq]
  have : el (mkAgg (cs.map (AV.sub id fr))) = mkAgg (cs.map (AV.sub id fr)):=by
   unfold mkAgg; split <;> rfl
  rw [e1,this,mkAgg_cells]
  rfl
 | fn f a c =>
  have e1 : AV.sub id fr (.fn f a c) = mkFn f (AV.subs id fr a) (AV.subs id fr c):=by simp only [AV.sub]
  have : ∀ x y,(el (mkFn f x y)).cells = [mkFn f x y]:=by
   intro x y
   unfold mkFn
   split <;> rfl
  rw [e1,this]
  show _ = [AV.sub id fr (.fn f a c)]
  rw [e1]
 | ifc t x =>
  have e1 : AV.sub id fr (.ifc t x) = mkIfc t (AV.sub id fr x):=by simp only [AV.sub]
  have : ∀ y,(el (mkIfc t y)).cells = [mkIfc t y]:=by
   intro y
   unfold mkIfc
   split <;> rfl
  rw [e1,this]
  show _ = [AV.sub id fr (.ifc t x)]
  rw [e1]
 | tup vs=>exact absurd rfl he
 | bad=>exact absurd rfl he
section
variable {P:Program} {I I' : Nat → Option (Array Value)} {κ κ' : Nat → Option Loc} {w w' : World} {H:Heap}
mutual
theorem RV.sub {id:Nat} {fr:Nat → Nat → AV} (hI:∀ b c,I b = some c → I' b = some c) (hκ:∀ i l,i ≠ id → κ i = some l → κ' i = some l)
  (hf:∀ o l v,RV I κ (.ref id o l) v → RV I' κ' (fr o l) v) : ∀ {x v},RV I κ x v → RV I' κ' (AV.sub id fr x) v
 | _,_,.im d v h=>.im _ _ (h.mono hI)
 | _,_,.refnil i h=>by
  by_cases hi : i = id
  ·
   subst hi; simp only [AV.sub,beq_self_eq_true,if_true]; exact hf _ _ _ (.refnil _ h)
  ·
   simp only [AV.sub,beq_iff_eq,hi,if_false]; exact .refnil _ (hκ _ _ hi h)
 | _,_,.ref i off len b base cap sz nn h hl=>by
  by_cases hi : i = id
  ·
   subst hi; simp only [AV.sub,beq_self_eq_true,if_true]; exact hf _ _ _ (.ref _ _ _ _ _ _ _ _ h hl)
  ·
   simp only [AV.sub,beq_iff_eq,hi,if_false]; exact .ref _ _ _ _ _ _ _ _ (hκ _ _ hi h) hl
 | _,_,.refend i off b base cap sz nn o h hl ho=>by
  by_cases hi : i = id
  ·
   subst hi; simp only [AV.sub,beq_self_eq_true,if_true]; exact hf _ _ _ (.refend _ _ _ _ _ _ _ _ h hl ho)
  ·
   simp only [AV.sub,beq_iff_eq,hi,if_false]; exact .refend _ _ _ _ _ _ _ _ (hκ _ _ hi h) hl ho
 | _,_,.ptr i j k b base cap sz nn h=>by
  by_cases hi : i = id
  ·
   subst hi; simp only [AV.sub,beq_self_eq_true,if_true]; exact .bad _
  ·
   simp only [AV.sub,beq_iff_eq,hi,if_false]; exact .ptr _ _ _ _ _ _ _ _ (hκ _ _ hi h)
 | _,_,.mp i b base cap sz nn h=>by
  by_cases hi : i = id
  ·
   subst hi; simp only [AV.sub,beq_self_eq_true,if_true]; exact .bad _
  ·
   simp only [AV.sub,beq_iff_eq,hi,if_false]; exact .mp _ _ _ _ _ _ (hκ _ _ hi h)
 | _,_,.pe d k b off c vs h hv hc=>.pe _ _ _ _ _ _ (hI _ _ h) (hv.mono hI) hc
 | _,_,.agg cs vs h=>by simp only [AV.sub]; exact mkAgg_rv (RVs.sub hI hκ hf h)
 | _,_,.fn f a c va vc h h'=>by simp only [AV.sub]; exact mkFn_rv (RVs.sub hI hκ hf h) (RVs.sub hI hκ hf h')
 | _,_,.ifc t x v h=>by simp only [AV.sub]; exact mkIfc_rv (RV.sub hI hκ hf h)
 | _,_,.tup vs ws h=>by simp only [AV.sub]; exact .tup _ _ (RVs.sub hI hκ hf h)
 | _,_,.bad v=>by simp only [AV.sub]; exact .bad v
theorem RVs.sub {id:Nat} {fr:Nat → Nat → AV} (hI:∀ b c,I b = some c → I' b = some c) (hκ:∀ i l,i ≠ id → κ i = some l → κ' i = some l)
  (hf:∀ o l v,RV I κ (.ref id o l) v → RV I' κ' (fr o l) v) : ∀ {xs vs},RVs I κ xs vs → RVs I' κ' (AV.subs id fr xs) vs
 | _,_,.nil=>.nil
 | _,_,.cons _ _ _ _ h hs=>.cons _ _ _ _ (RV.sub hI hκ hf h) (RVs.sub hI hκ hf hs)
end
theorem Blk.sub_sz (id:Nat) (fr:Nat → Nat → AV) (b:Blk) : (b.sub id fr).sz = b.sz:=by
 cases b with
 | c sz ds=>rfl
 | m sz es=>exact many_sz _ _
 | o ds=>rfl
theorem Blk.sub_len (id:Nat) (fr:Nat → Nat → AV) (b:Blk) : (b.sub id fr).es.length = b.es.length:=by
 cases b with
 | c sz ds=>rfl
 | m sz es =>
  have e1 : ((Blk.m sz es).sub id fr).es = es.map fun e=>el (AV.sub id fr e):=many_es _ _
  rw [e1]
  simp [Blk.es]
 | o ds=>rfl
theorem flat_sub {id:Nat} {fr:Nat → Nat → AV} (hf:fine fr) (es:List AV) (h:∀ e ∈ es,e.cells ≠ []) :
  ((es.map fun e=>el (AV.sub id fr e)).flatMap AV.cells) = AV.subs id fr (es.flatMap AV.cells):=by
 rw [subs_eq]
 induction es with
 | nil=>rfl
 | cons e es ih =>
  simp only [List.map_cons,List.flatMap_cons,List.map_append]
  rw [sub_cells hf (h e (by simp)),ih (fun e he=>h e (by simp [he]))]
theorem flat_sub_im {id:Nat} {fr:Nat → Nat → AV} (ds:List D) : AV.subs id fr ((ds.map AV.im).flatMap AV.cells) = (ds.map AV.im).flatMap AV.cells:=by
 rw [flat_im,subs_eq]
 induction (ds.flatMap D.cells) with
 | nil=>rfl
 | cons d ds ih=>simp only [List.map_cons,ih,AV.sub]
theorem Lies.sub {id:Nat} {fr:Nat → Nat → AV} (hfine:fine fr) (hI:∀ b c,I b = some c → I' b = some c) (hκ:∀ i l,i ≠ id → κ i = some l → κ' i = some l)
  (hf:∀ o l v,RV I κ (.ref id o l) v → RV I' κ' (fr o l) v) {blk:Blk} {l:Loc} (hl:Lies I κ w blk l)
  (hw:∀ b base cap sz nn,l = .at b base cap sz nn → w'.heap[b]? = w.heap[b]?) : Lies I' κ' w' (blk.sub id fr) l:=by
 cases l with
 | nil =>
  have h : blk.es = []:=hl
  show (blk.sub id fr).es = []
  cases blk with
  | c sz ds=>exact h
  | m sz es=>simp [Blk.es] at h; subst h; rfl
  | o ds=>rfl
 | «at» b base cap sz nn =>
  rcases hl with ⟨h1,h2,h3⟩ | ⟨h1,h0,c,T,vs,hb,hcap,hv,hsz,hc⟩
  ·
   cases blk with
   | o ds=>exact .inl ⟨rfl,h2.at (hw _ _ _ _ _ rfl),h3⟩
   | _=>cases h1
  refine .inr ?_
  have hv':=RVs.sub hI hκ hf hv
  have hne : ∀ e ∈ blk.es,e.cells ≠ []:=fun e he h=>by have:=hsz e he; rw [h] at this; simp at this; omega
  refine ⟨by rw [Blk.sub_sz,Blk.sub_len]; exact h1,h0,c,T,vs,(hw _ _ _ _ _ rfl).trans hb,hcap,?_,?_,hc⟩
  ·
   cases blk with
   | c s ds=>simp only [Blk.es] at hv' ⊢; rw [flat_sub_im] at hv'; exact hv'
   | m s es =>
    have e1 : ((Blk.m s es).sub id fr).es = es.map fun e=>el (AV.sub id fr e):=many_es _ _
    rw [e1,flat_sub hfine es hne]
    exact hv'
   | o ds=>simpa [Blk.es,Blk.sub,AV.subs] using hv'
  ·
   cases blk with
   | c s ds=>exact hsz
   | m s es =>
    intro e he
    have e1 : ((Blk.m s es).sub id fr).es = es.map fun e=>el (AV.sub id fr e):=many_es _ _
    rw [e1,List.mem_map] at he
    obtain ⟨e0,he0,rfl⟩:=he
    rw [sub_cells hfine (hne e0 he0)]
    simpa using hsz e0 he0
   | o ds=>intro e he; simp [Blk.sub,Blk.es] at he
structure Move (A:Nat → Prop) (I:Nat → Option (Array Value)) (w:World) (I' : Nat → Option (Array Value)) (w' : World) : Prop where
 os : w'.os = w.os
 tape : w'.tape = w.tape
 output : w'.output = w.output
 size : w.heap.size ≤ w'.heap.size
 block : ∀ b,b < w.heap.size → ¬ A b → w'.heap[b]? = w.heap[b]?
 im : ∀ b c,I b = some c → I' b = some c
 inew : ∀ b c,I' b = some c → I b = some c ∨ A b ∨ w.heap.size ≤ b
theorem Move.refl (A:Nat → Prop) : Move A I w I w:=⟨rfl,rfl,rfl,Nat.le_refl _,fun _ _ _=>rfl,fun _ _ h=>h,fun _ _ h=>.inl h⟩
theorem Move.trans {A:Nat → Prop} {I'' : Nat → Option (Array Value)} {w'' : World} (m:Move A I w I' w') {B:Nat → Prop} (n:Move B I' w' I'' w'') (hB:∀ b,B b → A b ∨ w.heap.size ≤ b) : Move A I w I'' w'' where
 os:=n.os.trans m.os
 tape:=n.tape.trans m.tape
 output:=n.output.trans m.output
 size:=Nat.le_trans m.size n.size
 block b hb hA:=(n.block b (Nat.lt_of_lt_of_le hb m.size) (fun h=>by rcases hB b h with h | h; exact hA h; omega)).trans (m.block b hb hA)
 im b c h:=n.im _ _ (m.im _ _ h)
 inew b c h:=by
  rcases n.inew _ _ h with h | h | h
  ·
   exact m.inew _ _ h
  ·
   exact .inr (hB b h)
  ·
   have:=m.size; exact .inr (.inr (by omega))
theorem Grow.move (g:Grow I κ w I' κ' w') : Move (fun _=>False) I w I' w' where
 os:=g.below.os
 tape:=g.below.tape
 output:=g.below.output
 size:=g.below.size
 block b hb _:=g.below.block b hb
 im:=g.im
 inew b c h:=(g.inew b c h).imp_right .inr
structure St (DF:List Deferred) (A:Nat → Prop) (κ0:Nat → Option Loc) (nl:Nat) (I0:Nat → Option (Array Value)) (w0:World) (I:Nat → Option (Array Value)) (κ:Nat → Option Loc) (H:Heap) (w:World) (env:Env) (a:Act) : Prop where
 wr : WR I κ H w
 env : RVs I κ env a.tmps.toList
 mv : Move A I0 w0 I w
 own : ∀ i b base cap sz nn,κ i = some (.at b base cap sz nn) → A b ∨ w0.heap.size ≤ b
 dom : ∀ i blk,H[i]? = some (some blk) → ∃ l,κ i = some l
 nodef : a.defers = DF
 lent : ∀ i,i < nl → ∀ l,κ i = some l → κ0 i = some l
 len : nl ≤ H.length
theorem St.put {DF:List Deferred} {A:Nat → Prop} {κ0 nl I0 w0 env a} (s:St DF A κ0 nl I0 w0 I κ H w env a) {x:AV} {v:Value} (h:RV I κ x v) (d:Option Tmp) : St DF A κ0 nl I0 w0 I κ H w (match d with | some d=>env.set d x | none=>env) (a.put d v):=by
 refine ⟨s.wr,?_,s.mv,s.own,s.dom,by cases d <;> exact s.nodef,s.lent,s.len⟩
 cases d with
 | none=>exact s.env
 | some d=>simpa [Act.put] using s.env.set d h
end
end Go.AM
/- The abstract machine,part 13: stores. -/
namespace Go.AM
def okCell : AV → Bool
 | .im (.agg _)=>false
 | .agg _=>false
 | .tup _=>false
 | .bad=>false
 | _=>true
def mkEl (cs:List AV) : AV:=match cs with
 | [x]=>if okCell x then x else .agg [x]
 | cs=>mkAgg cs
theorem mkEl_cells (cs:List AV) (h:cs ≠ []) : (mkEl cs).cells = cs:=by
 unfold mkEl
 split
 ·
  rename_i x
  split
  ·
   rename_i hx
   cases x with
   | im d=>cases d <;> simp [okCell] at hx <;> rfl
   | agg _=>simp [okCell] at hx
   | tup _=>simp [okCell] at hx
   | bad=>simp [okCell] at hx
   | _=>rfl
  ·
   rfl
 ·
  exact mkAgg_cells cs
def Blk.put (b:Blk) (j:Nat) (e:AV) : Blk:=match b with
 | .c sz ds=>putC sz ds j e (clo e)
 | .m sz es=>many sz (es.set j e)
 | .o ds=>.o ds
where putC (sz:Nat) (ds:List D) (j:Nat) (e:AV) : Option D → Blk
 | some d=>.c sz (ds.set j d)
 | none=>.m sz ((ds.map AV.im).set j e)
theorem clo_eq {e:AV} {d:D} (h:clo e = some d) : e = .im d:=by cases e <;> simp [clo] at h; rw [h]
theorem Blk.put_es (b:Blk) (j:Nat) (e:AV) : (b.put j e).es = b.es.set j e:=by
 cases b with
 | c sz ds =>
  show (Blk.put.putC sz ds j e (clo e)).es = (ds.map AV.im).set j e
  cases h : clo e with
  | none=>rfl
  | some d =>
   rw [clo_eq h]
   show (ds.set j d).map AV.im = _
   rw [List.map_set]
 | m sz es=>exact many_es _ _
 | o ds=>rfl
theorem Blk.put_sz (b:Blk) (j:Nat) (e:AV) : (b.put j e).sz = b.sz:=by
 cases b with
 | c sz ds =>
  show (Blk.put.putC sz ds j e (clo e)).sz = sz
  cases clo e <;> rfl
 | m sz es=>exact many_sz _ _
 | o ds=>rfl
def evS0 (T:Tab) (env:Env) (H:Heap) (o:Oper) : Option Heap :=
 match o.op with
 | .store t x y=>match T.ty t,opd env x,opd env y with
  | some i,some (.ptr id j k),some v=>match H[id]? with
   | some (some b)=>match b.get j with
    | some e=>if v.cells.length == i.size && k + i.size ≤ e.cells.length && i.size != 0 && v.cells.all okCell then some (H.set id (some (b.put j (mkEl (spl e.cells k v.cells))))) else none
    | none=>none
   | _=>none
  | _,_,_=>none
 | _=>none
def evS (T:Tab) (env:Env) (H:Heap) (o:Oper) : Option Heap :=
 match o.op with
 | .store t x y=>match T.ty t,opd env x,opd env y with
  | some i,some (.ptr id j k),some v=>match H[id]? with
   | some (some b)=>if v.cells.length == i.size && i.size != 0 && v.cells.all okCell then
     (if k == 0 && i.size == b.sz then (if j < b.len then some (H.set id (some (b.put j (mkEl v.cells)))) else none)
     else match b.get j with
      | some e=>if k + i.size ≤ e.cells.length then some (H.set id (some (b.put j (mkEl (spl e.cells k v.cells))))) else none
      | none=>none)
    else none
   | _=>none
  | _,_,_=>none
 | _=>none
section
variable {P:Program} {I I' : Nat → Option (Array Value)} {κ κ' : Nat → Option Loc} {w w' : World} {H:Heap}
theorem okCell_one {x:AV} {v:Value} (h:RV I κ x v) (ho:okCell x = true) : v.oneCell' = true:=by
 cases h with
 | im d v h=>cases h <;> first | rfl | simp [okCell] at ho
 | agg=>simp [okCell] at ho
 | tup=>simp [okCell] at ho
 | bad=>simp [okCell] at ho
 | _=>rfl
theorem okCells_one {xs:List AV} {vs:List Value} (h:RVs I κ xs vs) (ho:xs.all okCell = true) : ∀ v ∈ vs,v.oneCell' = true:=by
 induction xs generalizing vs with
 | nil=>cases h; simp
 | cons x xs ih =>
  cases h with
  | cons _ _ v vs h hs =>
   simp only [List.all_cons,Bool.and_eq_true] at ho
   intro u hu
   simp at hu
   rcases hu with rfl | hu
   ·
    exact okCell_one h ho.1
   ·
    exact ih hs ho.2 u hu
theorem St.upd {DF:List Deferred} {A:Nat → Prop} {κ0:Nat → Option Loc} {nl:Nat} {I0:Nat → Option (Array Value)} {w0:World} {env:Env} {a:Act} (s:St DF A κ0 nl I0 w0 I κ H w env a) {id b base cap sz nn:Nat} (hk:κ id = some (.at b base cap sz nn))
  {blk:Blk} (hid:(H[id]?).isSome = true) {c' : Array Value} (hl:Lies I κ (w.setRow b c') blk (.at b base cap sz nn)) : St DF A κ0 nl I0 w0 I κ (H.set id (some blk)) (w.setRow b c') env a:=by
 have hlt : id < H.length:=by
  rcases Nat.lt_or_ge id H.length with h | h
  ·
   exact h
  ·
   simp [List.getElem?_eq_none h] at hid
 have hother : ∀ k,k ≠ b → (w.setRow b c').heap[k]? = w.heap[k]?:=fun k hk=>setRow_other w b k c' hk
 refine ⟨⟨fun b' c h=>?_,fun i l h=>?_,s.wr.inj,s.wr.apart⟩,s.env,?_,s.own,fun i blk' h=>?_,s.nodef,s.lent,by simpa using s.len⟩
 ·
  obtain ⟨T,fr,hb⟩:=s.wr.im _ _ h
  have hne : b' ≠ b:=fun e=>by subst e; rw [s.wr.apart _ _ _ _ _ _ hk] at h; cases h
  exact ⟨T,fr,(hother _ hne).trans hb⟩
 ·
  by_cases hi : i = id
  ·
   subst hi
   rw [hk] at h
   cases h
   exact ⟨blk,by simp [hlt],hl⟩
  ·
   obtain ⟨blk', hb', hl'⟩ := s.wr.own _ _ h
   refine ⟨blk', by rw [List.getElem?_set_ne (Ne.symm hi)]; exact hb', ?_⟩
   cases l with
   | nil=>exact hl'
   | «at» b2 base2 cap2 sz2 nn2 =>
    have hne : b2 ≠ b:=fun e=>by subst e; exact hi (s.wr.inj _ _ _ _ _ _ _ _ _ _ _ h hk)
    rcases hl' with ⟨h1,h2,h3⟩ | ⟨h1,h0,c,T,vs,hb2,hcap,hv,hsz,hc⟩
    ·
     exact .inl ⟨h1,h2.at (hother _ hne),h3⟩
    exact .inr ⟨h1,h0,c,T,vs,(hother _ hne).trans hb2,hcap,hv,hsz,hc⟩
 ·
  refine s.mv.trans (B:=fun x=>x = b) ⟨rfl,rfl,rfl,by simp,fun x _ hx=>hother x hx,fun _ _ h=>h,fun _ _ h=>.inl h⟩ (fun x hx=>?_)
  subst hx
  exact s.own _ _ _ _ _ _ hk
 ·
  by_cases hi : i = id
  ·
   subst hi; exact ⟨_,hk⟩
  ·
   rw [List.getElem?_set_ne (Ne.symm hi)] at h
   exact s.dom _ _ h
theorem flat_set {α β:Type} (f:α → List β) (sz:Nat) (h0:0 < sz) : ∀ (es:List α) (j:Nat) (e:α),(∀ x ∈ es,(f x).length = sz) → (f e).length = sz → j < es.length →
  (es.set j e).flatMap f = (es.flatMap f).take (j * sz) ++ f e ++ (es.flatMap f).drop (j * sz + sz)
 | [],j,e,_,_,hj=>by simp at hj
 | x :: xs,0,e,hl,he,hj=>by
  have hx:=hl x (by simp)
  simp only [List.set_cons_zero,List.flatMap_cons,Nat.zero_mul,List.take_zero,List.nil_append,Nat.zero_add]
  rw [List.drop_append,List.drop_of_length_le (by omega),hx]
  simp
 | x :: xs,j + 1,e,hl,he,hj=>by
  have hx:=hl x (by simp)
  have ih:=flat_set f sz h0 xs j e (fun y hy=>hl y (by simp [hy])) he (by simpa using hj)
  have t1 : (f x ++ xs.flatMap f).take (j * sz + sz) = f x ++ (xs.flatMap f).take (j * sz):=by
   rw [List.take_append,List.take_of_length_le (by omega),hx,show j * sz + sz - sz = j * sz by omega]
  have t2 : (f x ++ xs.flatMap f).drop (j * sz + sz + sz) = (xs.flatMap f).drop (j * sz + sz):=by
   rw [List.drop_append,List.drop_of_length_le (by omega),hx,show j * sz + sz + sz - sz = j * sz + sz by omega]
   simp
  simp only [List.set_cons_succ,List.flatMap_cons,ih,Nat.succ_mul,t1,t2,List.append_assoc]
theorem evS0_sound {T:Tab} (hT:T.ok P) {DF:List Deferred} {A:Nat → Prop} {κ0:Nat → Option Loc} {nl:Nat} {I0:Nat → Option (Array Value)} {w0:World} {env:Env} {a:Act} (s:St DF A κ0 nl I0 w0 I κ H w env a) {o:Oper} {H' : Heap} (h:evS0 T env H o = some H') :
  ∃ w', (execOp a.eval o).run P w = .ok .skip w' ∧ St DF A κ0 nl I0 w0 I κ H' w' env a := by
 unfold evS0 at h
 split at h
 ·
  rename_i t x y ho
  split at h
  ·
   rename_i i id j k v hi hx hy
   split at h
   ·
    rename_i blk hb
    split at h
    ·
     rename_i e hej
     split at h
     ·
      rename_i hc
      simp only [Bool.and_eq_true,beq_iff_eq,decide_eq_true_eq,bne_iff_ne] at hc
      obtain ⟨⟨⟨hvl,hke⟩,hs0⟩,hok⟩:=hc
      simp at h
      subst h
      rw [Blk.get_eq] at hej
      have hrx:=opd_rv s.env hx
      have hry:=opd_rv s.env hy
      generalize hxe : a.eval x = xe at hrx
      cases hrx with
      | ptr _ _ _ b base cap sz nn hk =>
      have hvc:=hry.cells (by intro e; rw [e] at hvl; simp at hvl; omega)
      obtain ⟨blk', hb', hlies⟩ := s.wr.own _ _ hk
      rw [hb] at hb'
      simp at hb'
      subst hb'
      obtain ⟨h1,h0,c,Ty,vs,hbc,hcap,hv,hsz,hcc⟩:=hlies.cell (isO_es hej)
      have hel:=hsz e (List.mem_of_getElem? hej)
      have hjl : j < blk.es.length:=by
       rcases Nat.lt_or_ge j blk.es.length with h | h
       ·
        exact h
       ·
        simp [List.getElem?_eq_none h] at hej
      have hvcl:=hvc.length
      simp at hvcl
      -- where the stored cells lie
      have hvsl:=hv.length
      rw [flat_len AV.cells sz _ hsz] at hvsl
      have hj1 : j * sz + sz ≤ blk.es.length * sz:=by rw [← Nat.succ_mul]; exact Nat.mul_le_mul_right _ hjl
      have hfit0 : base * sz + (blk.es.length * sz) ≤ c.size:=by
       rcases Nat.lt_or_ge c.size (base * sz + blk.es.length * sz) with hlt | hge
       ·
        exfalso
        have hne : blk.es.length * sz - 1 < vs.length:=by omega
        have:=hcc (blk.es.length * sz - 1) vs[blk.es.length * sz - 1] (List.getElem?_eq_getElem hne)
        rw [Array.getElem?_eq_none (by omega)] at this
        cases this
       ·
        exact hge
      have hoff : (base + j) * sz + k = base * sz + (j * sz + k):=by rw [Nat.add_mul]; omega
      have hst:=run_storeCells_at P b ((base + j) * sz + k) Ty (a.eval y).cells.toList 0 c w hbc (by simp; omega) (okCells_one hvc hok)
      simp only [Nat.add_zero] at hst
      refine ⟨w.setRow b (c.toList.take ((base + j) * sz + k) ++ (a.eval y).cells.toList ++ c.toList.drop ((base + j) * sz + k + (a.eval y).cells.toList.length)).toArray,?_,s.upd hk (by simp [hb]) ?_⟩
      ·
       unfold execOp
       rw [ho]
       have hsz2 : ¬ (a.eval y).cells.size ≠ i.size:=by omega
       simp only [Instr.storeAt,Instr.sureAddr,hxe,storeVar,Sem.run_bind,Sem.run_pure,Result.andThen_ok,run_size (hT.ty _ _ hi)]
       rw [if_neg hsz2]
       simp only [Sem.run_bind,Sem.run_pure,Result.andThen_ok,hst]
      ·
       have hspl : spl e.cells k v.cells = e.cells.take k ++ v.cells ++ e.cells.drop (k + v.cells.length):=spl_eq _ _ _ (by omega)
       have hsne : spl e.cells k v.cells ≠ []:=by
        intro h
        have:=spl_len v.cells e.cells k
        rw [h] at this
        simp at this
        omega
       refine .inr ⟨by rw [Blk.put_sz,Blk.put_es,List.length_set]; exact h1,h0,_,Ty,vs.take (j * sz + k) ++ (a.eval y).cells.toList ++ vs.drop (j * sz + k + (a.eval y).cells.toList.length),setRow_heap w b c _ Ty _ hbc,by simp; omega,?_,?_,?_⟩
       ·
        rw [Blk.put_es,flat_set AV.cells sz h0 _ _ _ hsz (by rw [mkEl_cells _ hsne,spl_len]; exact hel) hjl,mkEl_cells _ hsne,hspl]
        have hec : e.cells = ((blk.es.flatMap AV.cells).drop (j * sz)).take sz:=by
         apply List.ext_getElem?
         intro q
         rcases Nat.lt_or_ge q sz with hq | hq
         ·
          rw [List.getElem?_take,if_pos hq,List.getElem?_drop,flat_get _ sz _ hsz j q e hej hq]
         ·
          rw [List.getElem?_take,if_neg (by omega),List.getElem?_eq_none (by omega)]
        have key : (blk.es.flatMap AV.cells).take (j * sz) ++ (e.cells.take k ++ v.cells ++ e.cells.drop (k + v.cells.length)) ++ (blk.es.flatMap AV.cells).drop (j * sz + sz) =
          (blk.es.flatMap AV.cells).take (j * sz + k) ++ v.cells ++ (blk.es.flatMap AV.cells).drop (j * sz + k + v.cells.length):=by
         generalize hL : blk.es.flatMap AV.cells = L at hec
         have hLl : L.length = blk.es.length * sz:=by rw [← hL]; exact flat_len _ _ _ hsz
         rw [hec]
         apply List.ext_getElem?
         intro q
         simp only [List.getElem?_append,List.length_append,List.length_take,List.length_drop,List.getElem?_take,List.getElem?_drop]
         have m1 : min (j * sz) L.length = j * sz:=by omega
         have m2 : min k (min sz (L.length - j * sz)) = k:=by omega
         have m3 : min (j * sz + k) L.length = j * sz + k:=by omega
         simp only [m1,m2,m3]
         rcases Nat.lt_or_ge q (j * sz) with h | h
         ·
          simp [h,show q < j * sz + (k + v.cells.length + (min sz (L.length - j * sz) - (k + v.cells.length))) by omega,show q < j * sz + k + v.cells.length by omega,show q < j * sz + k by omega]
         ·
          rcases Nat.lt_or_ge q (j * sz + k) with h2 | h2
          ·
           simp [show ¬ q < j * sz by omega,show q < j * sz + (k + v.cells.length + (min sz (L.length - j * sz) - (k + v.cells.length))) by omega,show q < j * sz + k + v.cells.length by omega,h2,show q - j * sz < k + v.cells.length by omega,show q - j * sz < k by omega,show q - j * sz < sz by omega,show j * sz + (q - j * sz) = q by omega]
          ·
           rcases Nat.lt_or_ge q (j * sz + k + v.cells.length) with h3 | h3
           ·
            simp [show ¬ q < j * sz by omega,show q < j * sz + (k + v.cells.length + (min sz (L.length - j * sz) - (k + v.cells.length))) by omega,h3,show ¬ q < j * sz + k by omega,show q - j * sz < k + v.cells.length by omega,show ¬ q - j * sz < k by omega,show q - j * sz - k = q - (j * sz + k) by omega]
           ·
            rcases Nat.lt_or_ge q (j * sz + sz) with h4 | h4
            ·
             simp [show ¬ q < j * sz by omega,show q < j * sz + (k + v.cells.length + (min sz (L.length - j * sz) - (k + v.cells.length))) by omega,show ¬ q < j * sz + k + v.cells.length by omega,show ¬ q - j * sz < k + v.cells.length by omega,show k + v.cells.length + (q - j * sz - (k + v.cells.length)) < sz by omega]
             congr 1
             omega
            ·
             simp [show ¬ q < j * sz + (k + v.cells.length + (min sz (L.length - j * sz) - (k + v.cells.length))) by omega,show ¬ q < j * sz + k + v.cells.length by omega]
             congr 1
             omega
        rw [key]
        have e1 : (a.eval y).cells.toList.length = v.cells.length:=by simp; omega
        rw [e1]
        exact ((hv.take _).append hvc).append (hv.drop _)
       ·
        intro x hx
        rw [Blk.put_es] at hx
        rcases List.mem_or_eq_of_mem_set hx with h | h
        ·
         exact hsz x h
        ·
         subst h
         rw [mkEl_cells _ hsne,spl_len]
         exact hel
       ·
        intro q u hu
        have e1 : (a.eval y).cells.toList.length = v.cells.length:=by simp; omega
        rw [e1] at hu ⊢
        rw [hoff]
        simp only [List.getElem?_append,List.length_append,List.length_take,List.getElem?_take,List.getElem?_drop] at hu
        simp only [List.getElem?_toArray,List.getElem?_append,List.length_append,List.length_take,List.getElem?_take,List.getElem?_drop,Array.length_toList,e1]
        have m1 : min (j * sz + k) vs.length = j * sz + k:=by omega
        have m2 : min (base * sz + (j * sz + k)) c.size = base * sz + (j * sz + k):=by omega
        simp only [m1,e1] at hu
        simp only [m2]
        rcases Nat.lt_or_ge q (j * sz + k) with h | h
        ·
         simp [h,show q < j * sz + k + v.cells.length by omega] at hu
         have:=hcc _ _ hu
         simp [show base * sz + q < base * sz + (j * sz + k) + v.cells.length by omega,h,this]
        ·
         rcases Nat.lt_or_ge q (j * sz + k + v.cells.length) with h2 | h2
         ·
          simp [h2,show ¬ q < j * sz + k by omega] at hu
          simp [show base * sz + q < base * sz + (j * sz + k) + v.cells.length by omega,show ¬ q < j * sz + k by omega,show base * sz + q - (base * sz + (j * sz + k)) = q - (j * sz + k) by omega,hu]
         ·
          simp [show ¬ q < j * sz + k + v.cells.length by omega] at hu
          have:=hcc _ _ hu
          simp [show ¬ base * sz + q < base * sz + (j * sz + k) + v.cells.length by omega]
          rw [← this]
          congr 1
          omega
     ·
      simp at h
    ·
     simp at h
   ·
    simp at h
  ·
   simp at h
 ·
  simp at h
theorem evS_evS0 {T:Tab} {DF:List Deferred} {A:Nat → Prop} {κ0:Nat → Option Loc} {nl:Nat} {I0:Nat → Option (Array Value)} {w0:World} {env:Env} {a:Act} (s:St DF A κ0 nl I0 w0 I κ H w env a) {o:Oper} {H' : Heap} (h:evS T env H o = some H') : evS0 T env H o = some H':=by
 unfold evS at h
 unfold evS0
 split at h
 ·
  rename_i t x y ho
  split at h
  ·
   rename_i i id j k v hi hx hy
   split at h
   ·
    rename_i blk hb
    split at h
    ·
     rename_i hc
     simp only [Bool.and_eq_true,beq_iff_eq,bne_iff_ne] at hc
     obtain ⟨⟨hvl,hs0⟩,hok⟩:=hc
     split at h
     ·
      rename_i hk
      simp only [Bool.and_eq_true,beq_iff_eq] at hk
      obtain ⟨hk0,hsz⟩:=hk
      split at h
      ·
       rename_i hj
       simp at h
       subst h
       rw [Blk.len_eq] at hj
       have hget : blk.get j = some (blk.es[j]):=by rw [Blk.get_eq,List.getElem?_eq_getElem hj]
       have hrx:=opd_rv s.env hx
       generalize a.eval x = xe at hrx
       cases hrx with
       | ptr _ _ _ b base cap sz nn hk' =>
       obtain ⟨blk', hb', hlies⟩ := s.wr.own _ _ hk'
       rw [hb] at hb'
       simp at hb'
       subst hb'
       obtain ⟨h1, h0, c, Ty, vs, hbc, hcap, hv, hsz', hcc⟩ := hlies.cell (isO_lt hj)
       have hel:=hsz' _ (List.getElem_mem hj)
       simp only [hget]
       have hspl : spl blk.es[j].cells k v.cells = v.cells:=by
        rw [spl_eq _ _ _ (by omega),hk0]
        simp
        omega
       rw [hspl]
       have hcond : (v.cells.length == i.size && decide (k + i.size ≤ blk.es[j].cells.length) && i.size != 0 && v.cells.all okCell) = true:=by
        simp only [Bool.and_eq_true,beq_iff_eq,bne_iff_ne,decide_eq_true_eq]
        exact ⟨⟨⟨hvl,by omega⟩,hs0⟩,hok⟩
       rw [if_pos hcond]
      ·
       simp at h
     ·
      split at h
      ·
       rename_i e he
       split at h
       ·
        rename_i hke
        simp at h
        subst h
        have hcond : (v.cells.length == i.size && decide (k + i.size ≤ e.cells.length) && i.size != 0 && v.cells.all okCell) = true:=by
         simp only [Bool.and_eq_true,beq_iff_eq,bne_iff_ne,decide_eq_true_eq]
         exact ⟨⟨⟨hvl,hke⟩,hs0⟩,hok⟩
        rw [if_pos hcond]
       ·
        simp at h
      ·
       simp at h
    ·
     simp at h
   ·
    simp at h
  ·
   simp at h
 ·
  simp at h
theorem evS_sound {T:Tab} (hT:T.ok P) {DF:List Deferred} {A:Nat → Prop} {κ0:Nat → Option Loc} {nl:Nat} {I0:Nat → Option (Array Value)} {w0:World} {env:Env} {a:Act} (s:St DF A κ0 nl I0 w0 I κ H w env a) {o:Oper} {H' : Heap} (h:evS T env H o = some H') :
  ∃ w', (execOp a.eval o).run P w = .ok .skip w' ∧ St DF A κ0 nl I0 w0 I κ H' w' env a := evS0_sound hT s (evS_evS0 s h)
end
end Go.AM